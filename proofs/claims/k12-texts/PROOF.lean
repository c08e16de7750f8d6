import PyProof.Rows.All
import Wide.All
import OpenK.AllK
import Wide.FinOn
import HandS.Text
import KE.IntTextText
import PyProof.ReprRoads
import PyProof.P3Eq
import PyProof.EqLayable
import PyProof.StrLawsRepr
import HandS.ForMost
import HandS.ForExc
import HandS.Walk
import HandS.IsInst
import HandS.CallLocal
import HandS.Defaults
import HandS.More
import HandS.FStr
import HandS.Star
import HandS.TupAny
import HandS.Wide
import HandS.ExcInit
import HandS.ExcField
import HandS.ExcIs
import HandS.Lambda
import HandS.EndTab
import KE.KUnpackStar
import PyProof.RulesMatch
import KE.KExcSuper
import HandS.Deep
import KE.KExcIs
import HandS.NestedK
import HandS.HeadHook1
import HandS.HeadHook2
import HandS.HeadHook3
import HandS.HeadHook4
import PySem.Challenge.RW_lateforms_k12_whole_texts_there_and_back
set_option Elab.async false
set_option linter.all false
set_option maxRecDepth 100000
set_option maxHeartbeats 4000000
set_option maxHeartbeats 1000000
/-! K12a: texts, words, numbers, names, paths: plain Lean. -/
namespace K12
open PySem L2 TL NumText
set_option autoImplicit false

def mk (l : List Nat) : Str := ⟨l.toArray⟩
theorem tl_mk' (l : List Nat) : tl (mk l) = l := rfl
theorem mk_tl' (z : Str) : mk (tl z) = z := ext_tl rfl
theorem len_mk (l : List Nat) : (mk l).length = l.length := by rw [len_tl, tl_mk']

/-! ### split and join, on lists -/
theorem spl_ne (S : List Nat) : ∀ (L acc : List Nat) (k : Nat), spl S k acc L ≠ []
  | [], acc, k => by rw [spl_nil]; simp
  | c :: r, acc, 0 => by
    cases h : pre S (c :: r) with
    | true => rw [spl_hit h]; simp
    | false => rw [spl_miss h]; exact spl_ne S r _ 0
  | c :: r, acc, k + 1 => spl_ne S r acc k
theorem joinL_cons {S p : List Nat} {l : List (List Nat)} (h : l ≠ []) : joinL S (p :: l) = p ++ (S ++ joinL S l) := by
  cases l with
  | nil => exact absurd rfl h
  | cons q r => rfl
theorem join_spl {S : List Nat} (hS : S ≠ []) : ∀ (n : Nat) (L acc : List Nat), L.length ≤ n → joinL S (spl S 0 acc L) = acc ++ L := by
  intro n
  induction n with
  | zero =>
    intro L acc h
    have : L = [] := List.length_eq_zero_iff.mp (by omega)
    subst this
    rw [spl_nil]; simp [joinL]
  | succ n ih =>
    intro L acc h
    cases L with
    | nil => rw [spl_nil]; simp [joinL]
    | cons c r =>
      rw [List.length_cons] at h
      cases hp : pre S (c :: r) with
      | true =>
        rw [spl_hit hp, spl_pass, joinL_cons (spl_ne _ _ _ _), ih _ _ (by rw [List.length_drop]; omega)]
        have e : (c :: r).take S.length = S := by
          unfold pre at hp
          exact beq_iff_eq.mp hp
        cases S with
        | nil => exact absurd rfl hS
        | cons s S =>
          have e2 : c :: r = (s :: S) ++ r.drop S.length := by
            have := List.take_append_drop (s :: S).length (c :: r)
            rw [e] at this
            simpa using this.symm
          rw [List.nil_append]
          show acc ++ (s :: S ++ r.drop ((s :: S).length - 1)) = acc ++ (c :: r)
          rw [e2]
          rfl
      | false =>
        rw [spl_miss hp, ih _ _ (by omega)]
        simp
theorem pre1 (s c : Nat) (r : List Nat) : pre [s] (c :: r) = (c == s) := by
  unfold pre
  simp
theorem spl1_app (s : Nat) : ∀ (a b acc : List Nat), spl [s] 0 acc (a ++ s :: b) = spl [s] 0 acc a ++ spl [s] 0 [] b
  | [], b, acc => by
    rw [List.nil_append, spl_hit (by rw [pre1]; simp), spl_nil]
    rfl
  | c :: a, b, acc => by
    rw [List.cons_append]
    by_cases h : c = s
    · subst h
      rw [spl_hit (by rw [pre1]; simp), spl_hit (by rw [pre1]; simp)]
      show acc :: spl [c] 0 [] (a ++ c :: b) = _
      rw [spl1_app c a b []]
      rfl
    · rw [spl_miss (by rw [pre1]; simpa using h), spl_miss (by rw [pre1]; simpa using h)]
      exact spl1_app s a b _
theorem spl1_acc (s : Nat) : ∀ (L acc x : List Nat), ∃ w ws, spl [s] 0 acc L = w :: ws ∧ spl [s] 0 (x ++ acc) L = (x ++ w) :: ws
  | [], acc, x => ⟨acc, [], by rw [spl_nil], by rw [spl_nil]⟩
  | c :: r, acc, x => by
    by_cases h : c = s
    · subst h
      refine ⟨acc, spl [c] 0 [] r, ?_, ?_⟩ <;> rw [spl_hit (by rw [pre1]; simp)] <;> rfl
    · rw [spl_miss (by rw [pre1]; simpa using h), spl_miss (by rw [pre1]; simpa using h), List.append_assoc]
      exact spl1_acc s r (acc ++ [c]) x
theorem spl1_pre {s : Nat} : ∀ {x : List Nat}, s ∉ x → ∀ (acc L : List Nat), spl [s] 0 acc (x ++ L) = spl [s] 0 (acc ++ x) L
  | [], _, acc, L => by simp
  | c :: x, h, acc, L => by
    rw [List.cons_append, spl_miss (by rw [pre1]; simp only [List.mem_cons, not_or] at h; simpa using Ne.symm h.1), spl1_pre (fun z => h (List.mem_cons_of_mem _ z))]
    simp
theorem spl1_free {s : Nat} : ∀ (L acc : List Nat), s ∉ acc → ∀ w ∈ spl [s] 0 acc L, s ∉ w
  | [], acc, h, w, hw => by
    rw [spl_nil] at hw
    rw [List.mem_singleton.mp hw]; exact h
  | c :: r, acc, h, w, hw => by
    by_cases e : c = s
    · subst e
      rw [spl_hit (by rw [pre1]; simp)] at hw
      rcases List.mem_cons.mp hw with rfl | hw
      · exact h
      · exact spl1_free r [] (by simp) w hw
    · rw [spl_miss (by rw [pre1]; simpa using e)] at hw
      refine spl1_free r _ ?_ w hw
      simp only [List.mem_append, List.mem_singleton, not_or]
      exact ⟨h, Ne.symm e⟩

/-! ### on texts -/
def spc : Str := " "
def dot : Str := "."
def dots : Str := ".."
def comma : Str := ","
def colon : Str := ":"
def dash : Str := "-"
theorem tl_spc : tl spc = [32] := by decide +kernel
theorem tl_dot : tl dot = [46] := by decide +kernel
theorem tl_dots : tl dots = [46, 46] := by decide +kernel
theorem tl_comma : tl comma = [44] := by decide +kernel
theorem tl_colon : tl colon = [58] := by decide +kernel
theorem tl_dash : tl dash = [45] := by decide +kernel
/-- the split by a separator that is one sign or two below 256 -/
theorem split_eq (z y : Str) (hy : tl y ≠ []) (hk : y.cps.all (· < 256) = true) : (Txt.split z y).map tl = spl (tl y) 0 [] (tl z) := split_spl z y hy (kind_ok hk)
theorem join_split (z y : Str) (hy : tl y ≠ []) (hk : y.cps.all (· < 256) = true) : Txt.join y (Txt.split z y) = z := by
  refine ext_tl ?_
  rw [join_eq, tl_join, split_eq z y hy hk, join_spl hy _ _ _ (Nat.le_refl _)]
  rfl
theorem split_ne (z y : Str) (hy : tl y ≠ []) (hk : y.cps.all (· < 256) = true) : Txt.split z y ≠ [] := fun e => by
  have h := split_eq z y hy hk
  rw [e] at h
  exact spl_ne _ _ _ _ h.symm
/-- the words of a text -/
def sp (z : Str) : List Str := Txt.split z spc
theorem sp_tl (z : Str) : (sp z).map tl = spl [32] 0 [] (tl z) := by
  have h := split_eq z spc (by rw [tl_spc]; simp) (by decide +kernel)
  rw [tl_spc] at h
  exact h
theorem sp_ne (z : Str) : sp z ≠ [] := split_ne z spc (by rw [tl_spc]; simp) (by decide +kernel)
theorem sp_join (z : Str) : Txt.join spc (sp z) = z := join_split z spc (by rw [tl_spc]; simp) (by decide +kernel)
theorem join_sp {ws : List Str} (h : ws ≠ []) (hf : ∀ w ∈ ws, 32 ∉ tl w) : sp (Txt.join spc ws) = ws := split_join tl_spc (by decide +kernel) h hf
theorem sp_free (z : Str) : ∀ w ∈ sp z, 32 ∉ tl w := fun w hw => by
  have h : tl w ∈ (sp z).map tl := List.mem_map_of_mem hw
  rw [sp_tl] at h
  exact spl1_free _ [] (by simp) _ h
theorem sp_app (a b : Str) : sp (a ++ spc ++ b) = sp a ++ sp b := by
  refine map_tl_inj ?_
  rw [List.map_append, sp_tl, sp_tl, sp_tl, tl_append, tl_append, tl_spc, List.append_assoc]
  exact spl1_app 32 (tl a) (tl b) []
theorem sp_one {w : Str} (h : 32 ∉ tl w) : sp w = [w] := by
  refine map_tl_inj ?_
  rw [sp_tl]
  have := spl1_pre h [] []
  rw [List.append_nil] at this
  rw [this, spl_nil]
  rfl
/-- something without a space ahead -/
theorem sp_pre {x z : Str} (h : 32 ∉ tl x) : ∃ w ws, sp z = w :: ws ∧ sp (x ++ z) = (x ++ w) :: ws := by
  obtain ⟨w, ws, e1, e2⟩ := spl1_acc 32 (tl z) [] (tl x)
  have hz := sp_tl z
  have hn := sp_ne z
  cases hs : sp z with
  | nil => exact absurd hs hn
  | cons w' ws' =>
    refine ⟨w', ws', rfl, map_tl_inj ?_⟩
    rw [hs, e1, List.map_cons, List.cons.injEq] at hz
    rw [sp_tl, tl_append, spl1_pre h, List.nil_append]
    rw [List.append_nil] at e2
    rw [e2, List.map_cons, tl_append, hz.1, hz.2]

/-! ### numbers -/
def iw (i : Int) : Str := Str.ofString (toString i)
theorem tl_iw_nat (n : Nat) : tl (iw (n : Int)) = numL n := tl_num n
theorem tl_iw_neg {n : Nat} (h : 0 < n) : tl (iw (-(n : Int))) = 45 :: numL n := by
  obtain ⟨m, rfl⟩ : ∃ m, n = m + 1 := ⟨n - 1, by omega⟩
  unfold iw
  have e : toString (-((m + 1 : Nat) : Int)) = "-" ++ toString (m + 1) := by
    have e1 : -((m + 1 : Nat) : Int) = Int.negSucc m := rfl
    rw [e1]
    rfl
  rw [e, tl_ofString, String.toList_append, List.map_append]
  have e2 : toString (((m + 1 : Nat) : Nat) : Int) = toString (m + 1) := rfl
  have e3 := tl_num (m + 1)
  rw [e2, tl_ofString] at e3
  rw [e3]
  rfl
def digB (l : List Nat) : Bool := l.all fun c => decide (48 ≤ c) && decide (c ≤ 57)
theorem digB_iff {l : List Nat} : digB l = true ↔ AllDigits l := by
  unfold digB AllDigits
  simp [List.all_eq_true]
/-- number_or_none -/
def numOf (z : Str) : Option Nat :=
  if (decide (1 ≤ z.length) && decide (z.length ≤ 60) && digB (tl z)) = true then (if z = "0" ∨ (tl z).head? ≠ some 48 then some (digitsVal (tl z)) else none) else none
/-- integer_or_none -/
def intOf (z : Str) : Option Int :=
  if (tl z).head? = some 45 then (match numOf (mk (tl z).tail) with | none => none | some n => if n = 0 then none else some (-(n : Int))) else (numOf z).map fun n => (n : Int)
theorem numL_of {l : List Nat} (h : AllDigits l) (h0 : l ≠ []) (h1 : l = [48] ∨ l.head? ≠ some 48) : numL (digitsVal l) = l := by
  have back : ∀ {l : List Nat}, AllDigits l → (l.map Char.ofNat).map Char.toNat = l := by
    intro l
    induction l with
    | nil => intro _; rfl
    | cons c r ih =>
      intro h
      rw [List.map_cons, List.map_cons, ih h.tail]
      have hc := h.head
      have : (Char.ofNat c).toNat = c := by
        have : ∀ c, 48 ≤ c → c ≤ 57 → (Char.ofNat c).toNat = c := by
          intro c a b
          have : c = 48 ∨ c = 49 ∨ c = 50 ∨ c = 51 ∨ c = 52 ∨ c = 53 ∨ c = 54 ∨ c = 55 ∨ c = 56 ∨ c = 57 := by omega
          rcases this with rfl | rfl | rfl | rfl | rfl | rfl | rfl | rfl | rfl | rfl <;> decide
        exact this c hc.1 hc.2
      rw [this]
  cases l with
  | nil => exact absurd rfl h0
  | cons c r =>
    unfold numL
    rw [toDigits_digitsVal r.length (c :: r) rfl h ?_, back h]
    rcases h1 with e | e
    · left
      injection e with e1 e2
      rw [e2]; rfl
    · right
      refine ⟨c, r, rfl, ?_⟩
      have hc := h.head
      simp only [List.head?_cons, ne_eq, Option.some.injEq] at e
      omega
theorem tl_zero : tl ("0" : Str) = [48] := by decide +kernel
theorem numOf_some {z : Str} {n : Nat} (h : numOf z = some n) : tl z = numL n ∧ z.length ≤ 60 := by
  unfold numOf at h
  by_cases h1 : (decide (1 ≤ z.length) && decide (z.length ≤ 60) && digB (tl z)) = true
  · rw [if_pos h1] at h
    simp only [Bool.and_eq_true, decide_eq_true_eq] at h1
    by_cases h2 : z = "0" ∨ (tl z).head? ≠ some 48
    · rw [if_pos h2] at h
      obtain rfl := Option.some.inj h
      refine ⟨(numL_of (digB_iff.mp h1.2) ?_ ?_).symm, h1.1.2⟩
      · intro e
        have := h1.1.1
        rw [len_tl, e] at this
        simp at this
      · rcases h2 with e | e
        · left; rw [e]; exact tl_zero
        · right; exact e
    · rw [if_neg h2] at h; cases h
  · rw [if_neg h1] at h; cases h
theorem val_lt : ∀ (l : List Nat), AllDigits l → digitsVal l < 10 ^ l.length := by
  intro l
  suffices H : ∀ (l : List Nat) (a : Nat), AllDigits l → l.foldl (fun acc c => acc * 10 + (c - 48)) a < (a + 1) * 10 ^ l.length by
    intro h
    have := H l 0 h
    simpa [digitsVal] using this
  intro l
  induction l with
  | nil => intro a _; simp
  | cons c r ih =>
    intro a h
    rw [List.foldl_cons, List.length_cons]
    have h1 := ih (a * 10 + (c - 48)) h.tail
    have hc := h.head
    have h2 : (a * 10 + (c - 48) + 1) * 10 ^ r.length ≤ ((a + 1) * 10) * 10 ^ r.length := Nat.mul_le_mul_right _ (by omega)
    rw [Nat.pow_succ, Nat.mul_comm (10 ^ r.length) 10, ← Nat.mul_assoc]
    exact Nat.lt_of_lt_of_le h1 h2
theorem numOf_lt {z : Str} {n : Nat} (h : numOf z = some n) : n < 10 ^ 60 := by
  obtain ⟨h1, h2⟩ := numOf_some h
  have h3 := val_lt (numL n) (numL_digits n)
  rw [numL_val, ← h1, ← len_tl] at h3
  exact Nat.lt_of_lt_of_le h3 (Nat.pow_le_pow_right (by decide) h2)
theorem head_numL (n : Nat) : numL n = [48] ∧ n = 0 ∨ (numL n).head? ≠ some 48 := by
  induction n using Nat.strongRecOn with
  | _ n ih =>
    by_cases h : n < 10
    · rw [numL_lt h]
      by_cases h0 : n = 0
      · left; subst h0; exact ⟨rfl, rfl⟩
      · right; simp; omega
    · rw [numL_step (by omega)]
      rcases ih (n / 10) (by omega) with ⟨_, e⟩ | e
      · omega
      · right
        have hne := numL_ne (n / 10)
        cases hq : numL (n / 10) with
        | nil => exact absurd hq hne
        | cons a b => rw [hq] at e; simpa using e
theorem numOf_num {z : Str} {n : Nat} (h : tl z = numL n) (hn : n < 10 ^ 60) : numOf z = some n := by
  unfold numOf
  have hl := numL_len (by decide) hn
  rw [← h, ← len_tl] at hl
  have h1 : 1 ≤ z.length := by
    rw [len_tl, h]
    have := numL_ne n
    cases hq : numL n with
    | nil => exact absurd hq this
    | cons a b => simp
  rw [if_pos (by simp only [Bool.and_eq_true, decide_eq_true_eq]; exact ⟨⟨h1, hl⟩, by rw [digB_iff, h]; exact numL_digits n⟩)]
  rw [if_pos, h, numL_val]
  rw [h]
  rcases head_numL n with ⟨e, _⟩ | e
  · left
    refine ext_tl ?_
    rw [h, e, tl_zero]
  · exact .inr e
theorem intOf_iw {i : Int} (h : i.natAbs < 10 ^ 60) : intOf (iw i) = some i := by
  unfold intOf
  rcases Int.lt_or_le i 0 with hi | hi
  · obtain ⟨n, rfl⟩ : ∃ n : Nat, i = -(n : Int) := ⟨i.natAbs, by omega⟩
    have hn : 0 < n := by omega
    rw [tl_iw_neg hn, List.head?_cons, if_pos rfl, List.tail_cons, numOf_num (n := n) (tl_mk' _) (by omega)]
    show (if n = 0 then none else some (-(n : Int))) = _
    rw [if_neg (by omega)]
  · obtain ⟨n, rfl⟩ : ∃ n : Nat, i = (n : Int) := ⟨i.natAbs, by omega⟩
    rw [if_neg, numOf_num (n := n) (tl_iw_nat n) (by omega)]
    · rfl
    · rw [tl_iw_nat]
      have := numL_digits n
      cases hq : numL n with
      | nil => simp
      | cons a b =>
        have := this a (by rw [hq]; simp)
        simp; omega
theorem intOf_some {z : Str} {i : Int} (h : intOf z = some i) : iw i = z ∧ i.natAbs < 10 ^ 60 := by
  unfold intOf at h
  by_cases h1 : (tl z).head? = some 45
  · rw [if_pos h1] at h
    cases h2 : numOf (mk (tl z).tail) with
    | none => rw [h2] at h; cases h
    | some n =>
      rw [h2] at h
      have h' : (if n = 0 then none else some (-(n : Int))) = some i := h
      by_cases h3 : n = 0
      · rw [if_pos h3] at h'; cases h'
      · rw [if_neg h3] at h'
        obtain rfl := Option.some.inj h'
        have h4 := (numOf_some h2).1
        rw [tl_mk'] at h4
        have h5 := numOf_lt h2
        refine ⟨ext_tl ?_, by omega⟩
        rw [tl_iw_neg (by omega), ← h4]
        cases hq : tl z with
        | nil => rw [hq] at h1; cases h1
        | cons a b => rw [hq] at h1; simp at h1; rw [h1]; rfl
  · rw [if_neg h1] at h
    cases h2 : numOf z with
    | none => rw [h2] at h; cases h
    | some n =>
      rw [h2] at h
      obtain rfl := Option.some.inj h
      have h5 := numOf_lt h2
      exact ⟨ext_tl (by show tl (iw (n : Int)) = tl z; rw [tl_iw_nat, (numOf_some h2).1]), by show (n : Int).natAbs < 10 ^ 60; omega⟩
theorem iw_free {i : Int} {s : Nat} (h : s < 45 ∨ s = 46 ∨ s = 47 ∨ 57 < s) : s ∉ tl (iw i) := by
  rcases Int.lt_or_le i 0 with hi | hi
  · obtain ⟨n, rfl⟩ : ∃ n : Nat, i = -(n : Int) := ⟨i.natAbs, by omega⟩
    rw [tl_iw_neg (by omega)]
    simp only [List.mem_cons, not_or]
    exact ⟨by omega, numL_free (by omega)⟩
  · obtain ⟨n, rfl⟩ : ∃ n : Nat, i = (n : Int) := ⟨i.natAbs, by omega⟩
    rw [tl_iw_nat]
    exact numL_free (by omega)
theorem iw_len {i : Int} {k : Nat} (hk : 0 < k) (h : i.natAbs < 10 ^ k) : (iw i).length ≤ k + 1 := by
  rw [len_tl]
  rcases Int.lt_or_le i 0 with hi | hi
  · obtain ⟨n, rfl⟩ : ∃ n : Nat, i = -(n : Int) := ⟨i.natAbs, by omega⟩
    rw [tl_iw_neg (by omega), List.length_cons]
    have := numL_len hk (n := n) (by omega)
    omega
  · obtain ⟨n, rfl⟩ : ∃ n : Nat, i = (n : Int) := ⟨i.natAbs, by omega⟩
    rw [tl_iw_nat]
    have := numL_len hk (n := n) (by omega)
    omega

/-! ### names, paths -/
def nameL (l : List Nat) : Bool := l.all fun c => decide (97 ≤ c) && decide (c ≤ 122)
def isName (z : Str) : Bool := decide (1 ≤ z.length) && decide (z.length ≤ 8) && nameL (tl z)
theorem nameL_mem {l : List Nat} (h : nameL l = true) {c : Nat} (hc : c ∈ l) : 97 ≤ c ∧ c ≤ 122 := by
  unfold nameL at h
  have := List.all_eq_true.mp h c hc
  simpa using this
theorem isName_iff {z : Str} : isName z = true ↔ 1 ≤ z.length ∧ z.length ≤ 8 ∧ nameL (tl z) = true := by
  unfold isName
  simp [Bool.and_eq_true, and_assoc]
theorem name_free {z : Str} (h : isName z = true) {s : Nat} (hs : s < 97 ∨ 122 < s) : s ∉ tl z := fun hm => by
  have := nameL_mem (isName_iff.mp h).2.2 hm
  omega
def pathOf (z : Str) : Option (List Str) := if (Txt.split z dot).all isName = true then some (Txt.split z dot) else none
def pathW (ps : List Str) : Str := Txt.join dot ps
theorem pathOf_some {z : Str} {ps : List Str} (h : pathOf z = some ps) : pathW ps = z ∧ ps ≠ [] ∧ ∀ p ∈ ps, isName p = true := by
  unfold pathOf at h
  by_cases h1 : (Txt.split z dot).all isName = true
  · rw [if_pos h1] at h
    obtain rfl := Option.some.inj h
    exact ⟨join_split z dot (by rw [tl_dot]; simp) (by decide +kernel), split_ne z dot (by rw [tl_dot]; simp) (by decide +kernel), List.all_eq_true.mp h1⟩
  · rw [if_neg h1] at h; cases h
theorem pathOf_w {ps : List Str} (h0 : ps ≠ []) (h : ∀ p ∈ ps, isName p = true) : pathOf (pathW ps) = some ps := by
  have e : Txt.split (pathW ps) dot = ps := split_join tl_dot (by decide +kernel) h0 fun p hp => name_free (h p hp) (by omega)
  unfold pathOf
  rw [e, if_pos (List.all_eq_true.mpr h)]
theorem joinL_free {S : List Nat} {s : Nat} (hS : s ∉ S) : ∀ {l : List (List Nat)}, (∀ p ∈ l, s ∉ p) → s ∉ joinL S l
  | [], _ => by simp [joinL]
  | [p], h => by simpa [joinL] using h p (by simp)
  | p :: q :: r, h => by
    show s ∉ p ++ (S ++ joinL S (q :: r))
    simp only [List.mem_append, not_or]
    exact ⟨h p (by simp), hS, joinL_free hS fun z hz => h z (List.mem_cons_of_mem _ hz)⟩
theorem pathW_free {ps : List Str} (h : ∀ p ∈ ps, isName p = true) {s : Nat} (hs : s ≠ 46 ∧ (s < 97 ∨ 122 < s)) : s ∉ tl (pathW ps) := by
  unfold pathW
  rw [join_eq, tl_join, tl_dot]
  refine joinL_free (by simpa using hs.1) fun p hp => ?_
  obtain ⟨z, hz, rfl⟩ := List.mem_map.mp hp
  exact name_free (h z hz) hs.2
end K12

set_option maxHeartbeats 1000000
/-! K12b: expressions, the reader as a machine over words, its plain laws. -/
namespace K12
open PySem L2 TL NumText
set_option autoImplicit false

inductive B2 | add | sub | mul | least | most | lt | eq | and
  deriving DecidableEq
def B2.w : B2 → Str
  | .add => "+" | .sub => "-" | .mul => "*" | .least => "least" | .most => "most" | .lt => "<" | .eq => "=" | .and => "and"
inductive Ex where
  | int (i : Int) | non | self
  | get (p : List Str) (d : Int) | isnone (p : List Str) | to (p : List Str) | sum (a b c : Str)
  | not (c : Ex) | bin (o : B2) (a b : Ex) | cond (c a b : Ex)
inductive Due | num | con | lnk
  deriving DecidableEq
def Due.s : Due → Str
  | .num => "number" | .con => "condition" | .lnk => "link"
/-- the words of an expression -/
def Ex.ws : Ex → List Str
  | .int i => [iw i]
  | .non => [dash]
  | .self => ["self"]
  | .get p d => ["get", pathW p, iw d]
  | .isnone p => ["none", pathW p]
  | .to p => ["to", pathW p]
  | .sum a b c => ["sum", a, b, c]
  | .not c => "not" :: c.ws
  | .bin o a b => o.w :: (a.ws ++ b.ws)
  | .cond c a b => "if" :: (c.ws ++ (a.ws ++ b.ws))
def okPath (p : List Str) : Prop := p ≠ [] ∧ ∀ x ∈ p, isName x = true
def okInt (i : Int) : Prop := i.natAbs < 10 ^ 60
def Ex.Wf : Ex → Prop
  | .int i => okInt i
  | .non => True
  | .self => True
  | .get p d => okPath p ∧ okInt d
  | .isnone p => okPath p
  | .to p => okPath p
  | .sum a b c => isName a = true ∧ isName b = true ∧ isName c = true
  | .not c => c.Wf
  | .bin _ a b => a.Wf ∧ b.Wf
  | .cond c a b => c.Wf ∧ a.Wf ∧ b.Wf
def B2.dues : B2 → Due × Due × Due
  | .add => (.num, .num, .num) | .sub => (.num, .num, .num) | .mul => (.num, .num, .num) | .least => (.num, .num, .num) | .most => (.num, .num, .num)
  | .lt => (.con, .num, .num) | .eq => (.con, .num, .num) | .and => (.con, .con, .con)
def Ex.Fits : Due → Ex → Prop
  | .num, .int _ => True
  | .num, .get _ _ => True
  | .num, .sum _ _ _ => True
  | .con, .isnone _ => True
  | .lnk, .non => True
  | .lnk, .self => True
  | .lnk, .to _ => True
  | .con, .not c => c.Fits .con
  | d, .bin o a b => o.dues.1 = d ∧ a.Fits o.dues.2.1 ∧ b.Fits o.dues.2.2
  | d, .cond c a b => d ≠ .con ∧ c.Fits .con ∧ a.Fits d ∧ b.Fits d
  | _, _ => False
/-- how many operations are open at once -/
def Ex.opens : Ex → Nat
  | .not c => c.opens + 1
  | .bin _ a b => max a.opens b.opens + 1
  | .cond c a b => max c.opens (max a.opens b.opens) + 1
  | _ => 0

/-! ### the machine -/
inductive Op | not | bin (o : B2) | cond
  deriving DecidableEq
def Op.w : Op → Str
  | .not => "not" | .bin o => o.w | .cond => "if"
def Op.arity : Op → Nat
  | .not => 1 | .bin _ => 2 | .cond => 3
/-- the operations that can stand where d is due, in the order of the reader's tables -/
def opsFor : Due → List (Str × Op × List Due)
  | .num => [("+", .bin .add, [.num, .num]), ("-", .bin .sub, [.num, .num]), ("*", .bin .mul, [.num, .num]), ("least", .bin .least, [.num, .num]), ("most", .bin .most, [.num, .num]), ("if", .cond, [.con, .num, .num])]
  | .con => [("<", .bin .lt, [.num, .num]), ("=", .bin .eq, [.num, .num]), ("not", .not, [.con]), ("and", .bin .and, [.con, .con])]
  | .lnk => [("if", .cond, [.con, .lnk, .lnk])]
def opOf (d : Due) (w : Str) : Option (Op × List Due) := (opsFor d).lookup w
def Op.dues : Op → Due → List Due
  | .not, _ => [.con]
  | .bin o, _ => [o.dues.2.1, o.dues.2.2]
  | .cond, d => [.con, d, d]
structure Fr where
  op : Op
  due : Due
  parts : List Ex
abbrev Fr.dues (f : Fr) : List Due := f.op.dues f.due
def build : Op → List Ex → Ex
  | .not, [c] => .not c
  | .bin o, [a, b] => .bin o a b
  | .cond, [c, a, b] => .cond c a b
  | _, _ => .non
def close : List Fr → Ex → Ex ⊕ (Fr × List Fr)
  | [], e => .inl e
  | f :: st, e => if f.parts.length + 1 = f.op.arity then close st (build f.op (f.parts ++ [e])) else .inr ({ f with parts := f.parts ++ [e] }, st)
inductive Res (α : Type) where
  | ok (a : α) (n : Nat)
  | err (n : Nat)
def Res.up {α : Type} (k : Nat) : Res α → Res α
  | .ok a n => .ok a (k + n)
  | .err n => .err (k + n)
/-- one word by a parser, the word at place k -/
def tk {α β : Type} (f : Str → Option α) (k : Nat) (ws : List Str) (g : α → List Str → Res β) : Res β := match ws with
  | [] => .err k
  | w :: r => match f w with
    | none => .err k
    | some x => g x r
def nameOf (w : Str) : Option Str := if isName w = true then some w else none
/-- a part without parts: w the present word, ws the others; the places count from w -/
def small (d : Due) (w : Str) (ws : List Str) : Res Ex := match d with
  | .num => if w = "get" then tk pathOf 1 ws fun p r => tk intOf 2 r fun i _ => .ok (.get p i) 3
    else if w = "sum" then tk nameOf 1 ws fun a r => tk nameOf 2 r fun b r => tk nameOf 3 r fun c _ => .ok (.sum a b c) 4
    else (match intOf w with | none => .err 0 | some i => .ok (.int i) 1)
  | .con => if w = "none" then tk pathOf 1 ws fun p _ => .ok (.isnone p) 2 else .err 0
  | .lnk => if w = "-" then .ok .non 1 else if w = "self" then .ok .self 1 else if w = "to" then tk pathOf 1 ws fun p _ => .ok (.to p) 2 else .err 0
def nextDue (f : Fr) : Due := (f.dues)[f.parts.length]?.getD .num
def run (st : List Fr) (want : Due) : List Str → Res Ex
  | [] => .err 0
  | w :: ws => match opOf want w with
    | some (o, ds) => if st.length < 30 then (run ({ op := o, due := want, parts := [] } :: st) (ds.headD .num) ws).up 1 else .err 0
    | none => match small want w ws with
      | .err k => .err k
      | .ok e n => match close st e with
        | .inl e' => .ok e' n
        | .inr (f, st') => (run (f :: st') (nextDue f) (ws.drop (n - 1))).up n
termination_by ws => ws.length
decreasing_by
  all_goals simp only [List.length_cons, List.length_drop]
  all_goals omega
def after (st : List Fr) (e : Ex) (ws : List Str) : Res Ex := match close st e with
  | .inl e' => .ok e' 0
  | .inr (f, st') => run (f :: st') (nextDue f) ws
/-- reading a list of words whole -/
def readW (d : Due) (ws : List Str) : Ex ⊕ Nat := match run [] d ws with
  | .err k => .inr k
  | .ok e n => if n = ws.length then .inl e else .inr n
def readE (d : Due) (z : Str) : Ex ⊕ Nat := readW d (sp z)

theorem opOf_dues {d : Due} {w : Str} {o : Op} {ds : List Due} (h : opOf d w = some (o, ds)) : ds = o.dues d ∧ w = o.w ∧ (o, ds) ∈ (opsFor d).map (·.2) := by
  have key : ∀ (l : List (Str × Op × List Due)), (∀ x ∈ l, x.2.2 = x.2.1.dues d ∧ x.1 = x.2.1.w) → l.lookup w = some (o, ds) → (ds = o.dues d ∧ w = o.w) ∧ (o, ds) ∈ l.map (·.2) := by
    intro l
    induction l with
    | nil => intro _ h; cases h
    | cons a r ih =>
      intro hl h
      obtain ⟨x, y⟩ := a
      rw [List.lookup_cons] at h
      by_cases e : w = x
      · have eb : (w == x) = true := by simpa using e
        rw [eb] at h
        have h' : y = (o, ds) := Option.some.inj h
        have := hl (x, y) (by simp)
        rw [h'] at this
        exact ⟨⟨this.1, e.trans this.2⟩, by rw [h']; simp⟩
      · have eb : (w == x) = false := by simpa using e
        rw [eb] at h
        obtain ⟨h1, h2⟩ := ih (fun x hx => hl x (List.mem_cons_of_mem _ hx)) h
        exact ⟨h1, by rw [List.map_cons]; exact List.mem_cons_of_mem _ h2⟩
  obtain ⟨h1, h2⟩ := key (opsFor d) (by cases d <;> (intro x hx; simp only [opsFor, List.mem_cons, List.not_mem_nil, or_false] at hx; rcases hx with rfl | rfl | rfl | rfl | rfl | rfl <;> exact ⟨rfl, rfl⟩)) h
  exact ⟨h1.1, h1.2, h2⟩
/-- the operation that an expression is, found where it is due -/
theorem opOf_not : opOf .con "not" = some (.not, [.con]) := by decide +kernel
theorem opOf_bin (o : B2) : opOf o.dues.1 o.w = some (.bin o, [o.dues.2.1, o.dues.2.2]) := by cases o <;> decide +kernel
theorem opOf_cond {d : Due} (h : d ≠ .con) : opOf d "if" = some (.cond, [.con, d, d]) := by
  cases d
  · decide +kernel
  · exact absurd rfl h
  · decide +kernel
theorem opOf_small : opOf .num "get" = none ∧ opOf .num "sum" = none ∧ opOf .con "none" = none ∧ opOf .lnk "-" = none ∧ opOf .lnk "self" = none ∧ opOf .lnk "to" = none := by decide +kernel
theorem lookup_none {l : List (Str × Op × List Due)} {w : Str} (h : ∀ x ∈ l, w ≠ x.1) : l.lookup w = none := by
  induction l with
  | nil => rfl
  | cons a r ih =>
    obtain ⟨x, y⟩ := a
    rw [List.lookup_cons]
    have eb : (w == x) = false := by simpa using h (x, y) (by simp)
    rw [eb]
    exact ih fun x hx => h x (List.mem_cons_of_mem _ hx)
/-- a word that is no operation: by its signs -/
theorem opOf_none {d : Due} {w : Str} (h : ∀ l ∈ ([[43], [45], [42], [108, 101, 97, 115, 116], [109, 111, 115, 116], [105, 102], [60], [61], [110, 111, 116], [97, 110, 100]] : List (List Nat)), tl w ≠ l) : opOf d w = none := by
  refine lookup_none fun x hx e => ?_
  have : tl x.1 ∈ ([[43], [45], [42], [108, 101, 97, 115, 116], [109, 111, 115, 116], [105, 102], [60], [61], [110, 111, 116], [97, 110, 100]] : List (List Nat)) := by
    have : ∀ d : Due, ∀ x ∈ opsFor d, tl x.1 ∈ ([[43], [45], [42], [108, 101, 97, 115, 116], [109, 111, 115, 116], [105, 102], [60], [61], [110, 111, 116], [97, 110, 100]] : List (List Nat)) := by
      intro d; cases d <;> decide +kernel
    exact this d x hx
  exact h _ this (by rw [e])
theorem run_nil (st : List Fr) (d : Due) : run st d [] = .err 0 := by rw [run]
theorem run_op {st : List Fr} {d : Due} {w : Str} {ws : List Str} {o : Op} {ds : List Due} (h : opOf d w = some (o, ds)) : run st d (w :: ws) = if st.length < 30 then (run ({ op := o, due := d, parts := [] } :: st) (ds.headD .num) ws).up 1 else .err 0 := by
  rw [run, h]
theorem run_sm {st : List Fr} {d : Due} {w : Str} {ws : List Str} (h : opOf d w = none) : run st d (w :: ws) = (match small d w ws with
      | .err k => .err k
      | .ok e n => (after st e (ws.drop (n - 1))).up n) := by
  rw [run, h]
  cases small d w ws with
  | err k => rfl
  | ok e n =>
    dsimp only
    unfold after
    cases close st e with
    | inl e' => rfl
    | inr p => obtain ⟨f, st'⟩ := p; rfl
theorem up_up {α : Type} (a b : Nat) (r : Res α) : (r.up b).up a = r.up (a + b) := by
  cases r with
  | ok e n => show Res.ok e (a + (b + n)) = Res.ok e (a + b + n); rw [Nat.add_assoc]
  | err n => show Res.err (a + (b + n)) = Res.err (a + b + n); rw [Nat.add_assoc]
theorem up_zero {α : Type} (r : Res α) : r.up 0 = r := by cases r <;> (simp [Res.up])

/-! ### what is written is read -/
theorem small_num (w : Str) (ws : List Str) : small .num w ws = if w = "get" then tk pathOf 1 ws fun p r => tk intOf 2 r fun i _ => .ok (.get p i) 3
    else if w = "sum" then tk nameOf 1 ws fun a r => tk nameOf 2 r fun b r => tk nameOf 3 r fun c _ => .ok (.sum a b c) 4
    else (match intOf w with | none => .err 0 | some i => .ok (.int i) 1) := rfl
theorem small_con (w : Str) (ws : List Str) : small .con w ws = if w = "none" then tk pathOf 1 ws fun p _ => .ok (.isnone p) 2 else .err 0 := rfl
theorem small_lnk (w : Str) (ws : List Str) : small .lnk w ws = if w = "-" then .ok .non 1 else if w = "self" then .ok .self 1 else if w = "to" then tk pathOf 1 ws fun p _ => .ok (.to p) 2 else .err 0 := rfl
theorem tk_nil {α β : Type} (f : Str → Option α) (k : Nat) (g : α → List Str → Res β) : tk f k [] g = .err k := rfl
theorem tk_some {α β : Type} {f : Str → Option α} {k : Nat} {w : Str} {r : List Str} {g : α → List Str → Res β} {x : α} (h : f w = some x) : tk f k (w :: r) g = g x r := by
  unfold tk
  dsimp only
  rw [h]
theorem tk_none {α β : Type} {f : Str → Option α} {k : Nat} {w : Str} {r : List Str} {g : α → List Str → Res β} (h : f w = none) : tk f k (w :: r) g = .err k := by
  unfold tk
  dsimp only
  rw [h]
theorem after_part {f : Fr} {st : List Fr} {e : Ex} {ws : List Str} (h : f.parts.length + 1 ≠ f.op.arity) : after (f :: st) e ws = run ({ f with parts := f.parts ++ [e] } :: st) (nextDue { f with parts := f.parts ++ [e] }) ws := by
  unfold after
  rw [close, if_neg h]
theorem after_last {f : Fr} {st : List Fr} {e : Ex} {ws : List Str} (h : f.parts.length + 1 = f.op.arity) : after (f :: st) e ws = after st (build f.op (f.parts ++ [e])) ws := by
  unfold after
  rw [close, if_pos h]
theorem ws_ne (e : Ex) : e.ws ≠ [] := by cases e <;> simp [Ex.ws]
theorem int_words {i : Int} (h : okInt i) : opOf .num (iw i) = none ∧ iw i ≠ "get" ∧ iw i ≠ "sum" := by
  have hd : ∀ (c : Nat), (57 < c) → c ∉ tl (iw i) := fun c hc => iw_free (by omega)
  have hne : tl (iw i) ≠ [45] := by
    rcases Int.lt_or_le i 0 with hi | hi
    · obtain ⟨n, rfl⟩ : ∃ n : Nat, i = -(n : Int) := ⟨i.natAbs, by omega⟩
      rw [tl_iw_neg (by omega)]
      have := numL_ne n
      simpa using this
    · obtain ⟨n, rfl⟩ : ∃ n : Nat, i = (n : Int) := ⟨i.natAbs, by omega⟩
      rw [tl_iw_nat]
      intro e
      have := numL_digits n 45 (by rw [e]; simp)
      omega
  refine ⟨opOf_none fun l hl e => ?_, fun e => ?_, fun e => ?_⟩
  · simp only [List.mem_cons, List.not_mem_nil, or_false] at hl
    rcases hl with rfl | rfl | rfl | rfl | rfl | rfl | rfl | rfl | rfl | rfl
    · exact (iw_free (i := i) (s := 43) (by omega)) (by rw [e]; simp)
    · exact hne e
    · exact (iw_free (i := i) (s := 42) (by omega)) (by rw [e]; simp)
    · exact hd 108 (by omega) (by rw [e]; simp)
    · exact hd 109 (by omega) (by rw [e]; simp)
    · exact hd 105 (by omega) (by rw [e]; simp)
    · exact hd 60 (by omega) (by rw [e]; simp)
    · exact hd 61 (by omega) (by rw [e]; simp)
    · exact hd 110 (by omega) (by rw [e]; simp)
    · exact hd 97 (by omega) (by rw [e]; simp)
  · exact hd 103 (by omega) (by rw [e]; decide +kernel)
  · exact hd 115 (by omega) (by rw [e]; decide +kernel)
theorem nameOf_name {a : Str} (h : isName a = true) : nameOf a = some a := by unfold nameOf; rw [if_pos h]
theorem run_words : ∀ (e : Ex) (d : Due) (st : List Fr) (rest : List Str), e.Fits d → e.Wf → st.length + e.opens ≤ 30 → run st d (e.ws ++ rest) = (after st e rest).up e.ws.length := by
  intro e
  induction e with
  | int i =>
    intro d st rest hf hw _
    cases d <;> simp only [Ex.Fits] at hf
    obtain ⟨h1, h2, h3⟩ := int_words hw
    show run st .num (iw i :: rest) = _
    rw [run_sm h1]
    have : small .num (iw i) rest = .ok (.int i) 1 := by
      rw [small_num, if_neg h2, if_neg h3, intOf_iw hw]
    rw [this]
    rfl
  | non =>
    intro d st rest hf _ _
    cases d <;> simp only [Ex.Fits] at hf
    show run st .lnk (dash :: rest) = _
    rw [run_sm (show opOf .lnk dash = none from opOf_small.2.2.2.1)]
    have : small .lnk dash rest = .ok .non 1 := by rw [small_lnk, if_pos (by rfl)]
    rw [this]
    rfl
  | self =>
    intro d st rest hf _ _
    cases d <;> simp only [Ex.Fits] at hf
    show run st .lnk ("self" :: rest) = _
    rw [run_sm opOf_small.2.2.2.2.1]
    have : small .lnk "self" rest = .ok .self 1 := by rw [small_lnk, if_neg (by decide +kernel), if_pos rfl]
    rw [this]
    rfl
  | get p i =>
    intro d st rest hf hw _
    cases d <;> simp only [Ex.Fits] at hf
    show run st .num ("get" :: pathW p :: iw i :: rest) = _
    rw [run_sm opOf_small.1]
    have : small .num "get" (pathW p :: iw i :: rest) = .ok (.get p i) 3 := by
      rw [small_num, if_pos rfl, tk_some (pathOf_w hw.1.1 hw.1.2), tk_some (intOf_iw hw.2)]
    rw [this]
    rfl
  | isnone p =>
    intro d st rest hf hw _
    cases d <;> simp only [Ex.Fits] at hf
    show run st .con ("none" :: pathW p :: rest) = _
    rw [run_sm opOf_small.2.2.1]
    have : small .con "none" (pathW p :: rest) = .ok (.isnone p) 2 := by
      rw [small_con, if_pos rfl, tk_some (pathOf_w hw.1 hw.2)]
    rw [this]
    rfl
  | to p =>
    intro d st rest hf hw _
    cases d <;> simp only [Ex.Fits] at hf
    show run st .lnk ("to" :: pathW p :: rest) = _
    rw [run_sm opOf_small.2.2.2.2.2]
    have : small .lnk "to" (pathW p :: rest) = .ok (.to p) 2 := by
      rw [small_lnk, if_neg (by decide +kernel), if_neg (by decide +kernel), if_pos rfl, tk_some (pathOf_w hw.1 hw.2)]
    rw [this]
    rfl
  | sum a b c =>
    intro d st rest hf hw _
    cases d <;> simp only [Ex.Fits] at hf
    show run st .num ("sum" :: a :: b :: c :: rest) = _
    rw [run_sm opOf_small.2.1]
    have : small .num "sum" (a :: b :: c :: rest) = .ok (.sum a b c) 4 := by
      rw [small_num, if_neg (by decide +kernel), if_pos rfl, tk_some (nameOf_name hw.1), tk_some (nameOf_name hw.2.1), tk_some (nameOf_name hw.2.2)]
    rw [this]
    rfl
  | not c ih =>
    intro d st rest hf hw ho
    cases d <;> simp only [Ex.Fits] at hf
    simp only [Ex.opens] at ho
    show run st .con ("not" :: (c.ws ++ rest)) = _
    rw [run_op opOf_not, if_pos (by omega)]
    show (run ({ op := .not, due := .con, parts := [] } :: st) .con (c.ws ++ rest)).up 1 = _
    rw [ih .con _ _ hf hw (by rw [List.length_cons]; omega), after_last (by rfl), up_up]
    rw [show (Ex.not c).ws.length = 1 + c.ws.length by simp [Ex.ws]; omega]
    rfl
  | bin o a b iha ihb =>
    intro d st rest hf hw ho
    obtain ⟨rfl, hfa, hfb⟩ : o.dues.1 = d ∧ a.Fits o.dues.2.1 ∧ b.Fits o.dues.2.2 := by cases d <;> simpa only [Ex.Fits] using hf
    simp only [Ex.opens] at ho
    show run st o.dues.1 (o.w :: ((a.ws ++ b.ws) ++ rest)) = _
    rw [run_op (opOf_bin o), if_pos (by omega), List.append_assoc]
    show (run ({ op := .bin o, due := o.dues.1, parts := [] } :: st) o.dues.2.1 (a.ws ++ (b.ws ++ rest))).up 1 = _
    rw [iha _ _ _ hfa hw.1 (by rw [List.length_cons]; omega), after_part (by simp [Op.arity])]
    show ((run ({ op := .bin o, due := o.dues.1, parts := [a] } :: st) o.dues.2.2 (b.ws ++ rest)).up a.ws.length).up 1 = _
    rw [ihb _ _ _ hfb hw.2 (by rw [List.length_cons]; omega), after_last (by rfl), up_up, up_up]
    rw [show (Ex.bin o a b).ws.length = 1 + a.ws.length + b.ws.length by simp [Ex.ws]; omega]
    rfl
  | cond c a b ihc iha ihb =>
    intro d st rest hf hw ho
    obtain ⟨hd, hfc, hfa, hfb⟩ : d ≠ .con ∧ c.Fits .con ∧ a.Fits d ∧ b.Fits d := by cases d <;> simpa only [Ex.Fits] using hf
    simp only [Ex.opens] at ho
    show run st d ("if" :: ((c.ws ++ (a.ws ++ b.ws)) ++ rest)) = _
    rw [run_op (opOf_cond hd), if_pos (by omega), List.append_assoc, List.append_assoc]
    show (run ({ op := .cond, due := d, parts := [] } :: st) .con (c.ws ++ (a.ws ++ (b.ws ++ rest)))).up 1 = _
    rw [ihc _ _ _ hfc hw.1 (by rw [List.length_cons]; omega), after_part (by simp [Op.arity])]
    show ((run ({ op := .cond, due := d, parts := [c] } :: st) d (a.ws ++ (b.ws ++ rest))).up c.ws.length).up 1 = _
    rw [iha _ _ _ hfa hw.2.1 (by rw [List.length_cons]; omega), after_part (by simp [Op.arity])]
    show (((run ({ op := .cond, due := d, parts := [c, a] } :: st) d (b.ws ++ rest)).up a.ws.length).up c.ws.length).up 1 = _
    rw [ihb _ _ _ hfb hw.2.2 (by rw [List.length_cons]; omega), after_last (by rfl), up_up, up_up, up_up]
    rw [show (Ex.cond c a b).ws.length = 1 + c.ws.length + a.ws.length + b.ws.length by simp [Ex.ws]; omega]
    rfl
/-- what is written, one behind it: read whole, or the first word behind -/
theorem readW_words {e : Ex} {d : Due} (hf : e.Fits d) (hw : e.Wf) (ho : e.opens ≤ 30) : readW d e.ws = .inl e := by
  unfold readW
  have h := run_words e d [] [] hf hw (by simpa using ho)
  rw [List.append_nil] at h
  rw [h]
  show (if e.ws.length + 0 = e.ws.length then Sum.inl e else _) = _
  rw [if_pos (Nat.add_zero _)]
theorem readW_more {e : Ex} {d : Due} {rest : List Str} (hf : e.Fits d) (hw : e.Wf) (ho : e.opens ≤ 30) (hr : rest ≠ []) : readW d (e.ws ++ rest) = .inr e.ws.length := by
  unfold readW
  rw [run_words e d [] rest hf hw (by simpa using ho)]
  show (if e.ws.length + 0 = (e.ws ++ rest).length then Sum.inl e else Sum.inr (e.ws.length + 0)) = _
  rw [if_neg, Nat.add_zero]
  rw [List.length_append]
  have : rest.length ≠ 0 := fun z => hr (List.length_eq_zero_iff.mp z)
  omega
/-- a first part of the words: the next one is missing -/
theorem run_take : ∀ (e : Ex) (d : Due) (st : List Fr) (j : Nat), e.Fits d → e.Wf → st.length + e.opens ≤ 30 → j < e.ws.length → run st d (e.ws.take j) = .err j := by
  have one : ∀ (w : Str) (d : Due) (st : List Fr) (j : Nat), j < [w].length → run st d ([w].take j) = .err j := by
    intro w d st j h
    have : j = 0 := by simpa using h
    subst this
    rw [List.take_zero, run_nil]
  intro e
  induction e with
  | int i => intro d st j _ _ _ h; exact one _ d st j h
  | non => intro d st j _ _ _ h; exact one _ d st j h
  | self => intro d st j _ _ _ h; exact one _ d st j h
  | get p i =>
    intro d st j hf hw _ h
    cases d <;> simp only [Ex.Fits] at hf
    show run st .num ((["get", pathW p, iw i] : List Str).take j) = _
    have h' : j < 3 := h
    rcases (by omega : j = 0 ∨ j = 1 ∨ j = 2) with rfl | rfl | rfl
    · exact run_nil _ _
    · show run st .num ["get"] = _
      rw [run_sm opOf_small.1]
      have : small .num "get" [] = .err 1 := by rw [small_num, if_pos rfl]; rfl
      rw [this]
    · show run st .num ["get", pathW p] = _
      rw [run_sm opOf_small.1]
      have : small .num "get" [pathW p] = .err 2 := by
        rw [small_num, if_pos rfl, tk_some (pathOf_w hw.1.1 hw.1.2), tk_nil]
      rw [this]
  | isnone p =>
    intro d st j hf hw _ h
    cases d <;> simp only [Ex.Fits] at hf
    show run st .con ((["none", pathW p] : List Str).take j) = _
    have h' : j < 2 := h
    rcases (by omega : j = 0 ∨ j = 1) with rfl | rfl
    · exact run_nil _ _
    · show run st .con ["none"] = _
      rw [run_sm opOf_small.2.2.1]
      have : small .con "none" [] = .err 1 := by rw [small_con, if_pos rfl]; rfl
      rw [this]
  | to p =>
    intro d st j hf hw _ h
    cases d <;> simp only [Ex.Fits] at hf
    show run st .lnk ((["to", pathW p] : List Str).take j) = _
    have h' : j < 2 := h
    rcases (by omega : j = 0 ∨ j = 1) with rfl | rfl
    · exact run_nil _ _
    · show run st .lnk ["to"] = _
      rw [run_sm opOf_small.2.2.2.2.2]
      have : small .lnk "to" [] = .err 1 := by rw [small_lnk, if_neg (by decide +kernel), if_neg (by decide +kernel), if_pos rfl]; rfl
      rw [this]
  | sum a b c =>
    intro d st j hf hw _ h
    cases d <;> simp only [Ex.Fits] at hf
    show run st .num ((["sum", a, b, c] : List Str).take j) = _
    have h' : j < 4 := h
    rcases (by omega : j = 0 ∨ j = 1 ∨ j = 2 ∨ j = 3) with rfl | rfl | rfl | rfl
    · exact run_nil _ _
    · show run st .num ["sum"] = _
      rw [run_sm opOf_small.2.1]
      have : small .num "sum" [] = .err 1 := by rw [small_num, if_neg (by decide +kernel), if_pos rfl]; rfl
      rw [this]
    · show run st .num ["sum", a] = _
      rw [run_sm opOf_small.2.1]
      have : small .num "sum" [a] = .err 2 := by
        rw [small_num, if_neg (by decide +kernel), if_pos rfl, tk_some (nameOf_name hw.1), tk_nil]
      rw [this]
    · show run st .num ["sum", a, b] = _
      rw [run_sm opOf_small.2.1]
      have : small .num "sum" [a, b] = .err 3 := by
        rw [small_num, if_neg (by decide +kernel), if_pos rfl, tk_some (nameOf_name hw.1), tk_some (nameOf_name hw.2.1), tk_nil]
      rw [this]
  | not c ih =>
    intro d st j hf hw ho h
    cases d <;> simp only [Ex.Fits] at hf
    simp only [Ex.opens] at ho
    cases j with
    | zero => exact run_nil _ _
    | succ j =>
      show run st .con ("not" :: c.ws.take j) = _
      have h' : j + 1 < c.ws.length + 1 := h
      rw [run_op opOf_not, if_pos (by omega)]
      show (run ({ op := .not, due := .con, parts := [] } :: st) .con (c.ws.take j)).up 1 = _
      rw [ih .con _ _ hf hw (by rw [List.length_cons]; omega) (by omega)]
      show Res.err (1 + j) = _
      rw [Nat.add_comm]
  | bin o a b iha ihb =>
    intro d st j hf hw ho h
    obtain ⟨rfl, hfa, hfb⟩ : o.dues.1 = d ∧ a.Fits o.dues.2.1 ∧ b.Fits o.dues.2.2 := by cases d <;> simpa only [Ex.Fits] using hf
    simp only [Ex.opens] at ho
    cases j with
    | zero => exact run_nil _ _
    | succ j =>
      show run st o.dues.1 (o.w :: (a.ws ++ b.ws).take j) = _
      have h' : j + 1 < (a.ws ++ b.ws).length + 1 := h
      rw [List.length_append] at h'
      rw [run_op (opOf_bin o), if_pos (by omega), List.take_append]
      show (run ({ op := .bin o, due := o.dues.1, parts := [] } :: st) o.dues.2.1 (a.ws.take j ++ b.ws.take (j - a.ws.length))).up 1 = _
      by_cases hj : j < a.ws.length
      · rw [show j - a.ws.length = 0 by omega, List.take_zero, List.append_nil, iha _ _ _ hfa hw.1 (by rw [List.length_cons]; omega) hj]
        show Res.err (1 + j) = _
        rw [Nat.add_comm]
      · rw [List.take_of_length_le (show a.ws.length ≤ j by omega), run_words a _ _ _ hfa hw.1 (by rw [List.length_cons]; omega), after_part (by simp [Op.arity])]
        show ((run ({ op := .bin o, due := o.dues.1, parts := [a] } :: st) o.dues.2.2 (b.ws.take (j - a.ws.length))).up a.ws.length).up 1 = _
        rw [ihb _ _ _ hfb hw.2 (by rw [List.length_cons]; omega) (by omega)]
        show Res.err (1 + (a.ws.length + (j - a.ws.length))) = _
        rw [show 1 + (a.ws.length + (j - a.ws.length)) = j + 1 by omega]
  | cond c a b ihc iha ihb =>
    intro d st j hf hw ho h
    obtain ⟨hd, hfc, hfa, hfb⟩ : d ≠ .con ∧ c.Fits .con ∧ a.Fits d ∧ b.Fits d := by cases d <;> simpa only [Ex.Fits] using hf
    simp only [Ex.opens] at ho
    cases j with
    | zero => exact run_nil _ _
    | succ j =>
      show run st d ("if" :: (c.ws ++ (a.ws ++ b.ws)).take j) = _
      have h' : j + 1 < (c.ws ++ (a.ws ++ b.ws)).length + 1 := h
      rw [List.length_append, List.length_append] at h'
      rw [run_op (opOf_cond hd), if_pos (by omega), List.take_append, List.take_append]
      show (run ({ op := .cond, due := d, parts := [] } :: st) .con (c.ws.take j ++ (a.ws.take (j - c.ws.length) ++ b.ws.take (j - c.ws.length - a.ws.length)))).up 1 = _
      by_cases hj : j < c.ws.length
      · rw [show j - c.ws.length = 0 by omega, List.take_zero, Nat.zero_sub, List.take_zero, List.append_nil, List.append_nil, ihc _ _ _ hfc hw.1 (by rw [List.length_cons]; omega) hj]
        show Res.err (1 + j) = _
        rw [Nat.add_comm]
      · rw [List.take_of_length_le (show c.ws.length ≤ j by omega), run_words c _ _ _ hfc hw.1 (by rw [List.length_cons]; omega), after_part (by simp [Op.arity])]
        show ((run ({ op := .cond, due := d, parts := [c] } :: st) d (a.ws.take (j - c.ws.length) ++ b.ws.take (j - c.ws.length - a.ws.length))).up c.ws.length).up 1 = _
        by_cases hj2 : j - c.ws.length < a.ws.length
        · rw [show j - c.ws.length - a.ws.length = 0 by omega, List.take_zero, List.append_nil, iha _ _ _ hfa hw.2.1 (by rw [List.length_cons]; omega) hj2]
          show Res.err (1 + (c.ws.length + (j - c.ws.length))) = _
          rw [show 1 + (c.ws.length + (j - c.ws.length)) = j + 1 by omega]
        · rw [List.take_of_length_le (show a.ws.length ≤ j - c.ws.length by omega), run_words a _ _ _ hfa hw.2.1 (by rw [List.length_cons]; omega), after_part (by simp [Op.arity])]
          show (((run ({ op := .cond, due := d, parts := [c, a] } :: st) d (b.ws.take (j - c.ws.length - a.ws.length))).up a.ws.length).up c.ws.length).up 1 = _
          rw [ihb _ _ _ hfb hw.2.2 (by rw [List.length_cons]; omega) (by omega)]
          show Res.err (1 + (c.ws.length + (a.ws.length + (j - c.ws.length - a.ws.length)))) = _
          rw [show 1 + (c.ws.length + (a.ws.length + (j - c.ws.length - a.ws.length))) = j + 1 by omega]
theorem readW_take {e : Ex} {d : Due} {j : Nat} (hf : e.Fits d) (hw : e.Wf) (ho : e.opens ≤ 30) (hj : j < e.ws.length) : readW d (e.ws.take j) = .inr j := by
  unfold readW
  rw [run_take e d [] j hf hw (by simpa using ho) hj]
end K12

set_option maxHeartbeats 1000000
/-! K12c: what is read is written so; words less, more, ahead; kinds and forms. -/
namespace K12
open PySem L2 TL NumText
set_option autoImplicit false

/-! ### what is read -/
def spine : List Fr → List Str
  | [] => []
  | f :: st => spine st ++ (f.op.w :: f.parts.flatMap Ex.ws)
def FrsOk : List Fr → Prop
  | [] => True
  | f :: st => f.parts.length < f.op.arity ∧ (∀ p ∈ f.parts, p.Wf ∧ st.length + 1 + p.opens ≤ 30) ∧ FrsOk st
theorem build_ws {o : Op} {ps : List Ex} (h : ps.length = o.arity) : (build o ps).ws = o.w :: ps.flatMap Ex.ws := by
  cases o with
  | not =>
    match ps, h with
    | [c], _ => simp [build, Ex.ws, Op.w]
  | bin o =>
    match ps, h with
    | [a, b], _ => simp [build, Ex.ws, Op.w]
  | cond =>
    match ps, h with
    | [c, a, b], _ => simp [build, Ex.ws, Op.w]
theorem build_ok {o : Op} {ps : List Ex} {n : Nat} (h : ps.length = o.arity) (hp : ∀ p ∈ ps, p.Wf ∧ n + 1 + p.opens ≤ 30) : (build o ps).Wf ∧ n + (build o ps).opens ≤ 30 := by
  cases o with
  | not =>
    match ps, h with
    | [c], _ =>
      have := hp c (by simp)
      simp only [build, Ex.Wf, Ex.opens]
      exact ⟨this.1, by omega⟩
  | bin o =>
    match ps, h with
    | [a, b], _ =>
      have h1 := hp a (by simp)
      have h2 := hp b (by simp)
      simp only [build, Ex.Wf, Ex.opens]
      exact ⟨⟨h1.1, h2.1⟩, by omega⟩
  | cond =>
    match ps, h with
    | [c, a, b], _ =>
      have h0 := hp c (by simp)
      have h1 := hp a (by simp)
      have h2 := hp b (by simp)
      simp only [build, Ex.Wf, Ex.opens]
      exact ⟨⟨h0.1, h1.1, h2.1⟩, by omega⟩
theorem close_inl : ∀ (st : List Fr) (e e' : Ex), FrsOk st → e.Wf → st.length + e.opens ≤ 30 → close st e = .inl e' → spine st ++ e.ws = e'.ws ∧ e'.Wf ∧ e'.opens ≤ 30
  | [], e, e', _, hw, ho, h => by
    have h' : (Sum.inl e : Ex ⊕ (Fr × List Fr)) = .inl e' := h
    cases h'
    exact ⟨by simp [spine], hw, by simpa using ho⟩
  | f :: st, e, e', hf, hw, ho, h => by
    obtain ⟨h1, h2, h3⟩ := hf
    rw [close] at h
    rw [List.length_cons] at ho
    by_cases hl : f.parts.length + 1 = f.op.arity
    · rw [if_pos hl] at h
      have hlen : (f.parts ++ [e]).length = f.op.arity := by rw [List.length_append, List.length_singleton]; exact hl
      have hp : ∀ p ∈ f.parts ++ [e], p.Wf ∧ st.length + 1 + p.opens ≤ 30 := fun p hp => by
        rcases List.mem_append.mp hp with hp | hp
        · exact h2 p hp
        · rw [List.mem_singleton.mp hp]
          exact ⟨hw, by omega⟩
      obtain ⟨hb1, hb2⟩ := build_ok hlen hp
      obtain ⟨r1, r2⟩ := close_inl st _ e' h3 hb1 hb2 h
      refine ⟨?_, r2⟩
      rw [← r1, build_ws hlen]
      simp [spine]
    · rw [if_neg hl] at h; cases h
theorem close_inr : ∀ (st : List Fr) (e : Ex) (f : Fr) (st' : List Fr), FrsOk st → e.Wf → st.length + e.opens ≤ 30 → close st e = .inr (f, st') → spine (f :: st') = spine st ++ e.ws ∧ FrsOk (f :: st') ∧ st'.length + 1 ≤ st.length
  | [], e, f, st', _, hw, ho, h => by cases h
  | f0 :: st, e, f, st', hf, hw, ho, h => by
    obtain ⟨h1, h2, h3⟩ := hf
    rw [close] at h
    rw [List.length_cons] at ho
    by_cases hl : f0.parts.length + 1 = f0.op.arity
    · rw [if_pos hl] at h
      have hlen : (f0.parts ++ [e]).length = f0.op.arity := by rw [List.length_append, List.length_singleton]; exact hl
      have hp : ∀ p ∈ f0.parts ++ [e], p.Wf ∧ st.length + 1 + p.opens ≤ 30 := fun p hp => by
        rcases List.mem_append.mp hp with hp | hp
        · exact h2 p hp
        · rw [List.mem_singleton.mp hp]
          exact ⟨hw, by omega⟩
      obtain ⟨hb1, hb2⟩ := build_ok hlen hp
      obtain ⟨r1, r2, r3⟩ := close_inr st _ f st' h3 hb1 hb2 h
      refine ⟨?_, r2, by rw [List.length_cons]; omega⟩
      rw [r1, build_ws hlen]
      simp [spine]
    · rw [if_neg hl] at h
      have h' := Sum.inr.inj h
      obtain ⟨rfl, rfl⟩ := Prod.mk.inj h'
      refine ⟨by simp [spine], ⟨?_, fun p hp => ?_, h3⟩, by simp⟩
      · show (f0.parts ++ [e]).length < f0.op.arity
        rw [List.length_append, List.length_singleton]; omega
      · rcases List.mem_append.mp hp with hp | hp
        · exact h2 p hp
        · rw [List.mem_singleton.mp hp]
          exact ⟨hw, by omega⟩
theorem nameOf_some {w x : Str} (h : nameOf w = some x) : x = w ∧ isName w = true := by
  unfold nameOf at h
  by_cases e : isName w = true
  · rw [if_pos e] at h; exact ⟨(Option.some.inj h).symm, e⟩
  · rw [if_neg e] at h; cases h
theorem tk_ok {α β : Type} {f : Str → Option α} {k : Nat} {ws : List Str} {g : α → List Str → Res β} {b : β} {n : Nat} (h : tk f k ws g = .ok b n) : ∃ w r x, ws = w :: r ∧ f w = some x ∧ g x r = .ok b n := by
  cases ws with
  | nil => cases h
  | cons w r =>
    cases hf : f w with
    | none => rw [tk_none hf] at h; cases h
    | some x => rw [tk_some hf] at h; exact ⟨w, r, x, rfl, hf, h⟩
theorem small_ok {d : Due} {w : Str} {ws : List Str} {e : Ex} {n : Nat} (h : small d w ws = .ok e n) : e.Wf ∧ e.opens = 0 ∧ (w :: ws).take n = e.ws ∧ 1 ≤ n ∧ n ≤ ws.length + 1 := by
  cases d with
  | num =>
    rw [small_num] at h
    by_cases h1 : w = "get"
    · rw [if_pos h1] at h
      obtain ⟨w1, r1, p, rfl, hp, h⟩ := tk_ok h
      obtain ⟨w2, r2, i, rfl, hi, h⟩ := tk_ok h
      injection h with h2 h3
      subst h2 h3
      obtain ⟨q1, q2, q3⟩ := pathOf_some hp
      obtain ⟨q4, q5⟩ := intOf_some hi
      subst h1
      exact ⟨⟨⟨q2, q3⟩, q5⟩, rfl, by simp [Ex.ws, q1, q4], by omega, by simp⟩
    · rw [if_neg h1] at h
      by_cases h2 : w = "sum"
      · rw [if_pos h2] at h
        obtain ⟨w1, r1, a, rfl, ha, h⟩ := tk_ok h
        obtain ⟨w2, r2, b, rfl, hb, h⟩ := tk_ok h
        obtain ⟨w3, r3, c, rfl, hc, h⟩ := tk_ok h
        injection h with h3 h4
        subst h3 h4
        obtain ⟨rfl, q1⟩ := nameOf_some ha
        obtain ⟨rfl, q2⟩ := nameOf_some hb
        obtain ⟨rfl, q3⟩ := nameOf_some hc
        subst h2
        exact ⟨⟨q1, q2, q3⟩, rfl, by simp [Ex.ws], by omega, by simp⟩
      · rw [if_neg h2] at h
        cases hi : intOf w with
        | none => rw [hi] at h; cases h
        | some i =>
          rw [hi] at h
          injection h with h3 h4
          subst h3 h4
          obtain ⟨q1, q2⟩ := intOf_some hi
          exact ⟨q2, rfl, by simp [Ex.ws, q1], by omega, by omega⟩
  | con =>
    rw [small_con] at h
    by_cases h1 : w = "none"
    · rw [if_pos h1] at h
      obtain ⟨w1, r1, p, rfl, hp, h⟩ := tk_ok h
      injection h with h2 h3
      subst h2 h3
      obtain ⟨q1, q2, q3⟩ := pathOf_some hp
      subst h1
      exact ⟨⟨q2, q3⟩, rfl, by simp [Ex.ws, q1], by omega, by simp⟩
    · rw [if_neg h1] at h; cases h
  | lnk =>
    rw [small_lnk] at h
    by_cases h1 : w = "-"
    · rw [if_pos h1] at h
      injection h with h2 h3
      subst h2 h3
      subst h1
      exact ⟨trivial, rfl, by simp [Ex.ws, dash], by omega, by omega⟩
    · rw [if_neg h1] at h
      by_cases h2 : w = "self"
      · rw [if_pos h2] at h
        injection h with h3 h4
        subst h3 h4
        subst h2
        exact ⟨trivial, rfl, by simp [Ex.ws], by omega, by omega⟩
      · rw [if_neg h2] at h
        by_cases h3 : w = "to"
        · rw [if_pos h3] at h
          obtain ⟨w1, r1, p, rfl, hp, h⟩ := tk_ok h
          injection h with h4 h5
          subst h4 h5
          obtain ⟨q1, q2, q3⟩ := pathOf_some hp
          subst h3
          exact ⟨⟨q2, q3⟩, rfl, by simp [Ex.ws, q1], by omega, by simp⟩
        · rw [if_neg h3] at h; cases h
theorem tk_err {α β : Type} {f : Str → Option α} {k : Nat} {ws : List Str} {g : α → List Str → Res β} {n B : Nat} (h : tk f k ws g = .err n) (hk : k ≤ B) (hg : ∀ w r x, ws = w :: r → g x r = .err n → n ≤ B) : n ≤ B := by
  cases ws with
  | nil => injection h with h; omega
  | cons w r =>
    cases hf : f w with
    | none => rw [tk_none hf] at h; injection h with h; omega
    | some x => rw [tk_some hf] at h; exact hg w r x rfl h
theorem small_err {d : Due} {w : Str} {ws : List Str} {n : Nat} (h : small d w ws = .err n) : n ≤ ws.length + 1 := by
  cases d with
  | num =>
    rw [small_num] at h
    by_cases h1 : w = "get"
    · rw [if_pos h1] at h
      refine tk_err h (by omega) fun w1 r1 x e ha => ?_
      subst e
      exact tk_err ha (by rw [List.length_cons]; omega) fun w2 r2 x e hb => (by cases hb)
    · rw [if_neg h1] at h
      by_cases h2 : w = "sum"
      · rw [if_pos h2] at h
        refine tk_err h (by omega) fun w1 r1 x e ha => ?_
        subst e
        refine tk_err ha (by rw [List.length_cons]; omega) fun w2 r2 x e hb => ?_
        subst e
        exact tk_err hb (by rw [List.length_cons, List.length_cons]; omega) fun w2 r2 x e hc => (by cases hc)
      · rw [if_neg h2] at h
        cases hi : intOf w with
        | none => rw [hi] at h; injection h with h; omega
        | some i => rw [hi] at h; cases h
  | con =>
    rw [small_con] at h
    by_cases h1 : w = "none"
    · rw [if_pos h1] at h
      exact tk_err h (by omega) fun w1 r1 x e hh => (by cases hh)
    · rw [if_neg h1] at h; injection h with h; omega
  | lnk =>
    rw [small_lnk] at h
    by_cases h1 : w = "-"
    · rw [if_pos h1] at h; cases h
    · rw [if_neg h1] at h
      by_cases h2 : w = "self"
      · rw [if_pos h2] at h; cases h
      · rw [if_neg h2] at h
        by_cases h3 : w = "to"
        · rw [if_pos h3] at h
          exact tk_err h (by omega) fun w1 r1 x e hh => (by cases hh)
        · rw [if_neg h3] at h; injection h with h; omega
theorem up_ok {α : Type} {k n : Nat} {r : Res α} {a : α} (h : r.up k = .ok a n) : ∃ m, r = .ok a m ∧ n = k + m := by
  cases r with
  | ok b m =>
    injection h with h1 h2
    exact ⟨m, by rw [h1], h2.symm⟩
  | err m => cases h
theorem up_err {α : Type} {k n : Nat} {r : Res α} (h : r.up k = .err n) : ∃ m, r = .err m ∧ n = k + m := by
  cases r with
  | ok b m => cases h
  | err m => injection h with h1; exact ⟨m, rfl, h1.symm⟩
theorem run_sound : ∀ (n : Nat) (ws : List Str), ws.length ≤ n → ∀ (st : List Fr) (want : Due), FrsOk st → st.length ≤ 30 →
    (∀ e m, run st want ws = .ok e m → m ≤ ws.length ∧ spine st ++ ws.take m = e.ws ∧ e.Wf ∧ e.opens ≤ 30) ∧ (∀ k, run st want ws = .err k → k ≤ ws.length) := by
  intro n
  induction n with
  | zero =>
    intro ws hn st want _ _
    have : ws = [] := List.length_eq_zero_iff.mp (by omega)
    subst this
    rw [run_nil]
    exact ⟨fun e m h => (by cases h), fun k h => (by injection h with h; omega)⟩
  | succ n ih =>
    intro ws hn st want hf hs
    cases ws with
    | nil =>
      rw [run_nil]
      exact ⟨fun e m h => (by cases h), fun k h => (by injection h with h; omega)⟩
    | cons w ws =>
      rw [List.length_cons] at hn
      cases ho : opOf want w with
      | some p =>
        obtain ⟨o, ds⟩ := p
        obtain ⟨_, hw, _⟩ := opOf_dues ho
        rw [run_op ho]
        by_cases h30 : st.length < 30
        · rw [if_pos h30]
          have hf' : FrsOk ({ op := o, due := want, parts := [] } :: st) := ⟨by show 0 < o.arity; cases o <;> simp [Op.arity], by simp, hf⟩
          obtain ⟨i1, i2⟩ := ih ws (by omega) ({ op := o, due := want, parts := [] } :: st) (ds.headD .num) hf' (by rw [List.length_cons]; omega)
          refine ⟨fun e m h => ?_, fun k h => ?_⟩
          · obtain ⟨m', h', rfl⟩ := up_ok h
            obtain ⟨a1, a2, a3⟩ := i1 e m' h'
            refine ⟨by rw [List.length_cons]; omega, ?_, a3⟩
            rw [← a2, Nat.add_comm, List.take_succ_cons, hw]
            simp [spine]
          · obtain ⟨m', h', rfl⟩ := up_err h
            have := i2 m' h'
            rw [List.length_cons]; omega
        · rw [if_neg h30]
          exact ⟨fun e m h => (by cases h), fun k h => (by injection h with h; omega)⟩
      | none =>
        rw [run_sm ho]
        cases hsm : small want w ws with
        | err k =>
          have := small_err hsm
          exact ⟨fun e m h => (by cases h), fun k' h => (by injection h with h; rw [List.length_cons]; omega)⟩
        | ok e n0 =>
          obtain ⟨w1, w2, w3, w4, w5⟩ := small_ok hsm
          obtain ⟨k0, rfl⟩ : ∃ k0, n0 = k0 + 1 := ⟨n0 - 1, by omega⟩
          dsimp only
          rw [Nat.add_sub_cancel]
          cases hc : close st e with
          | inl e' =>
            obtain ⟨c1, c2, c3⟩ := close_inl st e e' hf w1 (by omega) hc
            have ha : after st e (ws.drop k0) = .ok e' 0 := by unfold after; rw [hc]
            rw [ha]
            refine ⟨fun e2 m h => ?_, fun k h => (by cases h)⟩
            have h' : Res.ok e' (k0 + 1 + 0) = Res.ok e2 m := h
            injection h' with h1 h2
            subst h1 h2
            exact ⟨by rw [List.length_cons]; omega, by rw [Nat.add_zero, w3, c1], c2, c3⟩
          | inr q =>
            obtain ⟨f, st'⟩ := q
            obtain ⟨c1, c2, c3⟩ := close_inr st e f st' hf w1 (by omega) hc
            have ha : after st e (ws.drop k0) = run (f :: st') (nextDue f) (ws.drop k0) := by unfold after; rw [hc]
            rw [ha]
            obtain ⟨i1, i2⟩ := ih (ws.drop k0) (by rw [List.length_drop]; omega) (f :: st') (nextDue f) c2 (by rw [List.length_cons]; omega)
            rw [List.length_drop] at i1 i2
            refine ⟨fun e2 m h => ?_, fun k h => ?_⟩
            · obtain ⟨m', h', rfl⟩ := up_ok h
              obtain ⟨a1, a2, a3⟩ := i1 e2 m' h'
              refine ⟨by rw [List.length_cons]; omega, ?_, a3⟩
              rw [← a2, c1, ← w3, List.append_assoc]
              congr 1
              rw [Nat.add_right_comm, List.take_succ_cons, List.take_succ_cons, List.cons_append]
              congr 1
              rw [List.take_add]
            · obtain ⟨m', h', rfl⟩ := up_err h
              have := i2 m' h'
              rw [List.length_cons]; omega
theorem readW_inl {d : Due} {ws : List Str} {e : Ex} (h : readW d ws = .inl e) : e.ws = ws ∧ e.Wf ∧ e.opens ≤ 30 := by
  unfold readW at h
  obtain ⟨i1, _⟩ := run_sound ws.length ws (Nat.le_refl _) [] d trivial (by simp)
  cases hr : run [] d ws with
  | err k => rw [hr] at h; cases h
  | ok e' n =>
    rw [hr] at h
    dsimp only at h
    by_cases hn : n = ws.length
    · rw [if_pos hn] at h
      cases h
      obtain ⟨a1, a2, a3⟩ := i1 e n hr
      rw [hn, List.take_length] at a2
      exact ⟨a2.symm, a3⟩
    · rw [if_neg hn] at h; cases h
theorem readW_inr {d : Due} {ws : List Str} {k : Nat} (h : readW d ws = .inr k) : k ≤ ws.length := by
  unfold readW at h
  obtain ⟨i1, i2⟩ := run_sound ws.length ws (Nat.le_refl _) [] d trivial (by simp)
  cases hr : run [] d ws with
  | err k' => rw [hr] at h; cases h; exact i2 _ hr
  | ok e' n =>
    rw [hr] at h
    dsimp only at h
    by_cases hn : n = ws.length
    · rw [if_pos hn] at h; cases h
    · rw [if_neg hn] at h
      cases h
      exact (i1 _ _ hr).1

/-! ### texts of expressions -/
def Ex.txt (e : Ex) : Str := Txt.join spc e.ws
theorem ws_free : ∀ (e : Ex), e.Wf → ∀ w ∈ e.ws, 32 ∉ tl w := by
  have lit : ∀ l : List Str, (∀ x ∈ l, 32 ∉ tl x) → ∀ w ∈ l, 32 ∉ tl w := fun l h => h
  intro e
  induction e with
  | int i => intro _ w hw; rw [List.mem_singleton.mp hw]; exact iw_free (by omega)
  | non => intro _ w hw; rw [List.mem_singleton.mp hw]; decide +kernel
  | self => intro _ w hw; rw [List.mem_singleton.mp hw]; decide +kernel
  | get p i =>
    intro h w hw
    simp only [Ex.ws, List.mem_cons, List.not_mem_nil, or_false] at hw
    rcases hw with rfl | rfl | rfl
    · decide +kernel
    · exact pathW_free h.1.2 (by omega)
    · exact iw_free (by omega)
  | isnone p =>
    intro h w hw
    simp only [Ex.ws, List.mem_cons, List.not_mem_nil, or_false] at hw
    rcases hw with rfl | rfl
    · decide +kernel
    · exact pathW_free h.2 (by omega)
  | to p =>
    intro h w hw
    simp only [Ex.ws, List.mem_cons, List.not_mem_nil, or_false] at hw
    rcases hw with rfl | rfl
    · decide +kernel
    · exact pathW_free h.2 (by omega)
  | sum a b c =>
    intro h w hw
    simp only [Ex.ws, List.mem_cons, List.not_mem_nil, or_false] at hw
    rcases hw with rfl | rfl | rfl | rfl
    · decide +kernel
    · exact name_free h.1 (by omega)
    · exact name_free h.2.1 (by omega)
    · exact name_free h.2.2 (by omega)
  | not c ih =>
    intro h w hw
    rcases List.mem_cons.mp hw with rfl | hw
    · decide +kernel
    · exact ih h w hw
  | bin o a b iha ihb =>
    intro h w hw
    rcases List.mem_cons.mp hw with rfl | hw
    · cases o <;> decide +kernel
    · rcases List.mem_append.mp hw with hw | hw
      · exact iha h.1 w hw
      · exact ihb h.2 w hw
  | cond c a b ihc iha ihb =>
    intro h w hw
    rcases List.mem_cons.mp hw with rfl | hw
    · decide +kernel
    · rcases List.mem_append.mp hw with hw | hw
      · exact ihc h.1 w hw
      · rcases List.mem_append.mp hw with hw | hw
        · exact iha h.2.1 w hw
        · exact ihb h.2.2 w hw
theorem sp_txt {e : Ex} (h : e.Wf) : sp e.txt = e.ws := join_sp (ws_ne e) (ws_free e h)
theorem txt_inj {e f : Ex} (he : e.Wf) (hf : f.Wf) (h : e.txt = f.txt) : e.ws = f.ws := by rw [← sp_txt he, ← sp_txt hf, h]
/-- READ AND WRITTEN -/
theorem readE_inl {d : Due} {z : Str} {e : Ex} (h : readE d z = .inl e) : e.txt = z ∧ e.Wf ∧ e.opens ≤ 30 := by
  obtain ⟨h1, h2⟩ := readW_inl h
  refine ⟨?_, h2⟩
  unfold Ex.txt
  rw [h1]
  exact sp_join z
theorem readE_inr {d : Due} {z : Str} {k : Nat} (h : readE d z = .inr k) : k ≤ (sp z).length := readW_inr h
/-- an expression that is written where d is due -/
structure Good (d : Due) (e : Ex) : Prop where
  fits : e.Fits d
  wf : e.Wf
  op : e.opens ≤ 30
theorem Good.back {d : Due} {e : Ex} (g : Good d e) : readE d e.txt = .inl e := by
  unfold readE
  rw [sp_txt g.wf]
  exact readW_words g.fits g.wf g.op
theorem bad_first {d : Due} {w : Str} {ws : List Str} (h1 : opOf d w = none) (h2 : ∀ l ∈ ([[103, 101, 116], [115, 117, 109], [110, 111, 110, 101], [45], [115, 101, 108, 102], [116, 111]] : List (List Nat)), tl w ≠ l) (h3 : intOf w = none) : readW d (w :: ws) = .inr 0 := by
  have hs : small d w ws = .err 0 := by
    have ne : ∀ {x : Str}, tl x ∈ ([[103, 101, 116], [115, 117, 109], [110, 111, 110, 101], [45], [115, 101, 108, 102], [116, 111]] : List (List Nat)) → w ≠ x := fun hx e => h2 _ hx (by rw [e])
    cases d with
    | num => rw [small_num, if_neg (ne (by decide +kernel)), if_neg (ne (by decide +kernel)), h3]
    | con => rw [small_con, if_neg (ne (by decide +kernel))]
    | lnk => rw [small_lnk, if_neg (ne (by decide +kernel)), if_neg (ne (by decide +kernel)), if_neg (ne (by decide +kernel))]
  unfold readW
  rw [run_sm h1, hs]
theorem intOf_bad {w : Str} (h : (tl w).head? ≠ some 45) (hd : ¬ AllDigits (tl w) ∨ tl w = []) : intOf w = none := by
  unfold intOf
  rw [if_neg h]
  have : numOf w = none := by
    unfold numOf
    rw [if_neg]
    intro z
    simp only [Bool.and_eq_true, decide_eq_true_eq] at z
    rcases hd with hd | hd
    · exact hd (digB_iff.mp z.2)
    · have := z.1.1
      rw [len_tl, hd] at this
      simp at this
  rw [this]
  rfl
theorem empty_first {d : Due} {ws : List Str} : readW d ("" :: ws) = .inr 0 := by
  have e : tl ("" : Str) = [] := by decide +kernel
  exact bad_first (opOf_none fun l hl => by rw [e]; intro z; subst z; revert hl; decide) (fun l hl => by rw [e]; intro z; subst z; revert hl; decide) (intOf_bad (by rw [e]; simp) (.inr e))
theorem x_first {d : Due} {ws : List Str} : readW d ("x" :: ws) = .inr 0 := by
  have e : tl ("x" : Str) = [120] := by decide +kernel
  exact bad_first (opOf_none fun l hl => by rw [e]; intro z; subst z; revert hl; decide) (fun l hl => by rw [e]; intro z; subst z; revert hl; decide) (intOf_bad (by rw [e]; decide) (.inl fun z => by
    have := z 120 (by rw [e]; simp)
    omega))
theorem nl_first {d : Due} {w : Str} {ws : List Str} : readW d (("\n" ++ w : Str) :: ws) = .inr 0 := by
  have e : tl (("\n" : Str) ++ w) = 10 :: tl w := by
    rw [tl_append, show tl ("\n" : Str) = [10] by decide +kernel]; rfl
  refine bad_first (opOf_none fun l hl => ?_) (fun l hl => ?_) (intOf_bad (by rw [e]; simp) (.inl fun z => by
    have := z 10 (by rw [e]; simp)
    omega))
  · rw [e]; intro z; subst z; simp at hl
  · rw [e]; intro z; subst z; simp at hl
theorem zero_first {d : Due} {ws : List Str} (h : ws ≠ []) : ∃ k, k ≤ 1 ∧ readW d ("0" :: ws) = .inr k := by
  have e : tl ("0" : Str) = [48] := by decide +kernel
  have ho : opOf d "0" = none := opOf_none fun l hl => by rw [e]; intro z; subst z; revert hl; decide
  cases d with
  | num =>
    refine ⟨1, by omega, ?_⟩
    unfold readW
    have hs : small .num "0" ws = .ok (.int 0) 1 := by
      rw [small_num, if_neg (by decide +kernel), if_neg (by decide +kernel)]
      have : intOf "0" = some 0 := by decide +kernel
      rw [this]
    rw [run_sm ho, hs]
    show (if 1 = (("0" : Str) :: ws).length then _ else _) = _
    rw [if_neg]
    rw [List.length_cons]
    have : ws.length ≠ 0 := fun z => h (List.length_eq_zero_iff.mp z)
    omega
  | con =>
    refine ⟨0, by omega, ?_⟩
    unfold readW
    rw [run_sm ho, small_con, if_neg (by decide +kernel)]
  | lnk =>
    refine ⟨0, by omega, ?_⟩
    unfold readW
    rw [run_sm ho, small_lnk, if_neg (by decide +kernel), if_neg (by decide +kernel), if_neg (by decide +kernel)]
/-- a word less: the next one is missing -/
theorem Good.less {d : Due} {e : Ex} (g : Good d e) : readE d (Txt.join spc e.ws.dropLast) = .inr (e.ws.length - 1) := by
  unfold readE
  have hn := ws_ne e
  have hlen : e.ws.length ≠ 0 := fun z => hn (List.length_eq_zero_iff.mp z)
  rw [List.dropLast_eq_take]
  by_cases h1 : e.ws.length = 1
  · rw [h1]
    show readW d (sp (Txt.join spc [])) = .inr 0
    have : sp (Txt.join spc []) = [("" : Str)] := by
      have e1 : Txt.join spc [] = "" := by decide +kernel
      rw [e1]
      exact sp_one (by decide +kernel)
    rw [this]
    exact empty_first
  · rw [join_sp (by intro z; have := congrArg List.length z; rw [List.length_take, List.length_nil] at this; omega) fun w hw => ws_free e g.wf w (List.mem_of_mem_take hw)]
    exact readW_take g.fits g.wf g.op (by omega)
/-- something more behind -/
theorem Good.more {d : Due} {e : Ex} (g : Good d e) (m : Str) : readE d (e.txt ++ (spc ++ m)) = .inr e.ws.length := by
  unfold readE
  have : (e.txt ++ (spc ++ m) : Str) = e.txt ++ spc ++ m := ext_tl (by simp [tl_append])
  rw [this, sp_app, sp_txt g.wf]
  exact readW_more g.fits g.wf g.op (sp_ne m)
/-- something ahead -/
theorem ahead1 (d : Due) (x z : Str) (hx : x = "" ∨ x = "x" ∨ x = "0") : ∃ k, k ≤ 1 ∧ readE d (x ++ spc ++ z) = .inr k := by
  unfold readE
  rw [sp_app]
  rcases hx with rfl | rfl | rfl
  · rw [sp_one (by decide +kernel)]
    exact ⟨0, by omega, empty_first⟩
  · rw [sp_one (by decide +kernel)]
    exact ⟨0, by omega, x_first⟩
  · rw [sp_one (by decide +kernel)]
    exact zero_first (sp_ne z)
theorem ahead2 (d : Due) (z : Str) : ∃ k, k ≤ 1 ∧ readE d ("\n" ++ z) = .inr k := by
  obtain ⟨w, ws, _, e2⟩ := sp_pre (x := "\n") (z := z) (by decide +kernel)
  unfold readE
  rw [e2]
  exact ⟨0, by omega, nl_first⟩
end K12

set_option maxHeartbeats 1000000
/-! K12d: kinds and forms. -/
namespace K12
open PySem L2 TL NumText
set_option autoImplicit false

inductive Kd | rng (a b : Int) | cls (n : Str)
def Kd.Ok : Kd → Prop
  | .rng a b => okInt a ∧ okInt b ∧ a ≤ b
  | .cls n => isName n = true
def Kd.txt : Kd → Str
  | .rng a b => iw a ++ dots ++ iw b
  | .cls n => n
def kindOf (z : Str) : Option Kd := if isName z = true then some (.cls z) else match (Txt.split z dots).map intOf with
  | [some a, some b] => if a ≤ b then some (.rng a b) else none
  | _ => none
theorem kindOf_some {z : Str} {k : Kd} (h : kindOf z = some k) : k.txt = z ∧ k.Ok := by
  unfold kindOf at h
  by_cases h1 : isName z = true
  · rw [if_pos h1] at h
    obtain rfl := Option.some.inj h
    exact ⟨rfl, h1⟩
  · rw [if_neg h1] at h
    have hj := join_split z dots (by rw [tl_dots]; simp) (by decide +kernel)
    match hs : Txt.split z dots with
    | [] => rw [hs] at h; cases h
    | [x] => rw [hs] at h; simp at h
    | [x, y] =>
      rw [hs] at h hj
      simp only [List.map_cons, List.map_nil] at h
      cases hx : intOf x with
      | none => rw [hx] at h; simp at h
      | some a =>
        cases hy : intOf y with
        | none => rw [hx, hy] at h; simp at h
        | some b =>
          rw [hx, hy] at h
          dsimp only at h
          by_cases hab : a ≤ b
          · rw [if_pos hab] at h
            obtain rfl := Option.some.inj h
            obtain ⟨a1, a2⟩ := intOf_some hx
            obtain ⟨b1, b2⟩ := intOf_some hy
            refine ⟨?_, a2, b2, hab⟩
            show iw a ++ dots ++ iw b = z
            rw [a1, b1, ← hj, join_eq]
            rfl
          · rw [if_neg hab] at h; cases h
    | x :: y :: w :: r => rw [hs] at h; simp at h
theorem name_no_dot {z : Str} (h : 46 ∈ tl z) : isName z = false := by
  cases e : isName z with
  | false => rfl
  | true => exact absurd h (name_free e (by omega))
theorem kindOf_txt {k : Kd} (h : k.Ok) : kindOf k.txt = some k := by
  cases k with
  | cls n =>
    have h' : isName n = true := h
    unfold kindOf
    show (if isName n = true then some (Kd.cls n) else _) = _
    rw [if_pos h']
  | rng a b =>
    obtain ⟨h1, h2, h3⟩ := h
    have hs : Txt.split (Kd.rng a b).txt dots = [iw a, iw b] := by
      have : (Kd.rng a b).txt = Txt.join dots [iw a, iw b] := by rw [join_eq]; rfl
      rw [this]
      refine split_join tl_dots (by decide +kernel) (by simp) fun p hp => ?_
      simp only [List.mem_cons, List.not_mem_nil, or_false] at hp
      rcases hp with rfl | rfl <;> exact iw_free (by omega)
    have hn : isName (Kd.rng a b).txt = false := name_no_dot (by
      show 46 ∈ tl (iw a ++ dots ++ iw b)
      rw [tl_append, tl_append, tl_dots]
      simp)
    unfold kindOf
    rw [hn, if_neg Bool.false_ne_true, hs]
    simp only [List.map_cons, List.map_nil]
    rw [intOf_iw h1, intOf_iw h2]
    dsimp only
    rw [if_pos h3]
theorem kd_free {k : Kd} (h : k.Ok) {s : Nat} (hs : s < 45 ∨ s = 47 ∨ (57 < s ∧ (s < 97 ∨ 122 < s))) : s ∉ tl k.txt := by
  cases k with
  | cls n => exact name_free h (by omega)
  | rng a b =>
    show s ∉ tl (iw a ++ dots ++ iw b)
    rw [tl_append, tl_append, tl_dots]
    simp only [List.mem_append, List.mem_cons, List.not_mem_nil, or_false, not_or]
    exact ⟨⟨iw_free (by omega), by omega, by omega⟩, iw_free (by omega)⟩
theorem kindOf_empty : kindOf "" = none := by decide +kernel

/-! ### forms -/
abbrev Form := List (Str × Kd)
def fldW (x : Str × Kd) : Str := x.1 ++ colon ++ x.2.txt
def Form.txt (f : Form) : Str := if f = [] then dash else Txt.join comma (f.map fldW)
def rises : List Str → Bool
  | a :: b :: r => decide (tl a < tl b) && rises (b :: r)
  | _ => true
def Form.Ok (f : Form) : Prop := (∀ x ∈ f, isName x.1 = true ∧ x.2.Ok) ∧ rises (f.map (·.1)) = true
/-- a word of a form: its name and its kind, as far as they can be read -/
def fldOf (w : Str) : Option Str × Option Kd := (nameOf (Txt.partition w colon).1, kindOf (Txt.partition w colon).2.2)
def allSome : List (Option Str × Option Kd) → Option Form
  | [] => some []
  | (some n, some k) :: r => (allSome r).map fun f => (n, k) :: f
  | _ => none
def formOf (z : Str) : Option Form := if z = dash then some [] else match allSome ((Txt.split z comma).map fldOf) with
  | some f => if rises (f.map (·.1)) = true then some f else none
  | none => none
theorem par1_some {s : Nat} : ∀ {L acc a b : List Nat}, par [s] acc L = some (a, b) → acc ++ L = a ++ s :: b
  | [], acc, a, b, h => by cases h
  | c :: r, acc, a, b, h => by
    by_cases e : c = s
    · subst e
      rw [par_hit (by rw [pre1]; simp)] at h
      obtain ⟨rfl, rfl⟩ := Prod.mk.inj (Option.some.inj h)
      rfl
    · rw [par_miss (by rw [pre1]; simpa using e)] at h
      have := par1_some h
      rw [← this]
      simp
theorem fldOf_some {w n : Str} {k : Kd} (h : fldOf w = (some n, some k)) : fldW (n, k) = w ∧ isName n = true ∧ k.Ok := by
  unfold fldOf at h
  obtain ⟨h1, h2⟩ := Prod.mk.inj h
  have hp := partition_par w colon (by rw [tl_colon]; simp)
  rw [tl_colon] at hp
  cases e : par [58] [] (tl w) with
  | none =>
    rw [e] at hp
    dsimp only at hp
    rw [hp] at h2
    dsimp only at h2
    have : kindOf Str.empty = none := kindOf_empty
    rw [this] at h2; cases h2
  | some q =>
    obtain ⟨a, b⟩ := q
    rw [e] at hp
    dsimp only at hp
    rw [hp] at h1 h2
    dsimp only at h1 h2
    obtain ⟨rfl, q1⟩ := nameOf_some h1
    obtain ⟨q2, q3⟩ := kindOf_some h2
    refine ⟨ext_tl ?_, q1, q3⟩
    show tl ((⟨a.toArray⟩ : Str) ++ colon ++ k.txt) = _
    rw [tl_append, tl_append, q2, tl_colon, List.append_assoc]
    have := par1_some e
    rw [List.nil_append] at this
    rw [this]
    rfl
theorem fldOf_w {n : Str} {k : Kd} (hn : isName n = true) (hk : k.Ok) : fldOf (fldW (n, k)) = (some n, some k) := by
  unfold fldOf fldW
  dsimp only
  rw [partition_app tl_colon (name_free hn (by omega))]
  dsimp only
  rw [nameOf_name hn, kindOf_txt hk]
theorem allSome_some : ∀ {ws : List Str} {f : Form}, allSome (ws.map fldOf) = some f → f.map fldW = ws ∧ ∀ x ∈ f, isName x.1 = true ∧ x.2.Ok
  | [], f, h => by
    obtain rfl := Option.some.inj h
    exact ⟨rfl, by simp⟩
  | w :: ws, f, h => by
    rw [List.map_cons] at h
    match e : fldOf w with
    | (some n, some k) =>
      rw [e, allSome] at h
      cases h2 : allSome (ws.map fldOf) with
      | none => rw [h2] at h; cases h
      | some g =>
        rw [h2] at h
        obtain rfl := Option.some.inj h
        obtain ⟨i1, i2⟩ := allSome_some h2
        obtain ⟨f1, f2, f3⟩ := fldOf_some e
        refine ⟨by rw [List.map_cons, f1, i1], fun x hx => ?_⟩
        rcases List.mem_cons.mp hx with rfl | hx
        · exact ⟨f2, f3⟩
        · exact i2 x hx
    | (none, y) => rw [e] at h; cases (show (none : Option Form) = some f from h)
    | (some n, none) => rw [e] at h; cases (show (none : Option Form) = some f from h)
theorem allSome_w : ∀ {f : Form}, (∀ x ∈ f, isName x.1 = true ∧ x.2.Ok) → allSome ((f.map fldW).map fldOf) = some f
  | [], _ => rfl
  | (n, k) :: f, h => by
    rw [List.map_cons, List.map_cons, fldOf_w (h (n, k) (by simp)).1 (h (n, k) (by simp)).2, allSome, allSome_w fun x hx => h x (List.mem_cons_of_mem _ hx)]
    rfl
theorem formOf_some {z : Str} {f : Form} (h : formOf z = some f) : f.txt = z ∧ f.Ok := by
  unfold formOf at h
  by_cases h1 : z = dash
  · rw [if_pos h1] at h
    obtain rfl := Option.some.inj h
    exact ⟨by rw [h1]; rfl, by simp, rfl⟩
  · rw [if_neg h1] at h
    cases h2 : allSome ((Txt.split z comma).map fldOf) with
    | none => rw [h2] at h; cases h
    | some g =>
      rw [h2] at h
      dsimp only at h
      by_cases h3 : rises (g.map (·.1)) = true
      · rw [if_pos h3] at h
        obtain rfl := Option.some.inj h
        obtain ⟨i1, i2⟩ := allSome_some h2
        refine ⟨?_, i2, h3⟩
        unfold Form.txt
        rw [if_neg, i1, join_split z comma (by rw [tl_comma]; simp) (by decide +kernel)]
        intro e
        rw [e] at i1
        exact split_ne z comma (by rw [tl_comma]; simp) (by decide +kernel) i1.symm
      · rw [if_neg h3] at h; cases h
theorem fld_free {x : Str × Kd} (h1 : isName x.1 = true) (h2 : x.2.Ok) : 44 ∉ tl (fldW x) := by
  unfold fldW
  rw [tl_append, tl_append, tl_colon]
  simp only [List.mem_append, List.mem_cons, List.not_mem_nil, or_false, not_or]
  exact ⟨⟨name_free h1 (by omega), by omega⟩, kd_free h2 (by omega)⟩
theorem txt_ne_dash {f : Form} (h : f ≠ []) : Txt.join comma (f.map fldW) ≠ dash := by
  intro e
  have h1 := congrArg tl e
  rw [tl_dash, join_eq, tl_join] at h1
  have : ∃ w ws, (f.map fldW).map tl = w :: ws ∧ 58 ∈ w := by
    cases f with
    | nil => exact absurd rfl h
    | cons x r =>
      refine ⟨tl (fldW x), (r.map fldW).map tl, rfl, ?_⟩
      unfold fldW
      rw [tl_append, tl_append, tl_colon]
      simp
  obtain ⟨w, ws, e2, hm⟩ := this
  rw [e2] at h1
  have : 58 ∈ joinL (tl comma) (w :: ws) := by
    cases ws with
    | nil => exact hm
    | cons q r => show 58 ∈ w ++ _; exact List.mem_append_left _ hm
  rw [h1] at this
  simp at this
theorem form_split {f : Form} (h0 : f ≠ []) (h : ∀ x ∈ f, isName x.1 = true ∧ x.2.Ok) : Txt.split (Txt.join comma (f.map fldW)) comma = f.map fldW := by
  refine split_join tl_comma (by decide +kernel) (fun e => h0 (List.map_eq_nil_iff.mp e)) fun p hp => ?_
  obtain ⟨x, hx, rfl⟩ := List.mem_map.mp hp
  exact fld_free (h x hx).1 (h x hx).2
theorem formOf_join {f : Form} (h0 : f ≠ []) (h : ∀ x ∈ f, isName x.1 = true ∧ x.2.Ok) : formOf (Txt.join comma (f.map fldW)) = if rises (f.map (·.1)) = true then some f else none := by
  unfold formOf
  rw [if_neg (txt_ne_dash h0), form_split h0 h, allSome_w h]
theorem formOf_txt {f : Form} (h : f.Ok) : formOf f.txt = some f := by
  unfold Form.txt
  by_cases h0 : f = []
  · rw [if_pos h0]
    unfold formOf
    rw [if_pos rfl, h0]
  · rw [if_neg h0, formOf_join h0 h.1, if_pos h.2]
theorem rises_part : ∀ (l m r : List Str), rises (l ++ (m ++ r)) = true → rises m = true
  | [], m, r, h => by
    rw [List.nil_append] at h
    induction m with
    | nil => rfl
    | cons a m ih =>
      cases m with
      | nil => rfl
      | cons b m =>
        rw [List.cons_append, List.cons_append, rises, Bool.and_eq_true] at h
        rw [rises, Bool.and_eq_true]
        exact ⟨h.1, ih h.2⟩
  | a :: l, m, r, h => by
    refine rises_part l m r ?_
    cases hx : l ++ (m ++ r) with
    | nil => rfl
    | cons b t =>
      rw [List.cons_append, hx, rises, Bool.and_eq_true] at h
      exact h.2
theorem lt_asymm : ∀ {a b : List Nat}, a < b → ¬ b < a := fun {a b} h1 h2 => List.lt_irrefl _ (List.lt_trans h1 h2)
/-- two neighbours: their form is read, turned it is not -/
theorem form_pair {l r : Form} {x y : Str × Kd} (h : Form.Ok (l ++ (x :: y :: r))) : Form.Ok [x, y] ∧ formOf (Txt.join comma [Form.txt [y], Form.txt [x]]) = none := by
  obtain ⟨h1, h2⟩ := h
  have hx := h1 x (by simp)
  have hy := h1 y (by simp)
  have hr : rises [x.1, y.1] = true := by
    rw [List.map_append] at h2
    exact rises_part (l.map (·.1)) [x.1, y.1] (r.map (·.1)) h2
  refine ⟨⟨fun z hz => ?_, hr⟩, ?_⟩
  · simp only [List.mem_cons, List.not_mem_nil, or_false] at hz
    rcases hz with rfl | rfl
    · exact hx
    · exact hy
  · have e : ∀ z : Str × Kd, Form.txt [z] = fldW z := fun z => by
      unfold Form.txt
      rw [if_neg (by simp), join_eq]
      rfl
    rw [e, e]
    have := formOf_join (f := [y, x]) (by simp) (fun z hz => by
      simp only [List.mem_cons, List.not_mem_nil, or_false] at hz
      rcases hz with rfl | rfl
      · exact hy
      · exact hx)
    show formOf (Txt.join comma ([y, x].map fldW)) = none
    rw [this, if_neg]
    intro z
    rw [show ([y, x].map fun w : Str × Kd => w.1) = [y.1, x.1] from rfl, rises, Bool.and_eq_true, decide_eq_true_eq] at z
    rw [rises, Bool.and_eq_true, decide_eq_true_eq] at hr
    exact lt_asymm hr.1 z.1
theorem form_one {x : Str × Kd} (h : isName x.1 = true ∧ x.2.Ok) : formOf (fldW x) = some [x] := by
  have := formOf_txt (f := [x]) ⟨fun z hz => by rw [List.mem_singleton.mp hz]; exact h, rfl⟩
  unfold Form.txt at this
  rw [if_neg (by simp), join_eq] at this
  exact this
end K12

set_option maxHeartbeats 1000000
/-! K12e: the values as data, how they are shown (repr), sizes. -/
namespace K12
open PySem L2 TL NumText
set_option autoImplicit false

def pstrs (p : List Str) : List PyData := p.map PyData.str
def Ex.data : Ex → PyData
  | .int i => .int i
  | .non => .none
  | .self => .tuple [.str "self"]
  | .get p d => .tuple [.str "get", .tuple (pstrs p), .int d]
  | .isnone p => .tuple [.str "none", .tuple (pstrs p)]
  | .to p => .tuple [.str "to", .tuple (pstrs p)]
  | .sum a b c => .tuple [.str "sum", .str a, .str b, .str c]
  | .not c => .tuple [.str "not", c.data]
  | .bin o a b => .tuple [.str o.w, a.data, b.data]
  | .cond c a b => .tuple [.str "if", c.data, a.data, b.data]
def Kd.data : Kd → PyData
  | .rng a b => .tuple [.int a, .int b]
  | .cls n => .str n
def fldD (x : Str × Kd) : PyData := .tuple [.str x.1, x.2.data]
def Form.data (f : Form) : PyData := .tuple (f.map fldD)

/-! ### data determines words -/
theorem pstrs_inj : ∀ {p q : List Str}, pstrs p = pstrs q → p = q
  | [], [], _ => rfl
  | [], _ :: _, h => by cases h
  | _ :: _, [], h => by cases h
  | a :: p, b :: q, h => by
    have h' : PyData.str a :: pstrs p = PyData.str b :: pstrs q := h
    injection h' with h1 h2
    injection h1 with h1
    rw [h1, pstrs_inj h2]
theorem bw_inj {o o' : B2} (h : o.w = o'.w) : o = o' := by
  revert h
  cases o <;> cases o' <;> decide +kernel
theorem bw_ne (o : B2) : o.w ≠ "get" ∧ o.w ≠ "none" ∧ o.w ≠ "to" ∧ o.w ≠ "sum" ∧ o.w ≠ "not" ∧ o.w ≠ "if" ∧ o.w ≠ "self" := by cases o <;> decide +kernel
theorem data_inj : ∀ (e f : Ex), e.data = f.data → e = f := by
  intro e
  induction e with
  | int i => intro f h; cases f <;> simp only [Ex.data] at h <;> first | (cases h; rfl) | cases h
  | non => intro f h; cases f <;> simp only [Ex.data] at h <;> first | rfl | cases h
  | self =>
    intro f h
    cases f <;> simp only [Ex.data] at h <;> first | rfl | (injection h with h; simp at h) | cases h
  | get p d =>
    intro f h
    cases f with
    | get q d' =>
      simp only [Ex.data, PyData.tuple.injEq, List.cons.injEq, PyData.int.injEq, and_true, true_and] at h
      rw [pstrs_inj h.1, h.2]
    | bin o a b =>
      simp only [Ex.data, PyData.tuple.injEq, List.cons.injEq, PyData.str.injEq] at h
      exact absurd h.1.symm (bw_ne o).1
    | int i => cases h
    | non => cases h
    | cond c a b => simp [Ex.data] at h
    | _ => simp [Ex.data] at h
  | isnone p =>
    intro f h
    cases f with
    | isnone q =>
      simp only [Ex.data, PyData.tuple.injEq, List.cons.injEq, and_true, true_and] at h
      rw [pstrs_inj h]
    | to q =>
      simp only [Ex.data, PyData.tuple.injEq, List.cons.injEq, PyData.str.injEq] at h
      exact absurd h.1 (by decide +kernel)
    | not c =>
      simp only [Ex.data, PyData.tuple.injEq, List.cons.injEq, PyData.str.injEq] at h
      exact absurd h.1 (by decide +kernel)
    | int i => cases h
    | non => cases h
    | _ => simp [Ex.data] at h
  | to p =>
    intro f h
    cases f with
    | to q =>
      simp only [Ex.data, PyData.tuple.injEq, List.cons.injEq, and_true, true_and] at h
      rw [pstrs_inj h]
    | isnone q =>
      simp only [Ex.data, PyData.tuple.injEq, List.cons.injEq, PyData.str.injEq] at h
      exact absurd h.1 (by decide +kernel)
    | not c =>
      simp only [Ex.data, PyData.tuple.injEq, List.cons.injEq, PyData.str.injEq] at h
      exact absurd h.1 (by decide +kernel)
    | int i => cases h
    | non => cases h
    | _ => simp [Ex.data] at h
  | sum a b c =>
    intro f h
    cases f with
    | sum a' b' c' =>
      simp only [Ex.data, PyData.tuple.injEq, List.cons.injEq, PyData.str.injEq, and_true, true_and] at h
      rw [h.1, h.2.1, h.2.2]
    | cond c' a' b' =>
      simp only [Ex.data, PyData.tuple.injEq, List.cons.injEq, PyData.str.injEq] at h
      exact absurd h.1 (by decide +kernel)
    | int i => cases h
    | non => cases h
    | _ => simp [Ex.data] at h
  | not c ih =>
    intro f h
    cases f with
    | not c' =>
      simp only [Ex.data, PyData.tuple.injEq, List.cons.injEq, and_true, true_and] at h
      rw [ih c' h]
    | isnone q =>
      simp only [Ex.data, PyData.tuple.injEq, List.cons.injEq, PyData.str.injEq] at h
      exact absurd h.1 (by decide +kernel)
    | to q =>
      simp only [Ex.data, PyData.tuple.injEq, List.cons.injEq, PyData.str.injEq] at h
      exact absurd h.1 (by decide +kernel)
    | int i => cases h
    | non => cases h
    | _ => simp [Ex.data] at h
  | bin o a b iha ihb =>
    intro f h
    cases f with
    | bin o' a' b' =>
      simp only [Ex.data, PyData.tuple.injEq, List.cons.injEq, PyData.str.injEq, and_true] at h
      rw [bw_inj h.1, iha a' h.2.1, ihb b' h.2.2]
    | get q d =>
      simp only [Ex.data, PyData.tuple.injEq, List.cons.injEq, PyData.str.injEq] at h
      exact absurd h.1 (bw_ne o).1
    | int i => cases h
    | non => cases h
    | _ => simp [Ex.data] at h
  | cond c a b ihc iha ihb =>
    intro f h
    cases f with
    | cond c' a' b' =>
      simp only [Ex.data, PyData.tuple.injEq, List.cons.injEq, and_true, true_and] at h
      rw [ihc c' h.1, iha a' h.2.1, ihb b' h.2.2]
    | sum a' b' c' =>
      simp only [Ex.data, PyData.tuple.injEq, List.cons.injEq, PyData.str.injEq] at h
      exact absurd h.1 (by decide +kernel)
    | int i => cases h
    | non => cases h
    | _ => simp [Ex.data] at h

/-! ### repr -/
def cleanS (x : Str) : Bool := (tl x).all fun c => decide (42 ≤ c) && decide (c ≤ 122) && decide (c ≠ 92)
theorem printable_all : ∀ c, c < 123 → 42 ≤ c → Unicode.isPrintable c = true := by decide +kernel
theorem cleanS_mem {x : Str} (h : cleanS x = true) {c : Nat} (hc : c ∈ tl x) : 42 ≤ c ∧ c ≤ 122 ∧ c ≠ 92 := by
  unfold cleanS at h
  have := List.all_eq_true.mp h c hc
  simp only [Bool.and_eq_true, decide_eq_true_eq] at this
  exact ⟨this.1.1, this.1.2, this.2⟩
theorem reprChar_clean {c : Nat} (h : 42 ≤ c ∧ c ≤ 122 ∧ c ≠ 92) : Builtin.Str.reprChar 39 c = [c] := by
  unfold Builtin.Str.reprChar
  dsimp only
  have e : ∀ n : Nat, c ≠ n → (c == n) = false := fun n hn => by simpa using hn
  rw [e 39 (by omega), e 92 (by omega), e 10 (by omega), e 13 (by omega), e 9 (by omega), printable_all c (by omega) h.1]
  simp
theorem tl_repr {x : Str} (h : cleanS x = true) : tl (reprText x) = 39 :: (tl x ++ [39]) := by
  have hq : reprQuote x = 39 := by
    unfold reprQuote
    rw [if_neg]
    intro z
    simp only [Bool.and_eq_true] at z
    have : 39 ∈ tl x := by
      have := z.1
      simpa [tl] using this
    have := cleanS_mem h this
    omega
  unfold reprText
  rw [hq]
  have key : ∀ (l : List Nat) (acc : Array Nat), (∀ c ∈ l, 42 ≤ c ∧ c ≤ 122 ∧ c ≠ 92) → (l.foldl (fun out c => out ++ (Builtin.Str.reprChar 39 c).toArray) acc).toList = acc.toList ++ l := by
    intro l
    induction l with
    | nil => intro acc _; simp
    | cons c r ih =>
      intro acc hl
      rw [List.foldl_cons, ih _ fun c hc => hl c (List.mem_cons_of_mem _ hc), reprChar_clean (hl c (by simp))]
      simp
  have hk := key (tl x) #[39] fun c hc => cleanS_mem h hc
  show (Array.push (x.cps.foldl (fun out c => out ++ (Builtin.Str.reprChar 39 c).toArray) #[39]) 39).toList = _
  rw [Array.toList_push, ← Array.foldl_toList, hk]
  rfl
mutual
def clean : PyData → Bool
  | .none | .int _ => true
  | .str x => cleanS x
  | .tuple xs => cleanAll xs
  | _ => false
def cleanAll : List PyData → Bool
  | [] => true
  | x :: xs => clean x && cleanAll xs
end
abbrev R (d : PyData) : List Nat := tl (PyData.shown d)
def Tt : List PyData → List Nat
  | [] => [41]
  | y :: ys => 44 :: 32 :: (R y ++ Tt ys)
theorem tl_lit1 : tl ("(" : Str) = [40] := by decide +kernel
theorem tl_lit2 : tl (((",)" : String)) : Str) = [44, 41] := by decide +kernel
theorem tl_lit3 : tl (((")" : String)) : Str) = [41] := by decide +kernel
theorem tl_lit4 : tl (", " : Str) = [44, 32] := by decide +kernel
theorem join_T : ∀ (x : PyData) (xs : List PyData), joinL [44, 32] ((PyData.shownAll (x :: xs)).map tl) ++ [41] = R x ++ Tt xs
  | x, [] => by simp [PyData.shownAll, joinL, Tt]
  | x, y :: ys => by
    have := join_T y ys
    simp only [PyData.shownAll, List.map_cons] at this ⊢
    rw [joinL, List.append_assoc, List.append_assoc, this]
    rfl
theorem R_tuple0 : R (.tuple []) = [40, 41] := by
  show tl (PyData.shown (.tuple [])) = _
  simp only [PyData.shown, PyData.shownAll, tupleText]
  decide +kernel
theorem R_tuple1 (x : PyData) : R (.tuple [x]) = 40 :: (R x ++ [44, 41]) := by
  show tl (PyData.shown (.tuple [x])) = _
  simp only [PyData.shown, PyData.shownAll, tupleText]
  rw [tl_append, tl_append, tl_lit1, tl_join]
  show [40] ++ tl (PyData.shown x) ++ tl (((",)" : String)) : Str) = _
  rw [tl_lit2]
  rfl
theorem R_tuple2 (x y : PyData) (r : List PyData) : R (.tuple (x :: y :: r)) = 40 :: (R x ++ Tt (y :: r)) := by
  show tl (PyData.shown (.tuple (x :: y :: r))) = _
  simp only [PyData.shown, tupleText]
  have hl : ((PyData.shownAll (x :: y :: r)).length == 1) = false := by simp [PyData.shownAll]
  rw [hl, tl_append, tl_append, tl_lit1, tl_join, tl_lit4]
  show [40] ++ joinL [44, 32] ((PyData.shownAll (x :: y :: r)).map tl) ++ tl (((")" : String)) : Str) = _
  rw [tl_lit3, List.append_assoc, join_T]
  rfl
theorem R_none : R .none = [78, 111, 110, 101] := by
  show tl (PyData.shown .none) = _
  simp only [PyData.shown]
  decide +kernel
theorem R_int (i : Int) : R (.int i) = tl (iw i) := by
  show tl (PyData.shown (.int i)) = _
  simp only [PyData.shown]
  rfl
theorem R_str {x : Str} (h : cleanS x = true) : R (.str x) = 39 :: (tl x ++ [39]) := by
  show tl (PyData.shown (.str x)) = _
  simp only [PyData.shown]
  exact tl_repr h
def Ends (r : List Nat) : Prop := r = [] ∨ ∃ s, r = 44 :: s ∨ r = 41 :: s
theorem Ends.ne {r : List Nat} {c : Nat} {s : List Nat} (h : Ends r) (e : r = c :: s) : c = 44 ∨ c = 41 := by
  rcases h with h | ⟨t, h | h⟩ <;> rw [h] at e
  · cases e
  · injection e with e1 e2; exact .inl e1.symm
  · injection e with e1 e2; exact .inr e1.symm
theorem Tt_ends (xs : List PyData) (r : List Nat) : Ends (Tt xs ++ r) := by
  cases xs with
  | nil => exact .inr ⟨r, .inr rfl⟩
  | cons y ys => exact .inr ⟨_, .inl rfl⟩
/-- two lists of signs of a kind, then signs of another kind -/
theorem span_eq {p : Nat → Prop} : ∀ {a b r1 r2 : List Nat}, (∀ c ∈ a, p c) → (∀ c ∈ b, p c) → (∀ c s, r1 = c :: s → ¬ p c) → (∀ c s, r2 = c :: s → ¬ p c) → a ++ r1 = b ++ r2 → a = b ∧ r1 = r2
  | [], [], _, _, _, _, _, _, h => ⟨rfl, h⟩
  | [], c :: b, r1, r2, _, hb, h1, _, h => absurd (hb c (by simp)) (h1 c (b ++ r2) h)
  | c :: a, [], r1, r2, ha, _, _, h2, h => absurd (ha c (by simp)) (h2 c (a ++ r1) h.symm)
  | c :: a, d :: b, r1, r2, ha, hb, h1, h2, h => by
    rw [List.cons_append, List.cons_append] at h
    injection h with e1 e2
    obtain ⟨i1, i2⟩ := span_eq (fun c hc => ha c (List.mem_cons_of_mem _ hc)) (fun c hc => hb c (List.mem_cons_of_mem _ hc)) h1 h2 e2
    exact ⟨by rw [e1, i1], i2⟩
theorem iw_signs (i : Int) : ∀ c ∈ tl (iw i), c = 45 ∨ (48 ≤ c ∧ c ≤ 57) := fun c hc => by
  rcases Int.lt_or_le i 0 with hi | hi
  · obtain ⟨n, rfl⟩ : ∃ n : Nat, i = -(n : Int) := ⟨i.natAbs, by omega⟩
    rw [tl_iw_neg (by omega)] at hc
    rcases List.mem_cons.mp hc with rfl | hc
    · exact .inl rfl
    · exact .inr (numL_digits n c hc)
  · obtain ⟨n, rfl⟩ : ∃ n : Nat, i = (n : Int) := ⟨i.natAbs, by omega⟩
    rw [tl_iw_nat] at hc
    exact .inr (numL_digits n c hc)
theorem iw_cons (i : Int) : ∃ c r, tl (iw i) = c :: r ∧ (c = 45 ∨ (48 ≤ c ∧ c ≤ 57)) := by
  cases h : tl (iw i) with
  | nil =>
    exfalso
    rcases Int.lt_or_le i 0 with hi | hi
    · obtain ⟨n, rfl⟩ : ∃ n : Nat, i = -(n : Int) := ⟨i.natAbs, by omega⟩
      rw [tl_iw_neg (by omega)] at h; cases h
    · obtain ⟨n, rfl⟩ : ∃ n : Nat, i = (n : Int) := ⟨i.natAbs, by omega⟩
      rw [tl_iw_nat] at h; exact numL_ne _ h
  | cons c r => exact ⟨c, r, rfl, iw_signs i c (by rw [h]; simp)⟩
theorem iw_inj {i j : Int} (h : tl (iw i) = tl (iw j)) : i = j := by
  rcases Int.lt_or_le i 0 with hi | hi
  · obtain ⟨n, rfl⟩ : ∃ n : Nat, i = -(n : Int) := ⟨i.natAbs, by omega⟩
    rcases Int.lt_or_le j 0 with hj | hj
    · obtain ⟨m, rfl⟩ : ∃ m : Nat, j = -(m : Int) := ⟨j.natAbs, by omega⟩
      rw [tl_iw_neg (by omega), tl_iw_neg (by omega)] at h
      injection h with _ h
      rw [numL_inj h]
    · obtain ⟨m, rfl⟩ : ∃ m : Nat, j = (m : Int) := ⟨j.natAbs, by omega⟩
      rw [tl_iw_neg (by omega), tl_iw_nat] at h
      have := numL_digits m 45 (by rw [← h]; simp)
      omega
  · obtain ⟨n, rfl⟩ : ∃ n : Nat, i = (n : Int) := ⟨i.natAbs, by omega⟩
    rcases Int.lt_or_le j 0 with hj | hj
    · obtain ⟨m, rfl⟩ : ∃ m : Nat, j = -(m : Int) := ⟨j.natAbs, by omega⟩
      rw [tl_iw_nat, tl_iw_neg (by omega)] at h
      have := numL_digits n 45 (by rw [h]; simp)
      omega
    · obtain ⟨m, rfl⟩ : ∃ m : Nat, j = (m : Int) := ⟨j.natAbs, by omega⟩
      rw [tl_iw_nat, tl_iw_nat] at h
      rw [numL_inj h]
/-- the first sign tells the kind -/
theorem R_tuple_head (xs : List PyData) : ∃ r, R (.tuple xs) = 40 :: r := by
  cases xs with
  | nil => exact ⟨_, R_tuple0⟩
  | cons x r =>
    cases r with
    | nil => exact ⟨_, R_tuple1 x⟩
    | cons y r => exact ⟨_, R_tuple2 x y r⟩
theorem cut {a b : Nat} {l l' r r' : List Nat} (h : (a :: l) ++ r = (b :: l') ++ r') : l ++ r = l' ++ r' := (List.cons.inj h).2
mutual
theorem R_inj : ∀ (d e : PyData), clean d = true → clean e = true → ∀ (r1 r2 : List Nat), Ends r1 → Ends r2 → R d ++ r1 = R e ++ r2 → d = e ∧ r1 = r2
  | .none, e, _, he, r1, r2, _, _, h => by
    rw [R_none] at h
    cases e with
    | none =>
      rw [R_none] at h
      exact ⟨rfl, List.append_cancel_left h⟩
    | int j =>
      rw [R_int] at h
      obtain ⟨c, r, e1, e2⟩ := iw_cons j
      rw [e1] at h
      injection h with h1 h2
      omega
    | str y =>
      rw [R_str (by simpa [clean] using he)] at h
      injection h with h1 h2
      omega
    | tuple ys =>
      obtain ⟨r, e1⟩ := R_tuple_head ys
      rw [e1] at h
      injection h with h1 h2
      omega
    | bool b => simp [clean] at he
    | list xs => simp [clean] at he
    | dict xs => simp [clean] at he
  | .int i, e, _, he, r1, r2, x1, x2, h => by
    rw [R_int] at h
    cases e with
    | none =>
      rw [R_none] at h
      obtain ⟨c, r, e1, e2⟩ := iw_cons i
      rw [e1] at h
      injection h with h1 h2
      omega
    | int j =>
      rw [R_int] at h
      obtain ⟨a, b⟩ := span_eq (p := fun c => c = 45 ∨ (48 ≤ c ∧ c ≤ 57)) (iw_signs i) (iw_signs j) (fun c s q => by rcases x1.ne q with z | z <;> omega) (fun c s q => by rcases x2.ne q with z | z <;> omega) h
      exact ⟨by rw [iw_inj a], b⟩
    | str y =>
      rw [R_str (by simpa [clean] using he)] at h
      obtain ⟨c, r, e1, e2⟩ := iw_cons i
      rw [e1] at h
      injection h with h1 h2
      omega
    | tuple ys =>
      obtain ⟨r', e3⟩ := R_tuple_head ys
      rw [e3] at h
      obtain ⟨c, r, e1, e2⟩ := iw_cons i
      rw [e1] at h
      injection h with h1 h2
      omega
    | bool b => simp [clean] at he
    | list xs => simp [clean] at he
    | dict xs => simp [clean] at he
  | .str x, e, hd, he, r1, r2, x1, x2, h => by
    have hx : cleanS x = true := by simpa [clean] using hd
    rw [R_str hx] at h
    cases e with
    | none =>
      rw [R_none] at h
      injection h with h1 h2
      omega
    | int j =>
      rw [R_int] at h
      obtain ⟨c, r, e1, e2⟩ := iw_cons j
      rw [e1] at h
      injection h with h1 h2
      omega
    | str y =>
      have hy : cleanS y = true := by simpa [clean] using he
      rw [R_str hy] at h
      replace h := cut h
      rw [List.append_assoc, List.append_assoc] at h
      obtain ⟨a, b⟩ := span_eq (p := fun c => c ≠ 39) (fun c hc => by have := cleanS_mem hx hc; omega) (fun c hc => by have := cleanS_mem hy hc; omega) (fun c s q => by injection q with q1 q2; omega) (fun c s q => by injection q with q1 q2; omega) h
      injection b with _ b
      exact ⟨by rw [ext_tl a], b⟩
    | tuple ys =>
      obtain ⟨r', e3⟩ := R_tuple_head ys
      rw [e3] at h
      injection h with h1 h2
      omega
    | bool b => simp [clean] at he
    | list xs => simp [clean] at he
    | dict xs => simp [clean] at he
  | .tuple xs, e, hd, he, r1, r2, x1, x2, h => by
    have hx : cleanAll xs = true := by simpa [clean] using hd
    cases e with
    | none =>
      obtain ⟨r', e3⟩ := R_tuple_head xs
      rw [R_none, e3] at h
      injection h with h1 h2
      omega
    | int j =>
      obtain ⟨r', e3⟩ := R_tuple_head xs
      rw [R_int, e3] at h
      obtain ⟨c, r, e1, e2⟩ := iw_cons j
      rw [e1] at h
      injection h with h1 h2
      omega
    | str y =>
      obtain ⟨r', e3⟩ := R_tuple_head xs
      rw [R_str (by simpa [clean] using he), e3] at h
      injection h with h1 h2
      omega
    | tuple ys =>
      have hy : cleanAll ys = true := by simpa [clean] using he
      obtain ⟨a, b⟩ := U_inj xs ys hx hy r1 r2 x1 x2 h
      exact ⟨by rw [a], b⟩
    | bool b => simp [clean] at he
    | list xs => simp [clean] at he
    | dict xs => simp [clean] at he
  | .bool b, _, h, _, _, _, _, _, _ => by simp [clean] at h
  | .list xs, _, h, _, _, _, _, _, _ => by simp [clean] at h
  | .dict xs, _, h, _, _, _, _, _, _ => by simp [clean] at h
theorem U_inj : ∀ (xs ys : List PyData), cleanAll xs = true → cleanAll ys = true → ∀ (r1 r2 : List Nat), Ends r1 → Ends r2 → R (.tuple xs) ++ r1 = R (.tuple ys) ++ r2 → xs = ys ∧ r1 = r2
  | [], ys, _, hy, r1, r2, x1, x2, h => by
    rw [R_tuple0] at h
    have noc : ∀ (y : PyData) (t : List Nat), clean y = true → R y ++ t ≠ 41 :: r1 := fun y t hc q => by
      cases y with
      | none => rw [R_none] at q; injection q with q1 q2; omega
      | int j =>
        obtain ⟨c, r, e1, e2⟩ := iw_cons j
        rw [R_int, e1] at q
        injection q with q1 q2
        omega
      | str z => rw [R_str (by simpa [clean] using hc)] at q; injection q with q1 q2; omega
      | tuple zs =>
        obtain ⟨r', e3⟩ := R_tuple_head zs
        rw [e3] at q; injection q with q1 q2; omega
      | bool b => simp [clean] at hc
      | list xs => simp [clean] at hc
      | dict xs => simp [clean] at hc
    match ys with
    | [] =>
      rw [R_tuple0] at h
      exact ⟨rfl, List.append_cancel_left h⟩
    | [y] =>
      rw [R_tuple1] at h
      replace h := cut h
      rw [List.append_assoc] at h
      exact absurd h.symm (noc y _ (by simpa [cleanAll] using hy))
    | y :: y2 :: r =>
      rw [R_tuple2] at h
      replace h := cut h
      rw [List.append_assoc] at h
      have : clean y = true := by
        simp only [cleanAll, Bool.and_eq_true] at hy
        exact hy.1
      exact absurd h.symm (noc y _ this)
  | [x], ys, hx, hy, r1, r2, x1, x2, h => by
    have cx : clean x = true := by simpa [cleanAll] using hx
    rw [R_tuple1] at h
    match ys with
    | [] =>
      rw [R_tuple0] at h
      replace h := cut h
      rw [List.append_assoc] at h
      exfalso
      cases x with
      | none => rw [R_none] at h; injection h with q1 q2; omega
      | int j =>
        obtain ⟨c, r, e1, e2⟩ := iw_cons j
        rw [R_int, e1] at h
        injection h with q1 q2
        omega
      | str z => rw [R_str (by simpa [clean] using cx)] at h; injection h with q1 q2; omega
      | tuple zs =>
        obtain ⟨r', e3⟩ := R_tuple_head zs
        rw [e3] at h; injection h with q1 q2; omega
      | bool b => simp [clean] at cx
      | list xs => simp [clean] at cx
      | dict xs => simp [clean] at cx
    | [y] =>
      rw [R_tuple1] at h
      replace h := cut h
      rw [List.append_assoc, List.append_assoc] at h
      obtain ⟨a, b⟩ := R_inj x y cx (by simpa [cleanAll] using hy) _ _ (.inr ⟨_, .inl rfl⟩) (.inr ⟨_, .inl rfl⟩) h
      exact ⟨by rw [a], (List.cons.inj (List.cons.inj b).2).2⟩
    | y :: y2 :: r =>
      rw [R_tuple2] at h
      replace h := cut h
      rw [List.append_assoc, List.append_assoc] at h
      have cy : clean y = true := by
        simp only [cleanAll, Bool.and_eq_true] at hy
        exact hy.1
      obtain ⟨a, b⟩ := R_inj x y cx cy _ _ (.inr ⟨_, .inl rfl⟩) (Tt_ends _ _) h
      exfalso
      have b' : 44 :: 41 :: r1 = 44 :: 32 :: (R y2 ++ Tt r ++ r2) := b
      injection b' with _ b'
      injection b' with b' _
      omega
  | x :: x2' :: xs, ys, hx, hy, r1, r2, x1, x2, h => by
    have cx : clean x = true ∧ cleanAll (x2' :: xs) = true := by
      rw [cleanAll, Bool.and_eq_true] at hx
      exact hx
    rw [R_tuple2] at h
    match ys with
    | [] =>
      rw [R_tuple0] at h
      replace h := cut h
      rw [List.append_assoc] at h
      exfalso
      have cx := cx.1
      cases x with
      | none => rw [R_none] at h; injection h with q1 q2; omega
      | int j =>
        obtain ⟨c, r, e1, e2⟩ := iw_cons j
        rw [R_int, e1] at h
        injection h with q1 q2
        omega
      | str z => rw [R_str (by simpa [clean] using cx)] at h; injection h with q1 q2; omega
      | tuple zs =>
        obtain ⟨r', e3⟩ := R_tuple_head zs
        rw [e3] at h; injection h with q1 q2; omega
      | bool b => simp [clean] at cx
      | list xs => simp [clean] at cx
      | dict xs => simp [clean] at cx
    | [y] =>
      rw [R_tuple1] at h
      replace h := cut h
      rw [List.append_assoc, List.append_assoc] at h
      obtain ⟨a, b⟩ := R_inj x y cx.1 (by simpa [cleanAll] using hy) _ _ (Tt_ends _ _) (.inr ⟨_, .inl rfl⟩) h
      exfalso
      have b' : 44 :: 32 :: (R x2' ++ Tt xs ++ r1) = 44 :: 41 :: r2 := b
      injection b' with _ b'
      injection b' with b' _
      omega
    | y :: y2 :: r =>
      rw [R_tuple2] at h
      replace h := cut h
      rw [List.append_assoc, List.append_assoc] at h
      have cy : clean y = true ∧ cleanAll (y2 :: r) = true := by
        rw [cleanAll, Bool.and_eq_true] at hy
        exact hy
      obtain ⟨a, b⟩ := R_inj x y cx.1 cy.1 _ _ (Tt_ends _ _) (Tt_ends _ _) h
      obtain ⟨a2, b2⟩ := T_inj (x2' :: xs) (y2 :: r) cx.2 cy.2 r1 r2 b
      exact ⟨by rw [a, a2], b2⟩
theorem T_inj : ∀ (xs ys : List PyData), cleanAll xs = true → cleanAll ys = true → ∀ (r1 r2 : List Nat), Tt xs ++ r1 = Tt ys ++ r2 → xs = ys ∧ r1 = r2
  | [], ys, _, _, r1, r2, h => by
    match ys with
    | [] => exact ⟨rfl, List.append_cancel_left h⟩
    | y :: ys =>
      have h' : 41 :: r1 = 44 :: 32 :: (R y ++ Tt ys ++ r2) := h
      injection h' with h' _
      omega
  | x :: xs, ys, hx, hy, r1, r2, h => by
    have cx : clean x = true ∧ cleanAll xs = true := by
      rw [cleanAll, Bool.and_eq_true] at hx
      exact hx
    match ys with
    | [] =>
      have h' : 44 :: 32 :: (R x ++ Tt xs ++ r1) = 41 :: r2 := h
      injection h' with h' _
      omega
    | y :: ys =>
      have cy : clean y = true ∧ cleanAll ys = true := by
        rw [cleanAll, Bool.and_eq_true] at hy
        exact hy
      have h' : 44 :: 32 :: (R x ++ Tt xs ++ r1) = 44 :: 32 :: (R y ++ Tt ys ++ r2) := h
      injection h' with _ h'
      injection h' with _ h'
      rw [List.append_assoc, List.append_assoc] at h'
      obtain ⟨a, b⟩ := R_inj x y cx.1 cy.1 _ _ (Tt_ends _ _) (Tt_ends _ _) h'
      obtain ⟨a2, b2⟩ := T_inj xs ys cx.2 cy.2 r1 r2 b
      exact ⟨by rw [a, a2], b2⟩
end
theorem name_clean {z : Str} (h : isName z = true) : cleanS z = true := by
  unfold cleanS
  refine List.all_eq_true.mpr fun c hc => ?_
  have := nameL_mem (isName_iff.mp h).2.2 hc
  simp only [Bool.and_eq_true, decide_eq_true_eq]
  exact ⟨⟨by omega, by omega⟩, by omega⟩
theorem pstrs_clean : ∀ {p : List Str}, (∀ x ∈ p, isName x = true) → cleanAll (pstrs p) = true
  | [], _ => rfl
  | a :: p, h => by
    show cleanAll (PyData.str a :: pstrs p) = true
    rw [cleanAll, pstrs_clean fun x hx => h x (List.mem_cons_of_mem _ hx), Bool.and_true, clean]
    exact name_clean (h a (by simp))
theorem data_clean : ∀ (e : Ex), e.Wf → clean e.data = true := by
  intro e
  induction e with
  | int i => intro _; rfl
  | non => intro _; rfl
  | self => intro _; decide +kernel
  | get p d =>
    intro h
    simp only [Ex.data, clean, cleanAll, Bool.and_true]
    rw [pstrs_clean h.1.2, Bool.and_true]
    decide +kernel
  | isnone p =>
    intro h
    simp only [Ex.data, clean, cleanAll, Bool.and_true]
    rw [pstrs_clean h.2, Bool.and_true]
    decide +kernel
  | to p =>
    intro h
    simp only [Ex.data, clean, cleanAll, Bool.and_true]
    rw [pstrs_clean h.2, Bool.and_true]
    decide +kernel
  | sum a b c =>
    intro h
    simp only [Ex.data, clean, cleanAll, Bool.and_true]
    rw [name_clean h.1, name_clean h.2.1, name_clean h.2.2]
    decide +kernel
  | not c ih =>
    intro h
    simp only [Ex.data, clean, cleanAll, Bool.and_true]
    rw [ih h, Bool.and_true]
    decide +kernel
  | bin o a b iha ihb =>
    intro h
    simp only [Ex.data, clean, cleanAll, Bool.and_true]
    rw [iha h.1, ihb h.2, Bool.and_true]
    cases o <;> decide +kernel
  | cond c a b ihc iha ihb =>
    intro h
    simp only [Ex.data, clean, cleanAll, Bool.and_true]
    rw [ihc h.1, iha h.2.1, ihb h.2.2, Bool.and_true]
    decide +kernel
/-- DIFFERENT EXPRESSIONS: their texts are equal exactly if they are shown alike -/
theorem txt_shown {d : Due} {e f : Ex} (ge : Good d e) (gf : Good d f) : e.txt = f.txt ↔ PyData.shown e.data = PyData.shown f.data := by
  constructor
  · intro h
    have h1 := ge.back
    rw [h, gf.back] at h1
    injection h1 with h1
    rw [h1]
  · intro h
    have h1 : R e.data ++ [] = R f.data ++ [] := by show tl _ ++ [] = tl _ ++ []; rw [h]
    have h2 := (R_inj e.data f.data (data_clean e ge.wf) (data_clean f gf.wf) [] [] (.inl rfl) (.inl rfl) h1).1
    rw [data_inj e f h2]

/-! ### sizes -/
mutual
def sz : PyData → Nat
  | .none => 4
  | .bool _ => 5
  | .int i => (iw i).length
  | .str x => 10 * x.length + 2
  | .tuple xs => szAll xs + 3
  | .list xs => szAll xs + 3
  | .dict _ => 0
def szAll : List PyData → Nat
  | [] => 0
  | x :: xs => sz x + 2 + szAll xs
end
/-! plain data: none, ints within 60 digits, texts of signs, tuples -/
mutual
def plain : PyData → Prop
  | .none => True
  | .int i => okInt i
  | .str x => ∀ c ∈ tl x, c < 1114112
  | .tuple xs => plainAll xs
  | _ => False
def plainAll : List PyData → Prop
  | [] => True
  | x :: xs => plain x ∧ plainAll xs
end
theorem T_len (l : List (List Nat)) : (joinL [44, 32] l).length ≤ (l.map List.length).sum + 2 * l.length := by
  match l with
  | [] => simp [joinL]
  | [p] => simp [joinL]
  | p :: q :: r =>
    have := T_len (q :: r)
    simp only [List.map_cons, List.sum_cons, List.length_cons] at this ⊢
    rw [joinL, List.length_append, List.length_append, List.length_cons, List.length_cons, List.length_nil]
    omega
mutual
theorem sz_le : ∀ d : PyData, plain d → (PyData.shown d).length ≤ sz d
  | .none, _ => by simp only [PyData.shown, sz]; decide +kernel
  | .int i, _ => by simp only [PyData.shown, sz]; exact Nat.le_refl _
  | .str x, h => by
    simp only [PyData.shown, sz]
    exact StrLaws.reprText_len x fun c hc => Nat.lt_of_lt_of_le (show c < 1114112 by simp only [plain] at h; exact h c hc) (by decide)
  | .tuple xs, h => by
    have h' : plainAll xs := by simpa only [plain] using h
    have := szAll_le xs h'
    simp only [PyData.shown, sz]
    rw [len_tl]
    unfold tupleText
    rw [tl_append, tl_append, tl_lit1, tl_join, tl_lit4, List.length_append, List.length_append]
    have h1 := T_len ((PyData.shownAll xs).map tl)
    have h2 : (tl (((if ((PyData.shownAll xs).length == 1) = true then ",)" else ")") : String) : Str)).length ≤ 2 := by
      split
      · rw [tl_lit2]; decide
      · rw [tl_lit3]; decide
    have h3 : (((PyData.shownAll xs).map tl).map List.length).sum + 2 * ((PyData.shownAll xs).map tl).length ≤ szAll xs := this
    simp only [List.length_cons, List.length_nil]
    omega
  | .bool _, h => by simp only [plain] at h
  | .list _, h => by simp only [plain] at h
  | .dict _, h => by simp only [plain] at h
theorem szAll_le : ∀ xs : List PyData, plainAll xs → (((PyData.shownAll xs).map tl).map List.length).sum + 2 * ((PyData.shownAll xs).map tl).length ≤ szAll xs
  | [], _ => by simp [PyData.shownAll, szAll]
  | x :: xs, h => by
    have h' : plain x ∧ plainAll xs := by simpa only [plainAll] using h
    have h1 := sz_le x h'.1
    have h2 := szAll_le xs h'.2
    rw [len_tl] at h1
    simp only [PyData.shownAll, szAll, List.map_cons, List.sum_cons, List.length_cons]
    omega
end
theorem okInt_log {i : Int} (h : okInt i) : i.natAbs.log2 < 1920 := by
  by_cases h0 : i.natAbs = 0
  · rw [h0]; decide
  · refine (Nat.log2_lt h0).mpr (Nat.lt_of_lt_of_le h ?_)
    exact Nat.le_trans (show 10 ^ 60 ≤ 2 ^ 200 by decide +kernel) (Nat.pow_le_pow_right (by decide) (by decide))
mutual
theorem plain_show : ∀ d : PyData, plain d → d.showable = true
  | .none, _ => by simp only [PyData.showable]
  | .int i, h => by simp only [PyData.showable, decide_eq_true_eq]; exact okInt_log (by simpa only [plain] using h)
  | .str x, _ => by simp only [PyData.showable]
  | .tuple xs, h => by simp only [PyData.showable]; exact plainAll_show xs (by simpa only [plain] using h)
  | .bool _, h => by simp only [plain] at h
  | .list _, h => by simp only [plain] at h
  | .dict _, h => by simp only [plain] at h
theorem plainAll_show : ∀ xs : List PyData, plainAll xs → PyData.showableAll xs = true
  | [], _ => by simp only [PyData.showableAll]
  | x :: xs, h => by
    have h' : plain x ∧ plainAll xs := by simpa only [plainAll] using h
    simp only [PyData.showableAll, Bool.and_eq_true]
    exact ⟨plain_show x h'.1, plainAll_show xs h'.2⟩
end
mutual
theorem plain_noDict : ∀ d : PyData, plain d → d.hasDict = false
  | .none, _ => by simp only [PyData.hasDict]
  | .int i, h => by simp only [PyData.hasDict]
  | .str x, _ => by simp only [PyData.hasDict]
  | .tuple xs, h => by simp only [PyData.hasDict]; exact plainAll_noDict xs (by simpa only [plain] using h)
  | .bool _, h => by simp only [plain] at h
  | .list _, h => by simp only [plain] at h
  | .dict _, h => by simp only [plain] at h
theorem plainAll_noDict : ∀ xs : List PyData, plainAll xs → PyData.hasDictAll xs = false
  | [], _ => by simp only [PyData.hasDictAll]
  | x :: xs, h => by
    have h' : plain x ∧ plainAll xs := by simpa only [plainAll] using h
    simp only [PyData.hasDictAll, Bool.or_eq_false_iff]
    exact ⟨plain_noDict x h'.1, plainAll_noDict xs h'.2⟩
end
def m1 (l : List Str) : Nat := (l.map fun w => w.length + 1).sum
def Ex.m (e : Ex) : Nat := m1 e.ws
theorem m1_app (a b : List Str) : m1 (a ++ b) = m1 a + m1 b := by unfold m1; simp
theorem m1_cons (a : Str) (b : List Str) : m1 (a :: b) = a.length + 1 + m1 b := by unfold m1; simp
theorem m1_nil : m1 [] = 0 := rfl
theorem join_len1 (y : Str) (hy : y.length = 1) : ∀ (l : List Str), l ≠ [] → (Txt.join y l).length + 1 = m1 l
  | [], h => absurd rfl h
  | [x], _ => by rw [join_eq]; simp [m1, Str.join]
  | x :: z :: r, _ => by
    have := join_len1 y hy (z :: r) (by simp)
    rw [join_eq] at this ⊢
    rw [len_tl] at this ⊢
    show (tl (x ++ y ++ Str.join y (z :: r))).length + 1 = _
    rw [tl_append, tl_append, List.length_append, List.length_append, m1_cons, ← this]
    have h1 := len_tl x
    have h2 := len_tl y
    omega
theorem spc_len : spc.length = 1 := by decide +kernel
theorem txt_len (e : Ex) : e.txt.length + 1 = e.m := join_len1 spc spc_len e.ws (ws_ne e)
theorem path_sz (p : List Str) (h : p ≠ []) : szAll (pstrs p) ≤ 10 * ((pathW p).length + 1) := by
  have h1 := join_len1 dot (by decide +kernel) p h
  have key : ∀ p : List Str, szAll (pstrs p) ≤ 10 * m1 p := by
    intro p
    induction p with
    | nil => simp [pstrs, szAll]
    | cons a p ih =>
      have : szAll (pstrs (a :: p)) = 10 * a.length + 2 + 2 + szAll (pstrs p) := rfl
      rw [this, m1_cons]
      omega
  have := key p
  unfold pathW
  omega
theorem data_sz : ∀ e : Ex, e.Wf → sz e.data ≤ 20 * e.m := by
  intro e
  unfold Ex.m
  induction e with
  | int i => intro _; simp only [Ex.data, Ex.ws, sz, m1_cons, m1_nil]; omega
  | non => intro _; simp only [Ex.data, Ex.ws, sz, m1_cons, m1_nil]; omega
  | self => intro _; simp only [Ex.data, Ex.ws, sz, szAll, m1_cons, m1_nil]; omega
  | get p d =>
    intro h
    have := path_sz p h.1.1
    have e1 : ("get" : Str).length = 3 := by decide +kernel
    simp only [Ex.data, Ex.ws, sz, szAll, m1_cons, m1_nil, e1]; omega
  | isnone p =>
    intro h
    have := path_sz p h.1
    have e1 : ("none" : Str).length = 4 := by decide +kernel
    simp only [Ex.data, Ex.ws, sz, szAll, m1_cons, m1_nil, e1]; omega
  | to p =>
    intro h
    have := path_sz p h.1
    have e1 : ("to" : Str).length = 2 := by decide +kernel
    simp only [Ex.data, Ex.ws, sz, szAll, m1_cons, m1_nil, e1]; omega
  | sum a b c => intro _; simp only [Ex.data, Ex.ws, sz, szAll, m1_cons, m1_nil]; omega
  | not c ih =>
    intro h
    have := ih h
    simp only [Ex.data, Ex.ws, sz, szAll, m1_cons, m1_nil]; omega
  | bin o a b iha ihb =>
    intro h
    have h1 := iha h.1
    have h2 := ihb h.2
    simp only [Ex.data, Ex.ws, sz, szAll, m1_cons, m1_app, m1_nil]; omega
  | cond c a b ihc iha ihb =>
    intro h
    have h0 := ihc h.1
    have h1 := iha h.2.1
    have h2 := ihb h.2.2
    have e1 : ("if" : Str).length = 2 := by decide +kernel
    simp only [Ex.data, Ex.ws, sz, szAll, m1_cons, m1_app, m1_nil, e1]; omega
theorem name_plain {z : Str} (h : isName z = true) : plain (.str z) := by
  simp only [plain]
  intro c hc
  have := nameL_mem (isName_iff.mp h).2.2 hc
  omega
theorem pstrs_plain : ∀ {p : List Str}, (∀ x ∈ p, isName x = true) → plainAll (pstrs p)
  | [], _ => by show plainAll []; simp only [plainAll]
  | a :: p, h => by
    show plainAll (PyData.str a :: pstrs p)
    simp only [plainAll]
    exact ⟨name_plain (h a (by simp)), pstrs_plain fun x hx => h x (List.mem_cons_of_mem _ hx)⟩
theorem lit_plain {z : Str} (h : (tl z).all (fun c => decide (c < 1114112)) = true) : plain (.str z) := by
  simp only [plain]
  intro c hc
  simpa using List.all_eq_true.mp h c hc
theorem data_plain : ∀ e : Ex, e.Wf → plain e.data := by
  intro e
  induction e with
  | int i => intro h; simp only [Ex.data, plain]; exact h
  | non => intro _; simp only [Ex.data, plain]
  | self => intro _; simp only [Ex.data, plain, plainAll, and_true]; exact lit_plain (by decide +kernel)
  | get p d =>
    intro h
    simp only [Ex.data, plain, plainAll, and_true]
    exact ⟨lit_plain (by decide +kernel), pstrs_plain h.1.2, h.2⟩
  | isnone p =>
    intro h
    simp only [Ex.data, plain, plainAll, and_true]
    exact ⟨lit_plain (by decide +kernel), pstrs_plain h.2⟩
  | to p =>
    intro h
    simp only [Ex.data, plain, plainAll, and_true]
    exact ⟨lit_plain (by decide +kernel), pstrs_plain h.2⟩
  | sum a b c =>
    intro h
    simp only [Ex.data, plain, plainAll, and_true]
    exact ⟨lit_plain (by decide +kernel), name_plain h.1, name_plain h.2.1, name_plain h.2.2⟩
  | not c ih =>
    intro h
    simp only [Ex.data, plain, plainAll, and_true]
    exact ⟨lit_plain (by decide +kernel), ih h⟩
  | bin o a b iha ihb =>
    intro h
    simp only [Ex.data, plain, plainAll, and_true]
    exact ⟨lit_plain (by cases o <;> decide +kernel), iha h.1, ihb h.2⟩
  | cond c a b ihc iha ihb =>
    intro h
    simp only [Ex.data, plain, plainAll, and_true]
    exact ⟨lit_plain (by decide +kernel), ihc h.1, iha h.2.1, ihb h.2.2⟩
end K12

set_option maxHeartbeats 4000000
/-! W0: the text by places, calls by bundles, heaps, comprehensions. -/
namespace K12
open PySem PySem.Spec PyProof.Rows L2 TL
set_option autoImplicit false

def top (i : Nat) : Stmt := PySem.Challenge.pw_lateforms_k12_whole_texts_there_and_back.main.body.getD i (.Pass ⟨0, 0, 0, 0⟩)

/-! ### a def by its name; a call by what is promised of the name -/
/-- the def st stands under the name x -/
def Hs (K : PySem.W.Frag) (mg : Str → Option Value) (x : Str) (st : Stmt) : Prop := ∃ f fd, Fun K x x st f fd ∧ mg x = some (.ref f)
/-- the name x holds a def that keeps sp -/
structure Cal (P : Program) (w : World) (K : PySem.W.Frag) (mg : Str → Option Value) (base : Heap) (CX : CXT) (k : Nat) (x : Str) (ps : List Str) (sp : Sp) : Prop where
  ex : ∃ f fd, FnOk P w K mg base CX k f fd ps sp ∧ mg x = some (.ref f) ∧ PySem.W.keepIn K (.ref f) = true ∧ Binds K fd ps []
section
variable {P : Program} {w : World} {K : PySem.W.Frag} {mg : Str → Option Value} {base : Heap}
theorem Hs.cal {x : Str} {st : Stmt} {N ps : List Str} {k : Nat} {sp : Sp} (h : Hs K mg x st) (S : FnScope N ps (defScope st)) (len : ∀ vs H Q E, sp vs H Q E → vs.length = ps.length)
    (hbind : ∀ (kV doc pm : Value) (an : Option Addr) (cdv ct : Value) (us : List Value), us.length = ps.length → bindArgs (PySem.W.fnOf x x (defArgs st) (defBody st) (defScope st) .none kV doc pm an cdv ct) ⟨us, []⟩ = pure (ps.zip us))
    (hbody : ∀ (f : Addr) (cdv : Value) (A : Around) (outer : List Env) (s : Shared) (H : Hp) (vs : List V) (Q : VK) (E : XK), Room k (A.deeper (envOfC x (defScope st) s.heap.objs.size f cdv)) → sp vs H Q E →
      ∃ t, PSs (cxOf CX0 P w K mg base N x (defScope st) f cdv A outer s H E).nox (defBody st) t ∧ t { nx := fun _ H' => Q .non H', rt := Q } (L2.start N vs) H) : Cal P w K mg base CX0 (k + 1) x ps sp := by
  obtain ⟨f, fd, F, m⟩ := h
  exact ⟨f, fd, F.ok S len (hbody f), m, F.kp, F.binds hbind⟩
theorem Hs.calX {x : Str} {st : Stmt} {N ps : List Str} {k : Nat} {sp : Sp} (h : Hs K mg x st) (S : FnScope N ps (defScope st)) (len : ∀ vs H Q E, sp vs H Q E → vs.length = ps.length)
    (hbind : ∀ (kV doc pm : Value) (an : Option Addr) (cdv ct : Value) (us : List Value), us.length = ps.length → bindArgs (PySem.W.fnOf x x (defArgs st) (defBody st) (defScope st) .none kV doc pm an cdv ct) ⟨us, []⟩ = pure (ps.zip us))
    (hbody : ∀ (f : Addr) (cdv : Value) (A : Around) (outer : List Env) (s : Shared) (H : Hp) (vs : List V) (Q : VK) (E : XK), Room k (A.deeper (envOfC x (defScope st) s.heap.objs.size f cdv)) → sp vs H Q E →
      ∃ t, PSs (cxOf (L2.CX P w) P w K mg base N x (defScope st) f cdv A outer s H E) (defBody st) t ∧ t { nx := fun _ H' => Q .non H', rt := Q } (L2.start N vs) H) : Cal P w K mg base (L2.CX P w) (k + 1) x ps sp := by
  obtain ⟨f, fd, F, m⟩ := h
  exact ⟨f, fd, F.okX S len (hbody f), m, F.kp, F.binds hbind⟩
theorem Cal.mono {CX : CXT} {j k : Nat} {x : Str} {ps : List Str} {sp : Sp} (h : Cal P w K mg base CX j x ps sp) (hjk : j ≤ k) : Cal P w K mg base CX k x ps sp := by
  obtain ⟨f, fd, F, r⟩ := h.ex
  exact ⟨f, fd, F.mono hjk, r⟩
theorem Cal.imp {CX : CXT} {k : Nat} {x : Str} {ps : List Str} {sp sp' : Sp} (h : Cal P w K mg base CX k x ps sp) (hi : ∀ vs H Q E, sp' vs H Q E → sp vs H Q E) : Cal P w K mg base CX k x ps sp' := by
  obtain ⟨f, fd, F, r⟩ := h.ex
  exact ⟨f, fd, F.imp hi, r⟩
end
/-- f(e, ..) -/
theorem pe_cal {X : Cx} {CX : CXT} {k : Nat} {x : Str} {ps : List Str} {sp : Sp} {E : XK} {p pos : Pos} {e : Expr} {es : List Expr} {t : TA} (C : Cal X.prog X.w X.K X.mg X.base CX k x ps sp) (hr : Room k X.A) (hg : Gl X x) (hx : Passes CX X E) (ha : PA X (e :: es) t)
    (hdb : (x == ("__debug__" : Str)) = false := by decide) (he : starEach (e :: es) X.env = (false, eval e X.env) :: starEach es X.env := by rfl) (hpl : (backTo pos (starEach es X.env)).any (·.1) = false := by rfl) :
    PE X (.Call (.Name x p) (e :: es) [] pos) (tCall sp [] E t) := by
  refine ⟨fun pins s σ H Q I h => ?_⟩
  obtain ⟨f, fd, F, m, kp, b⟩ := C.ex
  exact (pe_call F hr hg m kp b .nil hx ha hdb he hpl).run pins s σ H Q I h

/-- a module's text, number -/
theorem pe_gs {X : Cx} {x z : Str} {t : Tok} {pos : Pos} (hm : X.mg x = some (.str z t)) (hg : Gl X x := by rfl) (hd : (x == ("__debug__" : Str)) = false := by decide) : PE X (.Name x pos) (tC (.str z)) := pe_glob hg hm ⟨t, rfl⟩ hd
theorem pe_gi {X : Cx} {x : Str} {i : Int} {t : Tok} {pos : Pos} (hm : X.mg x = some (.int i t)) (hg : Gl X x := by rfl) (hd : (x == ("__debug__" : Str)) = false := by decide) : PE X (.Name x pos) (tC (.int i)) := pe_glob hg hm ⟨t, rfl⟩ hd

/-- subscripts whose reading names K (within a comprehension's block) -/
theorem pe_ixT {X : Cx} (K : PySem.W.Frag) (hK : X.K = K) {a b : Expr} {ta tb : TE} {pos : Pos} (ha : PE X a ta) (hb : PE X b tb) (hs : PlainIx b) : PE X (.Subscript a b pos) (tOp (rIxT K) ta tb) := by
  subst hK; exact pe_ix ix_tup ha hb hs
theorem pe_ixL {X : Cx} (K : PySem.W.Frag) (hK : X.K = K) {a b : Expr} {ta tb : TE} {pos : Pos} (ha : PE X a ta) (hb : PE X b tb) (hs : PlainIx b) : PE X (.Subscript a b pos) (tOp (rIxL K) ta tb) := by
  subst hK; exact pe_ix ix_list ha hb hs

/-! ### heaps -/
/-- kept: all but dicts -/
def Stb : HO → Bool
  | .dK _ => false
  | _ => true
def Kp (H H' : Hp) : Prop := ∀ b o, H b = some o → Stb o = true → H' b = some o
/-- kept: tuples and what is frozen -/
def Tk (H H' : Hp) : Prop := (∀ b xs, H b = some (.tup xs) → H' b = some (.tup xs)) ∧ ∀ b o u, H b = some (.frz o u) → H' b = some (.frz o u)
theorem Kp.refl (H : Hp) : Kp H H := fun _ _ h _ => h
theorem Kp.trans {H H1 H2 : Hp} (a : Kp H H1) (b : Kp H1 H2) : Kp H H2 := fun c o h s => b c o (a c o h s) s
theorem Tk.refl (H : Hp) : Tk H H := ⟨fun _ _ h => h, fun _ _ _ h => h⟩
theorem Tk.trans {H H1 H2 : Hp} (a : Tk H H1) (b : Tk H1 H2) : Tk H H2 := ⟨fun c o h => b.1 c o (a.1 c o h), fun c o u h => b.2 c o u (a.2 c o u h)⟩
theorem Kp.tk {H H' : Hp} (k : Kp H H') : Tk H H' := ⟨fun b xs h => k b _ h rfl, fun b o u h => k b _ h rfl⟩
theorem kp_of {H H' : Hp} (k : Same H H') : Kp H H' := fun b o h _ => k b o h
theorem tk_of {H H' : Hp} (k : Same H H') : Tk H H' := (kp_of k).tk
theorem same_new {H : Hp} {p : Addr} {o : HO} (h : H p = none) : Same H (upd H p o) := fun b u e => by rw [upd_ne (ne_of_none e h)]; exact e
theorem same_mut {H H' : Hp} {p : Addr} {o : HO} (e : Same H H') (h : H p = none) : Same H (upd H' p o) := fun b u ha => by rw [upd_ne (ne_of_none ha h)]; exact e b u ha
theorem kp_new {H : Hp} {p : Addr} {o : HO} (h : H p = none) : Kp H (upd H p o) := kp_of (same_new h)
theorem kp_mut {H H' : Hp} {p : Addr} {o : HO} (e : Kp H H') (h : H p = none) : Kp H (upd H' p o) := fun b u ha hs => by rw [upd_ne (ne_of_none ha h)]; exact e b u ha hs
/-- a dict is written -/
theorem kp_dict {H H' : Hp} {p : Addr} {kvs : List (Key × V)} {o : HO} (e : Kp H H') (h : H p = some (.dK kvs)) : Kp H (upd H' p o) := fun b u ha hs => by
  have hb : b ≠ p := fun z => by
    rw [z, h] at ha
    cases ha
    cases hs
  rw [upd_ne hb]
  exact e b u ha hs
theorem tk_mut {H H' : Hp} {p : Addr} {o u : HO} (e : Tk H H') (h : H' p = some u) (h1 : ∀ xs, u ≠ .tup xs) (h2 : ∀ ob v, u ≠ .frz ob v) : Tk H (upd H' p o) :=
  ⟨fun b xs ha => by
    have := e.1 b xs ha
    rw [upd_ne fun z => by rw [z, h] at this; exact h1 xs (Option.some.inj this)]
    exact this, fun b ob v ha => by
    have := e.2 b ob v ha
    rw [upd_ne fun z => by rw [z, h] at this; exact h2 ob v (Option.some.inj this)]
    exact this⟩
theorem tk_new {H H' : Hp} {p : Addr} {o : HO} (e : Tk H H') (h : H' p = none) : Tk H (upd H' p o) := e.trans (tk_of (same_new h))
theorem free_same {H H' : Hp} {p : Addr} (e : Same H H') (h : H' p = none) : H p = none := e.free h
theorem free_kp {H H' : Hp} {p : Addr} (e : Kp H H') (h : H' p = none) {o : HO} (ho : H p = some o) : Stb o = false := by
  cases hs : Stb o with
  | false => rfl
  | true => rw [e p o ho hs] at h; cases h
theorem tk_rd {H H' : Hp} {a : Addr} {xs : List V} (e : Tk H H') (h : Rd H a (.tup xs)) : Rd H' a (.tup xs) := by
  rcases h with h | ⟨o, h⟩
  · exact .inl (e.1 _ _ h)
  · exact .inr ⟨o, e.2 _ _ _ h⟩
theorem tk_t {K : PySem.W.Frag} {H H' : Hp} {a : Addr} {xs : List V} (e : Tk H H') (h : SqT K H a xs) : SqT K H' a xs := by
  rcases h with h | h
  · exact .inl (tk_rd e h)
  · exact .inr h
theorem kp_l {K : PySem.W.Frag} {H H' : Hp} {a : Addr} {xs : List V} (e : Kp H H') (h : SqL K H a xs) : SqL K H' a xs := by
  rcases h with (h | ⟨o, h⟩) | h
  · exact .inl (.inl (e _ _ h rfl))
  · exact .inl (.inr ⟨o, e _ _ h rfl⟩)
  · exact .inr h
theorem sq_l {K : PySem.W.Frag} {H : Hp} {a : Addr} {xs : List V} (h : H a = some (.lst xs)) : SqL K H a xs := .inl (.inl h)
theorem sq_t {K : PySem.W.Frag} {H : Hp} {a : Addr} {xs : List V} (h : H a = some (.tup xs)) : SqT K H a xs := .inl (.inl h)
mutual
theorem Dp.tk {K : PySem.W.Frag} {H H' : Hp} (e : Tk H H') : ∀ (d : PyData) (v : V), plain d → Dp K H v d → Dp K H' v d
  | .none, _, _, h => by cases h; exact .non
  | .bool _, _, p, _ => by simp only [plain] at p
  | .int _, _, _, h => by cases h; exact .int _
  | .str _, _, _, h => by cases h; exact .str _
  | .list _, _, p, _ => by simp only [plain] at p
  | .tuple ds, _, p, h => by
    cases h with
    | tup hs ha => exact .tup (tk_t e hs) (Dp.tkAll e ds _ (by simpa only [plain] using p) ha)
  | .dict _, _, p, _ => by simp only [plain] at p
theorem Dp.tkAll {K : PySem.W.Frag} {H H' : Hp} (e : Tk H H') : ∀ (ds : List PyData) (vs : List V), plainAll ds → DpAll K H vs ds → DpAll K H' vs ds
  | [], _, _, h => by cases h; exact .nil
  | d :: ds, _, p, h => by
    have p' : plain d ∧ plainAll ds := by simpa only [plainAll] using p
    cases h with
    | cons h1 h2 => exact .cons (Dp.tk e d _ p'.1 h1) (Dp.tkAll e ds _ p'.2 h2)
end
theorem small100 {n : Nat} (h : n ≤ 100000) : n ≤ sizeLine := Nat.le_trans h (by decide)
theorem small100' {n : Nat} (h : n < 100000) : n < sizeLine := Nat.lt_of_lt_of_le h (by decide)

/-! ### a comprehension without a test: one value a turn -/
theorem lc_all {J : It} {n : Nat} {G : Hp → Prop} {Y : Nat → Hp → V → Hp → Prop} (wk : Walk J n G Y) (hn : n ≤ 100000) {g : TG} {te : TE} {vs : List Nat} {σ : L2.St} {H1 : Hp} {D : Addr} {Qd : Hp → Prop} (R : Hp → Prop) (P : Nat → V → Hp → Prop)
    (h0 : R (upd H1 D (.lst []))) (hG : ∀ H, R H → G H) (hR : ∀ H zs, R H → (∃ ys, H D = some (.lst ys)) → R (upd H D (.lst zs))) (hP : ∀ i y H H', P i y H → Tk H H' → P i y H')
    (turn : ∀ i x H H' (Q : VK), i < n → R H → (∃ ys, H D = some (.lst ys) ∧ ys.length = i) → Y i H x H' → (∀ y H4, Kp H H4 → R H4 → P i y H4 → Q y H4) → g x (wipe σ vs) H' fun σ2 H2 => wipe σ2 vs = wipe σ vs ∧ te σ2 H2 Q)
    (hd : ∀ ys H, ys.length = n → H D = some (.lst ys) → R H → (∀ i y, ys[i]? = some y → P i y H) → Qd H) :
    ∃ W : Nat → Nat → Hp → Prop, (∃ m, W 0 m (upd H1 D (.lst []))) ∧ ∀ i m H, W i m H →
      (J.stop i H ∧ Qd H) ∨ (J.go i H ∧ ∃ Nx : Hp → Prop, (∀ H', Nx H' → ∃ m', m' < m ∧ W (i + 1) m' H') ∧ ∀ x H', J.yld i H x H' → g x (wipe σ vs) H' fun σ2 H2 => wipe σ2 vs = wipe σ vs ∧ tYes σ2 H2 fun b H3 =>
        if b = true then te σ2 H3 fun y H4 => ∃ acc, H4 D = some (.lst acc) ∧ acc.length < sizeLine ∧ Nx (upd H4 D (.lst (acc ++ [y]))) else Nx H3) := by
  refine lc_it wk (fun i H => R H ∧ ∃ ys, H D = some (.lst ys) ∧ ys.length = i ∧ ∀ j y, ys[j]? = some y → P j y H) ⟨h0, [], upd_same, rfl, fun j y e => by simp at e⟩ (fun i H _ p => hG H p.1) ?_ ?_
  · rintro i x H H' hi ⟨r, ys, hy, hl, hp⟩ y
    refine turn i x H H' _ hi r ⟨ys, hy, hl⟩ y fun v H4 k r4 p4 => ?_
    have hy4 := k D _ hy rfl
    have tk : Tk H4 (upd H4 D (.lst (ys ++ [v]))) := tk_mut (Tk.refl _) hy4 (fun _ z => by cases z) (fun _ _ z => by cases z)
    refine ⟨ys, hy4, small100' (by omega), hR _ _ r4 ⟨_, hy4⟩, ys ++ [v], upd_same, by rw [List.length_append, List.length_singleton, hl], fun j z e => ?_⟩
    rcases Nat.lt_or_ge j ys.length with hj | hj
    · rw [List.getElem?_append_left hj] at e
      exact hP _ _ _ _ (hP _ _ _ _ (hp j z e) k.tk) tk
    · rw [List.getElem?_append_right hj] at e
      have ej : j - ys.length = 0 := by
        have := (List.getElem?_eq_some_iff.mp e).1
        rw [List.length_singleton] at this
        omega
      rw [ej] at e
      have ez : v = z := by simpa using e
      have : j = i := by omega
      rw [this, ← ez]
      exact hP _ _ _ _ p4 tk
  · rintro H ⟨r, ys, hy, hl, hp⟩
    exact hd ys H hl hy r hp
/-- the same where the value of each turn is told (nothing else happens): the list of these -/
theorem lc_map {J : It} {n : Nat} {G : Hp → Prop} {Y : Nat → Hp → V → Hp → Prop} (wk : Walk J n G Y) (hn : n ≤ 100000) {g : TG} {te : TE} {vs : List Nat} {σ : L2.St} {H1 : Hp} {D : Addr} {Qd : Hp → Prop} (zs : List V) (hz : zs.length = n) (hD : H1 D = none)
    (hG : ∀ H, Same H1 H → G H)
    (turn : ∀ i x H H' (Q : VK), i < n → Same H1 H → Y i H x H' → (∀ y H4, zs[i]? = some y → Same H H4 → Q y H4) → g x (wipe σ vs) H' fun σ2 H2 => wipe σ2 vs = wipe σ vs ∧ te σ2 H2 Q)
    (hd : ∀ H, H D = some (.lst zs) → Same H1 H → Qd H) :
    ∃ W : Nat → Nat → Hp → Prop, (∃ m, W 0 m (upd H1 D (.lst []))) ∧ ∀ i m H, W i m H →
      (J.stop i H ∧ Qd H) ∨ (J.go i H ∧ ∃ Nx : Hp → Prop, (∀ H', Nx H' → ∃ m', m' < m ∧ W (i + 1) m' H') ∧ ∀ x H', J.yld i H x H' → g x (wipe σ vs) H' fun σ2 H2 => wipe σ2 vs = wipe σ vs ∧ tYes σ2 H2 fun b H3 =>
        if b = true then te σ2 H3 fun y H4 => ∃ acc, H4 D = some (.lst acc) ∧ acc.length < sizeLine ∧ Nx (upd H4 D (.lst (acc ++ [y]))) else Nx H3) := by
  refine lc_all wk hn (fun H => Same H1 H) (fun i y _ => zs[i]? = some y) (same_new hD) hG (fun H _ r _ => same_mut r hD) (fun _ _ _ _ h _ => h) ?_ ?_
  · intro i x H H' Q hi r _ y k
    exact turn i x H H' Q hi r y fun v H4 e s => k v H4 (kp_of s) (r.trans s) e
  · intro ys H hl hy r hp
    have : ys = zs := by
      apply List.ext_getElem?
      intro j
      rcases Nat.lt_or_ge j ys.length with hj | hj
      · have e := hp j ys[j] (List.getElem?_eq_getElem hj)
        rw [List.getElem?_eq_getElem hj, e]
      · rw [List.getElem?_eq_none hj, List.getElem?_eq_none (by omega)]
    rw [← this] at hd
    exact hd H hy r
end K12

set_option maxHeartbeats 4000000
/-! K1: what the top has written (Tx); the defs about kinds. -/
namespace K12
open PySem PySem.Spec PyProof.Rows L2 TL
set_option autoImplicit false
/-- what the top has written: the built-ins are still so, the constants, the defs -/
structure Tx (K : PySem.W.Frag) (mg : Str → Option Value) : Prop where
  b_isinstance : mg "isinstance" = none
  b_len : mg "len" = none
  b_all : mg "all" = none
  b_zip : mg "zip" = none
  b_str : mg "str" = none
  b_int : mg "int" = none
  b_bool : mg "bool" = none
  b_tuple : mg "tuple" = none
  b_list : mg "list" = none
  b_dict : mg "dict" = none
  b_sorted : mg "sorted" = none
  b_range : mg "range" = none
  b_repr : mg "repr" = none
  c_LETTERS : ∃ t, mg "LETTERS" = some (.str "abcdefghijklmnopqrstuvwxyz" t)
  c_LONGEST : ∃ t, mg "LONGEST" = some (.int 8 t)
  c_NONE : ∃ t, mg "NONE_WORD" = some (.str "-" t)
  c_DIGITS : ∃ t, mg "DIGITS" = some (.str "0123456789" t)
  c_MOSTD : ∃ t, mg "MOST_DIGITS" = some (.int 60 t)
  c_MOSTO : ∃ t, mg "MOST_OPEN" = some (.int 30 t)
  h17 : Hs K mg "is_integer" (top 17)
  h18 : Hs K mg "is_name" (top 18)
  h19 : Hs K mg "is_pair" (top 19)
  h20 : Hs K mg "is_range" (top 20)
  h21 : Hs K mg "is_kind" (top 21)
  h22 : Hs K mg "rises" (top 22)
  h23 : Hs K mg "is_named_rows" (top 23)
  h24 : Hs K mg "is_form" (top 24)
  h27 : Hs K mg "path_word" (top 27)
  h28 : Hs K mg "expression_words" (top 28)
  h29 : Hs K mg "expression_text" (top 29)
  h30 : Hs K mg "kind_text" (top 30)
  h31 : Hs K mg "form_text" (top 31)
  h40 : Hs K mg "operations_for" (top 40)
  h41 : Hs K mg "small_words" (top 41)
  h42 : Hs K mg "number_or_none" (top 42)
  h43 : Hs K mg "integer_or_none" (top 43)
  h44 : Hs K mg "name_or_none" (top 44)
  h45 : Hs K mg "path_or_none" (top 45)
  h48 : Hs K mg "kind_or_none" (top 48)
  h52 : Hs K mg "_law_feed" (top 52)
  h53 : Hs K mg "_law_draw" (top 53)
  h54 : Hs K mg "_law_schema" (top 54)
  h55 : Hs K mg "_law_ordered" (top 55)
  h56 : Hs K mg "_law_heard" (top 56)
  h57 : Hs K mg "_law_free_path" (top 57)
  h58 : Hs K mg "_law_free_leaf" (top 58)
  h59 : Hs K mg "_law_free_condition" (top 59)
  h60 : Hs K mg "_law_free_number" (top 60)
  h61 : Hs K mg "_law_free_link" (top 61)
  h62 : Hs K mg "_law_free_any" (top 62)
  h63 : Hs K mg "_law_spoilt" (top 63)
  h64 : Hs K mg "_law_any_right" (top 64)
  h65 : Hs K mg "_law_written_right" (top 65)
  h66 : Hs K mg "_law_parts_right" (top 66)
  h67 : Hs K mg "_law_word_right" (top 67)
  h68 : Hs K mg "_law_forms_right" (top 68)
  h69 : Hs K mg "law" (top 69)

/-! ### is_integer, is_name -/
section
variable {P : Program} {w : World} {K : PySem.W.Frag} {mg : Str → Option Value} {base : Heap}
def spIsInteger : Sp := fun vs H Q _ => ∃ i : Int, vs = [.int i] ∧ ∀ H', Same H H' → Q (.bl true) H'
theorem sc17 : FnScope ["thing"] ["thing"] (defScope (top 17)) := ⟨rfl, rfl, rfl, by decide +kernel, rfl, by decide +kernel, by decide +kernel⟩
theorem cal_is_integer (T : Tx K mg) : Cal P w K mg base CX0 1 "is_integer" ["thing"] spIsInteger := by
  refine T.h17.cal sc17 (fun vs H Q E h => ?_) (fun _ _ _ _ _ _ us hl => match us, hl with | [_], _ => rfl) (fun f cdv A outer s H vs Q E hr h => ?_)
  · obtain ⟨i, rfl, _⟩ := h; rfl
  · obtain ⟨i, rfl, k⟩ := h
    refine ⟨_, pss_one (ps_ret (pe_and (pe_callB call_isi (by rfl) T.b_isinstance (by decide +kernel) (pa_cons (pv 0) (pa_cons (pe_bltn (v := .ty "int") rfl T.b_int (by decide +kernel) rfl) pa_nil)))
      (pe_one (pe_not (pe_callB call_isi (by rfl) T.b_isinstance (by decide +kernel) (pa_cons (pv 0) (pa_cons (pe_bltn (v := .ty "bool") rfl T.b_bool (by decide +kernel) rfl) pa_nil))))))), ?_⟩
    refine ⟨_, rfl, _, _, _, _, true, rfl, .ty "int", .base (.int i), kit_ty (by decide +kernel), true, rfl, ?_⟩
    refine iteT ⟨_, rfl, _, _, _, _, false, rfl, .ty "bool", .base (.int i), kit_ty (by decide +kernel), false, rfl, ?_⟩
    exact k _ (Same.refl _)

def letters : Str := "abcdefghijklmnopqrstuvwxyz"
theorem mem_letters (c : Nat) : decide (c ∈ letters.cps.toList) = (decide (97 ≤ c) && decide (c ≤ 122)) := by
  have e : letters.cps.toList = [97, 98, 99, 100, 101, 102, 103, 104, 105, 106, 107, 108, 109, 110, 111, 112, 113, 114, 115, 116, 117, 118, 119, 120, 121, 122] := by decide +kernel
  rw [e]
  have : (c ∈ [97, 98, 99, 100, 101, 102, 103, 104, 105, 106, 107, 108, 109, 110, 111, 112, 113, 114, 115, 116, 117, 118, 119, 120, 121, 122]) ↔ (97 ≤ c ∧ c ≤ 122) := by
    simp only [List.mem_cons, List.not_mem_nil, or_false]
    omega
  by_cases h : 97 ≤ c ∧ c ≤ 122
  · rw [decide_eq_true (this.mpr h), decide_eq_true h.1, decide_eq_true h.2]; rfl
  · rw [decide_eq_false (fun z => h (this.mp z))]
    by_cases h1 : 97 ≤ c
    · rw [decide_eq_true h1, decide_eq_false (fun z => h ⟨h1, z⟩)]; rfl
    · rw [decide_eq_false h1]; rfl
def spIsName : Sp := fun vs H Q _ => ∃ z : Str, vs = [.str z] ∧ z.length ≤ 100000 ∧ ∀ H', Same H H' → Q (.bl (isName z)) H'
theorem sc18 : FnScope ["thing", "sign"] ["thing"] (defScope (top 18)) := ⟨rfl, rfl, rfl, by decide +kernel, rfl, by decide +kernel, by decide +kernel⟩
theorem cal_is_name (T : Tx K mg) : Cal P w K mg base CX0 1 "is_name" ["thing"] spIsName := by
  refine T.h18.cal sc18 (fun vs H Q E h => ?_) (fun _ _ _ _ _ _ us hl => match us, hl with | [_], _ => rfl) (fun f cdv A outer s H vs Q E hr h => ?_)
  · obtain ⟨z, rfl, _⟩ := h; rfl
  · obtain ⟨z, rfl, hz, k⟩ := h
    obtain ⟨tL, cL⟩ := T.c_LETTERS
    obtain ⟨tG, cG⟩ := T.c_LONGEST
    refine ⟨_, pss_cons (ps_if (PW.pt (pw_or (pt_not (pt_val (pe_callB call_isi (by rfl) T.b_isinstance (by decide +kernel) (pa_cons (pv 0) (pa_cons (pe_bltn (v := .ty "str") rfl T.b_str (by decide +kernel) rfl) pa_nil)))))
          (pw_or1 (pt_not (pt_chain op_le op_le pe_int (pe_callB call_len_str (by rfl) T.b_len PySem.boot_len (pa_cons (pv 0) pa_nil)) (pe_gi cG)))))) (pss_one (ps_ret pe_bl)) pss_nil)
      (pss_one (ps_ret (pe_callB (cr_all rfl) (by rfl) T.b_all (by decide +kernel) (pa_cons
        (pe_lc (own := [("sign", 1)]) (g := gName 1) (tt := tYes) rfl sc18.nd (pi_str (pv 0)) (blkOk_by (N := ["thing", "sign"]) (sc := defScope (top 18)) (by decide +kernel)) (fun _ _ _ _ _ => pg_name (i := 1) sc18.nd rfl (Or.inl rfl)) (fun _ _ _ _ _ => pts_nil)
          (fun _ _ _ _ _ => pe_cmpR op_in_sign (pv 1) (pe_gs cL) rfl)) pa_nil)))), ?_⟩
    refine ⟨_, rfl, _, _, _, _, true, rfl, .ty "str", .base (.str z), kit_ty (by decide +kernel), true, rfl, ?_⟩
    refine iteF ⟨_, rfl, _, rfl, small100 hz, _, _, rfl, rfl, decide ((1 : Int) ≤ (z.length : Int)), rfl, ?_⟩
    have fin : isName z = true → ∀ (σ : L2.St) (H' : Hp), False → Q (.bl true) H' := fun _ _ _ z => z.elim
    by_cases h1 : 1 ≤ z.length
    · have d1 : decide ((1 : Int) ≤ (z.length : Int)) = true := decide_eq_true (by omega)
      rw [d1]
      refine iteT ⟨_, _, rfl, rfl, decide ((z.length : Int) ≤ 8), rfl, ?_⟩
      by_cases h2 : z.length ≤ 8
      · have d2 : decide ((z.length : Int) ≤ 8) = true := decide_eq_true (by omega)
        rw [d2]
        refine iteF ?_
        refine ⟨_, rfl, z, rfl, fun D hD => lc_map walk_str (by have := len_tl z; simp [tl] at this; omega) ((tl z).map fun c => V.bl (decide (97 ≤ c) && decide (c ≤ 122))) (by rw [List.length_map]; simp [tl]) hD (fun _ _ => True.intro) ?_ ?_⟩
        · rintro i x H1 H2 Q1 hi hs ⟨rfl, c, hc, rfl⟩ kq
          refine ⟨rfl, _, rfl, c, letters, rfl, rfl, ?_⟩
          rw [mem_letters]
          refine kq _ _ ?_ (Same.refl _)
          have hc' : (tl z)[i]? = some c := by rw [← hc]; exact Array.getElem?_toList
          rw [List.getElem?_map, hc']
          rfl
        · intro H1 hy hs
          refine ⟨D, (tl z).map fun c => (decide (97 ≤ c) && decide (c ≤ 122)), rfl, ?_, ?_⟩
          · rw [List.map_map]
            exact sq_l hy
          · have e : ((tl z).map fun c => (decide (97 ≤ c) && decide (c ≤ 122))).all id = isName z := by
              unfold isName nameL
              rw [decide_eq_true h1, decide_eq_true h2, List.all_map]
              rfl
            rw [e]
            exact k _ hs
      · have d2 : decide ((z.length : Int) ≤ 8) = false := decide_eq_false (by omega)
        rw [d2]
        refine iteT ?_
        have e : isName z = false := by
          unfold isName
          rw [decide_eq_false h2]
          simp
        show Q (.bl false) H
        rw [← e]
        exact k _ (Same.refl _)
    · have d1 : decide ((1 : Int) ≤ (z.length : Int)) = false := decide_eq_false (by omega)
      rw [d1]
      refine iteF ⟨false, rfl, iteT ?_⟩
      have e : isName z = false := by
        unfold isName
        rw [decide_eq_false h1]
        simp
      show Q (.bl false) H
      rw [← e]
      exact k _ (Same.refl _)
end
end K12

set_option maxHeartbeats 4000000
/-! K2: is_pair, is_range, is_kind, rises, is_named_rows, is_form. -/
namespace K12
open PySem PySem.Spec PyProof.Rows L2 TL
set_option autoImplicit false
theorem tyx_t {K : PySem.W.Frag} {H : Hp} {a : Addr} {xs : List V} (h : SqT K H a xs) : TyX K H (.ref a) (.type "tuple") := by
  rcases h with (h | ⟨o, h⟩) | ⟨o, its, n, hk, hc, _⟩
  · exact .base (.tup h)
  · exact .fTuple h
  · exact .kTuple hk hc
/-- isinstance(x, T), a built-in type: the answer's kit by decide -/
theorem isi_ask {K : PySem.W.Frag} {H : Hp} {Q : VK} {x : V} {tn un : String} {b : Bool} (ty : TyX K H x (.type tn)) (hk : kitB tn un = some b) (q : Q (.bl b) H) : rIsi K [x, .ty un] H Q :=
  ⟨_, _, _, _, b, rfl, .ty un, ty, kit_ty hk, q⟩
theorem cutV_from {xs : List V} {k : Nat} : cutV xs (some (k : Int)) none = xs.drop k := by
  unfold cutV
  rw [HT.sIx_nat, HT.sIx_none]
  rcases Nat.le_total k xs.length with h | h
  · rw [Nat.min_eq_left h, List.take_of_length_le (by rw [List.length_drop]; omega)]
  · rw [Nat.min_eq_right h, List.drop_length, List.drop_of_length_le h, List.take_nil]
theorem cutV_to {xs : List V} {k : Nat} : cutV xs none (some (k : Int)) = xs.take k := by
  unfold cutV
  rw [HT.sIx_nat, HT.sIx_none, List.drop_zero, Nat.sub_zero]
  rcases Nat.le_total k xs.length with h | h
  · rw [Nat.min_eq_left h]
  · rw [Nat.min_eq_right h, List.take_of_length_le (Nat.le_refl _), List.take_of_length_le h]
theorem strs_get {ns : List Str} {i : Nat} {x : V} (h : (ns.map V.str)[i]? = some x) : ∃ z, ns[i]? = some z ∧ x = .str z := by
  rw [List.getElem?_map] at h
  cases e : ns[i]? with
  | none => rw [e] at h; cases h
  | some z => rw [e] at h; exact ⟨z, rfl, (Option.some.inj h).symm⟩
def pairsLt (ns : List Str) : List Bool := (ns.zip ns.tail).map fun p => decide (tl p.1 < tl p.2)
theorem pairsLt_all : ∀ ns : List Str, (pairsLt ns).all id = rises ns
  | [] => rfl
  | [_] => rfl
  | a :: b :: r => by
    have := pairsLt_all (b :: r)
    unfold pairsLt at this ⊢
    rw [List.tail_cons] at this ⊢
    rw [List.zip_cons_cons, List.map_cons, List.all_cons, this, rises]
    rfl
theorem pairsLt_get {ns : List Str} {i : Nat} {a b : Str} (h1 : ns[i]? = some a) (h2 : ns[i + 1]? = some b) : (pairsLt ns)[i]? = some (decide (tl a < tl b)) := by
  unfold pairsLt
  have h2' : ns.tail[i]? = some b := by rw [List.getElem?_tail]; exact h2
  have hz : (ns.zip ns.tail)[i]? = some (a, b) := by rw [List.getElem?_zip_eq_some]; exact ⟨h1, h2'⟩
  rw [List.getElem?_map, hz]
  rfl
section
variable {P : Program} {w : World} {K : PySem.W.Frag} {mg : Str → Option Value} {base : Heap}

/-! ### is_pair, first: no tuple, or two ints -/
def spPair1 (K : PySem.W.Frag) (mg : Str → Option Value) : Sp := fun vs H Q _ => ∃ (x : V) (f : Addr), vs = [x, .ref f, .ref f] ∧ mg "is_integer" = some (.ref f) ∧
  ((∃ z : Str, x = .str z ∧ ∀ H', Same H H' → Q (.bl false) H') ∨ ∃ (a : Addr) (i j : Int), x = .ref a ∧ SqT K H a [.int i, .int j] ∧ ∀ H', Same H H' → Q (.bl true) H')
theorem sc19 : FnScope ["thing", "first", "second"] ["thing", "first", "second"] (defScope (top 19)) := ⟨rfl, rfl, rfl, by decide +kernel, rfl, by decide +kernel, by decide +kernel⟩
theorem cal_is_pair1 (T : Tx K mg) : Cal P w K mg base CX0 2 "is_pair" ["thing", "first", "second"] (spPair1 K mg) := by
  obtain ⟨fi, fdi, Fi, mi, ki, bi⟩ := (cal_is_integer (P := P) (w := w) (base := base) T).ex
  refine T.h19.cal sc19 (fun vs H Q E h => ?_) (fun _ _ _ _ _ _ us hl => match us, hl with | [_, _, _], _ => rfl) (fun f cdv A outer s H vs Q E hr h => ?_)
  · obtain ⟨x, f, rfl, _⟩ := h; rfl
  · obtain ⟨x, f1, rfl, mf, h⟩ := h
    obtain rfl : f1 = fi := by rw [mf] at mi; cases mi; rfl
    refine ⟨_, pss_one (ps_ret (pe_and (pe_callB call_isi (by rfl) T.b_isinstance (by decide +kernel) (pa_cons (pv 0) (pa_cons (pe_bltn (v := .ty "tuple") rfl T.b_tuple (by decide +kernel) rfl) pa_nil)))
      (pe_and (pe_cmpR op_eq (pe_callB call_len_seq (by rfl) T.b_len PySem.boot_len (pa_cons (pv 0) pa_nil)) pe_int (nomark _))
      (pe_and (pe_callL (i := 1) Fi hr rfl (.inl rfl) ki bi .nil pass0 (pa_cons (pe_ix ix_tup (pv 0) pe_int (fun _ _ => rfl)) pa_nil))
      (pe_one (pe_callL (i := 2) Fi hr rfl (.inl rfl) ki bi .nil pass0 (pa_cons (pe_ix ix_tup (pv 0) pe_int (fun _ _ => rfl)) pa_nil))))))), ?_⟩
    refine ⟨_, rfl, ?_⟩
    rcases h with ⟨z, rfl, k⟩ | ⟨a, i, j, rfl, hs, k⟩
    · exact ⟨_, _, _, _, false, rfl, .ty "tuple", .base (.str z), kit_ty (by decide +kernel), false, rfl, iteF (k _ (Same.refl _))⟩
    · refine ⟨_, _, _, _, true, rfl, .ty "tuple", tyx_t hs, kit_ty (by decide +kernel), true, rfl, iteT ⟨_, rfl, a, _, rfl, .inr hs, rfl, true, rfl, iteT ?_⟩⟩
      refine ⟨rfl, _, rfl, a, _, _, _, rfl, rfl, hs, rfl, i, rfl, fun H1 s1 => ⟨true, rfl, iteT ?_⟩⟩
      exact ⟨rfl, _, rfl, a, _, _, _, rfl, rfl, tk_t (tk_of s1) hs, rfl, j, rfl, fun H2 s2 => k _ (s1.trans s2)⟩

/-! ### is_range, is_kind -/
def spRange (K : PySem.W.Frag) : Sp := fun vs H Q _ => ∃ x : V, vs = [x] ∧ ((∃ z : Str, x = .str z ∧ ∀ H', Same H H' → Q (.bl false) H') ∨ ∃ (a : Addr) (i j : Int), x = .ref a ∧ SqT K H a [.int i, .int j] ∧ i ≤ j ∧ ∀ H', Same H H' → Q (.bl true) H')
theorem sc20 : FnScope ["thing"] ["thing"] (defScope (top 20)) := ⟨rfl, rfl, rfl, by decide +kernel, rfl, by decide +kernel, by decide +kernel⟩
theorem cal_is_range (T : Tx K mg) : Cal P w K mg base CX0 3 "is_range" ["thing"] (spRange K) := by
  obtain ⟨fi, fdi, Fi, mi, ki, bi⟩ := (cal_is_integer (P := P) (w := w) (base := base) T).ex
  have C := cal_is_pair1 (P := P) (w := w) (base := base) T
  refine T.h20.cal sc20 (fun vs H Q E h => ?_) (fun _ _ _ _ _ _ us hl => match us, hl with | [_], _ => rfl) (fun f cdv A outer s H vs Q E hr h => ?_)
  · obtain ⟨x, rfl, _⟩ := h; rfl
  · obtain ⟨x, rfl, h⟩ := h
    refine ⟨_, pss_one (ps_ret (pe_and (pe_cal C hr rfl pass0 (pa_cons (pv 0) (pa_cons (pe_glob (v := .ref fi) rfl mi rfl) (pa_cons (pe_glob (v := .ref fi) rfl mi rfl) pa_nil))))
      (pe_one (pe_cmpR op_le (pe_ix ix_tup (pv 0) pe_int (fun _ _ => rfl)) (pe_ix ix_tup (pv 0) pe_int (fun _ _ => rfl)) (nomark _))))), ?_⟩
    refine ⟨_, rfl, ?_⟩
    rcases h with ⟨z, rfl, k⟩ | ⟨a, i, j, rfl, hs, hij, k⟩
    · exact ⟨_, fi, rfl, mi, .inl ⟨z, rfl, fun H1 s1 => ⟨false, rfl, iteF (k _ s1)⟩⟩⟩
    · refine ⟨_, fi, rfl, mi, .inr ⟨a, i, j, rfl, hs, fun H1 s1 => ⟨true, rfl, iteT ?_⟩⟩⟩
      have hs1 := tk_t (tk_of s1) hs
      refine ⟨_, rfl, a, _, _, _, rfl, rfl, hs1, rfl, _, rfl, a, _, _, _, rfl, rfl, hs1, rfl, i, j, rfl, rfl, ?_⟩
      show Q (V.bl (decide (i ≤ j))) H1
      rw [decide_eq_true hij]
      exact k _ s1
def spKind (K : PySem.W.Frag) : Sp := fun vs H Q _ => ∃ (x : V) (kd : Kd), vs = [x] ∧ Dp K H x kd.data ∧ kd.Ok ∧ ∀ H', Same H H' → Q (.bl true) H'
theorem sc21 : FnScope ["thing"] ["thing"] (defScope (top 21)) := ⟨rfl, rfl, rfl, by decide +kernel, rfl, by decide +kernel, by decide +kernel⟩
theorem name_short {z : Str} (h : isName z = true) : z.length ≤ 100000 := by have := (isName_iff.mp h).2.1; omega
/-- the two forms of a kind in the heap -/
theorem kd_cases {K : PySem.W.Frag} {H : Hp} {x : V} {kd : Kd} (h : Dp K H x kd.data) : (∃ n, kd = .cls n ∧ x = .str n) ∨ ∃ a i j, kd = .rng i j ∧ x = .ref a ∧ SqT K H a [.int i, .int j] := by
  cases kd with
  | cls n =>
    simp only [Kd.data] at h
    cases h
    exact .inl ⟨n, rfl, rfl⟩
  | rng i j =>
    simp only [Kd.data] at h
    cases h with
    | tup hs ha =>
      cases ha with
      | cons h1 ha =>
        cases ha with
        | cons h2 ha =>
          cases ha
          cases h1
          cases h2
          exact .inr ⟨_, i, j, rfl, rfl, hs⟩
theorem cal_is_kind (T : Tx K mg) : Cal P w K mg base CX0 4 "is_kind" ["thing"] (spKind K) := by
  have C := cal_is_range (P := P) (w := w) (base := base) T
  have C2 := cal_is_name (P := P) (w := w) (base := base) T
  refine T.h21.cal sc21 (fun vs H Q E h => ?_) (fun _ _ _ _ _ _ us hl => match us, hl with | [_], _ => rfl) (fun f cdv A outer s H vs Q E hr h => ?_)
  · obtain ⟨x, kd, rfl, _⟩ := h; rfl
  · obtain ⟨x, kd, rfl, hd, ok, k⟩ := h
    refine ⟨_, pss_one (ps_ret (pe_or (pe_cal C hr rfl pass0 (pa_cons (pv 0) pa_nil)) (pe_one (pe_cal C2 (hr.mono (by decide)) rfl pass0 (pa_cons (pv 0) pa_nil))))), ?_⟩
    refine ⟨_, rfl, _, rfl, ?_⟩
    rcases kd_cases hd with ⟨n, rfl, rfl⟩ | ⟨a, i, j, rfl, rfl, hs⟩
    · refine .inl ⟨n, rfl, fun H1 s1 => ⟨false, rfl, iteF ⟨_, rfl, n, rfl, name_short ok, fun H2 s2 => ?_⟩⟩⟩
      have e : isName n = true := ok
      rw [e]
      exact k _ (s1.trans s2)
    · exact .inr ⟨a, i, j, rfl, hs, ok.2.2, fun H1 s1 => ⟨true, rfl, iteT (k _ s1)⟩⟩

/-! ### rises -/
def spRises (K : PySem.W.Frag) : Sp := fun vs H Q _ => ∃ (a : Addr) (ns : List Str), vs = [.ref a] ∧ SqL K H a (ns.map V.str) ∧ ns.length ≤ 100000 ∧ ∀ H', Same H H' → Q (.bl (rises ns)) H'
theorem sc22 : FnScope ["names", "one", "other"] ["names"] (defScope (top 22)) := ⟨rfl, rfl, rfl, by decide +kernel, rfl, by decide +kernel, by decide +kernel⟩
theorem cal_rises (T : Tx K mg) : Cal P w K mg base CX0 1 "rises" ["names"] (spRises K) := by
  refine T.h22.cal sc22 (fun vs H Q E h => ?_) (fun _ _ _ _ _ _ us hl => match us, hl with | [_], _ => rfl) (fun f cdv A outer s H vs Q E hr h => ?_)
  · obtain ⟨a, ns, rfl, _⟩ := h; rfl
  · obtain ⟨a, ns, rfl, hs, hn, k⟩ := h
    refine ⟨_, pss_one (ps_ret (pe_callB (cr_all rfl) (by rfl) T.b_all (by decide +kernel) (pa_cons
        (pe_lc (own := [("one", 1), ("other", 2)]) (g := gTup K 2 (gCons (gName 1) (gCons (gName 2) gNil))) (tt := tYes) rfl sc22.nd (pi_zip (by rfl) T.b_zip (pa_cons (pv 0) (pa_cons (pe_slice sl_list (pv 0) (po_some pe_int) po_none) pa_nil)))
          (blkOk_by (N := ["names", "one", "other"]) (sc := defScope (top 22)) (by decide +kernel)) (fun _ _ _ _ _ => pg_tup rfl (pgs_cons (pg_name (i := 1) sc22.nd rfl (Or.inl rfl)) (pgs_cons (pg_name (i := 2) sc22.nd rfl (Or.inl rfl)) pgs_nil))) (fun _ _ _ _ _ => pts_nil)
          (fun _ _ _ _ _ => pe_cmpR op_lt_str (pv 1) (pv 2) (nomark _))) pa_nil))), ?_⟩
    refine ⟨_, rfl, _, rfl, 1, rfl, a, _, rfl, hs, fun p hp => ?_⟩
    have s1 : Same H (upd H p (.lst (cutV (ns.map V.str) (some 1) none))) := same_new hp
    have e1 : cutV (ns.map V.str) (some 1) none = ns.tail.map V.str := by
      show cutV (ns.map V.str) (some ((1 : Nat) : Int)) none = _
      rw [cutV_from, List.drop_one, ← List.map_tail]
    rw [e1] at s1 ⊢
    refine ⟨a, p, ns.map V.str, ns.tail.map V.str, rfl, s1.seq hs, sq_l upd_same, fun D hD => ?_⟩
    refine lc_map (walk_zip (xs := ns.map V.str) (ys := ns.tail.map V.str) rfl) (by rw [List.length_map]; omega) ((pairsLt ns).map V.bl) (by unfold pairsLt; simp) hD (fun H2 s2 => ⟨s2.seq (s1.seq hs), s2.seq (sq_l upd_same)⟩) ?_ ?_
    · rintro i x H2 H3 Q1 hi s2 ⟨t, x1, y1, rfl, ht, rfl, hx, hy⟩ kq
      obtain ⟨z1, hz1, rfl⟩ := strs_get hx
      obtain ⟨z2, hz2, rfl⟩ := strs_get hy
      refine ⟨t, _, rfl, sq_t upd_same, rfl, _, _, rfl, _, _, rfl, rfl, rfl, _, rfl, _, rfl, z1, z2, rfl, rfl, kq _ _ ?_ (same_new ht)⟩
      rw [List.getElem?_tail] at hz2
      rw [List.getElem?_map, pairsLt_get hz1 hz2]
      rfl
    · intro H2 hy s2
      refine ⟨D, pairsLt ns, rfl, sq_l hy, ?_⟩
      rw [pairsLt_all]
      exact k _ (s1.trans s2)

/-! ### is_pair of a field; is_named_rows; is_form -/
def spPair2 (K : PySem.W.Frag) (mg : Str → Option Value) : Sp := fun vs H Q _ => ∃ (x : V) (f g : Addr) (n : Str) (kd : Kd), vs = [x, .ref f, .ref g] ∧ mg "is_name" = some (.ref f) ∧ mg "is_kind" = some (.ref g) ∧
  Dp K H x (fldD (n, kd)) ∧ isName n = true ∧ kd.Ok ∧ ∀ H', Same H H' → Q (.bl true) H'
theorem fld_cases {K : PySem.W.Frag} {H : Hp} {x : V} {n : Str} {kd : Kd} (h : Dp K H x (fldD (n, kd))) : ∃ a v, x = .ref a ∧ SqT K H a [.str n, v] ∧ Dp K H v kd.data := by
  unfold fldD at h
  cases h with
  | tup hs ha =>
    cases ha with
    | cons h1 ha =>
      cases ha with
      | cons h2 ha =>
        cases ha
        cases h1
        exact ⟨_, _, rfl, hs, h2⟩
theorem kd_plain {kd : Kd} (h : kd.Ok) : plain kd.data := by
  cases kd with
  | cls n => simp only [Kd.data]; exact name_plain h
  | rng i j => simp only [Kd.data, plain, plainAll, and_true]; exact ⟨h.1, h.2.1⟩
theorem fld_plain {n : Str} {kd : Kd} (hn : isName n = true) (h : kd.Ok) : plain (fldD (n, kd)) := by
  unfold fldD
  simp only [plain, plainAll, and_true]
  exact ⟨by simpa only [plain] using name_plain hn, kd_plain h⟩
theorem form_plain {f : Form} (h : ∀ x ∈ f, isName x.1 = true ∧ x.2.Ok) : plainAll (f.map fldD) := by
  induction f with
  | nil => simp only [List.map_nil, plainAll]
  | cons x f ih =>
    simp only [List.map_cons, plainAll]
    exact ⟨fld_plain (h x (by simp)).1 (h x (by simp)).2, ih fun y hy => h y (List.mem_cons_of_mem _ hy)⟩
theorem cal_is_pair2 (T : Tx K mg) : Cal P w K mg base CX0 5 "is_pair" ["thing", "first", "second"] (spPair2 K mg) := by
  obtain ⟨fi, fdi, Fi, mi, ki, bi⟩ := (cal_is_name (P := P) (w := w) (base := base) T).ex
  obtain ⟨fk, fdk, Fk, mk', kk, bk⟩ := (cal_is_kind (P := P) (w := w) (base := base) T).ex
  refine T.h19.cal sc19 (fun vs H Q E h => ?_) (fun _ _ _ _ _ _ us hl => match us, hl with | [_, _, _], _ => rfl) (fun f cdv A outer s H vs Q E hr h => ?_)
  · obtain ⟨x, f, g, n, kd, rfl, _⟩ := h; rfl
  · obtain ⟨x, f1, g1, n, kd, rfl, mf, mg1, hd, hn, hk, k⟩ := h
    obtain rfl : f1 = fi := by rw [mf] at mi; cases mi; rfl
    obtain rfl : g1 = fk := by rw [mg1] at mk'; cases mk'; rfl
    obtain ⟨a, v, rfl, hs, hv⟩ := fld_cases hd
    refine ⟨_, pss_one (ps_ret (pe_and (pe_callB call_isi (by rfl) T.b_isinstance (by decide +kernel) (pa_cons (pv 0) (pa_cons (pe_bltn (v := .ty "tuple") rfl T.b_tuple (by decide +kernel) rfl) pa_nil)))
      (pe_and (pe_cmpR op_eq (pe_callB call_len_seq (by rfl) T.b_len PySem.boot_len (pa_cons (pv 0) pa_nil)) pe_int (nomark _))
      (pe_and (pe_callL (i := 1) Fi (hr.mono (by decide)) rfl (.inl rfl) ki bi .nil pass0 (pa_cons (pe_ix ix_tup (pv 0) pe_int (fun _ _ => rfl)) pa_nil))
      (pe_one (pe_callL (i := 2) Fk hr rfl (.inl rfl) kk bk .nil pass0 (pa_cons (pe_ix ix_tup (pv 0) pe_int (fun _ _ => rfl)) pa_nil))))))), ?_⟩
    refine ⟨_, rfl, ⟨_, _, _, _, true, rfl, .ty "tuple", tyx_t hs, kit_ty (by decide +kernel), true, rfl, iteT ⟨_, rfl, a, _, rfl, .inr hs, rfl, true, rfl, iteT ?_⟩⟩⟩
    refine ⟨rfl, _, rfl, a, _, _, _, rfl, rfl, hs, rfl, n, rfl, name_short hn, fun H1 s1 => ⟨isName n, rfl, ?_⟩⟩
    rw [hn]
    refine iteT ?_
    have s1' := tk_of s1
    exact ⟨rfl, _, rfl, a, _, _, _, rfl, rfl, tk_t s1' hs, rfl, v, kd, rfl, Dp.tk s1' _ _ (kd_plain hk) hv, hk, fun H2 s2 => k _ (s1.trans s2)⟩
/-- items of a tuple of data -/
theorem dpAll_get {K : PySem.W.Frag} {H : Hp} : ∀ {vs : List V} {ds : List PyData}, DpAll K H vs ds → ∀ (i : Nat) (v : V), vs[i]? = some v → ∃ d, ds[i]? = some d ∧ Dp K H v d
  | _, _, .nil, i, v, h => by simp at h
  | _, _, .cons h1 h2, 0, v, h => by
    simp only [List.getElem?_cons_zero] at h
    cases h
    exact ⟨_, by simp, h1⟩
  | _, _, .cons h1 h2, i + 1, v, h => by
    simp only [List.getElem?_cons_succ] at h
    obtain ⟨d, e1, e2⟩ := dpAll_get h2 i v h
    exact ⟨d, by simpa using e1, e2⟩
theorem dpAll_len {K : PySem.W.Frag} {H : Hp} : ∀ {vs : List V} {ds : List PyData}, DpAll K H vs ds → vs.length = ds.length
  | _, _, .nil => rfl
  | _, _, .cons _ h2 => by rw [List.length_cons, List.length_cons, dpAll_len h2]
def spNamed (K : PySem.W.Frag) (mg : Str → Option Value) : Sp := fun vs H Q _ => ∃ (x : V) (g : Addr) (fm : Form), vs = [x, .ref g] ∧ mg "is_kind" = some (.ref g) ∧ Dp K H x fm.data ∧ fm.Ok ∧ fm.length ≤ 100000 ∧ ∀ H', Same H H' → Q (.bl true) H'
theorem sc23 : FnScope ["thing", "check", "own"] ["thing", "check"] (defScope (top 23)) := ⟨rfl, rfl, rfl, by decide +kernel, rfl, by decide +kernel, by decide +kernel⟩
theorem cal_is_named_rows (T : Tx K mg) : Cal P w K mg base CX0 6 "is_named_rows" ["thing", "check"] (spNamed K mg) := by
  have C := cal_is_pair2 (P := P) (w := w) (base := base) T
  have C2 := cal_rises (P := P) (w := w) (base := base) T
  obtain ⟨fi, fdi, Fi, mi, ki, bi⟩ := (cal_is_name (P := P) (w := w) (base := base) T).ex
  refine T.h23.cal sc23 (fun vs H Q E h => ?_) (fun _ _ _ _ _ _ us hl => match us, hl with | [_, _], _ => rfl) (fun f cdv A outer s H vs Q E hr h => ?_)
  · obtain ⟨x, g, fm, rfl, _⟩ := h; rfl
  · obtain ⟨x, g, fm, rfl, mk', hd, ok, hl, k⟩ := h
    unfold Form.data at hd
    cases hd with
    | @tup a xs _ hs ha =>
    refine ⟨_, pss_cons (ps_if (PW.pt (pw_or (pt_not (pt_val (pe_callB call_isi (by rfl) T.b_isinstance (by decide +kernel) (pa_cons (pv 0) (pa_cons (pe_bltn (v := .ty "tuple") rfl T.b_tuple (by decide +kernel) rfl) pa_nil)))))
          (pw_or1 (pt_not (pt_val (pe_callB (cr_all rfl) (by rfl) T.b_all (by decide +kernel) (pa_cons
            (pe_lc (own := [("own", 2)]) (g := gName 2) (tt := tYes) rfl sc23.nd (pi_tup (pv 0)) (blkOk_by (N := ["thing", "check", "own"]) (sc := defScope (top 23)) (by decide +kernel)) (fun _ _ _ _ _ => pg_name (i := 2) sc23.nd rfl (Or.inl rfl)) (fun _ _ _ _ _ => pts_nil)
              (fun _ _ _ _ _ => pe_cal C hr rfl pass0 (pa_cons (pv 2) (pa_cons (pe_glob (v := .ref fi) rfl mi rfl) (pa_cons (pv 1) pa_nil))))) pa_nil))))))) (pss_one (ps_ret pe_bl)) pss_nil)
      (pss_one (ps_ret (pe_cal C2 (hr.mono (by decide)) rfl pass0 (pa_cons
            (pe_lc (own := [("own", 2)]) (g := gName 2) (tt := tYes) rfl sc23.nd (pi_tup (pv 0)) (blkOk_by (N := ["thing", "check", "own"]) (sc := defScope (top 23)) (by decide +kernel)) (fun _ _ _ _ _ => pg_name (i := 2) sc23.nd rfl (Or.inl rfl)) (fun _ _ _ _ _ => pts_nil)
              (fun _ _ _ _ _ => pe_ixT K rfl (pv 2) pe_int (fun _ _ => rfl))) pa_nil)))), ?_⟩
    have lx : xs.length = fm.length := by rw [dpAll_len ha, List.length_map]
    refine ⟨_, rfl, ⟨_, _, _, _, true, rfl, .ty "tuple", tyx_t hs, kit_ty (by decide +kernel), true, rfl, iteF ?_⟩⟩
    refine ⟨_, rfl, a, rfl, ⟨_, hs⟩, fun D hD => lc_map walk_tup (by omega) ((fm.map fun _ => true).map V.bl) (by simp [lx]) hD (fun H1 s1 => tk_t (tk_of s1) hs) ?_ ?_⟩
    · rintro i x H1 H2 Q1 hi s1 ⟨rfl, hx⟩ kq
      obtain ⟨d, e1, e2⟩ := dpAll_get ha i x hx
      rw [List.getElem?_map] at e1
      cases e3 : fm[i]? with
      | none => rw [e3] at e1; cases e1
      | some q =>
        obtain ⟨n, kd⟩ := q
        rw [e3] at e1
        obtain rfl : fldD (n, kd) = d := Option.some.inj e1
        have hm : (n, kd) ∈ fm := List.mem_of_getElem? e3
        have h1 := ok.1 _ hm
        refine ⟨rfl, _, rfl, _, rfl, x, fi, g, n, kd, rfl, mi, mk', Dp.tk (tk_of s1) _ _ (fld_plain h1.1 h1.2) e2, h1.1, h1.2, fun H3 s3 => kq _ _ ?_ s3⟩
        rw [List.getElem?_map, List.getElem?_map, e3]
        rfl
    · intro H1 hy s1
      refine ⟨D, fm.map fun _ => true, rfl, sq_l hy, _, rfl, ?_⟩
      have e : (fm.map fun _ => true).all id = true := by simp
      rw [e]
      refine iteF ?_
      have hs1 := tk_t (tk_of s1) hs
      refine ⟨_, rfl, a, rfl, ⟨_, hs1⟩, fun D2 hD2 => lc_map walk_tup (by omega) ((fm.map (·.1)).map V.str) (by simp [lx]) hD2 (fun H2 s2 => tk_t (tk_of s2) hs1) ?_ ?_⟩
      · rintro i x H2 H3 Q1 hi s2 ⟨rfl, hx⟩ kq
        obtain ⟨d, e1, e2⟩ := dpAll_get ha i x hx
        rw [List.getElem?_map] at e1
        cases e3 : fm[i]? with
        | none => rw [e3] at e1; cases e1
        | some q =>
          obtain ⟨n, kd⟩ := q
          rw [e3] at e1
          obtain rfl : fldD (n, kd) = d := Option.some.inj e1
          obtain ⟨b, v, rfl, hb, _⟩ := fld_cases e2
          refine ⟨rfl, _, rfl, b, _, _, _, rfl, rfl, tk_t ((tk_of s1).trans (tk_of s2)) hb, rfl, kq _ _ ?_ (Same.refl _)⟩
          rw [List.getElem?_map, List.getElem?_map, e3]
          rfl
      · intro H2 hy2 s2
        refine ⟨D2, fm.map (·.1), rfl, sq_l hy2, by rw [List.length_map]; exact hl, fun H3 s3 => ?_⟩
        rw [ok.2]
        exact k _ (s1.trans (s2.trans s3))
def spForm (K : PySem.W.Frag) : Sp := fun vs H Q _ => ∃ (x : V) (fm : Form), vs = [x] ∧ Dp K H x fm.data ∧ fm.Ok ∧ fm.length ≤ 100000 ∧ ∀ H', Same H H' → Q (.bl true) H'
theorem sc24 : FnScope ["thing"] ["thing"] (defScope (top 24)) := ⟨rfl, rfl, rfl, by decide +kernel, rfl, by decide +kernel, by decide +kernel⟩
theorem cal_is_form (T : Tx K mg) : Cal P w K mg base CX0 7 "is_form" ["thing"] (spForm K) := by
  have C := cal_is_named_rows (P := P) (w := w) (base := base) T
  obtain ⟨fk, fdk, Fk, mk', kk, bk⟩ := (cal_is_kind (P := P) (w := w) (base := base) T).ex
  refine T.h24.cal sc24 (fun vs H Q E h => ?_) (fun _ _ _ _ _ _ us hl => match us, hl with | [_], _ => rfl) (fun f cdv A outer s H vs Q E hr h => ?_)
  · obtain ⟨x, fm, rfl, _⟩ := h; rfl
  · obtain ⟨x, fm, rfl, hd, ok, hl, k⟩ := h
    exact ⟨_, pss_one (ps_ret (pe_cal C hr rfl pass0 (pa_cons (pv 0) (pa_cons (pe_glob (v := .ref fk) rfl mk' rfl) pa_nil)))), _, rfl, x, fk, fm, rfl, mk', hd, ok, hl, k⟩
end
end K12

set_option maxHeartbeats 4000000
/-! K3: match, unpacking with a star; path_word, expression_words, expression_text, kind_text, form_text. -/
namespace K12
open PySem PySem.Spec PyProof.Rows L2 TL
set_option autoImplicit false
/-! ### match: a text against texts -/
structure PMs (X : Cx) (cs : List MatchCase) (t : Str → TS) : Prop where
  run : ∀ (first : Bool) (pins : List (Addr × Obj)) (s : Shared) (σ : L2.St) (H : Hp) (D : L2.Ends) (z : Str) (tk : Tok), Inv X pins σ H s → t z D σ H → wpAny (model X.prog X.w) X.A (matchCases cs X.env (.str z tk) first) (SP X pins D) X.xe s
section
variable {X : Cx} {pos : Pos}
theorem mp_val {x : Str} {j : Nat} {p1 p2 : Pos} {pins : List (Addr × Obj)} {s : Shared} {σ : L2.St} {H : Hp} {z : Str} {tk : Tok} {Q : Option (List (Str × Value)) → Shared → Prop} (I : Inv X pins σ H s)
    (hq : ∀ s', Inv X pins σ H s' → Q (if z = x then some [] else none) s') : wpAny (model X.prog X.w) X.A (matchPattern (.MatchValue (.Constant (.str x) j p1) p2) X.env (.str z tk)) Q X.xe s := by
  refine wpAny_matchPattern_Value (Calls.Constant_str ?_)
  refine thn (op_eq (X := X) pins _ σ H (.str z) (.str x) _ _ (fun v H' => v = .bl (decide (z = x)) ∧ H' = H) (I.tok _) ⟨_, rfl⟩ ⟨_, rfl⟩ ⟨rfl, by simp, rfl⟩) fun c s2 ⟨v, H', I2, r, e, eH⟩ => ?_
  subst e eH
  cases r
  refine wpAny_truthy_bool ?_
  by_cases h : z = x
  · rw [decide_eq_true h]
    have := hq s2 I2
    rw [if_pos h] at this
    exact this
  · rw [decide_eq_false h]
    have := hq s2 I2
    rw [if_neg h] at this
    exact this
def mV (x : Str) (tb : TS) (t : Str → TS) : Str → TS := fun z D σ H => if z = x then tb D σ H else t z D σ H
def mO (x y : Str) (tb : TS) (t : Str → TS) : Str → TS := fun z D σ H => if z = x ∨ z = y then tb D σ H else t z D σ H
theorem mV_y {x z : Str} {tb : TS} {t : Str → TS} {D : L2.Ends} {σ : L2.St} {H : Hp} (e : z = x) (h : tb D σ H) : mV x tb t z D σ H := by unfold mV; rw [if_pos e]; exact h
theorem mV_n {x z : Str} {tb : TS} {t : Str → TS} {D : L2.Ends} {σ : L2.St} {H : Hp} (e : z ≠ x) (h : t z D σ H) : mV x tb t z D σ H := by unfold mV; rw [if_neg e]; exact h
theorem mO_y {x y z : Str} {tb : TS} {t : Str → TS} {D : L2.Ends} {σ : L2.St} {H : Hp} (e : z = x ∨ z = y) (h : tb D σ H) : mO x y tb t z D σ H := by unfold mO; rw [if_pos e]; exact h
theorem mO_n {x y z : Str} {tb : TS} {t : Str → TS} {D : L2.Ends} {σ : L2.St} {H : Hp} (e : ¬ (z = x ∨ z = y)) (h : t z D σ H) : mO x y tb t z D σ H := by unfold mO; rw [if_neg e]; exact h
theorem pms_val {x : Str} {j : Nat} {p1 p2 : Pos} {body : List Stmt} {cs : List MatchCase} {tb : TS} {t : Str → TS} (hb : PSs X body tb) (h : PMs X cs t) :
    PMs X (⟨.MatchValue (.Constant (.str x) j p1) p2, none, body⟩ :: cs) (mV x tb t) := by
  refine ⟨fun first pins s σ H D z tk I hq => wpAny_matchCases_cons (mp_val I fun s' I' => ?_)⟩
  unfold mV at hq
  by_cases e : z = x
  · rw [if_pos e] at hq ⊢
    exact wpAny_assignInOrder_none (hb.run pins s' σ H D I' hq)
  · rw [if_neg e] at hq ⊢
    exact h.run false pins s' σ H D z tk I' hq
theorem pms_or {x y : Str} {j j' : Nat} {p1 p2 p3 p4 p5 : Pos} {body : List Stmt} {cs : List MatchCase} {tb : TS} {t : Str → TS} (hb : PSs X body tb) (h : PMs X cs t) :
    PMs X (⟨.MatchOr [.MatchValue (.Constant (.str x) j p1) p2, .MatchValue (.Constant (.str y) j' p3) p4] p5, none, body⟩ :: cs) (mO x y tb t) := by
  refine ⟨fun first pins s σ H D z tk I hq => wpAny_matchCases_cons (wpAny_matchPattern_Or (wpAny_matchFirst_cons (mp_val I fun s' I' => ?_)))⟩
  unfold mO at hq
  by_cases e : z = x
  · rw [if_pos (.inl e)] at hq
    rw [if_pos e]
    exact wpAny_assignInOrder_none (hb.run pins s' σ H D I' hq)
  · rw [if_neg e]
    refine wpAny_matchFirst_cons (mp_val I' fun s2 I2 => ?_)
    by_cases e2 : z = y
    · rw [if_pos (.inr e2)] at hq
      rw [if_pos e2]
      exact wpAny_assignInOrder_none (hb.run pins s2 σ H D I2 hq)
    · rw [if_neg (by rintro (h | h); exact e h; exact e2 h)] at hq
      rw [if_neg e2]
      exact wpAny_matchFirst_nil (h.run false pins s2 σ H D z tk I2 hq)
theorem pms_any {p : Pos} {body : List Stmt} {cs : List MatchCase} {tb : TS} (hb : PSs X body tb) : PMs X (⟨.MatchAs none none p, none, body⟩ :: cs) (fun _ => tb) :=
  ⟨fun first pins s σ H D z tk I hq => wpAny_matchCases_cons (wpAny_matchPattern_Capture (wpAny_assignInOrder_none (hb.run pins s σ H D I hq)))⟩
def tMatch (te : TE) (t : Str → TS) : TS := fun D σ H => te σ H fun v H1 => ∃ z, v = .str z ∧ t z D σ H1
theorem ps_match {e : Expr} {cs : List MatchCase} {te : TE} {t : Str → TS} (he : PE X e te) (hs : PMs X cs t) : PS X (.Match e cs pos) (tMatch te t) := by
  refine ⟨fun pins s σ H D I hq => wpAny_Match (thn (he.run pins s σ H _ I hq) fun v s1 ⟨x, H1, I1, r, z, e, q⟩ => ?_)⟩
  subst e
  obtain ⟨tk, rfl⟩ := r
  exact hs.run true pins s1 σ H1 D z tk I1 q
/-! ### word, *parts = a tuple -/
def gStar (K : PySem.W.Frag) (t : TGs) : TG := fun v σ H Q => ∃ a x xs, v = .ref a ∧ SqT K H a (x :: xs) ∧ xs.length ≤ 10000 ∧ ∀ p, H p = none → t [x, .ref p] σ (upd H p (.lst xs)) Q
theorem pg_star {n1 n2 : Expr} {p0 : Pos} {k : Nat} {t : TGs} (hc : X.calm = true) (h : PGs X [n1, n2] t) (he : (assignEach [n1, .Starred n2 p0] X.env).map (·.2) = (assignEach [n1, n2] X.env).map (·.2) := by rfl)
    (hl : (assignEach [n1, .Starred n2 p0] X.env).length = 2 := by rfl) (hst : (assignEach [n1, .Starred n2 p0] X.env).findIdx? (·.1) = some 1 := by rfl) : PG X (.Tuple [n1, .Starred n2 p0] k pos) (gStar X.K t) := by
  refine ⟨fun pins s σ H v u Q I r hw => ?_⟩
  obtain ⟨l, x, xs, e1, hq, hz, hw⟩ := hw
  subst e1
  cases r
  obtain ⟨its, rv, hI, _⟩ := I.tuple hq
  obtain ⟨u1, us, rfl, ru, rus⟩ : ∃ u1 us, its = u1 :: us ∧ RelV x u1 ∧ Vals xs us := by
    cases rv with
    | cons a b => exact ⟨_, _, rfl, a, b⟩
  have hsz : us.length = xs.length := rus.length.symm
  rw [PyProof.Rows.assign_Tuple]
  refine wpAny_bind (wpAny_standAt ?_)
  unfold unpack
  rw [hl, hst, he]
  refine wpAny_bind (wpAny_holding ?_)
  have hh := I.ok.hd hc
  have hlt : l ≠ s.heap.objs.size := by obtain ⟨o, ho, _⟩ := hI; exact Nat.ne_of_lt (Heap.lt_size ho)
  unfold unpackItems
  refine wpAny_bind ?_
  unfold notIterableAtAll
  refine wpAny_bind (wpAny_specialOf hI.typeIs PySem.F.slot_tuple_iter.lookup ?_)
  refine wpAny_pure ?_
  simp only [Bool.false_eq_true, if_false]
  refine wpAny_bind (wpAny_holding (PyProof.Rows.iter_tuple hI ?_))
  refine wpAny_bind (wpAny_holding (PyProof.Rows.draw_tuple hlt 1 0 _ _ ⟨_, Heap.get?_push_size _ rfl, rfl, rfl⟩ (hI.push _) (by simp) fun h₁ hit₁ hs₁ => ?_))
  have hl₁ : IsTup h₁ l _ := (hI.push _).extBut hs₁.extBut hlt
  rw [Nat.zero_add] at hit₁
  have hit₁' := hit₁
  obtain ⟨oi, hoi, _⟩ := hit₁'
  have hl₁' := hl₁
  obtain ⟨ol, hol, _⟩ := hl₁'
  rw [List.drop_zero]
  simp only [List.take_succ_cons, List.take_zero, List.length_singleton, Nat.lt_irrefl, if_false]
  refine wpAny_bind (wpAny_holding (PySem.W.kun_collect (s := { s with heap := h₁ }) (T := "tuple_iterator") (.inr (.inr (.inr rfl))) (PySem.Walks.tuple (A := X.A.in1) hh s.heap.objs.size l hlt (u1 :: us).toArray) (fun j u st => st.1.typeIs) (k := 1) (by simp) ⟨hit₁, hl₁⟩ (Heap.lt_size hoi) (Heap.lt_size hol) (fun h₂ tk hk => ?_) (by rw [sizeLine_eq]; simp; omega)))
  have he : Heap.ExtBut s.heap.objs.size s.heap h₂ := fun b o hb e => hk b o hb (hs₁.extBut b o hb (Heap.get?_push_of_some _ e))
  have e2 : List.drop 1 (u1 :: us).toArray.toList = us := by simp
  rw [e2]
  simp only [Nat.sub_self, Nat.not_lt_zero, if_false, Nat.sub_zero, List.take_length, List.drop_length, List.append_nil]
  have I1 : Inv X pins σ H { s with heap := h₂, toks := tk } := I.kept (t' := tk) fun b o e => he b o (Nat.ne_of_lt (Heap.lt_size e)) e
  have hf : H h₂.objs.size = none := I1.hok.fresh (Nat.le_refl _)
  refine wpAny_bind (wpAny_newList (s := { s with heap := h₂, toks := tk }) (wpAny_pure ?_) (by rw [sizeLine_eq]; omega))
  refine h.run pins _ σ _ [x, .ref h₂.objs.size] _ Q (I1.laid (t' := tk) (fun b u e => Heap.get?_push_of_some _ e) (Nat.le_refl _) ?_) (.cons ru (.cons rfl .nil)) (hw _ hf)
  exact ⟨by rw [sizeLine_eq]; omega, us, 0, rus, Heap.get?_push_size _ rfl⟩
end
end K12

set_option maxHeartbeats 4000000
/-! K3b: path_word, expression_words, expression_text, kind_text, form_text. -/
namespace K12
open PySem PySem.Spec PyProof.Rows L2 TL
set_option autoImplicit false
theorem m1_sum (l : List Str) : (l.map (·.length)).sum + l.length * 1 = m1 l := by
  induction l with
  | nil => rfl
  | cons a r ih => rw [List.map_cons, List.sum_cons, m1_cons, List.length_cons]; omega
theorem dp_strs {K : PySem.W.Frag} {H : Hp} : ∀ {p : List Str} {xs : List V}, DpAll K H xs (pstrs p) → xs = p.map V.str
  | [], _, h => by
    cases h
    rfl
  | a :: p, _, h => by
    have h' : DpAll K H _ (PyData.str a :: pstrs p) := h
    cases h' with
    | cons h1 h2 =>
      cases h1
      rw [dp_strs h2]
      rfl
theorem dp_of_strs {K : PySem.W.Frag} {H : Hp} : ∀ (p : List Str), DpAll K H (p.map V.str) (pstrs p)
  | [] => .nil
  | _ :: p => .cons (.str _) (dp_of_strs p)
theorem dp_path {K : PySem.W.Frag} {H : Hp} {x : V} {p : List Str} (h : Dp K H x (.tuple (pstrs p))) : ∃ a, x = .ref a ∧ SqT K H a (p.map V.str) := by
  cases h with
  | tup hs ha => rw [dp_strs ha] at hs; exact ⟨_, rfl, hs⟩
theorem path_m {p : List Str} (h : okPath p) : m1 p = (pathW p).length + 1 := (join_len1 dot (by decide +kernel) p h.1).symm
theorem yes_i {A B : Hp → Prop} {σ : L2.St} {H : Hp} (h : A H) : tYes σ H fun b H3 => if b = true then A H3 else B H3 := h
theorem pi_listK {X : Cx} (K : PySem.W.Frag) (hK : X.K = K) {tg l : Expr} {tl : TE} (hl : PE X l tl) : PI X tg l (iList K tl) := by
  subst hK; exact pi_list hl
section
variable {P : Program} {w : World} {K : PySem.W.Frag} {mg : Str → Option Value} {base : Heap}
def spPathWord (K : PySem.W.Frag) : Sp := fun vs H Q _ => ∃ (x : V) (p : List Str), vs = [x] ∧ Dp K H x (.tuple (pstrs p)) ∧ m1 p ≤ 100000 ∧ ∀ H', Same H H' → Q (.str (pathW p)) H'
theorem sc27 : FnScope ["path"] ["path"] (defScope (top 27)) := ⟨rfl, rfl, rfl, by decide +kernel, rfl, by decide +kernel, by decide +kernel⟩
theorem cal_path_word (T : Tx K mg) : Cal P w K mg base CX0 1 "path_word" ["path"] (spPathWord K) := by
  refine T.h27.cal sc27 (fun vs H Q E h => ?_) (fun _ _ _ _ _ _ us hl => match us, hl with | [_], _ => rfl) (fun f cdv A outer s H vs Q E hr h => ?_)
  · obtain ⟨x, p, rfl, _⟩ := h; rfl
  · obtain ⟨x, p, rfl, hd, hm, k⟩ := h
    obtain ⟨a, rfl, hs⟩ := dp_path hd
    refine ⟨_, pss_one (ps_ret (pe_join pe_str (pv 0))), ?_⟩
    refine ⟨⟨dot, rfl⟩, _, rfl, dot, a, p, rfl, rfl, .inr hs, ?_, k _ (Same.refl _)⟩
    have e1 : dot.length = 1 := by decide +kernel
    rw [e1, m1_sum]
    omega

/-! ### expression_words -/
def Ex.subs : Ex → Option (Str × List Ex)
  | .not c => some ("not", [c])
  | .bin o a b => some (o.w, [a, b])
  | .cond c a b => some ("if", [c, a, b])
  | _ => none
theorem subs_all {e : Ex} {w : Str} {es : List Ex} (h : e.subs = some (w, es)) (hw : e.Wf) : e.data = .tuple (.str w :: es.map Ex.data) ∧ e.ws = w :: (es.map Ex.ws).flatten ∧ (∀ x ∈ es, x.Wf ∧ x.opens < e.opens ∧ x.m ≤ e.m) ∧ es.length ≤ 3 ∧
    w ≠ "get" ∧ ¬ (w = "none" ∨ w = "to") ∧ ¬ (w = "sum" ∨ w = "self") := by
  cases e <;> simp only [Ex.subs] at h <;> cases h
  · rename_i c
    refine ⟨rfl, by simp [Ex.ws], ?_, by simp, by decide +kernel, by decide +kernel, by decide +kernel⟩
    intro x hx
    simp only [List.mem_singleton] at hx
    subst hx
    refine ⟨hw, by simp only [Ex.opens]; omega, ?_⟩
    show x.m ≤ m1 ("not" :: x.ws)
    rw [m1_cons]
    exact Nat.le_add_left _ _
  · rename_i o a b
    refine ⟨rfl, by simp [Ex.ws], ?_, by simp, ?_, ?_, ?_⟩
    · intro x hx
      have em : Ex.m (.bin o a b) = o.w.length + 1 + (a.m + b.m) := by show m1 (o.w :: (a.ws ++ b.ws)) = _; rw [m1_cons, m1_app] <;> rfl
      simp only [List.mem_cons, List.not_mem_nil, or_false] at hx
      rcases hx with rfl | rfl
      · exact ⟨hw.1, by simp only [Ex.opens]; omega, by omega⟩
      · exact ⟨hw.2, by simp only [Ex.opens]; omega, by omega⟩
    · exact (bw_ne o).1
    · rintro (z | z)
      · exact (bw_ne o).2.1 z
      · exact (bw_ne o).2.2.1 z
    · rintro (z | z)
      · exact (bw_ne o).2.2.2.1 z
      · exact (bw_ne o).2.2.2.2.2.2 z
  · rename_i c a b
    refine ⟨rfl, by simp [Ex.ws], ?_, by simp, by decide +kernel, by decide +kernel, by decide +kernel⟩
    intro x hx
    have em : Ex.m (.cond c a b) = ("if" : Str).length + 1 + (c.m + (a.m + b.m)) := by show m1 ("if" :: (c.ws ++ (a.ws ++ b.ws))) = _; rw [m1_cons, m1_app, m1_app] <;> rfl
    simp only [List.mem_cons, List.not_mem_nil, or_false] at hx
    rcases hx with rfl | rfl | rfl
    · exact ⟨hw.1, by simp only [Ex.opens]; omega, by omega⟩
    · exact ⟨hw.2.1, by simp only [Ex.opens]; omega, by omega⟩
    · exact ⟨hw.2.2, by simp only [Ex.opens]; omega, by omega⟩
theorem dp_cons {K : PySem.W.Frag} {H : Hp} {x : V} {w : Str} {ds : List PyData} (h : Dp K H x (.tuple (.str w :: ds))) : ∃ a xs, x = .ref a ∧ SqT K H a (.str w :: xs) ∧ DpAll K H xs ds := by
  cases h with
  | tup hs ha =>
    cases ha with
    | cons h1 h2 => cases h1; exact ⟨_, _, rfl, hs, h2⟩
theorem ws_len (e : Ex) : e.ws.length ≤ e.m := by
  have : ∀ l : List Str, l.length ≤ m1 l := by
    intro l
    induction l with
    | nil => exact Nat.le_refl _
    | cons a r ih => rw [m1_cons, List.length_cons]; omega
  exact this _
theorem flat_take {α : Type} : ∀ {zss : List (List α)} {i : Nat} {zs : List α}, zss[i]? = some zs → (zss.take (i + 1)).flatten = (zss.take i).flatten ++ zs
  | [], _, _, h => by simp at h
  | z :: r, 0, _, h => by
    simp only [List.getElem?_cons_zero] at h
    cases h
    simp
  | z :: r, i + 1, _, h => by
    simp only [List.getElem?_cons_succ] at h
    rw [List.take_succ_cons, List.flatten_cons, flat_take h, List.take_succ_cons, List.flatten_cons, List.append_assoc]
theorem flat_len {α : Type} : ∀ {zss : List (List α)} {i : Nat} {zs : List α}, zss[i]? = some zs → ((zss.take i).flatten).length + zs.length ≤ zss.flatten.length
  | [], _, _, h => by simp at h
  | z :: r, 0, _, h => by
    simp only [List.getElem?_cons_zero] at h
    cases h
    simp
  | z :: r, i + 1, _, h => by
    simp only [List.getElem?_cons_succ] at h
    have := flat_len h
    rw [List.take_succ_cons, List.flatten_cons, List.flatten_cons, List.length_append, List.length_append]
    omega
def spWords (K : PySem.W.Frag) (n : Nat) : Sp := fun vs H Q _ => ∃ (x : V) (e : Ex), vs = [x] ∧ Dp K H x e.data ∧ e.Wf ∧ e.opens ≤ n ∧ e.m ≤ 100000 ∧ ∀ p H', H p = none → Same H H' → H' p = some (.lst (e.ws.map V.str)) → Q (.ref p) H'
theorem sc28 : FnScope ["expression", "word", "parts", "part", "own"] ["expression"] (defScope (top 28)) := ⟨rfl, rfl, rfl, by decide +kernel, rfl, by decide +kernel, by decide +kernel⟩
/-- a level of expression_words, the calls below by C -/
theorem words_step (T : Tx K mg) (n k : Nat) (hk : 1 ≤ k) {spC : Sp} (C : Cal P w K mg base CX0 k "expression_words" ["expression"] spC) (hC : ∀ vs H Q E, 0 < n → spWords K (n - 1) vs H Q E → spC vs H Q E) :
    Cal P w K mg base CX0 (k + 1) "expression_words" ["expression"] (spWords K n) := by
  have CP := cal_path_word (P := P) (w := w) (base := base) T
  refine T.h28.cal sc28 (fun vs H Q E h => ?_) (fun _ _ _ _ _ _ us hl => match us, hl with | [_], _ => rfl) (fun f cdv A outer s H vs Q E hr h => ?_)
  · obtain ⟨x, p, rfl, _⟩ := h; rfl
  · obtain ⟨x, e, rfl, hd, hw, hn, hm, kq⟩ := h
    obtain ⟨tN, cN⟩ := T.c_NONE
    refine ⟨_, (pss_cons (ps_if (pt_not (pt_val (pe_callB call_isi (by rfl) T.b_isinstance (by decide +kernel) (pa_cons (pv 0) (pa_cons (pe_bltn (v := .ty "tuple") rfl T.b_tuple (by decide +kernel) rfl) pa_nil))))) (pss_one (ps_ret (pe_lst (pa_cons (pe_ifExp (pt_cmpR op_isN (pv 0) pe_non (nomark _)) (pe_gs cN) (pe_callTy call_str_int (by rfl) T.b_str boot_str (pa_cons (pv 0) pa_nil))) pa_nil)))) pss_nil)
      (pss_cons (ps_asg (pv 0) (pg_star rfl (pgs_cons (pg_name (i := 1) sc28.nd rfl (Or.inl rfl)) (pgs_cons (pg_name (i := 2) sc28.nd rfl (Or.inl rfl)) pgs_nil))))
      (pss_one (ps_match (pv 1) (pms_val (pss_one (ps_ret (pe_lst (pa_cons (pv 1) (pa_cons (pe_cal CP (hr.mono hk) rfl pass0 (pa_cons (pe_ixL K rfl (pv 2) pe_int (fun _ _ => rfl)) pa_nil)) (pa_cons (pe_callTy call_str_int (by rfl) T.b_str boot_str (pa_cons (pe_ixL K rfl (pv 2) pe_int (fun _ _ => rfl)) pa_nil)) pa_nil)))))) (pms_or (pss_one (ps_ret (pe_lst (pa_cons (pv 1) (pa_cons (pe_cal CP (hr.mono hk) rfl pass0 (pa_cons (pe_ixL K rfl (pv 2) pe_int (fun _ _ => rfl)) pa_nil)) pa_nil))))) (pms_or (pss_one (ps_ret (pe_callTy call_list_of (by rfl) T.b_list boot_list (pa_cons (pv 0) pa_nil)))) (pms_any (pss_one (ps_ret (pe_lst (pa_cons (pv 1) (StX.pa_star (pe_lc2 (own := [("part", 3), ("own", 4)]) (vs1 := [4]) (g := (gName 3)) (tt := tYes) (g1 := (gName 4)) (tt1 := tYes) rfl sc28.nd (pi_list (pv 2)) (blkOk_by (N := ["expression", "word", "parts", "part", "own"]) (sc := defScope (top 28)) (by decide +kernel)) (by decide) (fun _ _ _ _ _ => (pg_name (i := 3) sc28.nd rfl (Or.inl rfl))) (fun _ _ _ _ _ => pts_nil) (fun _ _ _ _ _ => (pi_listK K rfl (pe_cal C hr rfl pass0 (pa_cons (pv 3) pa_nil)))) (fun _ _ _ _ _ => (pg_name (i := 4) sc28.nd rfl (Or.inl rfl))) (fun _ _ _ _ _ => pts_nil) (fun _ _ _ _ _ => (pv 4))) pa_nil))))))))))))), ?_⟩
    cases hsub : e.subs with
    | some pr =>
      obtain ⟨wd, es⟩ := pr
      obtain ⟨ed, ew, hsb, hl3, n1, n2, n3⟩ := subs_all hsub hw
      rw [ed] at hd
      obtain ⟨a, xs, rfl, hs, ha⟩ := dp_cons hd
      have lx : xs.length = es.length := by rw [dpAll_len ha, List.length_map]
      refine ⟨_, rfl, _, _, _, _, true, rfl, .ty "tuple", tyx_t hs, kit_ty (by decide +kernel), true, rfl, iteF ?_⟩
      refine ⟨_, rfl, a, _, _, rfl, hs, by omega, fun p hp => ⟨_, _, rfl, _, _, rfl, rfl, ?_⟩⟩
      have hp1 : (upd H p (.lst xs)) p = some (.lst xs) := upd_same
      have s1 : Same H (upd H p (.lst xs)) := same_new hp
      refine ⟨_, rfl, _, rfl, mV_n n1 (mO_n n2 (mO_n n3 ?_))⟩
      have tot : (es.map Ex.ws).flatten.length ≤ 100000 := by
        have := ws_len e
        rw [ew, List.length_cons] at this
        omega
      refine ⟨_, rfl, _, rfl, p, rfl, ⟨_, sq_l hp1⟩, fun D hD => ⟨fun i m H' => m = xs.length - i ∧ i ≤ xs.length ∧ Same (upd H p (.lst xs)) H' ∧ H' D = some (.lst ((((es.map Ex.ws).take i).flatten).map V.str)), ⟨_, rfl, Nat.zero_le _, same_new hD, upd_same⟩, ?_⟩⟩
      rintro i m H1 ⟨rfl, hi, sm, hd1⟩
      by_cases hlt : i < xs.length
      · refine .inr ⟨walk_list.goes i H1 hlt (sq_l (sm p _ hp1)), fun H' => Same (upd H p (.lst xs)) H' ∧ H' D = some (.lst ((((es.map Ex.ws).take (i + 1)).flatten).map V.str)), fun H' q => ⟨_, by omega, rfl, hlt, q.1, q.2⟩, fun x H2 y => ?_⟩
        obtain ⟨rfl, hx⟩ := walk_list.yields i H1 x H2 hlt (sq_l (sm p _ hp1)) y
        obtain ⟨d, e1, e2⟩ := dpAll_get ha i x hx
        rw [List.getElem?_map] at e1
        cases e3 : es[i]? with
        | none => rw [e3] at e1; cases e1
        | some c =>
          rw [e3] at e1
          obtain rfl : c.data = d := Option.some.inj e1
          obtain ⟨cw, co, cm⟩ := hsb c (List.mem_of_getElem? e3)
          have ez : (es.map Ex.ws)[i]? = some c.ws := by rw [List.getElem?_map, e3]; rfl
          refine ⟨rfl, yes_i ⟨_, rfl, hC _ _ _ _ (by omega) ⟨x, c, rfl, Dp.tk (tk_of (s1.trans sm)) _ _ (data_plain c cw) e2, cw, by omega, by omega, fun q H3 hq s3 hq3 => ?_⟩⟩⟩
          have hqD : q ≠ D := fun z => by rw [z, hd1] at hq; cases hq
          have hfl := flat_len ez
          refine ⟨q, rfl, ⟨_, sq_l hq3⟩, fun j k H4 => k = c.ws.length - j ∧ j ≤ c.ws.length ∧ Same (upd H p (.lst xs)) H4 ∧ H4 q = some (.lst (c.ws.map V.str)) ∧ H4 D = some (.lst ((((es.map Ex.ws).take i).flatten ++ c.ws.take j).map V.str)), ⟨_, rfl, Nat.zero_le _, sm.trans s3, hq3, by rw [s3 D _ hd1]; simp⟩, ?_⟩
          rintro j k H4 ⟨rfl, hj, sm4, hq4, hd4⟩
          by_cases hjt : j < c.ws.length
          · have hj' : j < (c.ws.map V.str).length := by rw [List.length_map]; exact hjt
            refine .inr ⟨walk_list.goes j H4 hj' (sq_l hq4), fun H' => Same (upd H p (.lst xs)) H' ∧ H' q = some (.lst (c.ws.map V.str)) ∧ H' D = some (.lst ((((es.map Ex.ws).take i).flatten ++ c.ws.take (j + 1)).map V.str)), fun H' z => ⟨_, by omega, rfl, hjt, z.1, z.2.1, z.2.2⟩, fun x2 H5 y2 => ?_⟩
            obtain ⟨rfl, hx2⟩ := walk_list.yields j H4 x2 H5 hj' (sq_l hq4) y2
            obtain ⟨z, hz, rfl⟩ := strs_get hx2
            refine ⟨rfl, yes_i ⟨_, rfl, _, hd4, small100' (by simp only [List.length_map, List.length_append, List.length_take]; omega), ?_, ?_, ?_⟩⟩
            · exact same_mut sm4 hD
            · rw [upd_ne hqD]; exact hq4
            · have et : c.ws.take (j + 1) = c.ws.take j ++ [z] := by rw [List.take_succ, hz]; rfl
              rw [et, ← List.append_assoc, List.map_append (l₂ := [z])]
              exact upd_same
          · have ej : j = c.ws.length := by omega
            subst ej
            refine .inl ⟨by have := (walk_list (K := K) (a := q) (xs := c.ws.map V.str)).stops H4 (sq_l hq4); rw [List.length_map] at this; exact this, sm4, ?_⟩
            rw [hd4, List.take_length, flat_take ez]
      · have ei : i = xs.length := by omega
        subst ei
        refine .inl ⟨walk_list.stops H1 (sq_l (sm p _ hp1)), D, _, rfl, .inr (sq_l hd1), small100 ?_, fun q hq => ?_⟩
        · rw [lx, List.take_of_length_le (by rw [List.length_map]; exact Nat.le_refl _)]
          simp only [List.length_cons, List.length_append, List.length_map, List.length_nil]
          have := ws_len e
          rw [ew, List.length_cons] at this
          omega
        · refine kq q _ (s1.free (sm.free hq)) (s1.trans (sm.trans (same_new hq))) ?_
          rw [ew, lx, List.take_of_length_le (by rw [List.length_map]; exact Nat.le_refl _)]
          rw [List.map_cons, List.append_nil]
          exact upd_same
    | none =>
      cases e with
      | int i =>
        simp only [Ex.data] at hd
        cases hd
        refine ⟨_, rfl, _, _, _, _, false, rfl, .ty "tuple", .base (.int i), kit_ty (by decide +kernel), false, rfl, iteT ?_⟩
        refine ⟨_, rfl, rfl, _, rfl, iteF ⟨_, rfl, i, rfl, okInt_log hw, small100 (by simp), fun p hp => kq p _ hp (same_new hp) upd_same⟩⟩
      | non =>
        simp only [Ex.data] at hd
        cases hd
        refine ⟨_, rfl, _, _, _, _, false, rfl, .ty "tuple", .base .non, kit_ty (by decide +kernel), false, rfl, iteT ?_⟩
        refine ⟨_, rfl, rfl, _, rfl, iteT ⟨small100 (by simp), fun p hp => kq p _ hp (same_new hp) upd_same⟩⟩
      | self =>
        simp only [Ex.data] at hd
        obtain ⟨a, xs, rfl, hs, ha⟩ := dp_cons hd
        cases ha
        refine ⟨_, rfl, _, _, _, _, true, rfl, .ty "tuple", tyx_t hs, kit_ty (by decide +kernel), true, rfl, iteF ?_⟩
        refine ⟨_, rfl, a, _, _, rfl, hs, by simp, fun p hp => ⟨_, _, rfl, _, _, rfl, rfl, ?_⟩⟩
        refine ⟨_, rfl, _, rfl, mV_n (by decide +kernel) (mO_n (by decide +kernel) (mO_y (by decide +kernel) ?_))⟩
        have hs1 := tk_t (tk_of (same_new (o := .lst []) hp)) hs
        exact ⟨_, rfl, a, _, rfl, .inr hs1, fun l hl => kq l _ ((same_new hp).free hl) ((same_new hp).trans (same_new hl)) upd_same⟩
      | sum b c d =>
        simp only [Ex.data] at hd
        obtain ⟨a, xs, rfl, hs, ha⟩ := dp_cons hd
        obtain rfl : xs = [.str b, .str c, .str d] := dp_strs (p := [b, c, d]) ha
        refine ⟨_, rfl, _, _, _, _, true, rfl, .ty "tuple", tyx_t hs, kit_ty (by decide +kernel), true, rfl, iteF ?_⟩
        refine ⟨_, rfl, a, _, _, rfl, hs, by simp, fun p hp => ⟨_, _, rfl, _, _, rfl, rfl, ?_⟩⟩
        refine ⟨_, rfl, _, rfl, mV_n (by decide +kernel) (mO_n (by decide +kernel) (mO_y (by decide +kernel) ?_))⟩
        have hs1 := tk_t (tk_of (same_new (o := .lst [.str b, .str c, .str d]) hp)) hs
        exact ⟨_, rfl, a, _, rfl, .inr hs1, fun l hl => kq l _ ((same_new hp).free hl) ((same_new hp).trans (same_new hl)) upd_same⟩
      | get pa i =>
        simp only [Ex.data] at hd
        obtain ⟨a, xs, rfl, hs, ha⟩ := dp_cons hd
        obtain ⟨b, rfl, hb⟩ : ∃ b, xs = [V.ref b, .int i] ∧ SqT K H b (pa.map V.str) := by
          cases ha with
          | cons h1 h2 =>
            cases h2 with
            | cons h2 h3 =>
              cases h2
              cases h3
              obtain ⟨b, rfl, hb⟩ := dp_path h1
              exact ⟨b, rfl, hb⟩
        have em : Ex.m (.get pa i) = ("get" : Str).length + 1 + ((pathW pa).length + 1 + ((iw i).length + 1)) := by
          show m1 ("get" :: [pathW pa, iw i]) = _
          rw [m1_cons, m1_cons, m1_cons] <;> rfl
        have hpm := path_m hw.1
        refine ⟨_, rfl, _, _, _, _, true, rfl, .ty "tuple", tyx_t hs, kit_ty (by decide +kernel), true, rfl, iteF ?_⟩
        refine ⟨_, rfl, a, _, _, rfl, hs, by simp, fun p hp => ⟨_, _, rfl, _, _, rfl, rfl, ?_⟩⟩
        have hp1 : (upd H p (.lst [V.ref b, .int i])) p = some (.lst [V.ref b, .int i]) := upd_same
        refine ⟨_, rfl, _, rfl, mV_y (by decide +kernel) ?_⟩
        have s1 : Same H (upd H p (.lst [V.ref b, .int i])) := same_new hp
        refine ⟨_, rfl, _, rfl, p, _, _, _, rfl, rfl, sq_l hp1, rfl, _, pa, rfl, .tup (tk_t (tk_of s1) hb) (dp_of_strs _), by omega, fun H2 s2 => ?_⟩
        refine ⟨_, rfl, p, _, _, _, rfl, rfl, sq_l (s2 p _ hp1), rfl, i, rfl, okInt_log hw.2, small100 (by simp), fun q hq => ?_⟩
        exact kq q _ (s1.free (s2.free hq)) (s1.trans (s2.trans (same_new hq))) upd_same
      | isnone pa =>
        simp only [Ex.data] at hd
        obtain ⟨a, xs, rfl, hs, ha⟩ := dp_cons hd
        obtain ⟨b, rfl, hb⟩ : ∃ b, xs = [V.ref b] ∧ SqT K H b (pa.map V.str) := by
          cases ha with
          | cons h1 h2 =>
            cases h2
            obtain ⟨b, rfl, hb⟩ := dp_path h1
            exact ⟨b, rfl, hb⟩
        have em : Ex.m (.isnone pa) = ("none" : Str).length + 1 + ((pathW pa).length + 1) := by
          show m1 ("none" :: [pathW pa]) = _
          rw [m1_cons, m1_cons] <;> rfl
        have hpm := path_m hw
        refine ⟨_, rfl, _, _, _, _, true, rfl, .ty "tuple", tyx_t hs, kit_ty (by decide +kernel), true, rfl, iteF ?_⟩
        refine ⟨_, rfl, a, _, _, rfl, hs, by simp, fun p hp => ⟨_, _, rfl, _, _, rfl, rfl, ?_⟩⟩
        have hp1 : (upd H p (.lst [V.ref b])) p = some (.lst [V.ref b]) := upd_same
        refine ⟨_, rfl, _, rfl, mV_n (by decide +kernel) (mO_y (by decide +kernel) ?_)⟩
        have s1 : Same H (upd H p (.lst [V.ref b])) := same_new hp
        refine ⟨_, rfl, _, rfl, p, _, _, _, rfl, rfl, sq_l hp1, rfl, _, pa, rfl, .tup (tk_t (tk_of s1) hb) (dp_of_strs _), by omega, fun H2 s2 => ?_⟩
        refine ⟨small100 (by simp), fun q hq => ?_⟩
        exact kq q _ (s1.free (s2.free hq)) (s1.trans (s2.trans (same_new hq))) upd_same
      | to pa =>
        simp only [Ex.data] at hd
        obtain ⟨a, xs, rfl, hs, ha⟩ := dp_cons hd
        obtain ⟨b, rfl, hb⟩ : ∃ b, xs = [V.ref b] ∧ SqT K H b (pa.map V.str) := by
          cases ha with
          | cons h1 h2 =>
            cases h2
            obtain ⟨b, rfl, hb⟩ := dp_path h1
            exact ⟨b, rfl, hb⟩
        have em : Ex.m (.to pa) = ("to" : Str).length + 1 + ((pathW pa).length + 1) := by
          show m1 ("to" :: [pathW pa]) = _
          rw [m1_cons, m1_cons] <;> rfl
        have hpm := path_m hw
        refine ⟨_, rfl, _, _, _, _, true, rfl, .ty "tuple", tyx_t hs, kit_ty (by decide +kernel), true, rfl, iteF ?_⟩
        refine ⟨_, rfl, a, _, _, rfl, hs, by simp, fun p hp => ⟨_, _, rfl, _, _, rfl, rfl, ?_⟩⟩
        have hp1 : (upd H p (.lst [V.ref b])) p = some (.lst [V.ref b]) := upd_same
        refine ⟨_, rfl, _, rfl, mV_n (by decide +kernel) (mO_y (by decide +kernel) ?_)⟩
        have s1 : Same H (upd H p (.lst [V.ref b])) := same_new hp
        refine ⟨_, rfl, _, rfl, p, _, _, _, rfl, rfl, sq_l hp1, rfl, _, pa, rfl, .tup (tk_t (tk_of s1) hb) (dp_of_strs _), by omega, fun H2 s2 => ?_⟩
        refine ⟨small100 (by simp), fun q hq => ?_⟩
        exact kq q _ (s1.free (s2.free hq)) (s1.trans (s2.trans (same_new hq))) upd_same
      | not c => cases hsub
      | bin o b c => cases hsub
      | cond b c d => cases hsub
/-- never kept: no call is made -/
def spNo : Sp := fun vs _ _ _ => vs.length = 1 ∧ False
theorem cal_words (T : Tx K mg) : ∀ n, Cal P w K mg base CX0 (n + 2) "expression_words" ["expression"] (spWords K n)
  | 0 => by
    have C0 : Cal P w K mg base CX0 1 "expression_words" ["expression"] spNo :=
      T.h28.cal sc28 (fun vs H Q E h => h.2.elim) (fun _ _ _ _ _ _ us hl => match us, hl with | [_], _ => rfl) (fun f cdv A outer s H vs Q E hr h => h.2.elim)
    exact words_step T 0 1 (Nat.le_refl _) C0 fun _ _ _ _ h _ => absurd h (Nat.lt_irrefl _)
  | n + 1 => words_step T (n + 1) (n + 2) (by omega) (cal_words T n) fun _ _ _ _ _ h => h
def spText (K : PySem.W.Frag) : Sp := fun vs H Q _ => ∃ (x : V) (e : Ex), vs = [x] ∧ Dp K H x e.data ∧ e.Wf ∧ e.opens ≤ 30 ∧ e.m ≤ 100000 ∧ ∀ H', Same H H' → Q (.str e.txt) H'
theorem sc29 : FnScope ["expression"] ["expression"] (defScope (top 29)) := ⟨rfl, rfl, rfl, by decide +kernel, rfl, by decide +kernel, by decide +kernel⟩
theorem cal_text (T : Tx K mg) : Cal P w K mg base CX0 33 "expression_text" ["expression"] (spText K) := by
  have C := cal_words (P := P) (w := w) (base := base) T 30
  refine T.h29.cal sc29 (fun vs H Q E h => ?_) (fun _ _ _ _ _ _ us hl => match us, hl with | [_], _ => rfl) (fun f cdv A outer s H vs Q E hr h => ?_)
  · obtain ⟨x, p, rfl, _⟩ := h; rfl
  · obtain ⟨x, e, rfl, hd, hw, ho, hm, k⟩ := h
    refine ⟨_, (pss_one (ps_ret (pe_join pe_str (pe_cal C hr rfl pass0 (pa_cons (pv 0) pa_nil))))), ?_⟩
    refine ⟨⟨spc, rfl⟩, _, rfl, x, e, rfl, hd, hw, ho, hm, fun p H1 hp s1 h1 => ⟨spc, p, e.ws, rfl, rfl, .inl (sq_l h1), ?_, k _ s1⟩⟩
    rw [spc_len, m1_sum]
    exact Nat.le_trans hm (by decide)
end
end K12

set_option maxHeartbeats 4000000
/-! K3c: plain data compared; kind_text, form_text. -/
namespace K12
open PySem PySem.Spec PyProof.Rows L2 TL
set_option autoImplicit false
mutual
theorem plain_lay : ∀ d : PyData, plain d → d.canLay0 = true
  | .none, _ => by simp [PyData.canLay0]
  | .bool _, p => by simp only [plain] at p
  | .int _, _ => by simp [PyData.canLay0]
  | .str x, p => by
    simp only [plain] at p
    simp only [PyData.canLay0]
    unfold PyData.strOk
    rw [← Array.all_toList, List.all_eq_true]
    exact fun c hc => decide_eq_true (p c hc)
  | .list _, p => by simp only [plain] at p
  | .tuple xs, p => by
    simp only [plain] at p
    simp only [PyData.canLay0]
    exact plainAll_lay xs p
  | .dict _, p => by simp only [plain] at p
theorem plainAll_lay : ∀ xs : List PyData, plainAll xs → PyData.canLayAll0 xs = true
  | [], _ => by simp [PyData.canLayAll0]
  | x :: xs, p => by
    simp only [plainAll] at p
    simp only [PyData.canLayAll0, Bool.and_eq_true]
    exact ⟨plain_lay x p.1, plainAll_lay xs p.2⟩
end
mutual
theorem eqv_plain : ∀ d e : PyData, plain d → plain e → (PyData.eqv d e = true ↔ d = e)
  | .none, .none, _, _ => by simp [PyData.eqv]
  | .none, .int _, _, _ => by simp [PyData.eqv]
  | .none, .str _, _, _ => by simp [PyData.eqv]
  | .none, .tuple _, _, _ => by simp [PyData.eqv]
  | .int _, .none, _, _ => by simp [PyData.eqv]
  | .int _, .int _, _, _ => by simp [PyData.eqv]
  | .int _, .str _, _, _ => by simp [PyData.eqv]
  | .int _, .tuple _, _, _ => by simp [PyData.eqv]
  | .str _, .none, _, _ => by simp [PyData.eqv]
  | .str _, .int _, _, _ => by simp [PyData.eqv]
  | .str _, .str _, _, _ => by simp [PyData.eqv]
  | .str _, .tuple _, _, _ => by simp [PyData.eqv]
  | .tuple _, .none, _, _ => by simp [PyData.eqv]
  | .tuple _, .int _, _, _ => by simp [PyData.eqv]
  | .tuple _, .str _, _, _ => by simp [PyData.eqv]
  | .tuple xs, .tuple ys, p, q => by
    simp only [plain] at p q
    simp only [PyData.eqv, PyData.tuple.injEq]
    exact eqvAll_plain xs ys p q
  | .bool _, _, p, _ => by simp only [plain] at p
  | .list _, _, p, _ => by simp only [plain] at p
  | .dict _, _, p, _ => by simp only [plain] at p
  | _, .bool _, _, q => by simp only [plain] at q
  | _, .list _, _, q => by simp only [plain] at q
  | _, .dict _, _, q => by simp only [plain] at q
theorem eqvAll_plain : ∀ xs ys : List PyData, plainAll xs → plainAll ys → (PyData.eqvAll xs ys = true ↔ xs = ys)
  | [], [], _, _ => by simp [PyData.eqvAll]
  | [], _ :: _, _, _ => by simp [PyData.eqvAll]
  | _ :: _, [], _, _ => by simp [PyData.eqvAll]
  | x :: xs, y :: ys, p, q => by
    simp only [plainAll] at p q
    simp only [PyData.eqvAll, Bool.and_eq_true, List.cons.injEq]
    rw [eqv_plain x y p.1 q.1, eqvAll_plain xs ys p.2 q.2]
end
theorem strs_plain {ws : List Str} (h : ∀ w ∈ ws, ∀ c ∈ tl w, c < 1114112) : plainAll (ws.map PyData.str) := by
  induction ws with
  | nil => simp only [List.map_nil, plainAll]
  | cons a r ih =>
    simp only [List.map_cons, plainAll, plain]
    exact ⟨h a (by simp), ih fun w hw => h w (List.mem_cons_of_mem _ hw)⟩
def tJ (ts : List TE) : TE := fun σ H Q => tJs ts Str.empty σ H fun out H1 => Q (.str out) H1
theorem pe_joinedT {X : Cx} {v1 v2 : Expr} {rest : List Expr} {ts : List TE} {pos : Pos} (h : PJ X (v1 :: v2 :: rest) ts) : PE X (.JoinedStr (v1 :: v2 :: rest) pos) (tJ ts) := pe_joined h
theorem strs_depth : ∀ ws : List Str, PyData.depthAll (ws.map PyData.str) ≤ 1
  | [] => by simp [PyData.depthAll]
  | a :: r => by
    have := strs_depth r
    simp only [List.map_cons, PyData.depthAll, PyData.depth]
    omega
/-- lists of texts -/
theorem shaped_strs {ws : List Str} (h : ∀ w ∈ ws, ∀ c ∈ tl w, c < 1114112) : SeqAt.shaped (.list (ws.map PyData.str)) = true := by
  unfold SeqAt.shaped
  have := strs_depth ws
  rw [Bool.and_eq_true]
  refine ⟨?_, decide_eq_true (by simp only [PyData.depth]; omega)⟩
  simp only [PyData.canLay0]
  exact plainAll_lay _ (strs_plain h)
theorem dp_strl {K : PySem.W.Frag} {H : Hp} {a : Addr} {ws : List Str} (h : SqL K H a (ws.map V.str)) : Dp K H (.ref a) (.list (ws.map PyData.str)) := .lst h (dp_of_strs ws)
theorem eqv_strs_nil {ws : List Str} : PyData.eqv (.list (ws.map PyData.str)) (.list []) = decide (ws = []) := by
  cases ws <;> simp [PyData.eqv, PyData.eqvAll]
theorem name_code {z : Str} (h : isName z = true) : ∀ c ∈ tl z, c < 1114112 := fun c hc => by
  have := nameL_mem (isName_iff.mp h).2.2 hc
  omega
theorem kd_code {k : Kd} (h : k.Ok) : ∀ c ∈ tl k.txt, c < 1114112 := by
  cases k with
  | cls n => exact name_code h
  | rng a b =>
    intro c hc
    have e : tl (Kd.txt (.rng a b)) = tl (iw a) ++ [46, 46] ++ tl (iw b) := by
      show tl (iw a ++ dots ++ iw b) = _
      rw [tl_append, tl_append, tl_dots]
    rw [e] at hc
    simp only [List.mem_append, List.mem_cons, List.not_mem_nil, or_false] at hc
    rcases hc with (hc | hc) | hc
    · rcases iw_signs a c hc with q | q <;> omega
    · omega
    · rcases iw_signs b c hc with q | q <;> omega
theorem fld_code {x : Str × Kd} (h1 : isName x.1 = true) (h2 : x.2.Ok) : ∀ c ∈ tl (fldW x), c < 1114112 := by
  intro c hc
  have e : tl (fldW x) = tl x.1 ++ [58] ++ tl x.2.txt := by
    show tl (x.1 ++ colon ++ x.2.txt) = _
    rw [tl_append, tl_append, tl_colon]
  rw [e] at hc
  simp only [List.mem_append, List.mem_cons, List.not_mem_nil, or_false] at hc
  rcases hc with (hc | hc) | hc
  · exact name_code h1 c hc
  · omega
  · exact kd_code h2 c hc
theorem len_append (a b : Str) : (a ++ b).length = a.length + b.length := by rw [len_tl, tl_append, List.length_append, ← len_tl, ← len_tl]
theorem empty_append (a : Str) : Str.empty ++ a = a := ext_tl (by rw [tl_append]; rfl)
theorem kd_len {k : Kd} (h : k.Ok) : k.txt.length ≤ 124 := by
  cases k with
  | cls n => have := (isName_iff.mp h).2.1; show n.length ≤ 124; omega
  | rng a b =>
    show (iw a ++ dots ++ iw b).length ≤ 124
    have h1 := iw_len (k := 60) (by omega) h.1
    have h2 := iw_len (k := 60) (by omega) h.2.1
    have h3 : dots.length = 2 := by decide +kernel
    rw [len_append, len_append, h3]
    omega
theorem fld_len {x : Str × Kd} (h1 : isName x.1 = true) (h2 : x.2.Ok) : (fldW x).length ≤ 133 := by
  show (x.1 ++ colon ++ x.2.txt).length ≤ 133
  have e1 := (isName_iff.mp h1).2.1
  have e2 := kd_len h2
  have h3 : colon.length = 1 := by decide +kernel
  rw [len_append, len_append, h3]
  omega
section
variable {P : Program} {w : World} {K : PySem.W.Frag} {mg : Str → Option Value} {base : Heap}
def spKindText (K : PySem.W.Frag) : Sp := fun vs H Q _ => ∃ (x : V) (kd : Kd), vs = [x] ∧ Dp K H x kd.data ∧ kd.Ok ∧ ∀ H', Same H H' → Q (.str kd.txt) H'
theorem sc30 : FnScope ["kind"] ["kind"] (defScope (top 30)) := ⟨rfl, rfl, rfl, by decide +kernel, rfl, by decide +kernel, by decide +kernel⟩
theorem cal_kind_text (T : Tx K mg) : Cal P w K mg base CX0 1 "kind_text" ["kind"] (spKindText K) := by
  refine T.h30.cal sc30 (fun vs H Q E h => ?_) (fun _ _ _ _ _ _ us hl => match us, hl with | [_], _ => rfl) (fun f cdv A outer s H vs Q E hr h => ?_)
  · obtain ⟨x, p, rfl, _⟩ := h; rfl
  · obtain ⟨x, kd, rfl, hd, ok, k⟩ := h
    refine ⟨_, (pss_one (ps_ret (pe_ifExp (pt_val (pe_callB call_isi (by rfl) T.b_isinstance (by decide +kernel) (pa_cons (pv 0) (pa_cons (pe_bltn (v := .ty "str") rfl T.b_str (by decide +kernel) rfl) pa_nil)))) (pv 0) (pe_joinedT (PJ.cons (pe_fmt (pe_ixT K rfl (pv 0) pe_int (fun _ _ => rfl))) (PJ.cons pe_str (PJ.cons (pe_fmt (pe_ixT K rfl (pv 0) pe_int (fun _ _ => rfl))) PJ.nil))))))), ?_⟩
    rcases kd_cases hd with ⟨n, rfl, rfl⟩ | ⟨a, i, j, rfl, rfl, hs⟩
    · refine ⟨_, rfl, _, _, _, _, true, rfl, .ty "str", .base (.str n), kit_ty (by decide +kernel), true, rfl, iteT ⟨_, rfl, k _ (Same.refl _)⟩⟩
    · refine ⟨_, rfl, _, _, _, _, false, rfl, .ty "str", tyx_t hs, kit_ty (by decide +kernel), false, rfl, iteF ?_⟩
      have h1 := iw_len (k := 60) (by omega) ok.1
      have h2 := iw_len (k := 60) (by omega) ok.2.1
      have h3 : dots.length = 2 := by decide +kernel
      refine ⟨_, rfl, a, _, _, _, rfl, rfl, hs, rfl, .inr ⟨i, rfl, okInt_log ok.1, iw i, rfl, ?_, dots, rfl, ?_, _, rfl, a, _, _, _, rfl, rfl, hs, rfl, .inr ⟨j, rfl, okInt_log ok.2.1, iw j, rfl, ?_, ?_⟩⟩⟩
      · rw [empty_append]; exact small100 (by omega)
      · rw [empty_append, len_append]; exact small100 (by omega)
      · rw [empty_append, len_append, len_append]; exact small100 (by omega)
      · show Q (.str (Str.empty ++ iw i ++ dots ++ iw j)) H
        rw [empty_append]
        exact k _ (Same.refl _)
def spFormText (K : PySem.W.Frag) : Sp := fun vs H Q _ => ∃ (x : V) (fm : Form), vs = [x] ∧ Dp K H x fm.data ∧ (∀ y ∈ fm, isName y.1 = true ∧ y.2.Ok) ∧ fm.length ≤ 100000 ∧ ∀ H', Same H H' → Q (.str fm.txt) H'
theorem sc31 : FnScope ["form", "words", "field", "kind"] ["form"] (defScope (top 31)) := ⟨rfl, rfl, rfl, by decide +kernel, rfl, by decide +kernel, by decide +kernel⟩
theorem cal_form_text (T : Tx K mg) : Cal P w K mg base CX0 2 "form_text" ["form"] (spFormText K) := by
  have C := cal_kind_text (P := P) (w := w) (base := base) T
  refine T.h31.cal sc31 (fun vs H Q E h => ?_) (fun _ _ _ _ _ _ us hl => match us, hl with | [_], _ => rfl) (fun f cdv A outer s H vs Q E hr h => ?_)
  · obtain ⟨x, p, rfl, _⟩ := h; rfl
  · obtain ⟨x, fm, rfl, hd, ok, hl, k⟩ := h
    obtain ⟨tN, cN⟩ := T.c_NONE
    refine ⟨_, (pss_cons (ps_setLc (i := 1) (own := [("field", 2), ("kind", 3)]) (g := (gTup K 2 (gCons (gName 2) (gCons (gName 3) gNil)))) (tt := tYes) rfl sc31.nd rfl rfl rfl (pi_tup (pv 0)) (blkOk_by (N := ["form", "words", "field", "kind"]) (sc := defScope (top 31)) (by decide +kernel)) (fun _ _ _ _ _ => (pg_tup rfl (pgs_cons (pg_name (i := 2) sc31.nd rfl (Or.inl rfl)) (pgs_cons (pg_name (i := 3) sc31.nd rfl (Or.inl rfl)) pgs_nil)))) (fun _ _ _ _ _ => pts_nil) (fun _ _ _ _ _ => (pe_joinedT (PJ.cons (pe_fmt (pv 2)) (PJ.cons pe_str (PJ.cons (pe_fmt (pe_cal C hr rfl pass0 (pa_cons (pv 3) pa_nil))) PJ.nil))))))
      (pss_one (ps_ret (pe_ifExp (pt_cmpR (op_neD hr.units) (pv 1) (pe_lst pa_nil) (nomark _)) (pe_join pe_str (pv 1)) (pe_gs cN))))), ?_⟩
    unfold Form.data at hd
    cases hd with
    | @tup a xs _ hs ha =>
    have lx : xs.length = fm.length := by rw [dpAll_len ha, List.length_map]
    refine ⟨_, rfl, a, rfl, ⟨_, hs⟩, fun D hD => lc_map walk_tup (by omega) ((fm.map fldW).map V.str) (by simp [lx]) hD (fun H1 s1 => tk_t (tk_of s1) hs) ?_ ?_⟩
    · rintro i x H1 H2 Q1 hi s1 ⟨rfl, hx⟩ kq
      obtain ⟨d, e1, e2⟩ := dpAll_get ha i x hx
      rw [List.getElem?_map] at e1
      cases e3 : fm[i]? with
      | none => rw [e3] at e1; cases e1
      | some q =>
        obtain ⟨n, kd⟩ := q
        rw [e3] at e1
        obtain rfl : fldD (n, kd) = d := Option.some.inj e1
        obtain ⟨n1, k1⟩ := ok _ (List.mem_of_getElem? e3)
        have s1' := tk_of s1
        obtain ⟨b, v, rfl, hb, hv⟩ := fld_cases (Dp.tk s1' _ _ (fld_plain n1 k1) e2)
        have fl := fld_len n1 k1
        have fe : (fldW (n, kd)).length = n.length + colon.length + kd.txt.length := by
          show (n ++ colon ++ kd.txt).length = _
          rw [len_append, len_append]
        refine ⟨b, _, rfl, hb, rfl, _, _, rfl, _, _, rfl, rfl, rfl, ?_⟩
        refine ⟨_, rfl, .inl ⟨n, rfl, small100 (by omega), n, rfl, ?_, colon, rfl, ?_, _, rfl, v, kd, rfl, hv, k1, fun H3 s3 => .inl ⟨kd.txt, rfl, small100 (by omega), kd.txt, rfl, ?_, ?_⟩⟩⟩
        · rw [empty_append]; exact small100 (by omega)
        · rw [empty_append, len_append]; exact small100 (by omega)
        · rw [empty_append, len_append, len_append]; exact small100 (by omega)
        · refine kq _ _ ?_ s3
          rw [empty_append, List.getElem?_map, List.getElem?_map, e3]
          rfl
    · intro H1 hy s1
      have cd : ∀ w ∈ fm.map fldW, ∀ c ∈ tl w, c < 1114112 := fun w hw => by
        obtain ⟨x, hx, rfl⟩ := List.mem_map.mp hw
        exact fld_code (ok x hx).1 (ok x hx).2
      refine ⟨_, rfl, small100 (by simp), fun p hp => ?_⟩
      have sp1 : Same H1 (upd H1 p (.lst [])) := same_new hp
      have hy1 := sp1 D _ hy
      refine ⟨_, _, dp_strl (sq_l hy1), dp_strl (ws := []) (sq_l upd_same), shaped_strs cd, shaped_strs (by simp), ?_⟩
      have ev : PyData.eqv (.list ((fm.map fldW).map PyData.str)) (.list (([] : List Str).map PyData.str)) = decide (fm = []) := by
        rw [List.map_nil, eqv_strs_nil]
        cases fm <;> simp
      rw [ev]
      by_cases h0 : fm = []
      · rw [decide_eq_true h0]
        refine ⟨false, rfl, iteF ?_⟩
        have : Q (.str fm.txt) (upd H1 p (.lst [])) := k _ (s1.trans sp1)
        unfold Form.txt at this
        rw [if_pos h0] at this
        exact this
      · rw [decide_eq_false h0]
        refine ⟨true, rfl, iteT ⟨⟨comma, rfl⟩, _, rfl, comma, D, fm.map fldW, rfl, rfl, .inl (sq_l hy1), ?_, ?_⟩⟩
        · have e1 : comma.length = 1 := by decide +kernel
          have bd : ∀ l : List (Str × Kd), (∀ y ∈ l, isName y.1 = true ∧ y.2.Ok) → m1 (l.map fldW) ≤ 134 * l.length := by
            intro l
            induction l with
            | nil => intro _; exact Nat.le_refl _
            | cons a r ih =>
              intro h
              have h1 := fld_len (h a (by simp)).1 (h a (by simp)).2
              have h2 := ih fun y hy => h y (List.mem_cons_of_mem _ hy)
              rw [List.map_cons, m1_cons, List.length_cons]
              omega
          have := bd fm ok
          rw [e1, m1_sum]
          omega
        · have : Q (.str fm.txt) (upd H1 p (.lst [])) := k _ (s1.trans sp1)
          unfold Form.txt at this
          rw [if_neg h0] at this
          exact this
end
end K12

set_option maxHeartbeats 4000000
/-! K4: number_or_none, integer_or_none, name_or_none, path_or_none, kind_or_none. -/
namespace K12
open PySem PySem.Spec PyProof.Rows L2 TL NumText
set_option autoImplicit false
def digits : Str := "0123456789"
theorem mem_digits (c : Nat) : decide (c ∈ digits.cps.toList) = (decide (48 ≤ c) && decide (c ≤ 57)) := by
  have e : digits.cps.toList = [48, 49, 50, 51, 52, 53, 54, 55, 56, 57] := by decide +kernel
  rw [e]
  have : (c ∈ [48, 49, 50, 51, 52, 53, 54, 55, 56, 57]) ↔ (48 ≤ c ∧ c ≤ 57) := by
    simp only [List.mem_cons, List.not_mem_nil, or_false]
    omega
  by_cases h : 48 ≤ c ∧ c ≤ 57
  · rw [decide_eq_true (this.mpr h), decide_eq_true h.1, decide_eq_true h.2]; rfl
  · rw [decide_eq_false (fun z => h (this.mp z))]
    by_cases h1 : 48 ≤ c
    · rw [decide_eq_true h1, decide_eq_false (fun z => h ⟨h1, z⟩)]; rfl
    · rw [decide_eq_false h1]; rfl
theorem cutS_from {z : Str} : cutS z (some 1) none = mk (tl z).tail := by
  unfold cutS
  have e : HT.sIx z.length 0 (some (1 : Int)) = min 1 z.length := HT.sIx_nat _ _ 1
  rw [e, HT.sIx_none]
  refine ext_tl ?_
  show ((tl z).drop (min 1 z.length)).take (z.length - min 1 z.length) = (tl z).tail
  rw [len_tl]
  cases tl z with
  | nil => simp
  | cons a r => simp
theorem cutS_to {z : Str} : cutS z none (some 1) = mk ((tl z).take 1) := by
  unfold cutS
  have e : HT.sIx z.length z.length (some (1 : Int)) = min 1 z.length := HT.sIx_nat _ _ 1
  rw [e, HT.sIx_none]
  refine ext_tl ?_
  show ((tl z).drop 0).take (min 1 z.length - 0) = (tl z).take 1
  rw [len_tl]
  cases tl z with
  | nil => simp
  | cons a r => simp
theorem take1_dash (z : Str) : (mk ((tl z).take 1) = dash) ↔ (tl z).head? = some 45 := by
  constructor
  · intro h
    have : (tl z).take 1 = [45] := by rw [← tl_dash, ← h, tl_mk']
    cases e : tl z with
    | nil => rw [e] at this; simp at this
    | cons a r => rw [e] at this; simpa using this
  · intro h
    cases e : tl z with
    | nil => rw [e] at h; simp at h
    | cons a r =>
      rw [e] at h
      have : a = 45 := by simpa using h
      subst this
      exact ext_tl (by rw [tl_mk', tl_dash]; rfl)
section
variable {P : Program} {w : World} {K : PySem.W.Frag} {mg : Str → Option Value} {base : Heap}
/-- a parser of words: None, or the data of what is read -/
def spParse (K : PySem.W.Frag) {α : Type} (f : Str → Option α) (d : α → PyData) : Sp := fun vs H Q _ => ∃ z : Str, vs = [.str z] ∧ z.length ≤ 90000 ∧ (f z = none → ∀ H', Same H H' → Q .non H') ∧ (∀ a, f z = some a → ∀ v H', Same H H' → Dp K H' v (d a) → Q v H')
def spNum : Sp := fun vs H Q _ => ∃ z : Str, vs = [.str z] ∧ z.length ≤ 90000 ∧ (numOf z = none → ∀ H', Same H H' → Q .non H') ∧ (∀ n, numOf z = some n → ∀ H', Same H H' → Q (.int (n : Int)) H')
theorem sc42 : FnScope ["word", "sign"] ["word"] (defScope (top 42)) := ⟨rfl, rfl, rfl, by decide +kernel, rfl, by decide +kernel, by decide +kernel⟩
theorem cal_number (T : Tx K mg) : Cal P w K mg base CX0 1 "number_or_none" ["word"] spNum := by
  refine T.h42.cal sc42 (fun vs H Q E h => ?_) (fun _ _ _ _ _ _ us hl => match us, hl with | [_], _ => rfl) (fun f cdv A outer s H vs Q E hr h => ?_)
  · obtain ⟨z, rfl, _⟩ := h; rfl
  · obtain ⟨z, rfl, hz, k1, k2⟩ := h
    obtain ⟨tD, cD⟩ := T.c_DIGITS
    obtain ⟨tG, cG⟩ := T.c_MOSTD
    refine ⟨_, (pss_cons (ps_if (PW.pt (pw_or (pt_not (pt_chain op_le op_le pe_int (pe_callB call_len_str (by rfl) T.b_len PySem.boot_len (pa_cons (pv 0) pa_nil)) (pe_gi cG))) (pw_or1 (pt_not (pt_val (pe_callB (cr_all rfl) (by rfl) T.b_all (by decide +kernel) (pa_cons (pe_lc (own := [("sign", 1)]) (g := (gName 1)) (tt := tYes) rfl sc42.nd (pi_str (pv 0)) (blkOk_by (N := ["word", "sign"]) (sc := defScope (top 42)) (by decide +kernel)) (fun _ _ _ _ _ => (pg_name (i := 1) sc42.nd rfl (Or.inl rfl))) (fun _ _ _ _ _ => pts_nil) (fun _ _ _ _ _ => (pe_cmpR op_in_sign (pv 1) (pe_gs cD) rfl))) pa_nil))))))) (pss_one (ps_ret pe_non)) pss_nil)
      (pss_one (ps_ret (pe_ifExp (PW.pt (pw_or (pt_cmpR op_eq (pv 0) pe_str (nomark _)) (pw_or1 (pt_cmpR op_ne (pe_ix ix_str (pv 0) pe_int (fun _ _ => rfl)) pe_str (nomark _))))) (pe_callTy call_int_str (by rfl) T.b_int boot_int (pa_cons (pv 0) pa_nil)) pe_non)))), ?_⟩
    refine ⟨_, rfl, _, rfl, small100 (Nat.le_trans hz (by decide)), _, _, rfl, rfl, decide ((1 : Int) ≤ (z.length : Int)), rfl, ?_⟩
    have no : (decide (1 ≤ z.length) && decide (z.length ≤ 60) && digB (tl z)) = false → ∀ H', Same H H' → Q .non H' := fun e => k1 (by unfold numOf; rw [e]; rfl)
    by_cases h1 : 1 ≤ z.length
    · have d1 : decide ((1 : Int) ≤ (z.length : Int)) = true := decide_eq_true (by omega)
      rw [d1]
      refine iteT ⟨_, _, rfl, rfl, decide ((z.length : Int) ≤ 60), rfl, ?_⟩
      by_cases h2 : z.length ≤ 60
      · have d2 : decide ((z.length : Int) ≤ 60) = true := decide_eq_true (by omega)
        rw [d2]
        refine iteF ?_
        refine ⟨_, rfl, z, rfl, fun D hD => lc_map walk_str (by have := len_tl z; simp [tl] at this; omega) ((tl z).map fun c => V.bl (decide (48 ≤ c) && decide (c ≤ 57))) (by rw [List.length_map]; simp [tl]) hD (fun _ _ => True.intro) ?_ ?_⟩
        · rintro i x H1 H2 Q1 hi hs ⟨rfl, c, hc, rfl⟩ kq
          refine ⟨rfl, _, rfl, c, digits, rfl, rfl, ?_⟩
          rw [mem_digits]
          refine kq _ _ ?_ (Same.refl _)
          have hc' : (tl z)[i]? = some c := by rw [← hc]; exact Array.getElem?_toList
          rw [List.getElem?_map, hc']
          rfl
        · intro H1 hy hs
          refine ⟨D, (tl z).map fun c => (decide (48 ≤ c) && decide (c ≤ 57)), rfl, ?_, ?_⟩
          · rw [List.map_map]
            exact sq_l hy
          · have e : ((tl z).map fun c => (decide (48 ≤ c) && decide (c ≤ 57))).all id = digB (tl z) := by
              unfold digB
              rw [List.all_map]
              rfl
            rw [e]
            refine ⟨_, rfl, ?_⟩
            cases hdg : digB (tl z) with
            | false =>
              refine iteT ?_
              exact no (by rw [hdg, Bool.and_false]) _ hs
            | true =>
              refine iteF ?_
              have ok : (decide (1 ≤ z.length) && decide (z.length ≤ 60) && digB (tl z)) = true := by rw [decide_eq_true h1, decide_eq_true h2, hdg]; rfl
              have hd := digB_iff.mp hdg
              have hne : tl z ≠ [] := fun e => by rw [len_tl, e] at h1; simp at h1
              have hit := intText_digits (x := z) hd hne (by omega)
              have yes : (z = "0" ∨ (tl z).head? ≠ some 48) → Q (.int ((digitsVal (tl z) : Nat) : Int)) H1 := fun c => k2 _ (by unfold numOf; rw [if_pos ok, if_pos c]) _ hs
              have nay : ¬ (z = "0" ∨ (tl z).head? ≠ some 48) → Q .non H1 := fun c => k1 (by unfold numOf; rw [if_pos ok, if_neg c]) _ hs
              obtain ⟨c0, rest, hz0⟩ : ∃ c r, tl z = c :: r := by
                cases e : tl z with
                | nil => exact absurd e hne
                | cons c r => exact ⟨c, r, rfl⟩
              by_cases hz1 : z = "0"
              · refine ⟨_, rfl, rfl, true, by rw [decide_eq_true (by rw [hz1])], ?_⟩
                refine iteT ?_
                refine iteT ⟨_, rfl, z, _, rfl, hit, by omega, yes (.inl hz1)⟩
              · refine ⟨_, rfl, rfl, false, by rw [decide_eq_false (by simpa using hz1)], ?_⟩
                refine iteF ?_
                have hat : atI z.cps.toList 0 = some c0 := by
                  have : z.cps.toList = c0 :: rest := hz0
                  rw [this]; simp [atI, ixN]
                refine ⟨_, rfl, z, 0, c0, rfl, rfl, small100 (Nat.le_trans hz (by decide)), hat, rfl, ?_⟩
                by_cases h48 : c0 = 48
                · refine ⟨false, by rw [h48]; rfl, iteF ?_⟩
                  exact nay (by rw [hz0]; simpa [h48] using hz1)
                · refine ⟨true, ?_, iteT ⟨_, rfl, z, _, rfl, hit, by omega, yes (.inr (by rw [hz0]; simpa using h48))⟩⟩
                  have : (⟨#[c0]⟩ : Str) ≠ "0" := fun e => h48 (by
                    have : tl (⟨#[c0]⟩ : Str) = tl ("0" : Str) := by rw [e]
                    rw [tl_zero] at this
                    simpa [tl] using this)
                  simpa using this
      · have d2 : decide ((z.length : Int) ≤ 60) = false := decide_eq_false (by omega)
        rw [d2]
        refine iteT ?_
        exact no (by rw [decide_eq_false h2]; simp) _ (Same.refl _)
    · have d1 : decide ((1 : Int) ≤ (z.length : Int)) = false := decide_eq_false (by omega)
      rw [d1]
      refine iteF ⟨false, rfl, iteT ?_⟩
      exact no (by rw [decide_eq_false h1]; simp) _ (Same.refl _)
def dInt (i : Int) : PyData := .int i
theorem sc43 : FnScope ["word", "found"] ["word"] (defScope (top 43)) := ⟨rfl, rfl, rfl, by decide +kernel, rfl, by decide +kernel, by decide +kernel⟩
theorem cal_integer (T : Tx K mg) : Cal P w K mg base CX0 2 "integer_or_none" ["word"] (spParse K intOf dInt) := by
  have C := cal_number (P := P) (w := w) (base := base) T
  refine T.h43.cal sc43 (fun vs H Q E h => ?_) (fun _ _ _ _ _ _ us hl => match us, hl with | [_], _ => rfl) (fun f cdv A outer s H vs Q E hr h => ?_)
  · obtain ⟨z, rfl, _⟩ := h; rfl
  · obtain ⟨z, rfl, hz, k1, k2⟩ := h
    refine ⟨_, (pss_cons (ps_if (pt_cmpR op_ne (pe_slice sl_str (pv 0) po_none (po_some pe_int)) pe_str (nomark _)) (pss_one (ps_ret (pe_cal C hr rfl pass0 (pa_cons (pv 0) pa_nil)))) pss_nil)
      (pss_cons (ps_set (i := 1) sc43.nd rfl (Or.inl rfl) (pe_cal C hr rfl pass0 (pa_cons (pe_slice sl_str (pv 0) (po_some pe_int) po_none) pa_nil)))
      (pss_one (ps_ret (pe_ifExp (PW.pt (pw_or (pt_cmpR op_isN (pv 1) pe_non (nomark _)) (pw_or1 (pt_cmpR op_eq (pv 1) pe_int (nomark _))))) pe_non (pe_un un_neg (pv 1))))))), ?_⟩
    refine ⟨_, rfl, 1, rfl, z, rfl, small100 (Nat.le_trans hz (by decide)), rfl, ?_⟩
    rw [cutS_to]
    by_cases hd : mk ((tl z).take 1) = dash
    · have hh := (take1_dash z).mp hd
      refine ⟨false, by rw [hd]; rfl, iteF ?_⟩
      refine ⟨_, rfl, 1, rfl, z, rfl, small100 (Nat.le_trans hz (by decide)), _, rfl, ?_⟩
      rw [cutS_from]
      refine ⟨by have := cutS_length z (some 1) none; rw [cutS_from] at this; omega, fun e H1 s1 => ?_, fun n e H1 s1 => ?_⟩
      · refine ⟨_, rfl, rfl, _, rfl, iteT (iteT (k1 ?_ _ s1))⟩
        unfold intOf; rw [if_pos hh, e]
      · refine ⟨_, rfl, rfl, _, rfl, iteF ⟨_, rfl, rfl, ?_⟩⟩
        by_cases h0 : n = 0
        · subst h0
          refine ⟨true, rfl, iteT (k1 ?_ _ s1)⟩
          unfold intOf; rw [if_pos hh, e]; rfl
        · refine ⟨false, by rw [decide_eq_false (by simpa using h0)], iteF ⟨_, rfl, _, rfl, k2 _ ?_ _ _ s1 (.int _)⟩⟩
          unfold intOf; rw [if_pos hh, e]; simp only; rw [if_neg h0]
    · have hh : ¬ (tl z).head? = some 45 := fun e => hd ((take1_dash z).mpr e)
      refine ⟨true, ?_, iteT ⟨_, rfl, z, rfl, hz, fun e H1 s1 => k1 ?_ _ s1, fun n e H1 s1 => k2 _ ?_ _ _ s1 (.int _)⟩⟩
      · have : decide (V.str (mk ((tl z).take 1)) = V.str "-") = false := decide_eq_false (fun e => hd (V.str.inj e))
        rw [this]; rfl
      · unfold intOf; rw [if_neg hh, e]; rfl
      · unfold intOf; rw [if_neg hh, e]; rfl
def dStr (z : Str) : PyData := .str z
theorem sc44 : FnScope ["word"] ["word"] (defScope (top 44)) := ⟨rfl, rfl, rfl, by decide +kernel, rfl, by decide +kernel, by decide +kernel⟩
theorem cal_name_or (T : Tx K mg) : Cal P w K mg base CX0 2 "name_or_none" ["word"] (spParse K nameOf dStr) := by
  have C := cal_is_name (P := P) (w := w) (base := base) T
  refine T.h44.cal sc44 (fun vs H Q E h => ?_) (fun _ _ _ _ _ _ us hl => match us, hl with | [_], _ => rfl) (fun f cdv A outer s H vs Q E hr h => ?_)
  · obtain ⟨z, rfl, _⟩ := h; rfl
  · obtain ⟨z, rfl, hz, k1, k2⟩ := h
    refine ⟨_, (pss_one (ps_ret (pe_ifExp (pt_val (pe_cal C hr rfl pass0 (pa_cons (pv 0) pa_nil))) (pv 0) pe_non))), ?_⟩
    refine ⟨_, rfl, z, rfl, Nat.le_trans hz (by decide), fun H1 s1 => ⟨_, rfl, ?_⟩⟩
    cases e : isName z with
    | true => exact iteT ⟨_, rfl, k2 z (nameOf_name e) _ _ s1 (.str z)⟩
    | false => exact iteF (k1 (by unfold nameOf; rw [e]; rfl) _ s1)
def dPath (p : List Str) : PyData := .tuple (pstrs p)
theorem split_len {z y : Str} (hy : tl y ≠ []) (hk : y.cps.all (· < 256) = true) (hy1 : y.length ≤ 2) : ∀ w ∈ Txt.split z y, w.length ≤ z.length := fun w hw => by
  have h := join_split z y hy hk
  have : ∀ (S : List Nat) (l : List (List Nat)) (x : List Nat), x ∈ l → x.length ≤ (joinL S l).length := by
    intro S l
    induction l with
    | nil => intro x hx; simp at hx
    | cons a r ih =>
      intro x hx
      rcases List.mem_cons.mp hx with rfl | hx
      · cases r with
        | nil => simp [joinL]
        | cons b r => rw [joinL_cons (by simp), List.length_append]; omega
      · have hr : r ≠ [] := fun e => by rw [e] at hx; simp at hx
        rw [joinL_cons hr, List.length_append, List.length_append]
        have := ih x hx
        omega
  have h2 := this (tl y) ((Txt.split z y).map tl) (tl w) (List.mem_map.mpr ⟨w, hw, rfl⟩)
  have h3 : tl (Txt.join y (Txt.split z y)) = joinL (tl y) ((Txt.split z y).map tl) := by rw [join_eq, tl_join]
  rw [← h3, h] at h2
  rw [len_tl, len_tl]
  exact h2
theorem split_count {z y : Str} (hy : tl y ≠ []) (hk : y.cps.all (· < 256) = true) : (Txt.split z y).length ≤ z.length + 1 := by
  have h := join_split z y hy hk
  have hl : 1 ≤ (tl y).length := List.length_pos_iff.mpr hy
  have : ∀ (S : List Nat) (l : List (List Nat)), 1 ≤ S.length → l.length ≤ (joinL S l).length + 1 := by
    intro S l hS
    induction l with
    | nil => simp
    | cons a r ih =>
      cases r with
      | nil => simp
      | cons b r => rw [joinL_cons (by simp), List.length_append, List.length_append, List.length_cons]; omega
  have h2 := this (tl y) ((Txt.split z y).map tl) hl
  have h3 : tl (Txt.join y (Txt.split z y)) = joinL (tl y) ((Txt.split z y).map tl) := by rw [join_eq, tl_join]
  rw [List.length_map, ← h3, h, ← len_tl] at h2
  exact h2
theorem sc45 : FnScope ["word", "fields", "field"] ["word"] (defScope (top 45)) := ⟨rfl, rfl, rfl, by decide +kernel, rfl, by decide +kernel, by decide +kernel⟩
theorem cal_path_or (T : Tx K mg) : Cal P w K mg base CX0 2 "path_or_none" ["word"] (spParse K pathOf dPath) := by
  have C := cal_is_name (P := P) (w := w) (base := base) T
  refine T.h45.cal sc45 (fun vs H Q E h => ?_) (fun _ _ _ _ _ _ us hl => match us, hl with | [_], _ => rfl) (fun f cdv A outer s H vs Q E hr h => ?_)
  · obtain ⟨z, rfl, _⟩ := h; rfl
  · obtain ⟨z, rfl, hz, k1, k2⟩ := h
    refine ⟨_, (pss_cons (ps_set (i := 1) sc45.nd rfl (Or.inl rfl) (pe_callTy call_tuple_of (by rfl) T.b_tuple boot_tuple (pa_cons (pe_split (pv 0) pe_str) pa_nil)))
      (pss_one (ps_ret (pe_ifExp (pt_val (pe_callB (cr_all rfl) (by rfl) T.b_all (by decide +kernel) (pa_cons (pe_lc (own := [("field", 2)]) (g := (gName 2)) (tt := tYes) rfl sc45.nd (pi_tup (pv 1)) (blkOk_by (N := ["word", "fields", "field"]) (sc := defScope (top 45)) (by decide +kernel)) (fun _ _ _ _ _ => (pg_name (i := 2) sc45.nd rfl (Or.inl rfl))) (fun _ _ _ _ _ => pts_nil) (fun _ _ _ _ _ => (pe_cal C hr rfl pass0 (pa_cons (pv 2) pa_nil)))) pa_nil))) (pv 1) pe_non)))), ?_⟩
    have hd1 : tl dot ≠ [] := by rw [tl_dot]; simp
    have hd2 : dot.cps.all (· < 256) = true := by decide +kernel
    have hlen := split_len (z := z) hd1 hd2 (by decide +kernel)
    have hcnt := split_count (z := z) hd1 hd2
    refine ⟨_, rfl, ⟨z, rfl⟩, z, dot, rfl, rfl, by decide +kernel, small100 (by omega), fun p hp => ⟨p, _, rfl, .inl ⟨sq_l upd_same, fun t ht => ?_⟩⟩⟩
    have s1 : Same H (upd H p (.lst ((Txt.split z dot).map V.str))) := same_new hp
    have s2 := s1.trans (same_new (o := .tup ((Txt.split z dot).map V.str)) ht)
    refine ⟨_, rfl, t, rfl, ⟨_, sq_t upd_same⟩, fun D hD => lc_map walk_tup (by rw [List.length_map]; omega) (((Txt.split z dot).map isName).map V.bl) (by simp) hD (fun H1 s3 => tk_t (tk_of s3) (sq_t upd_same)) ?_ ?_⟩
    · rintro i x H1 H2 Q1 hi s3 ⟨rfl, hx⟩ kq
      obtain ⟨y, hy, rfl⟩ := strs_get hx
      refine ⟨rfl, _, rfl, y, rfl, Nat.le_trans (hlen y (List.mem_of_getElem? hy)) (by omega), fun H3 s4 => kq _ _ ?_ s4⟩
      rw [List.getElem?_map, List.getElem?_map, hy]; rfl
    · intro H1 hy s3
      refine ⟨D, (Txt.split z dot).map isName, rfl, sq_l hy, _, rfl, ?_⟩
      have e : ((Txt.split z dot).map isName).all id = (Txt.split z dot).all isName := by rw [List.all_map]; rfl
      rw [e]
      cases ea : (Txt.split z dot).all isName with
      | true =>
        refine iteT ⟨_, rfl, k2 _ (by unfold pathOf; rw [if_pos ea]) _ _ (s2.trans s3) (.tup (tk_t (tk_of s3) (sq_t upd_same)) (dp_of_strs _))⟩
      | false => exact iteF (k1 (by unfold pathOf; rw [if_neg (by rw [ea]; simp)]) _ (s2.trans s3))
/-- the value of an integer read, or None -/
def vInt : Option Int → V
  | none => .non
  | some i => .int i
theorem parse_int {H : Hp} {Q : VK} {E : XK} {z : Str} (hz : z.length ≤ 90000) (k : ∀ H', Same H H' → Q (vInt (intOf z)) H') : spParse K intOf dInt [.str z] H Q E := by
  refine ⟨z, rfl, hz, fun e H' s => ?_, fun a e v H' s d => ?_⟩
  · have := k H' s; rw [e] at this; exact this
  · have := k H' s
    rw [e] at this
    unfold dInt at d
    cases d
    exact this
theorem sc48 : FnScope ["word", "found", "own"] ["word"] (defScope (top 48)) := ⟨rfl, rfl, rfl, by decide +kernel, rfl, by decide +kernel, by decide +kernel⟩
theorem cal_kind_or (T : Tx K mg) : Cal P w K mg base CX0 3 "kind_or_none" ["word"] (spParse K kindOf Kd.data) := by
  have C := cal_is_name (P := P) (w := w) (base := base) T
  have C2 := cal_integer (P := P) (w := w) (base := base) T
  refine T.h48.cal sc48 (fun vs H Q E h => ?_) (fun _ _ _ _ _ _ us hl => match us, hl with | [_], _ => rfl) (fun f cdv A outer s H vs Q E hr h => ?_)
  · obtain ⟨z, rfl, _⟩ := h; rfl
  · obtain ⟨z, rfl, hz, k1, k2⟩ := h
    refine ⟨_, (pss_cons (ps_if (pt_val (pe_cal C (hr.mono (by decide)) rfl pass0 (pa_cons (pv 0) pa_nil))) (pss_one (ps_ret (pv 0))) pss_nil)
      (pss_cons (ps_set (i := 1) sc48.nd rfl (Or.inl rfl) (pe_callTy call_tuple_of (by rfl) T.b_tuple boot_tuple (pa_cons (pe_lc (own := [("own", 2)]) (g := (gName 2)) (tt := tYes) rfl sc48.nd (pi_list (pe_split (pv 0) pe_str)) (blkOk_by (N := ["word", "found", "own"]) (sc := defScope (top 48)) (by decide +kernel)) (fun _ _ _ _ _ => (pg_name (i := 2) sc48.nd rfl (Or.inl rfl))) (fun _ _ _ _ _ => pts_nil) (fun _ _ _ _ _ => (pe_cal C2 hr rfl pass0 (pa_cons (pv 2) pa_nil)))) pa_nil)))
      (pss_one (ps_ret (pe_ifExp (PW.pt (pw_and (pt_cmpR op_eq (pe_callB call_len_seq (by rfl) T.b_len PySem.boot_len (pa_cons (pv 1) pa_nil)) pe_int (nomark _)) (pw_and (pt_cmpR op_notIn_seq pe_non (pv 1) rfl) (pw_and1 (pt_cmpR op_le (pe_ixT K rfl (pv 1) pe_int (fun _ _ => rfl)) (pe_ixT K rfl (pv 1) pe_int (fun _ _ => rfl)) (nomark _)))))) (pv 1) pe_non))))), ?_⟩
    have hd1 : tl dots ≠ [] := by rw [tl_dots]; simp
    have hd2 : dots.cps.all (· < 256) = true := by decide +kernel
    have hlen := split_len (z := z) hd1 hd2 (by decide +kernel)
    have hcnt := split_count (z := z) hd1 hd2
    refine ⟨_, rfl, z, rfl, by omega, fun H1 s1 => ⟨_, rfl, ?_⟩⟩
    cases hn : isName z with
    | true => exact iteT ⟨_, rfl, k2 (.cls z) (by unfold kindOf; rw [if_pos hn]) _ _ s1 (.str z)⟩
    | false =>
      refine iteF ?_
      refine ⟨_, rfl, ⟨z, rfl⟩, z, dots, rfl, rfl, by decide +kernel, small100 (by omega), fun p hp => ⟨p, rfl, ⟨_, sq_l upd_same⟩, fun D hD => lc_map walk_list (by rw [List.length_map]; omega) ((Txt.split z dots).map fun w => vInt (intOf w)) (by simp) hD (fun H2 s2 => s2.seq (sq_l upd_same)) ?_ ?_⟩⟩
      · rintro i x H2 H3 Q1 hi s2 ⟨rfl, hx⟩ kq
        obtain ⟨y, hy, rfl⟩ := strs_get hx
        refine ⟨rfl, _, rfl, parse_int (E := E) (Nat.le_trans (hlen y (List.mem_of_getElem? hy)) hz) fun H4 s4 => kq _ _ ?_ s4⟩
        rw [List.getElem?_map, hy]; rfl
      · intro H2 hy s2
        have sA : Same H H2 := s1.trans ((same_new hp).trans s2)
        refine ⟨D, _, rfl, .inl ⟨sq_l hy, fun t ht => ?_⟩⟩
        have sB : Same H2 (upd H2 t (.tup ((Txt.split z dots).map fun w => vInt (intOf w)))) := same_new ht
        have hT : SqT K (upd H2 t (.tup ((Txt.split z dots).map fun w => vInt (intOf w)))) t ((Txt.split z dots).map fun w => vInt (intOf w)) := sq_t upd_same
        have no : kindOf z = none → Q .non (upd H2 t (.tup ((Txt.split z dots).map fun w => vInt (intOf w)))) := fun e => k1 e _ (sA.trans sB)
        have kz : kindOf z = match (Txt.split z dots).map intOf with
            | [some a, some b] => if a ≤ b then some (.rng a b) else none
            | _ => none := by unfold kindOf; rw [if_neg (by rw [hn]; simp)] <;> rfl
        refine ⟨_, rfl, t, _, rfl, .inr hT, rfl, ?_⟩
        match hs : Txt.split z dots, hT, no, kz, sB with
        | [], _, no, kz, _ => exact ⟨false, rfl, iteF (iteF (no kz))⟩
        | [x], _, no, kz, _ =>
          refine ⟨false, rfl, iteF (iteF (no ?_))⟩
          rw [kz]; simp
        | x :: y :: u :: r, _, no, kz, _ =>
          refine ⟨false, ?_, iteF (iteF (no ?_))⟩
          · rw [decide_eq_false]
            intro e
            have := V.int.inj e
            simp only [List.map_cons, List.length_cons] at this
            omega
          · rw [kz]; simp
        | [x, y], hT, no, kz, sB =>
          refine ⟨true, rfl, iteT ⟨_, rfl, t, _, rfl, .inr hT, rfl, ?_, ?_⟩⟩
          · simp only [List.map_cons, List.map_nil, List.all_cons, List.all_nil, Bool.and_true]
            cases intOf x <;> cases intOf y <;> rfl
          · cases hx : intOf x with
            | none =>
              refine ⟨false, ?_, iteF (iteF (no (by rw [kz]; simp [hx])))⟩
              simp [vInt, hx, inV, eqV]
            | some i =>
              cases hy2 : intOf y with
              | none =>
                refine ⟨false, ?_, iteF (iteF (no (by rw [kz]; simp [hx, hy2])))⟩
                simp [vInt, hx, hy2, inV, eqV]
              | some j =>
                have hT2 : SqT K (upd H2 t (.tup ([x, y].map fun w => vInt (intOf w)))) t [V.int i, V.int j] := by
                  have e : ([x, y].map fun w => vInt (intOf w)) = [V.int i, V.int j] := by simp [vInt, hx, hy2]
                  exact e ▸ hT
                refine ⟨true, ?_, iteT ⟨_, rfl, t, _, _, _, rfl, rfl, hT2, rfl, _, rfl, t, _, _, _, rfl, rfl, hT2, rfl, i, j, rfl, rfl, decide (i ≤ j), rfl, ?_⟩⟩
                · simp [vInt, hx, hy2, inV, eqV]
                · by_cases hij : i ≤ j
                  · rw [decide_eq_true hij]
                    refine iteT ⟨_, rfl, k2 (.rng i j) ?_ _ _ (sA.trans sB) (.tup hT2 (.cons (.int i) (.cons (.int j) .nil)))⟩
                    rw [kz]; simp [hx, hy2, hij]
                  · rw [decide_eq_false hij]
                    refine iteF (no ?_)
                    rw [kz]; simp [hx, hy2, hij]
end
end K12

set_option maxHeartbeats 4000000
/-! I1: InvalidText(row, field) made. -/
namespace K12
open PySem PySem.W PySem.Calls PyProof.Rows PySem.HandSPX
set_option autoImplicit false
def iA : Arguments := { posonlyargs := [], args := [{ arg := "self", annotation := none, pos := ⟨49, 17, 49, 21⟩ }, { arg := "row", annotation := none, pos := ⟨49, 23, 49, 26⟩ }, { arg := "field", annotation := none, pos := ⟨49, 28, 49, 33⟩ }], vararg := none, kwonlyargs := [], kw_defaults := [], kwarg := none, defaults := [] }
def iB : List Stmt := [.Expr (.Call (.Attribute (.Call (.Name "super" ⟨50, 8, 50, 13⟩) [] [] ⟨50, 8, 50, 15⟩) "__init__" ⟨50, 8, 50, 24⟩) [.Name "row" ⟨50, 25, 50, 28⟩, .Name "field" ⟨50, 30, 50, 35⟩] [] ⟨50, 8, 50, 36⟩) ⟨50, 8, 50, 36⟩,
  .Assign [.Attribute (.Name "self" ⟨51, 8, 51, 12⟩) "row" ⟨51, 8, 51, 16⟩] (.Name "row" ⟨51, 19, 51, 22⟩) ⟨51, 8, 51, 22⟩,
  .Assign [.Attribute (.Name "self" ⟨52, 8, 52, 12⟩) "field" ⟨52, 8, 52, 18⟩] (.Name "field" ⟨52, 21, 52, 26⟩) ⟨52, 8, 52, 26⟩]
def iS : Scope := { kind := .function, names := [(PySem.Str.ofString "self", .local), (PySem.Str.ofString "row", .local), (PySem.Str.ofString "field", .local), (PySem.Str.ofString "__class__", .free), (PySem.Str.ofString "super", .globalImplicit)], isGenerator := false, isCoroutine := false, more := [] }
/-- what the top has written of InvalidText, at C, and of its __init__, at fI -/
structure ItTxt (P : Program) (K : Frag) (mg : Str → Option Value) (C fI : Addr) : Prop where
  gC : mg "InvalidText" = some (.ref C)
  gS : mg "super" = none
  cls : ∃ nm q N bs bm sn sub ab col dd k0 k1 k2 k3 k5, K.lookup C = some (excClassObj nm q C N bs bm true sn sub ab col dd k0 k1 k2 k3 k5 "ValueError.__new__") ∧ refsVE bm = true
  sa : findIn K (.ref C) "__setattr__" = some (some (.builtin "object.__setattr__"))
  noR : findIn K (.ref C) "row" = some none
  noF : findIn K (.ref C) "field" = some none
  iC : findIn K (.ref C) "__init__" = some (some (.ref fI))
  tI : typeIn K (.ref fI) = some (.type "function")
  kC : keepIn K (.ref C) = true
  exC : subIn K (.ref C) (.type "BaseException") = some true
  veC : subIn K (.ref C) (.type "ValueError") = some true
  tyC : typeIn K (.ref C) = some (.type "type")
  su : ks_superIn K C C "__init__" = some (some (.builtin "ValueError.__init__"))
  mro : mroIn K C (.ref C) = some true
  any : nsIn K cStatics "thirdparty.any" = some none
  fn : ∃ (oc : Value) (od : Option Addr) (doc pm : Value) (an : Option Addr) (cda : Addr) (ct : Value) (cc : Addr) (osl : Array (Option Value)) (ccl : Value) (cdd : Option Addr) (vs : Array Value) (ccs : Array (Option Value)) (file : Str) (tf : Tok) (cl : Value) (cld : Option Addr) (csl : Array (Option Value)),
    K.lookup fI = some ⟨oc, od, .func (ksFn "__init__" "InvalidText.__init__" iA iB iS .none .none doc pm an (.ref cda) ct cc), osl⟩ ∧ codeIn K (.ref cda) "InvalidText.__init__" = true ∧
    K.lookup cda = some ⟨ccl, cdd, .fields vs, ccs⟩ ∧ vs[2]? = some (.str file tf) ∧ ((P.main.file : Str) == file) = true ∧ K.lookup cc = some ⟨cl, cld, .cell (some (.ref C)), csl⟩
  top : (P.main.scope.names.lookup ("super" : Str)).isSome = false
structure ItEnd (h h' : Heap) (x C dx t1 : Addr) (v1 v2 : Value) : Prop where
  keep : ∀ b o, b ≠ x → h.get? b = some o → h'.get? b = some o
  obj : h'.get? x = some { cls := .ref C, dict := some dx, data := .fields #[.ref t1, .none, .none, .none, .bool false, .none] }
  dbig : h.objs.size ≤ dx
  dne : dx ≠ x
  ns : h'.Ns1 dx (fun y => if y = "field" then some v2 else if y = "row" then some v1 else none)
section
variable {prog : Program} {w : World} {A : Around} {E : Value → Shared → Prop} {R : Result → Shared → Prop} {s : Shared} {K : Frag} {mg mb : Str → Option Value} {C fI : Addr}
theorem two_size (v u : Value) : [v, u].length ≤ sizeLine := by
  rw [sizeLine_eq]
  exact (by decide : 2 ≤ 16777216)
theorem ldE {M : Model} {env : Env} {m : Str → Option Value} {x : Str} {pos : Pos} {v : Value} {Q : Value → Shared → Prop} (hn : s.heap.Ns env.locals m) (hv : m x = some v) (h : Q v s)
    (hk : env.scope.kind = .function := by rfl) (hl : env.kindOf x = some .local := by rfl) (hd : (x == ("__debug__" : Str)) = false := by decide) : wpAny M A (eval (.Name x pos) env) Q E s := wpAny_Name (wpAny_loadName_local hk hl hn hv h) hd
/-- the bound built-in __init__ called -/
theorem it_call {u e t0 C N : Addr} {rest : List Value} {Q : Value → Shared → Prop} {h : Heap} {g : Array GenState} {d : Drawn} {t : Nat} {os : OsState} {nm q : Str} {bs bm : List Value} {hdct : Bool} {sn : List Str} {sub : List Value} {ab : Bool} {col : Option Bool} {dd : Option Addr} {k0 k1 k2 k3 k5 : Option Value}
    (hC : h.get? C = some (excClassObj nm q C N bs bm hdct sn sub ab col dd k0 k1 k2 k3 k5 "ValueError.__new__")) (he : h.get? e = some (HandSPX.excO C t0)) (hu : h.get? u = some (kxs_mw "ValueError.__init__" e)) (hrest : rest.length ≤ sizeLine)
    (hq : ∀ h' t1, (∀ b o, b ≠ e → h.get? b = some o → h'.get? b = some o) → h'.get? e = some (HandSPX.excO C t1) → Q .none ⟨h', g, d, t, os⟩) :
    wpAny (model prog w) A (call (.ref u) rest) Q E ⟨h, g, d, t, os⟩ := by
  refine wpAny_call (codeAny_of_tree ?_)
  show wpAny _ A.in1 (callAny (.ref u) ⟨rest, []⟩) _ _ _
  simp only [callAny]
  refine wpAny_bind (wpAny_load hu ?_)
  simp only [kxs_mw, show (Value.type "method-wrapper" == Value.type "method" || Value.type "method-wrapper" == Value.type "builtin_function_or_method" || Value.type "method-wrapper" == Value.type "method-wrapper") = true by decide, if_true]
  refine W.KFB.if_so (by decide) ?_
  refine wpAny_bind (check_bound_init F.excBase_ValueError.toExcCallFacts hC he rfl ?_)
  refine wpAny_bind (wpAny_pure (wpAny_pure ?_))
  refine ⟨plainId_quiet F.excBase_ValueError.init.plain _, codeAny_builtin F.excBase_ValueError.initEntry ?_⟩
  exact exc_init_tree (cls := .ref C) (t0 := t0) (dv := none) (c2 := .none) (c3 := .none) (b4 := .bool false) he hrest fun h' k e' _ => hq h' _ k e'
theorem it_init (T : ItTxt prog K mg C fI) {x t0 : Addr} {v1 v2 : Value} (X : K.In s.heap) (hG : s.heap.Ns mainGlobals mg) (hB : s.heap.Ns builtinsNs mb) (hbs : mb "super" = some (.type "super")) (hlim : s.heap.NoLimit) (hx : s.heap.get? x = some (excO C t0)) (hnx : K.lookup x = none) (hroom : A.depth < recursionLimit)
    (hq : ∀ h' tk dx t1, ItEnd s.heap h' x C dx t1 v1 v2 → R (.ok (.ret .none)) { s with heap := h', toks := tk }) :
    codeAny (model prog w) A (.call (.ref fI) ⟨[.ref x, v1, v2], []⟩) R s := by
  obtain ⟨oc, od, doc, pm, an, cda, ct, cc, osl, ccl, cdd, vs, ccs, file, tf, cl, cld, csl, ho, hcd, hcode, hvs, hfile, hcell⟩ := T.fn
  obtain ⟨nm, q, N, bs, bm, sn, sub, ab, col, dd, k0, k1, k2, k3, k5, hC, hbm⟩ := T.cls
  have hcl : clsIn K C = some { name := nm, bases := bs, mro := .ref C :: bm, ns := N, qualname := q, hasDict := true, slotNames := sn, subclasses := sub, abstract := ab, collection := col, hasDel := false } := by unfold clsIn; rw [hC] <;> rfl
  have hlx : x < s.heap.objs.size := Heap.lt_size hx
  refine ks_codeAny_call_defAt (fd := ksFn "__init__" "InvalidText.__init__" iA iB iS .none .none doc pm an (.ref cda) ct cc) (body := iB) (binds := [("self", .ref x), ("row", v1), ("field", v2)]) hroom (X _ _ ho) rfl hlim (codeRec_of X hcd) rfl (BindsTo.of_eq (by first | rfl | with_unfolding_all rfl)) (show ∀ x ∈ iS.names, x.2 ≠ .cell by decide)
    (by intro y hy; simp only [List.mem_cons, List.not_mem_nil, or_false] at hy; rcases hy with rfl | rfl | rfl <;> rfl) (fun h₁ hns hk => ?_)
  have hLx : s.heap.objs.size ≠ x := Nat.ne_of_gt hlx
  have X₁ : K.In h₁ := X.keeps hk
  obtain ⟨hp, g, d, t, os⟩ := s
  have hx₁ := hk _ _ hx
  have hCg : h₁.get? C = some _ := X₁ _ _ hC
  have hxC : x ≠ C := fun z => by rw [z, hC] at hnx; cases hnx
  refine ks_wpAt_execs_cons (ks_wpAt_Expr_any (ks_wpAt_MethodCall ?_))
  refine ks_wpAt_super_base (env := ksEnv "InvalidText.__init__" iS hp.objs.size fI (.ref cda) cc) (by rfl) (by rfl) (by decide) rfl (X₁ _ _ ho) rfl rfl rfl (X₁ _ _ hcode) rfl hvs hfile T.top ?_
  refine ks_loadName_global (by rfl) (by rfl) (loadGlobal_builtin (env := ksEnv "InvalidText.__init__" iS hp.objs.size fI (.ref cda) cc) (hG.keeps hk) T.gS (hB.keeps hk) hbs ⟨rfl, ?_⟩)
  refine wpAny_loadName_free (by rfl) (by rfl) rfl ⟨_, X₁ _ _ hcell, rfl⟩ ?_
  refine wpAny_loadName_local (by rfl) (by rfl) hns (by first | rfl | with_unfolding_all rfl | kernel_rfl) ?_
  have hCd : ∃ oD cdD, h₁.get? C = some oD ∧ oD.data = .cls cdD := ⟨_, _, hCg, rfl⟩
  obtain ⟨oD, cdD, hD1, hD2⟩ := hCd
  refine ks_wpAny_isType_cls hD1 hD2 ⟨rfl, ?_⟩
  refine ks_wpAny_call_super hD1 hD2 hx₁ rfl (fun c e => nomatch e) (looks_mroIn X₁ T.mro) (fun h₂ hso k₂ => ?_)
  have X₂ : K.In h₂ := X₁.keeps k₂
  have I₂ : InstAt h₂ x (excO C t0) C none := ⟨k₂ _ _ hx₁, rfl, rfl, trivial⟩
  have hsu : alongIn K "__init__" (((Value.ref C :: bm).dropWhile (· != .ref C)).drop 1) = some (some (.builtin "ValueError.__init__")) := by
    have := T.su
    unfold ks_superIn at this
    rw [hcl] at this
    exact this
  refine kxs_getMethod kxs_ValueError hso (looks_opaque X₂ T.any) (l₀ := .ref C :: bm) ((looks_clsIn X₂ hcl).andThen .now) rfl X₂ hsu (I₂.type.andThen (looks_subIn X₂ T.veC)) hxC (by decide) ?_
  have k₃ : ∀ b o, h₂.get? b = some o → (h₂.push (kxs_mw "ValueError.__init__" x)).get? b = some o := fun b o e => Heap.get?_push_of_some _ e
  have hu : (h₂.push (kxs_mw "ValueError.__init__" x)).get? h₂.objs.size = some (kxs_mw "ValueError.__init__" x) := Heap.get?_push_at rfl rfl
  have hns₃ := (hns.keeps k₂).keeps k₃
  refine kxs_callWith (i := "ValueError.__init__") (x := x) (by rfl) ?_
  refine evalArgs_plain (args_cons (ldE hns₃ (v := v1) (by first | rfl | with_unfolding_all rfl | kernel_rfl) (args_cons (ldE hns₃ (v := v2) (by first | rfl | with_unfolding_all rfl | kernel_rfl) (args_nil ⟨hu, ?_⟩)))))
  refine it_call (X₂.keeps k₃ _ _ hC) (k₃ _ _ (k₂ _ _ hx₁)) hu (two_size v1 v2) fun h₄ t1 k₄ hx₄ => ?_
  have kA : ∀ b o, b ≠ x → hp.get? b = some o → h₄.get? b = some o := fun b o hb e => k₄ b o hb (k₃ b o (k₂ b o (hk b o e)))
  have X₄ : K.In h₄ := fun a o e => k₄ a o (fun z => by rw [z, hnx] at e; cases e) (k₃ a o (k₂ a o (X₁ a o e)))
  have hns₄ : h₄.Ns hp.objs.size _ := hns₃.at fun o e => k₄ _ o hLx e
  show _root_.PySem.wpAt _ _ _ (execs _ _) _ _ _
  refine ks_wpAt_execs_cons (wpAt_of_wpAny (plainObj_wpAny_Assign_Attribute ?_))
  refine ldE hns₄ (v := v1) (by first | rfl | with_unfolding_all rfl | kernel_rfl) (ldE hns₄ (v := .ref x) (by first | rfl | with_unfolding_all rfl | kernel_rfl) ?_)
  refine set_plain X₄ (ox := excO C t1) (od := none) ⟨hx₄, rfl, rfl, trivial⟩ T.sa ?_
  refine exc_osa X₄ hx₄ hcl (show refsVE (.ref C :: bm) = true from hbm) rfl T.noR (fun h₅ tk₅ dx k₅ dn dne hx₅ hn₅ => ?_)
  have z₄ : hp.objs.size < h₄.objs.size := hns₄.lt
  have X₅ : K.In h₅ := fun a o e => k₅ a o (fun z => by rw [z, hnx] at e; cases e) (X₄ a o e)
  have hns₅ := hns₄.at (h' := h₅) fun o e => k₅ _ o hLx e
  show _root_.PySem.wpAt _ _ _ (execs _ _) _ _ _
  refine ks_wpAt_execs_cons (wpAt_of_wpAny (plainObj_wpAny_Assign_Attribute ?_))
  refine ldE hns₅ (v := v2) (by first | rfl | with_unfolding_all rfl | kernel_rfl) (ldE hns₅ (v := .ref x) (by first | rfl | with_unfolding_all rfl | kernel_rfl) ?_)
  obtain ⟨oD5, es5, ep5, hoD5, hr5⟩ := hn₅
  refine set_plain X₅ (ox := { cls := .ref C, dict := some dx, data := .fields #[.ref t1, .none, .none, .none, .bool false, .none] }) (od := some oD5) ⟨hx₅, rfl, rfl, hoD5⟩ T.sa ?_
  refine PySem.OEX.osa_old X₅ hx₅ ⟨oD5, es5, ep5, hoD5, hr5⟩ (nl := ["row"]) (fun y hy => ?_) (by decide) hcl (show refsVE (.ref C :: bm) = true from hbm) rfl T.noF (fun h₆ tk₆ k₆ hn₆ => ?_)
  · by_cases e : y = "row"
    · rw [e]; exact List.mem_cons_self
    · exact absurd (if_neg e) hy
  show _root_.PySem.wpAt _ _ _ (execs _ _) _ _ _
  refine wpAt_of_wpAny (wpAny_execs_nil (hq h₆ tk₆ dx t1 ⟨fun b o hb e => k₆ b o (fun z => ?_) (k₅ b o hb (kA b o hb e)), k₆ _ _ (Ne.symm dne) hx₅, Nat.le_of_lt (Nat.lt_of_lt_of_le z₄ dn), dne, hn₆⟩))
  rw [z] at e
  exact absurd (Heap.lt_size e) (Nat.not_lt.mpr (Nat.le_of_lt (Nat.lt_of_lt_of_le z₄ dn)))
/-- a made InvalidText -/
structure ItMade (h h' : Heap) (e C d : Addr) (v1 v2 : Value) : Prop where
  keep : ∀ b o, h.get? b = some o → h'.get? b = some o
  new : h.objs.size ≤ e
  obj : ∃ oe vs, h'.get? e = some oe ∧ oe.cls = .ref C ∧ oe.dict = some d ∧ oe.data = .fields vs ∧ vs[1]? = some .none
  dbig : h.objs.size ≤ d
  dne : d ≠ e
  ns : h'.Ns1 d (fun y => if y = "field" then some v2 else if y = "row" then some v1 else none)
theorem it_made (T : ItTxt prog K mg C fI) {v1 v2 : Value} (X : K.In s.heap) (hG : s.heap.Ns mainGlobals mg) (hB : s.heap.Ns builtinsNs mb) (hbs : mb "super" = some (.type "super")) (hlim : s.heap.NoLimit) (hroom : A.depth + 1 < recursionLimit)
    (hq : ∀ h' tk e d, ItMade s.heap h' e C d v1 v2 → R (.ok (.ret (.ref e))) { s with heap := h', toks := tk }) :
    codeAny (model prog w) A (.call (.ref C) ⟨[v1, v2], []⟩) R s := by
  obtain ⟨nm, q, N, bs, bm, sn, sub, ab, col, dd, k0, k1, k2, k3, k5, hC, hbm⟩ := T.cls
  obtain ⟨hp, g, dr, tk, os⟩ := s
  have k : ∀ b o, hp.get? b = some o → ((hp.push (kdv_tup [v1, v2])).push (excO C hp.objs.size)).get? b = some o := fun b o e => Heap.get?_push_of_some _ (Heap.get?_push_of_some _ e)
  have hget : ((hp.push (kdv_tup [v1, v2])).push (excO C hp.objs.size)).get? (hp.objs.size + 1) = some (excO C hp.objs.size) := by heap_get
  have hnx : K.lookup (hp.objs.size + 1) = none := by
    cases e : K.lookup (hp.objs.size + 1) with
    | none => rfl
    | some o =>
      have z : hp.get? (hp.objs.size + 1) = some o := X _ _ e
      exact absurd (Nat.lt_of_succ_lt (Heap.lt_size z)) (Nat.lt_irrefl _)
  refine call_own F.excBase_ValueError (fun X => refsVE_contains X bm hbm) (X _ _ hC) (looks_findIn X T.iC) (fun self => bind_fn X self T.tI) (two_size v1 v2) ?_
  refine it_init (mb := mb) (s := ⟨(hp.push (kdv_tup [v1, v2])).push (excO C hp.objs.size), g, dr, tk, os⟩) T (X.keeps k) (hG.keeps k) (hB.keeps k) hbs (hlim.keeps k) hget hnx ?_ fun h' tk' dx t1 ⟨k', hx, dn, dne, hns⟩ => ?_
  · show A.depth + 1 < recursionLimit
    exact hroom
  · have old : ∀ b o, hp.get? b = some o → h'.get? b = some o := fun b o e => k' b o (Nat.ne_of_lt (Nat.lt_succ_of_lt (Heap.lt_size e))) (k b o e)
    have z : hp.objs.size + 1 + 1 ≤ dx := by
      first
        | (simpa only [Heap.size_push] using dn)
        | exact dn
        | (have q := dn; rw [Heap.size_push, Heap.size_push] at q; exact q)
    exact ⟨rfl, hq h' tk' (hp.objs.size + 1) dx ⟨old, Nat.le_succ _, ⟨_, _, hx, rfl, rfl, rfl, rfl⟩, Nat.le_trans (Nat.le_trans (Nat.le_succ _) (Nat.le_succ _)) z, dne, hns⟩⟩
end
end K12
namespace K12
open PySem PySem.Spec PyProof.Rows L2
def itF (v1 v2 : V) : List (Str × V) := [(("field" : Str), v2), (("row" : Str), v1)]
theorem relO_it {v1 v2 : V} {u1 u2 : Value} (r1 : RelV v1 u1) (r2 : RelV v2 u2) (f : Str) : RelO (List.lookup f (itF v1 v2)) (if f = "field" then some u2 else if f = "row" then some u1 else none) := by
  unfold itF
  by_cases hw : f = "field"
  · subst hw
    rw [if_pos rfl]
    simp only [List.lookup, beq_self_eq_true]
    exact r2
  · rw [if_neg hw]
    have qw : (f == ("field" : Str)) = false := by simpa using hw
    by_cases hw2 : f = "row"
    · subst hw2
      rw [if_pos rfl]
      simp only [List.lookup, qw, beq_self_eq_true]
      exact r1
    · rw [if_neg hw2]
      have qw2 : (f == ("row" : Str)) = false := by simpa using hw2
      simp only [List.lookup, qw, qw2]
      trivial
section
variable {X : Cx} {C fI : Addr}
/-- InvalidText(e1, e2) -/
def tMkIt (C : Addr) (ta : TA) : L2.St → Hp → XK → Prop := fun σ H Q => ta σ H fun vs H1 => ∃ v1 v2, vs = [v1, v2] ∧ ∀ d, H1 d = none → Q (.ref C) (some d) (upd H1 d (.xd (itF v1 v2)))
theorem pmk_it {a b : Expr} {ta : TA} {p pos : Pos} {k : Nat} (T : ItTxt X.prog X.K X.mg C fI) (hr : Room k X.A) (ha : PA X [a, b] ta) (hg : Gl X "InvalidText" := by rfl)
    (he : starEach (a :: [b]) X.env = (false, eval a X.env) :: starEach [b] X.env := by rfl) (hpl : (backTo pos (starEach [b] X.env)).any (·.1) = false := by rfl) :
    PMk X (.Call (.Name "InvalidText" p) [a, b] [] pos) (tMkIt C ta) := by
  intro pins s σ H Q I h
  refine wpAny_Call_Name_kw (ld_glob I hg T.gC ?_)
  refine PySem.W.callWith_K (h₀ := X.base) I.ok.mod.kin T.kC (thn (ha.run pos pins s σ H _ I h) fun us s1 hh => ?_) he hpl
  obtain ⟨vs, H1, I1, r1, v1, v2, ev, q1⟩ := hh
  subst ev
  refine ⟨I1.kIn, ?_⟩
  obtain ⟨u1, u2, rfl, rv1, rv2⟩ := vals2 r1
  show wpAny _ _ (call (.ref C) [u1, u2]) _ _ _
  have hlim := I1.nolimit
  obtain ⟨mb, hb1, hb2⟩ := I1.mod.blt
  have hbs : mb "super" = some (.type "super") := (hb2 _ (by decide)).trans (by decide +kernel)
  have hG := I1.mod.glob.keeps I1.bk
  have hB := hb1.keeps I1.bk
  obtain ⟨hp, g, dr, tk, os⟩ := s1
  refine wpAny_call (it_made (mb := mb) T I1.kIn hG hB hbs hlim (by have := hr.dp; omega) fun h' tk' e d M => ?_)
  show MkP X pins σ Q (.ref e) ⟨h', g, dr, tk', os⟩
  obtain ⟨oe, fv, hoe, hc, hd, hdat, h1⟩ := M.obj
  have hns := M.ns
  obtain ⟨G', g1, g2⟩ := restrict h' fun b => decide (b ≠ e)
  have gk : ∀ b, b ≠ e → G'.get? b = h'.get? b := fun b hb => g1 b (decide_eq_true hb)
  have ge : G'.get? e = none := g2 e (by simp)
  have old : ∀ b o, hp.get? b = some o → G'.get? b = some o := fun b o q => (gk b (Nat.ne_of_lt (Nat.lt_of_lt_of_le (Heap.lt_size q) M.new))).trans (M.keep b o q)
  have ob : ObjOk X.prog X.w (upd H1 d (.xd (itF v1 v2))) G' d (.xd (itF v1 v2)) :=
    ⟨_, hns.at (fun o q => (gk d M.dne).trans q), fun f => relO_it rv1 rv2 f⟩
  have J : Inv X pins σ (upd H1 d (.xd (itF v1 v2))) ⟨G', g, dr, tk', os⟩ := I1.laid (t' := tk') old M.dbig ob
  refine ⟨e, oe, fv, ⟨G', g, dr, tk', os⟩, _, .ref C, some d, rfl, J, fun b o q => ?_, ge, hoe, ⟨hc, hd⟩, hdat, h1, ?_, rfl, I1.bare, raises_own T.exC T.tyC, q1 d (I1.hok.fresh M.dbig)⟩
  · by_cases hb : b = e
    · have q' : G'.get? b = some o := q
      rw [hb, ge] at q'; cases q'
    · exact (gk b hb).symm.trans q
  · rw [upd_ne (Ne.symm M.dne)]
    exact I1.hok.fresh M.new
/-- raise InvalidText(e1, e2) -/
def tRaiseIt (C : Addr) (W : WX) (ta : TA) : TS := fun _ σ H => tMkIt C ta σ H fun cls d H' => W cls d σ H'
theorem ps_raiseIt {a b : Expr} {ta : TA} {W : WX} {p pos pos2 : Pos} {k : Nat} (hc : X.calm = true) (T : ItTxt X.prog X.K X.mg C fI) (hr : Room k X.A) (tk : Takes X W) (ha : PA X [a, b] ta) (hg : Gl X "InvalidText" := by rfl)
    (he : starEach (a :: [b]) X.env = (false, eval a X.env) :: starEach [b] X.env := by rfl) (hpl : (backTo pos (starEach [b] X.env)).any (·.1) = false := by rfl) :
    PS X (.Raise (some (.Call (.Name "InvalidText" p) [a, b] [] pos)) none pos2) (tRaiseIt C W ta) := ps_raise hc tk (pmk_it T hr ha hg he hpl)
end
end K12

set_option maxHeartbeats 4000000
/-! K5: the tables of operations; operations_for, small_words. -/
namespace K12
open PySem PySem.Spec PyProof.Rows L2 TL NumText
set_option autoImplicit false
def PairsL : List DictEntry → List (Str × Addr) → Prop
  | [], [] => True
  | e :: r, (x, a) :: q => (∃ t, e.key = .str x t) ∧ e.val = .ref a ∧ PairsL r q
  | _, _ => False
/-- at D: a written dict from texts to objects -/
structure OpD (K : PySem.W.Frag) (w : World) (D : Addr) (l : List (Str × Addr)) : Prop where
  ex : ∃ es n, K.lookup D = some ⟨.type "dict", none, .dict es n, #[]⟩ ∧ PySem.W.KeysLit w.params es.toList ∧ PairsL es.toList l
  low : (D == sysModules) = false
  nd : (l.map (·.1)).Nodup
def opK (l : List (Str × Addr)) : List (Key × V) := l.map fun p => (.inr p.1, .ref p.2)
def opV (l : List (Str × Addr)) : List (Key × Value) := l.map fun p => (.inr p.1, .ref p.2)
theorem op_kv : ∀ l : List (Str × Addr), KV (opK l) (opV l)
  | [] => .nil
  | p :: l => .cons ⟨rfl, rfl⟩ (op_kv l)
theorem pairs_of {P : Program} {w : World} : ∀ (es : List DictEntry) (l : List (Str × Addr)), PairsL es l → Pairs (mixKind P w) es (opV l)
  | [], [], _ => .nil
  | e :: r, (x, a) :: q, h => by
    obtain ⟨⟨t, e1⟩, e2, h3⟩ := h
    exact .cons (by show keyIs (.inr x) e.key = true; rw [e1]; exact keyIs_str x t) e2 (pairs_of r q h3)
  | [], _ :: _, h => h.elim
  | _ :: _, [], h => h.elim
theorem OpD.dictOf {P : Program} {w : World} {K : PySem.W.Frag} {D : Addr} {l : List (Str × Addr)} {h : Heap} (o : OpD K w D l) (X : K.In h) : h.DictOf (mixKind P w) D (opV l) := by
  obtain ⟨es, n, hl, hk, hp⟩ := o.ex
  refine ⟨_, es, n, X _ _ hl, ⟨rfl, rfl, rfl⟩, rfl, fun e he => ?_, pairs_of _ _ hp, ?_⟩
  · obtain ⟨x, t, e1, e2⟩ := hk.all e (Array.mem_toList_iff.mpr he)
    exact ⟨.inr x, by rw [e1]; exact keyIs_str x t, e2⟩
  · have e : (opV l).map (·.1) = (l.map (·.1)).map Sum.inr := by unfold opV; rw [List.map_map, List.map_map]; rfl
    rw [e]
    exact List.Pairwise.map Sum.inr (fun a b (h : a ≠ b) z => h (Sum.inr.inj z)) o.nd
theorem call_dictK {X : Cx} : CallR X (.type "dict") (fun xs H Q => ∃ (D : Addr) (l : List (Str × Addr)), xs = [.ref D] ∧ OpD X.K X.w D l ∧ l.length ≤ 100 ∧ ∀ p, H p = none → Q (.ref p) (upd H p (.dK (opK l)))) := by
  intro pins s σ H xs us Q I r q
  obtain ⟨a, l, ex, hd, hz, q⟩ := q
  subst ex
  obtain ⟨u, eu, rx⟩ := vals1 r
  subst eu
  cases rx
  have dd := hd.dictOf (P := X.prog) I.kIn
  refine PySem.kt_call_dict hd.low dd (by unfold opV; rw [List.length_map]; exact small100 (by omega)) fun h' d' hs => ?_
  have hm : (s.heap.objs.size == sysModules) = false := beq_eq_false_iff_ne.mpr (Nat.ne_of_gt I.big)
  exact ⟨.ref s.heap.objs.size, upd H s.heap.objs.size (.dK (opK l)), I.laid (t' := s.toks) (fun b u e => (hs.2 b (Nat.ne_of_lt (Heap.lt_size e))).trans (Heap.get?_push_of_some _ e)) (Nat.le_refl _)
    (show ObjOk X.prog X.w _ _ _ (.dK (opK l)) from ⟨by unfold opK; rw [List.length_map]; exact small100 (by omega), hm, opV l, op_kv l, d'⟩), rfl, q _ (I.hok.fresh (Nat.le_refl _))⟩
theorem valV_op : ∀ (l : List (Str × Addr)) (x : Str), valV (opK l) (.inr x) = (l.lookup x).map V.ref
  | [], x => rfl
  | (y, a) :: l, x => by
    have ih := valV_op l x
    unfold valV opK at ih ⊢
    rw [List.lookup_cons, List.map_cons, List.find?_cons]
    by_cases h : x = y
    · subst h; simp
    · have h1 : (x == y) = false := by simpa using h
      have h2 : decide ((Sum.inr y : Key) = Sum.inr x) = false := decide_eq_false (fun z => h (Sum.inr.inj z).symm)
      rw [h1, h2]
      exact ih
/-- a written tuple of texts -/
def TupK (K : PySem.W.Frag) (a : Addr) (zs : List Str) : Prop := ∀ H : Hp, SqT K H a (zs.map V.str)
def dueS (ds : List Due) : List Str := ds.map Due.s
/-- the tables, as the top has written them -/
structure Ops (K : PySem.W.Frag) (w : World) (mg : Str → Option Value) (D1 D2 D3 t2 t3 u1 u2 v3 : Addr) : Prop where
  g1 : mg "NUMBER_OPERATIONS" = some (.ref D1)
  g2 : mg "CONDITION_OPERATIONS" = some (.ref D2)
  g3 : mg "LINK_OPERATIONS" = some (.ref D3)
  d1 : OpD K w D1 [("+", t2), ("-", t2), ("*", t2), ("least", t2), ("most", t2), ("if", t3)]
  d2 : OpD K w D2 [("<", t2), ("=", t2), ("not", u1), ("and", u2)]
  d3 : OpD K w D3 [("if", v3)]
  k2 : TupK K t2 (dueS [.num, .num])
  k3 : TupK K t3 (dueS [.con, .num, .num])
  k1 : TupK K u1 (dueS [.con])
  k4 : TupK K u2 (dueS [.con, .con])
  k5 : TupK K v3 (dueS [.con, .lnk, .lnk])
/-- what the dict of operations answers -/
def OpsAt (K : PySem.W.Frag) (d : Due) (kvs : List (Key × V)) : Prop := ∀ x : Str, match opOf d x with
  | none => valV kvs (.inr x) = none
  | some (_, ds) => ∃ a, valV kvs (.inr x) = some (.ref a) ∧ TupK K a (dueS ds)
def opL (d : Due) (t2 t3 u1 u2 v3 : Addr) : List (Str × Addr) := match d with
  | .num => [("+", t2), ("-", t2), ("*", t2), ("least", t2), ("most", t2), ("if", t3)]
  | .con => [("<", t2), ("=", t2), ("not", u1), ("and", u2)]
  | .lnk => [("if", v3)]
theorem look_two {α β : Type} {R : α → β → Prop} : ∀ (l : List (Str × α)) (m : List (Str × β)) (x : Str), Paired (fun p q => p.1 = q.1 ∧ R p.2 q.2) l m → (l.lookup x = none ∧ m.lookup x = none) ∨ ∃ a b, l.lookup x = some a ∧ m.lookup x = some b ∧ R a b
  | [], [], _, _ => .inl ⟨rfl, rfl⟩
  | (y, a) :: l, (z, b) :: m, x, .cons ⟨e, r⟩ h => by
    simp only at e r
    subst e
    rw [List.lookup_cons, List.lookup_cons]
    cases x == y with
    | true => exact .inr ⟨a, b, rfl, rfl, r⟩
    | false => exact look_two l m x h
theorem ops_at {K : PySem.W.Frag} {w : World} {mg : Str → Option Value} {D1 D2 D3 t2 t3 u1 u2 v3 : Addr} (O : Ops K w mg D1 D2 D3 t2 t3 u1 u2 v3) (d : Due) : OpsAt K d (opK (opL d t2 t3 u1 u2 v3)) := by
  intro x
  have key : Paired (fun (p : Str × (Op × List Due)) (q : Str × Addr) => p.1 = q.1 ∧ TupK K q.2 (dueS p.2.2)) (opsFor d) (opL d t2 t3 u1 u2 v3) := by
    cases d
    · exact .cons ⟨rfl, O.k2⟩ (.cons ⟨rfl, O.k2⟩ (.cons ⟨rfl, O.k2⟩ (.cons ⟨rfl, O.k2⟩ (.cons ⟨rfl, O.k2⟩ (.cons ⟨rfl, O.k3⟩ .nil)))))
    · exact .cons ⟨rfl, O.k2⟩ (.cons ⟨rfl, O.k2⟩ (.cons ⟨rfl, O.k1⟩ (.cons ⟨rfl, O.k4⟩ .nil)))
    · exact .cons ⟨rfl, O.k5⟩ .nil
  unfold opOf
  rw [valV_op]
  rcases look_two (R := fun (p : Op × List Due) (a : Addr) => TupK K a (dueS p.2)) _ _ x key with ⟨h1, h2⟩ | ⟨a, b, h1, h2, r⟩
  · rw [h1, h2]; rfl
  · rw [h1, h2]
    exact ⟨b, rfl, r⟩
section
variable {P : Program} {w : World} {K : PySem.W.Frag} {mg : Str → Option Value} {base : Heap} {D1 D2 D3 t2 t3 u1 u2 v3 : Addr}
def spOps (K : PySem.W.Frag) : Sp := fun vs H Q _ => ∃ d : Due, vs = [.str d.s] ∧ ∀ p kvs, H p = none → OpsAt K d kvs → Q (.ref p) (upd H p (.dK kvs))
theorem sc40 : FnScope ["due"] ["due"] (defScope (top 40)) := ⟨rfl, rfl, rfl, by decide +kernel, rfl, by decide +kernel, by decide +kernel⟩
theorem cal_ops (T : Tx K mg) (O : Ops K w mg D1 D2 D3 t2 t3 u1 u2 v3) : Cal P w K mg base CX0 1 "operations_for" ["due"] (spOps K) := by
  refine T.h40.cal sc40 (fun vs H Q E h => ?_) (fun _ _ _ _ _ _ us hl => match us, hl with | [_], _ => rfl) (fun f cdv A outer s H vs Q E hr h => ?_)
  · obtain ⟨z, rfl, _⟩ := h; rfl
  · obtain ⟨d, rfl, k⟩ := h
    refine ⟨_, (pss_cons (ps_if (pt_cmpR op_eq (pv 0) pe_str (nomark _)) (pss_one (ps_ret (pe_callTy call_dictK (by rfl) T.b_dict boot_dict (pa_cons (pe_glob (v := .ref D1) rfl O.g1 rfl) pa_nil)))) pss_nil)
      (pss_one (ps_ret (pe_ifExp (pt_cmpR op_eq (pv 0) pe_str (nomark _)) (pe_callTy call_dictK (by rfl) T.b_dict boot_dict (pa_cons (pe_glob (v := .ref D2) rfl O.g2 rfl) pa_nil)) (pe_callTy call_dictK (by rfl) T.b_dict boot_dict (pa_cons (pe_glob (v := .ref D3) rfl O.g3 rfl) pa_nil)))))), ?_⟩
    have ko := fun p hp => k p _ hp (ops_at O d)
    refine ⟨_, rfl, rfl, ?_⟩
    cases d with
    | num => exact ⟨true, by decide +kernel, iteT ⟨D1, _, rfl, O.d1, by simp, ko⟩⟩
    | con => exact ⟨false, by decide +kernel, iteF ⟨_, rfl, rfl, true, by decide +kernel, iteT ⟨D2, _, rfl, O.d2, by simp, ko⟩⟩⟩
    | lnk => exact ⟨false, by decide +kernel, iteF ⟨_, rfl, rfl, false, by decide +kernel, iteF ⟨D3, _, rfl, O.d3, by simp, ko⟩⟩⟩
/-- the words of small parts -/
def smallL : Due → List Str
  | .num => ["get", "sum"] | .con => ["none"] | .lnk => ["self", "to"]
def spSmallW (K : PySem.W.Frag) : Sp := fun vs H Q _ => ∃ d : Due, vs = [.str d.s] ∧ ∀ p H', Same H H' → SqT K H' p ((smallL d).map V.str) → Q (.ref p) H'
theorem sc41 : FnScope ["due"] ["due"] (defScope (top 41)) := ⟨rfl, rfl, rfl, by decide +kernel, rfl, by decide +kernel, by decide +kernel⟩
theorem cal_small (T : Tx K mg) : Cal P w K mg base CX0 1 "small_words" ["due"] (spSmallW K) := by
  refine T.h41.cal sc41 (fun vs H Q E h => ?_) (fun _ _ _ _ _ _ us hl => match us, hl with | [_], _ => rfl) (fun f cdv A outer s H vs Q E hr h => ?_)
  · obtain ⟨z, rfl, _⟩ := h; rfl
  · obtain ⟨d, rfl, k⟩ := h
    refine ⟨_, (pss_cons (ps_if (pt_cmpR op_eq (pv 0) pe_str (nomark _)) (pss_one (ps_ret (pe_tup (pa_cons pe_str (pa_cons pe_str pa_nil))))) pss_nil)
      (pss_one (ps_ret (pe_ifExp (pt_cmpR op_eq (pv 0) pe_str (nomark _)) (pe_tup (pa_cons pe_str pa_nil)) (pe_tup (pa_cons pe_str (pa_cons pe_str pa_nil))))))), ?_⟩
    refine ⟨_, rfl, rfl, ?_⟩
    cases d with
    | num => exact ⟨true, by decide +kernel, iteT ⟨small100 (by simp), fun p hp => k p _ (same_new hp) (sq_t upd_same)⟩⟩
    | con => exact ⟨false, by decide +kernel, iteF ⟨_, rfl, rfl, true, by decide +kernel, iteT ⟨small100 (by simp), fun p hp => k p _ (same_new hp) (sq_t upd_same)⟩⟩⟩
    | lnk => exact ⟨false, by decide +kernel, iteF ⟨_, rfl, rfl, false, by decide +kernel, iteF ⟨small100 (by simp), fun p hp => k p _ (same_new hp) (sq_t upd_same)⟩⟩⟩
end
end K12

set_option maxHeartbeats 4000000
/-! K6: methods; PartReader: __init__, require, present, take. -/
namespace K12
open PySem PySem.Spec PyProof.Rows L2 TL NumText
set_option autoImplicit false
/-! ### methods by bundles -/
def HsM (K : PySem.W.Frag) (C : Addr) (m qual : Str) (st : Stmt) : Prop := ∃ f fd, Fun K m qual st f fd ∧ Meth K C m f
structure Met (P : Program) (w : World) (K : PySem.W.Frag) (mg : Str → Option Value) (base : Heap) (CX : CXT) (k : Nat) (C : Addr) (m : Str) (ps : List Str) (sp : Sp) : Prop where
  ex : ∃ f fd, FnOk P w K mg base CX k f fd ps sp ∧ Meth K C m f ∧ Binds K fd ps []
section
variable {P : Program} {w : World} {K : PySem.W.Frag} {mg : Str → Option Value} {base : Heap}
theorem HsM.met {C : Addr} {m qual : Str} {st : Stmt} {N ps : List Str} {k : Nat} {sp : Sp} (h : HsM K C m qual st) (S : FnScope N ps (defScope st)) (len : ∀ vs H Q E, sp vs H Q E → vs.length = ps.length)
    (hbind : ∀ (kV doc pm : Value) (an : Option Addr) (cdv ct : Value) (us : List Value), us.length = ps.length → bindArgs (PySem.W.fnOf m qual (defArgs st) (defBody st) (defScope st) .none kV doc pm an cdv ct) ⟨us, []⟩ = pure (ps.zip us))
    (hbody : ∀ (f : Addr) (cdv : Value) (A : Around) (outer : List Env) (s : Shared) (H : Hp) (vs : List V) (Q : VK) (E : XK), Room k (A.deeper (envOfC qual (defScope st) s.heap.objs.size f cdv)) → sp vs H Q E →
      ∃ t, PSs (cxOf (L2.CX P w) P w K mg base N qual (defScope st) f cdv A outer s H E) (defBody st) t ∧ t { nx := fun _ H' => Q .non H', rt := Q } (L2.start N vs) H) : Met P w K mg base (L2.CX P w) (k + 1) C m ps sp := by
  obtain ⟨f, fd, F, m⟩ := h
  exact ⟨f, fd, F.okX S len (hbody f), m, F.binds hbind⟩
theorem Met.mono {CX : CXT} {j k : Nat} {C : Addr} {m : Str} {ps : List Str} {sp : Sp} (h : Met P w K mg base CX j C m ps sp) (hjk : j ≤ k) : Met P w K mg base CX k C m ps sp := by
  obtain ⟨f, fd, F, r⟩ := h.ex
  exact ⟨f, fd, F.mono hjk, r⟩
end
section
variable {X : Cx} {CX : CXT} {k : Nat} {C : Addr} {m : Str} {ps : List Str} {sp : Sp} {E : XK} {o e : Expr} {es : List Expr} {ta : TE} {t : TA} {apos pos : Pos} {pl : Sem Bool}
theorem pe_met (M : Met X.prog X.w X.K X.mg X.base CX k C m ps sp) (c : Cls X.K C) (hr : Room k X.A) (hx : Passes CX X E) (he : PE X o ta) (ha : PA X (e :: es) t)
    (hst : starEach (e :: es) X.env = (false, eval e X.env) :: starEach es X.env := by rfl) (hpl : (backTo pos (starEach es X.env)).any (·.1) = false := by rfl)
    (ht : eval (.Call (.Attribute o m apos) (e :: es) [] pos) X.env = (do
      let ov ← eval o X.env
      standAt apos.atName
      let (f, first) ← holding [ov] (getMethod ov m pl)
      callWith pos f first (backTo pos (starEach (e :: es) X.env)) (backToKw pos (keywordEach [] X.env))) := by rfl) :
    PE X (.Call (.Attribute o m apos) (e :: es) [] pos) (tMeth C m sp [] E ta t) := by
  refine ⟨fun pins s σ H Q I h => ?_⟩
  obtain ⟨f, fd, F, mm, b⟩ := M.ex
  exact (pe_meth he c mm F hr b .nil hx ha hst hpl ht).run pins s σ H Q I h
theorem pe_met0 (M : Met X.prog X.w X.K X.mg X.base CX k C m ps sp) (c : Cls X.K C) (hr : Room k X.A) (hx : Passes CX X E) (he : PE X o ta)
    (ht : eval (.Call (.Attribute o m apos) [] [] pos) X.env = (do
      let ov ← eval o X.env
      standAt apos.atName
      let (f, first) ← holding [ov] (getMethod ov m pl)
      callWith pos f first (backTo pos (starEach [] X.env)) (backToKw pos (keywordEach [] X.env))) := by rfl) :
    PE X (.Call (.Attribute o m apos) [] [] pos) (tMeth C m sp [] E ta tNil) := by
  refine ⟨fun pins s σ H Q I h => ?_⟩
  obtain ⟨f, fd, F, mm, b⟩ := M.ex
  exact (pe_meth0 he c mm F hr b .nil hx ht).run pins s σ H Q I h
end
/-! ### the reader in the heap -/
def rf (wl : Addr) (i : Nat) (row fld : Int) : List (Str × V) := [("words", .ref wl), ("at", .int (i : Int)), ("text_row", .int row), ("first_field", .int fld)]
theorem rf_words {wl : Addr} {i : Nat} {row fld : Int} : (rf wl i row fld).lookup ("words" : Str) = some (.ref wl) := by rfl
theorem rf_at {wl : Addr} {i : Nat} {row fld : Int} : (rf wl i row fld).lookup ("at" : Str) = some (.int (i : Int)) := by rfl
theorem rf_row {wl : Addr} {i : Nat} {row fld : Int} : (rf wl i row fld).lookup ("text_row" : Str) = some (.int row) := by rfl
theorem rf_fld {wl : Addr} {i : Nat} {row fld : Int} : (rf wl i row fld).lookup ("first_field" : Str) = some (.int fld) := by rfl
theorem rf_put {wl : Addr} {i : Nat} {row fld : Int} : putF "at" (.int ((i : Int) + 1)) (rf wl i row fld) = rf wl (i + 1) row fld := by
  have e : ((i : Int) + 1) = ((i + 1 : Nat) : Int) := by omega
  rw [e]
  rfl
/-- all kept but what stands at r -/
def Kr (r : Addr) (H H' : Hp) : Prop := ∀ b o, b ≠ r → H b = some o → H' b = some o
theorem Kr.refl (r : Addr) (H : Hp) : Kr r H H := fun _ _ _ h => h
theorem Kr.trans {r : Addr} {H H1 H2 : Hp} (a : Kr r H H1) (b : Kr r H1 H2) : Kr r H H2 := fun c o n h => b c o n (a c o n h)
theorem kr_of {r : Addr} {H H' : Hp} (s : Same H H') : Kr r H H' := fun b o _ h => s b o h
theorem kr_upd {r : Addr} {H H' : Hp} {o : HO} (k : Kr r H H') : Kr r H (upd H' r o) := fun b u n h => by rw [upd_ne n]; exact k b u n h
theorem kr_new {r p : Addr} {H H' : Hp} {o : HO} (k : Kr r H H') (h : H p = none) : Kr r H (upd H' p o) := fun b u n hb => by rw [upd_ne (ne_of_none hb h)]; exact k b u n hb
/-- the reader at r stands before word i of W -/
def RdAt (K : PySem.W.Frag) (C : Addr) (W : List Str) (wl : Addr) (row fld : Int) (r : Addr) (i : Nat) (H : Hp) : Prop :=
  ∃ dx, H r = some (.ins C dx (rf wl i row fld)) ∧ SqL K H wl (W.map V.str) ∧ wl ≠ r ∧ W.length ≤ 90000 ∧ ∀ w ∈ W, w.length ≤ 90000
theorem Kr.tk {r C dx : Addr} {fs : List (Str × V)} {H H' : Hp} (k : Kr r H H') (h : H r = some (.ins C dx fs)) : Tk H H' :=
  ⟨fun b xs e => k b _ (fun z => by rw [z, h] at e; cases e) e, fun b o u e => k b _ (fun z => by rw [z, h] at e; cases e) e⟩
theorem kr_l {K : PySem.W.Frag} {r : Addr} {H H' : Hp} {a : Addr} {xs : List V} (k : Kr r H H') (n : a ≠ r) (h : SqL K H a xs) : SqL K H' a xs := by
  rcases h with (h | ⟨o, h⟩) | h
  · exact .inl (.inl (k _ _ n h))
  · exact .inl (.inr ⟨o, k _ _ n h⟩)
  · exact .inr h
theorem RdAt.same {K : PySem.W.Frag} {C : Addr} {W : List Str} {wl : Addr} {row fld : Int} {r : Addr} {i : Nat} {H H' : Hp} (h : RdAt K C W wl row fld r i H) (s : Same H H') : RdAt K C W wl row fld r i H' := by
  obtain ⟨dx, h1, h2, h3, h4⟩ := h
  exact ⟨dx, s _ _ h1, s.seq h2, h3, h4⟩
theorem RdAt.tk {K : PySem.W.Frag} {C : Addr} {W : List Str} {wl : Addr} {row fld : Int} {r : Addr} {i : Nat} {H H' : Hp} (h : RdAt K C W wl row fld r i H) (k : Kr r H H') : Tk H H' := by
  obtain ⟨dx, h1, _⟩ := h
  exact k.tk h1
/-- the error is told of place n -/
def ErrAt (CI : Addr) (r : Addr) (H : Hp) (E : XK) (row : Int) (n : Int) : Prop := ∀ d H', Kr r H H' → H' d = some (.xd (itF (.int row) (.int n))) → E (.ref CI) (some d) H'
theorem ErrAt.kr {CI r : Addr} {H H1 : Hp} {E : XK} {row n : Int} (h : ErrAt CI r H E row n) (k : Kr r H H1) : ErrAt CI r H1 E row n := fun d H' k' e => h d H' (k.trans k') e
/-- what the top has written of the reader's class -/
structure Rt (P : Program) (K : PySem.W.Frag) (mg : Str → Option Value) (C CI fI : Addr) : Prop where
  it : ItTxt P K mg CI fI
  gP : mg "PartReader" = some (.ref C)
  cl : Cls K C
  nW : NoAttr K C "words"
  nA : NoAttr K C "at"
  nR : NoAttr K C "text_row"
  nF : NoAttr K C "first_field"
  mI : ∃ f fd, Fun K "__init__" "PartReader.__init__" (inClass (top 46) 0) f fd ∧ Mk K C f
  m1 : HsM K C "require" "PartReader.require" (inClass (top 46) 1)
  m2 : HsM K C "present" "PartReader.present" (inClass (top 46) 2)
  m3 : HsM K C "take" "PartReader.take" (inClass (top 46) 3)
  m4 : HsM K C "small_part" "PartReader.small_part" (inClass (top 46) 4)
  m5 : HsM K C "part" "PartReader.part" (inClass (top 46) 5)
section
variable {P : Program} {w : World} {K : PySem.W.Frag} {mg : Str → Option Value} {base : Heap} {C CI fI : Addr}
/-! ### require, present -/
def spRequire (K : PySem.W.Frag) (C CI : Addr) : Sp := fun vs H Q E => ∃ (r : Addr) (b : Bool) (W : List Str) (wl : Addr) (row fld : Int) (i : Nat), vs = [.ref r, .bl b] ∧ RdAt K C W wl row fld r i H ∧ (b = true → ∀ H', Same H H' → Q .non H') ∧ (b = false → ErrAt CI r H E row (fld + i))
theorem scR1 : FnScope ["self", "truth"] ["self", "truth"] (defScope (inClass (top 46) 1)) := ⟨rfl, rfl, rfl, by decide +kernel, rfl, by decide +kernel, by decide +kernel⟩
theorem met_require (R : Rt P K mg C CI fI) : Met P w K mg base (L2.CX P w) 2 C "require" ["self", "truth"] (spRequire K C CI) := by
  refine R.m1.met scR1 (fun vs H Q E h => ?_) (fun _ _ _ _ _ _ us hl => match us, hl with | [_, _], _ => rfl) (fun f cdv A outer s H vs Q E hr h => ?_)
  · obtain ⟨r, b, W, wl, row, fld, i, rfl, _⟩ := h; rfl
  · obtain ⟨r, b, W, wl, row, fld, i, rfl, hR, k1, k2⟩ := h
    obtain ⟨dx, h1, h2, h3, h4⟩ := hR
    refine ⟨_, pss_one (ps_if (pt_not (pt_val (pv 1))) (pss_one (ps_raiseIt rfl R.it hr (takes_of rfl rfl rfl rfl) (pa_cons (pe_fld (pv 0) rfl) (pa_cons (pe_op op_add (pe_fld (pv 0) rfl) (pe_fld (pv 0) rfl)) pa_nil)))) pss_nil), ?_⟩
    refine ⟨_, rfl, ?_⟩
    cases b with
    | true => exact ⟨true, rfl, iteF (k1 rfl _ (Same.refl _))⟩
    | false =>
      refine ⟨false, rfl, iteT ⟨_, rfl, r, C, dx, _, _, rfl, h1, R.cl, R.nR, rf_row, _, rfl, r, C, dx, _, _, rfl, h1, R.cl, R.nF, rf_fld, _, rfl, r, C, dx, _, _, rfl, h1, R.cl, R.nA, rf_at, _, _, rfl, rfl, _, _, rfl, fun d hd => ?_⟩⟩
      exact k2 rfl d _ (kr_of (same_new hd)) upd_same
def spPresent (K : PySem.W.Frag) (C CI : Addr) : Sp := fun vs H Q E => ∃ (r : Addr) (W : List Str) (wl : Addr) (row fld : Int) (i : Nat), vs = [.ref r] ∧ RdAt K C W wl row fld r i H ∧ (∀ w, W[i]? = some w → ∀ H', Same H H' → Q (.str w) H') ∧ (W.length ≤ i → ErrAt CI r H E row (fld + i))
theorem scR2 : FnScope ["self"] ["self"] (defScope (inClass (top 46) 2)) := ⟨rfl, rfl, rfl, by decide +kernel, rfl, by decide +kernel, by decide +kernel⟩
theorem met_present (T : Tx K mg) (R : Rt P K mg C CI fI) : Met P w K mg base (L2.CX P w) 3 C "present" ["self"] (spPresent K C CI) := by
  have M1 := met_require (w := w) (base := base) R
  refine R.m2.met scR2 (fun vs H Q E h => ?_) (fun _ _ _ _ _ _ us hl => match us, hl with | [_], _ => rfl) (fun f cdv A outer s H vs Q E hr h => ?_)
  · obtain ⟨r, W, wl, row, fld, i, rfl, _⟩ := h; rfl
  · obtain ⟨r, W, wl, row, fld, i, rfl, hR, k1, k2⟩ := h
    obtain ⟨dx, h1, h2, h3, h4⟩ := id hR
    refine ⟨_, pss_cons (ps_expr (pe_met (E := E) M1 R.cl hr (passes_call (takes_of rfl rfl rfl rfl) (fun _ _ _ _ h => h)) (pv 0) (pa_cons (pe_cmpR op_lt (pe_fld (pv 0) rfl) (pe_callB call_len_seq (by rfl) T.b_len PySem.boot_len (pa_cons (pe_fld (pv 0) rfl) pa_nil)) (nomark _)) pa_nil)))
      (pss_one (ps_ret (pe_ixL K rfl (pe_fld (pv 0) rfl) (pe_fld (pv 0) rfl) (fun _ _ => rfl)))), ?_⟩
    refine ⟨_, rfl, r, dx, _, rfl, h1, rfl, _, rfl, r, C, dx, _, _, rfl, h1, R.cl, R.nA, rf_at, _, rfl, r, C, dx, _, _, rfl, h1, R.cl, R.nW, rf_words, wl, _, rfl, .inl h2, _, _, rfl, rfl, ?_⟩
    refine ⟨r, decide ((i : Int) < ((W.map V.str).length : Int)), W, wl, row, fld, i, rfl, hR, fun e H1 s1 => ?_, fun e => k2 ?_⟩
    · have hi : i < W.length := by have := of_decide_eq_true e; rw [List.length_map] at this; omega
      have hw : W[i]? = some W[i] := List.getElem?_eq_getElem hi
      have h1' := s1 _ _ h1
      refine ⟨_, rfl, r, C, dx, _, _, rfl, h1', R.cl, R.nW, rf_words, _, rfl, r, C, dx, _, _, rfl, h1', R.cl, R.nA, rf_at, wl, _, _, _, rfl, rfl, s1.seq h2, ?_, k1 _ hw _ s1⟩
      have : ixN (W.map V.str).length (i : Int) = some i := by unfold ixN; rw [if_pos (by omega)]; simp [hi]
      unfold atI
      rw [this, Option.bind_some, List.getElem?_map, hw]
      rfl
    · have := of_decide_eq_false e
      rw [List.length_map] at this
      omega
end
end K12

set_option maxHeartbeats 4000000
/-! K7: take, small_part. -/
namespace K12
open PySem PySem.Spec PyProof.Rows L2 TL NumText
set_option autoImplicit false
section
variable {P : Program} {w : World} {K : PySem.W.Frag} {mg : Str → Option Value} {base : Heap} {C CI fI : Addr}
def spTake (K : PySem.W.Frag) (mg : Str → Option Value) (C CI : Addr) {α : Type} (f : Str → Option α) (d : α → PyData) (x : Str) : Sp := fun vs H Q E => ∃ (r g : Addr) (W : List Str) (wl : Addr) (row fld : Int) (i : Nat), vs = [.ref r, .ref g] ∧ mg x = some (.ref g) ∧ RdAt K C W wl row fld r i H ∧
  (∀ w, W[i]? = some w → ∀ a, f w = some a → ∀ v H', Kr r H H' → RdAt K C W wl row fld r (i + 1) H' → Dp K H' v (d a) → Q v H') ∧ ((W.length ≤ i ∨ ∃ w, W[i]? = some w ∧ f w = none) → ErrAt CI r H E row (fld + i))
theorem RdAt.next {W : List Str} {wl : Addr} {row fld : Int} {r : Addr} {i : Nat} {H : Hp} {dx : Addr} (h2 : SqL K H wl (W.map V.str)) (h3 : wl ≠ r) (h4 : W.length ≤ 90000 ∧ ∀ w ∈ W, w.length ≤ 90000) : RdAt K C W wl row fld r (i + 1) (upd H r (.ins C dx (rf wl (i + 1) row fld))) :=
  ⟨dx, upd_same, kr_l (kr_upd (Kr.refl r H)) h3 h2, h3, h4⟩
theorem dp_non {H : Hp} {d : PyData} (h : Dp K H .non d) : d = .none := by cases h; rfl
theorem scR3 : FnScope ["self", "parse", "found"] ["self", "parse"] (defScope (inClass (top 46) 3)) := ⟨rfl, rfl, rfl, by decide +kernel, rfl, by decide +kernel, by decide +kernel⟩
theorem met_take (T : Tx K mg) (R : Rt P K mg C CI fI) {α : Type} {f : Str → Option α} {d : α → PyData} {x : Str} (CP : Cal P w K mg base CX0 2 x ["word"] (spParse K f d)) (hp : ∀ z a, f z = some a → plain (d a)) (hn : ∀ a, d a ≠ .none) :
    Met P w K mg base (L2.CX P w) 4 C "take" ["self", "parse"] (spTake K mg C CI f d x) := by
  have M1 := met_require (w := w) (base := base) R
  have M2 := met_present (w := w) (base := base) T R
  obtain ⟨g0, gd, G, mgx, kg, bg⟩ := CP.ex
  refine R.m3.met scR3 (fun vs H Q E h => ?_) (fun _ _ _ _ _ _ us hl => match us, hl with | [_, _], _ => rfl) (fun fn cdv A outer s H vs Q E hr h => ?_)
  · obtain ⟨r, g, W, wl, row, fld, i, rfl, _⟩ := h; rfl
  · obtain ⟨r, g, W, wl, row, fld, i, rfl, hg, hR, k1, k2⟩ := h
    obtain rfl : g = g0 := by rw [hg] at mgx; cases mgx; rfl
    obtain ⟨dx, h1, h2, h3, h4⟩ := id hR
    refine ⟨_, pss_cons (ps_set (i := 2) scR3.nd rfl (Or.inl rfl) (pe_callL (i := 1) (E := E) G (hr.mono (by decide)) rfl (.inl rfl) kg bg .nil pass0 (pa_cons (pe_met0 (E := E) M2 R.cl hr (passes_call (takes_of rfl rfl rfl rfl) (fun _ _ _ _ h => h)) (pv 0)) pa_nil)))
      (pss_cons (ps_expr (pe_met (E := E) M1 R.cl (hr.mono (by decide)) (passes_call (takes_of rfl rfl rfl rfl) (fun _ _ _ _ h => h)) (pv 0) (pa_cons (pe_cmpR op_notN (pv 2) pe_non (nomark _)) pa_nil)))
      (pss_cons (ps_fldaug (pv 0) pe_int in_add) (pss_one (ps_ret (pv 2))))), ?_⟩
    refine ⟨rfl, _, rfl, r, dx, _, rfl, h1, rfl, r, W, wl, row, fld, i, rfl, hR, fun z hz H1 s1 => ?_, fun e => k2 (.inl e)⟩
    have hzl : z.length ≤ 90000 := h4.2 z (List.mem_of_getElem? hz)
    refine ⟨z, rfl, hzl, fun e H2 s2 => ?_, fun a e v H2 s2 hv => ?_⟩
    · have s := s1.trans s2
      refine ⟨_, rfl, r, dx, _, rfl, s _ _ h1, rfl, _, rfl, rfl, r, false, W, wl, row, fld, i, rfl, hR.same s, fun z => (Bool.false_ne_true z).elim, fun _ => (k2 (.inr ⟨z, hz, e⟩)).kr (kr_of s)⟩
    · have s := s1.trans s2
      have hv0 : v ≠ .non := fun z => hn a (dp_non (z ▸ hv))
      refine ⟨_, rfl, r, dx, _, rfl, s _ _ h1, rfl, _, rfl, rfl, r, true, W, wl, row, fld, i, by rw [decide_eq_false hv0]; rfl, hR.same s, fun _ H3 s3 => ?_, fun z => (Bool.false_ne_true z.symm).elim⟩
      have s' := s.trans s3
      have h1' := s' _ _ h1
      refine ⟨_, rfl, r, C, dx, _, _, rfl, h1', R.cl, R.nA, rf_at, _, _, rfl, rfl, dx, _, h1', (show 4 < 1000 by decide), ?_⟩
      rw [rf_put]
      have kk : Kr r H (upd H3 r (.ins C dx (rf wl (i + 1) row fld))) := kr_upd (kr_of s')
      refine ⟨_, rfl, k1 z hz a e v _ kk (RdAt.next (s'.seq h2) h3 h4) ?_⟩
      have t1 : Tk H2 (upd H3 r (.ins C dx (rf wl (i + 1) row fld))) := (kr_upd (kr_of s3) : Kr r H2 _).tk (s _ _ h1)
      exact Dp.tk t1 _ _ (hp z a e) hv

theorem drop_get {W : List Str} {j : Nat} {z : Str} {ws : List Str} (h : W.drop j = z :: ws) : W[j]? = some z ∧ W.drop (j + 1) = ws := by
  constructor
  · have : (W.drop j)[0]? = some z := by rw [h]; rfl
    rw [List.getElem?_drop] at this
    simpa using this
  · have : (W.drop j).drop 1 = ws := by rw [h]; rfl
    rw [List.drop_drop] at this
    exact this
theorem tkw_err {α β : Type} {f : Str → Option α} {W : List Str} {j : Nat} {ws : List Str} (hd : W.drop j = ws) (h : W.length ≤ j ∨ ∃ w, W[j]? = some w ∧ f w = none) (k : Nat) (g : α → List Str → Res β) : tk f k ws g = .err k := by
  rcases h with h | ⟨w, h1, h2⟩
  · rw [List.drop_of_length_le h] at hd
    rw [← hd]; rfl
  · cases ws with
    | nil =>
      have := (List.getElem?_eq_some_iff.mp h1).1
      have h3 := List.drop_eq_nil_iff.mp hd
      omega
    | cons z r =>
      obtain ⟨e1, _⟩ := drop_get hd
      rw [h1] at e1
      obtain rfl := Option.some.inj e1
      exact tk_none h2
theorem tkw_ok {α β : Type} {f : Str → Option α} {W : List Str} {j : Nat} {ws : List Str} {w : Str} {a : α} (hd : W.drop j = ws) (h1 : W[j]? = some w) (h2 : f w = some a) : ∃ r, W.drop (j + 1) = r ∧ ∀ (k : Nat) (g : α → List Str → Res β), tk f k ws g = g a r := by
  cases ws with
  | nil =>
    have := (List.getElem?_eq_some_iff.mp h1).1
    have h3 := List.drop_eq_nil_iff.mp hd
    omega
  | cons z r =>
    obtain ⟨e1, e2⟩ := drop_get hd
    rw [h1] at e1
    obtain rfl := Option.some.inj e1
    exact ⟨r, e2, fun k g => tk_some h2⟩
def spSmall (K : PySem.W.Frag) (C CI : Addr) : Sp := fun vs H Q E => ∃ (r : Addr) (W : List Str) (wl : Addr) (row fld : Int) (i : Nat) (due : Due) (z : Str) (ws : List Str), vs = [.ref r, .str due.s] ∧ RdAt K C W wl row fld r i H ∧ W.drop i = z :: ws ∧
  (∀ e n, small due z ws = .ok e n → ∀ v H', Kr r H H' → RdAt K C W wl row fld r (i + n) H' → Dp K H' v e.data → Q v H') ∧ (∀ k, small due z ws = .err k → ErrAt CI r H E row (fld + ((i + k : Nat) : Int)))
/-- self.take(parser), by the machine's tk -/
theorem rd_take {α : Type} {f : Str → Option α} {d : α → PyData} {x : Str} {W : List Str} {wl : Addr} {row fld : Int} {r g : Addr} {j : Nat} {ws : List Str} {σ : L2.St} {H : Hp} {Q : VK} {E : XK} (hσ : σ[0]? = some (some (V.ref r))) (hg : mg x = some (.ref g)) (hR : RdAt K C W wl row fld r j H) (hd : W.drop j = ws)
    (hok : ∀ w a, W[j]? = some w → f w = some a → (∀ (β : Type) (k : Nat) (g : α → List Str → Res β), tk f k ws g = g a (W.drop (j + 1))) → ∀ v H', Kr r H H' → RdAt K C W wl row fld r (j + 1) H' → Dp K H' v (d a) → Q v H')
    (herr : (∀ (β : Type) (k : Nat) (g : α → List Str → Res β), tk f k ws g = .err k) → ErrAt CI r H E row (fld + j)) :
    tMeth C "take" (spTake K mg C CI f d x) [] E (tVar 0) (tCons (tC (.ref g)) tNil) σ H Q := by
  obtain ⟨dx, h1, _⟩ := id hR
  refine ⟨.ref r, hσ, r, dx, _, rfl, h1, rfl, r, g, W, wl, row, fld, j, rfl, hg, hR, fun w hw a ha v H' k hR' hv => ?_, fun e => herr fun β k g => tkw_err hd e k g⟩
  exact hok w a hw ha (fun β k g => by obtain ⟨rr, e1, e2⟩ := tkw_ok (β := β) hd hw ha; rw [e1]; exact e2 k g) v H' k hR' hv
theorem inV_strs (z : Str) (ws : List Str) : inV (.str z) (ws.map V.str) = decide (z ∈ ws) := by
  unfold inV
  rw [List.any_map]
  induction ws with
  | nil => simp
  | cons a r ih =>
    rw [List.any_cons, ih]
    by_cases h : a = z
    · subst h; simp [eqV]
    · have h' : ¬ z = a := fun e => h e.symm
      simp [eqV, h, h']
theorem flat_strs (ws : List Str) : (ws.map V.str).all flatV = true := by
  rw [List.all_map]; simp [flatV]
def intPlain (z : Str) (i : Int) (h : intOf z = some i) : plain (dInt i) := by
  show okInt i
  exact (intOf_some h).2
theorem name_of {z a : Str} (h : nameOf z = some a) : a = z ∧ isName z = true := by
  unfold nameOf at h
  by_cases e : isName z = true
  · rw [if_pos e] at h; exact ⟨(Option.some.inj h).symm, e⟩
  · rw [if_neg e] at h; cases h
theorem namePlain (z a : Str) (h : nameOf z = some a) : plain (dStr a) := by
  obtain ⟨rfl, e⟩ := name_of h
  exact name_plain e
theorem pathPlain (z : Str) (p : List Str) (h : pathOf z = some p) : plain (dPath p) := by
  show plainAll (pstrs p)
  exact pstrs_plain (pathOf_some h).2.2
theorem scR4 : FnScope ["self", "due", "word"] ["self", "due"] (defScope (inClass (top 46) 4)) := ⟨rfl, rfl, rfl, by decide +kernel, rfl, by decide +kernel, by decide +kernel⟩
theorem met_small (T : Tx K mg) (R : Rt P K mg C CI fI) : Met P w K mg base (L2.CX P w) 5 C "small_part" ["self", "due"] (spSmall K C CI) := by
  have M1 := met_require (w := w) (base := base) R
  have M2 := met_present (w := w) (base := base) T R
  have cI := cal_integer (P := P) (w := w) (base := base) T
  have cN := cal_name_or (P := P) (w := w) (base := base) T
  have cP := cal_path_or (P := P) (w := w) (base := base) T
  have CS := cal_small (P := P) (w := w) (base := base) T
  have MI := met_take T R cI intPlain (fun a h => by cases h)
  have MN := met_take T R cN namePlain (fun a h => by cases h)
  have MP := met_take T R cP pathPlain (fun a h => by cases h)
  obtain ⟨gI, gdI, GI, mI, kI, bI⟩ := cI.ex
  obtain ⟨gN, gdN, GN, mN, kN, bN⟩ := cN.ex
  obtain ⟨gP, gdP, GP, mP, kP, bP⟩ := cP.ex
  obtain ⟨tNo, cNo⟩ := T.c_NONE
  refine R.m4.met scR4 (fun vs H Q E h => ?_) (fun _ _ _ _ _ _ us hl => match us, hl with | [_, _], _ => rfl) (fun fn cdv A outer s H vs Q E hr h => ?_)
  · obtain ⟨r, W, wl, row, fld, i, due, z, ws, rfl, _⟩ := h; rfl
  · obtain ⟨r, W, wl, row, fld, i, due, z, ws, rfl, hR, hd, k1, k2⟩ := h
    refine ⟨_, (pss_cons (ps_set (i := 2) scR4.nd rfl (Or.inl rfl) (pe_met0 (E := E) M2 R.cl (hr.mono (by decide)) (passes_call (takes_of rfl rfl rfl rfl) (fun _ _ _ _ h => h)) (pv 0)))
      (pss_cons (ps_if (PW.pt (pw_and (pt_cmpR op_eq (pv 1) pe_str (nomark _)) (pw_and1 (pt_cmpR op_notIn_seq (pv 2) (pe_tup (pa_cons pe_str (pa_cons pe_str pa_nil))) rfl)))) (pss_one (ps_ret (pe_met (E := E) MI R.cl hr (passes_call (takes_of rfl rfl rfl rfl) (fun _ _ _ _ h => h)) (pv 0) (pa_cons (pe_glob (v := .ref gI) rfl mI rfl) pa_nil)))) pss_nil)
      (pss_cons (ps_if (PW.pt (pw_and (pt_cmpR op_eq (pv 1) pe_str (nomark _)) (pw_and1 (pt_cmpR op_eq (pv 2) (pe_gs cNo) (nomark _))))) (pss_cons (ps_fldaug (pv 0) pe_int in_add)
(pss_one (ps_ret pe_non))) pss_nil)
      (pss_cons (ps_expr (pe_met (E := E) M1 R.cl (hr.mono (by decide)) (passes_call (takes_of rfl rfl rfl rfl) (fun _ _ _ _ h => h)) (pv 0) (pa_cons (pe_cmpR op_in_seq (pv 2) (pe_cal (E := E) CS (hr.mono (by decide)) rfl pass0 (pa_cons (pv 1) pa_nil)) rfl) pa_nil)))
      (pss_cons (ps_fldaug (pv 0) pe_int in_add)
      (pss_cons (ps_if (pt_cmpR op_eq (pv 2) pe_str (nomark _)) (pss_one (ps_ret (pe_tup (pa_cons (pv 2) (pa_cons (pe_met (E := E) MP R.cl hr (passes_call (takes_of rfl rfl rfl rfl) (fun _ _ _ _ h => h)) (pv 0) (pa_cons (pe_glob (v := .ref gP) rfl mP rfl) pa_nil)) (pa_cons (pe_met (E := E) MI R.cl hr (passes_call (takes_of rfl rfl rfl rfl) (fun _ _ _ _ h => h)) (pv 0) (pa_cons (pe_glob (v := .ref gI) rfl mI rfl) pa_nil)) pa_nil)))))) pss_nil)
      (pss_cons (ps_if (pt_cmpR op_eq (pv 2) pe_str (nomark _)) (pss_one (ps_ret (pe_tup (pa_cons (pv 2) (pa_cons (pe_met (E := E) MN R.cl hr (passes_call (takes_of rfl rfl rfl rfl) (fun _ _ _ _ h => h)) (pv 0) (pa_cons (pe_glob (v := .ref gN) rfl mN rfl) pa_nil)) (pa_cons (pe_met (E := E) MN R.cl hr (passes_call (takes_of rfl rfl rfl rfl) (fun _ _ _ _ h => h)) (pv 0) (pa_cons (pe_glob (v := .ref gN) rfl mN rfl) pa_nil)) (pa_cons (pe_met (E := E) MN R.cl hr (passes_call (takes_of rfl rfl rfl rfl) (fun _ _ _ _ h => h)) (pv 0) (pa_cons (pe_glob (v := .ref gN) rfl mN rfl) pa_nil)) pa_nil))))))) pss_nil)
      (pss_one (ps_ret (pe_ifExp (pt_cmpR op_eq (pv 2) pe_str (nomark _)) (pe_tup (pa_cons (pv 2) pa_nil)) (pe_tup (pa_cons (pv 2) (pa_cons (pe_met (E := E) MP R.cl hr (passes_call (takes_of rfl rfl rfl rfl) (fun _ _ _ _ h => h)) (pv 0) (pa_cons (pe_glob (v := .ref gP) rfl mP rfl) pa_nil)) pa_nil))))))))))))), ?_⟩
    obtain ⟨hz, hd1⟩ := drop_get hd
    obtain ⟨dx, h1, h2, h3, h4⟩ := id hR
    refine ⟨_, rfl, r, dx, _, rfl, h1, rfl, r, W, wl, row, fld, i, rfl, hR, fun z' hz' H1 s1 => ?_, fun e => ?_⟩
    rotate_left
    · have := (List.getElem?_eq_some_iff.mp hz).1
      omega
    obtain rfl : z' = z := by rw [hz] at hz'; exact (Option.some.inj hz').symm
    -- the words that may stand here, then one word on
    have go : ∀ {Q2 : L2.St → Hp → Prop} {H2 : Hp}, Same H H2 → (z' ∈ smallL due → ∀ H4, Kr r H H4 → RdAt K C W wl row fld r (i + 1) H4 → Q2 [some (.ref r), some (.str due.s), some (.str z')] H4) → (z' ∉ smallL due → ErrAt CI r H E row (fld + i)) →
        tDrop (tMeth C "require" (spRequire K C CI) [] E (tVar 0) (tCons (tOp (rIn K false) (tVar 2) (tCall (spSmallW K) [] E (tCons (tVar 1) tNil))) tNil))
          { nx := sFldAug K (tVar 0) (tC (.int 1)) rAdd "at" { nx := Q2, rt := Q }, rt := Q } [some (.ref r), some (.str due.s), some (.str z')] H2 := by
      intro Q2 H2 s2 q1 q2
      refine ⟨_, rfl, r, dx, _, rfl, s2 _ _ h1, rfl, _, rfl, _, rfl, due, rfl, fun p H3 s3 hp => ?_⟩
      have s3' := s2.trans s3
      refine ⟨p, _, rfl, .inr hp, rfl, flat_strs _, r, decide (z' ∈ smallL due), W, wl, row, fld, i, ?_, hR.same s3', fun e H4 s4 => ?_, fun e => ?_⟩
      · show [V.ref r, V.bl (inV (.str z') ((smallL due).map V.str))] = _
        rw [inV_strs]
      · have s4' := s3'.trans s4
        have h1' := s4' _ _ h1
        refine ⟨_, rfl, r, C, dx, _, _, rfl, h1', R.cl, R.nA, rf_at, _, _, rfl, rfl, dx, _, h1', (show 4 < 1000 by decide), ?_⟩
        rw [rf_put]
        exact q1 (of_decide_eq_true e) _ (kr_upd (kr_of s4')) (RdAt.next (s4'.seq h2) h3 h4)
      · exact (q2 (of_decide_eq_false e)).kr (kr_of s3')
    cases due with
    | num =>
      refine ⟨_, rfl, rfl, true, by decide +kernel, iteT ⟨_, rfl, small100 (by simp), fun p hp => ⟨p, _, rfl, .inr (sq_t upd_same), rfl, rfl, ?_⟩⟩⟩
      have sp : Same H (upd H1 p (.tup [.str "get", .str "sum"])) := s1.trans (same_new hp)
      have ein : inV (.str z') [V.str "get", V.str "sum"] = decide (z' ∈ smallL .num) := inV_strs z' ["get", "sum"]
      by_cases hin : z' ∈ smallL .num
      · refine ⟨false, by rw [ein, decide_eq_true hin]; rfl, iteF ?_⟩
        refine ⟨_, rfl, rfl, false, by decide +kernel, iteF (iteF ?_)⟩
        refine go sp (fun _ H4 k4 hR4 => ?_) (fun e => absurd hin e)
        simp only [smallL, List.mem_cons, List.not_mem_nil, or_false] at hin
        rcases hin with rfl | rfl
        · refine ⟨_, rfl, rfl, true, by decide +kernel, iteT ⟨_, rfl, rd_take rfl mP hR4 hd1 (fun w p hw hp1 htk v H5 k5 hR5 dv => rd_take rfl mI hR5 rfl (fun w2 j hw2 hj htk2 v2 H6 k6 hR6 dv2 => ⟨small100 (by simp), fun q hq => ?_⟩) (fun htk2 => ?_)) (fun htk => ?_)⟩⟩
          · refine k1 (.get p j) 3 ?_ _ _ ((k4.trans (k5.trans k6)).trans (kr_of (same_new hq))) (hR6.same (same_new hq)) ?_
            · rw [small_num, if_pos rfl, htk, htk2]
            · have t6 : Tk H5 (upd H6 q (.tup [.str "get", v, v2])) := (hR5.tk k6).trans (tk_of (same_new hq))
              exact .tup (sq_t upd_same) (.cons (.str _) (.cons (Dp.tk t6 _ _ (pathPlain _ _ hp1) dv) (.cons (Dp.tk (tk_of (same_new hq)) _ _ (intPlain _ _ hj) dv2) .nil)))
          · refine (k2 2 ?_).kr (k4.trans k5)
            rw [small_num, if_pos rfl, htk, htk2]
          · refine (k2 1 ?_).kr k4
            rw [small_num, if_pos rfl, htk]
        · refine ⟨_, rfl, rfl, false, by decide +kernel, iteF ⟨_, rfl, rfl, true, by decide +kernel, iteT ⟨_, rfl, rd_take rfl mN hR4 hd1 (fun w a hw ha htk v H5 k5 hR5 dv => rd_take rfl mN hR5 rfl (fun w2 b hw2 hb htk2 v2 H6 k6 hR6 dv2 => rd_take rfl mN hR6 rfl (fun w3 c hw3 hc htk3 v3 H7 k7 hR7 dv3 => ⟨small100 (by simp), fun q hq => ?_⟩) (fun htk3 => ?_)) (fun htk2 => ?_)) (fun htk => ?_)⟩⟩⟩
          · refine k1 (.sum a b c) 4 ?_ _ _ ((k4.trans (k5.trans (k6.trans k7))).trans (kr_of (same_new hq))) (hR7.same (same_new hq)) ?_
            · rw [small_num, if_neg (by decide +kernel), if_pos rfl, htk, htk2, htk3]
            · have t7 : Tk H6 (upd H7 q (.tup [.str "sum", v, v2, v3])) := (hR6.tk k7).trans (tk_of (same_new hq))
              have t6 := (hR5.tk k6).trans t7
              exact .tup (sq_t upd_same) (.cons (.str _) (.cons (Dp.tk t6 _ _ (namePlain _ _ ha) dv) (.cons (Dp.tk t7 _ _ (namePlain _ _ hb) dv2) (.cons (Dp.tk (tk_of (same_new hq)) _ _ (namePlain _ _ hc) dv3) .nil))))
          · refine (k2 3 ?_).kr (k4.trans (k5.trans k6))
            rw [small_num, if_neg (by decide +kernel), if_pos rfl, htk, htk2, htk3]
          · refine (k2 2 ?_).kr (k4.trans k5)
            rw [small_num, if_neg (by decide +kernel), if_pos rfl, htk, htk2]
          · refine (k2 1 ?_).kr k4
            rw [small_num, if_neg (by decide +kernel), if_pos rfl, htk]
      · refine ⟨true, by rw [ein, decide_eq_false hin]; rfl, iteT ?_⟩
        have hng : z' ≠ "get" ∧ z' ≠ "sum" := by
          simp only [smallL, List.mem_cons, List.not_mem_nil, or_false, not_or] at hin
          exact hin
        have es : small .num z' ws = (match intOf z' with | none => .err 0 | some i => .ok (.int i) 1) := by rw [small_num, if_neg hng.1, if_neg hng.2] <;> rfl
        refine ⟨_, rfl, r, dx, _, rfl, sp _ _ h1, rfl, r, gI, W, wl, row, fld, i, rfl, mI, hR.same sp, fun w' hw a ha v H' k hR' hv => ?_, fun e => (k2 0 ?_).kr (kr_of sp)⟩
        · rw [hz] at hw
          obtain rfl := Option.some.inj hw
          refine k1 (.int a) 1 (by rw [es, ha]) v H' ((kr_of sp).trans k) hR' hv
        · rcases e with e | ⟨w', hw, ha⟩
          · have := (List.getElem?_eq_some_iff.mp hz).1
            omega
          · rw [hz] at hw
            obtain rfl := Option.some.inj hw
            rw [es, ha]
    | con =>
      refine ⟨_, rfl, rfl, false, by decide +kernel, iteF (iteF ?_)⟩
      refine ⟨_, rfl, rfl, false, by decide +kernel, iteF (iteF ?_)⟩
      refine go s1 (fun hin H4 k4 hR4 => ?_) (fun hin => k2 0 ?_)
      · simp only [smallL, List.mem_cons, List.not_mem_nil, or_false] at hin
        subst hin
        refine ⟨_, rfl, rfl, false, by decide +kernel, iteF ⟨_, rfl, rfl, false, by decide +kernel, iteF ⟨_, rfl, rfl, false, by decide +kernel, iteF ⟨_, rfl, rd_take rfl mP hR4 hd1 (fun w p hw hp1 htk v H5 k5 hR5 dv => ⟨small100 (by simp), fun q hq => ?_⟩) (fun htk => ?_)⟩⟩⟩⟩
        · refine k1 (.isnone p) 2 ?_ _ _ ((k4.trans k5).trans (kr_of (same_new hq))) (hR5.same (same_new hq)) ?_
          · rw [small_con, if_pos rfl, htk]
          · exact .tup (sq_t upd_same) (.cons (.str _) (.cons (Dp.tk (tk_of (same_new hq)) _ _ (pathPlain _ _ hp1) dv) .nil))
        · refine (k2 1 ?_).kr k4
          rw [small_con, if_pos rfl, htk]
      · rw [small_con, if_neg (by simpa [smallL] using hin)]
    | lnk =>
      refine ⟨_, rfl, rfl, false, by decide +kernel, iteF (iteF ?_)⟩
      refine ⟨_, rfl, rfl, true, by decide +kernel, iteT ?_⟩
      by_cases hdash : z' = "-"
      · refine ⟨_, rfl, rfl, true, by rw [hdash]; decide +kernel, iteT ?_⟩
        have h1' := s1 _ _ h1
        refine ⟨_, rfl, r, C, dx, _, _, rfl, h1', R.cl, R.nA, rf_at, _, _, rfl, rfl, dx, _, h1', (show 4 < 1000 by decide), ?_⟩
        rw [rf_put]
        exact k1 .non 1 (by rw [small_lnk, if_pos hdash]) _ _ (kr_upd (kr_of s1)) (RdAt.next (s1.seq h2) h3 h4) .non
      · refine ⟨_, rfl, rfl, false, by rw [decide_eq_false (fun e => hdash (V.str.inj e))], iteF ?_⟩
        refine go s1 (fun hin H4 k4 hR4 => ?_) (fun hin => k2 0 ?_)
        · simp only [smallL, List.mem_cons, List.not_mem_nil, or_false] at hin
          rcases hin with rfl | rfl
          · refine ⟨_, rfl, rfl, false, by decide +kernel, iteF ⟨_, rfl, rfl, false, by decide +kernel, iteF ⟨_, rfl, rfl, true, by decide +kernel, iteT ⟨_, rfl, small100 (by simp), fun q hq => ?_⟩⟩⟩⟩
            refine k1 .self 1 ?_ _ _ (k4.trans (kr_of (same_new hq))) (hR4.same (same_new hq)) (.tup (sq_t upd_same) (.cons (.str _) .nil))
            rw [small_lnk, if_neg (by decide +kernel), if_pos rfl]
          · refine ⟨_, rfl, rfl, false, by decide +kernel, iteF ⟨_, rfl, rfl, false, by decide +kernel, iteF ⟨_, rfl, rfl, false, by decide +kernel, iteF ⟨_, rfl, rd_take rfl mP hR4 hd1 (fun w p hw hp1 htk v H5 k5 hR5 dv => ⟨small100 (by simp), fun q hq => ?_⟩) (fun htk => ?_)⟩⟩⟩⟩
            · refine k1 (.to p) 2 ?_ _ _ ((k4.trans k5).trans (kr_of (same_new hq))) (hR5.same (same_new hq)) ?_
              · rw [small_lnk, if_neg (by decide +kernel), if_neg (by decide +kernel), if_pos rfl, htk]
              · exact .tup (sq_t upd_same) (.cons (.str _) (.cons (Dp.tk (tk_of (same_new hq)) _ _ (pathPlain _ _ hp1) dv) .nil))
            · refine (k2 1 ?_).kr k4
              rw [small_lnk, if_neg (by decide +kernel), if_neg (by decide +kernel), if_pos rfl, htk]
        · simp only [smallL, List.mem_cons, List.not_mem_nil, or_false, not_or] at hin
          rw [small_lnk, if_neg hdash, if_neg hin.1, if_neg hin.2]
end
end K12

set_option maxHeartbeats 4000000
/-! K8: PartReader.part. -/
namespace K12
open PySem PySem.Spec PyProof.Rows L2 TL NumText
set_option autoImplicit false
/-! ### a list against [] -/
def rNilL (K : PySem.W.Frag) (neg : Bool) : R2 := fun x y H Q => ∃ a b xs, x = .ref a ∧ y = .ref b ∧ SqL K H a xs ∧ SqL K H b [] ∧ Q (.bl (if neg then !xs.isEmpty else xs.isEmpty)) H
theorem op_eqNil {X : Cx} (hu : X.A.units < cLine) : OpR X (compareOp .Eq) (rNilL X.K false) := by
  intro pins s σ H x y v u Q I rx ry h
  obtain ⟨a, b, xs, rfl, rfl, hx, hy, q⟩ := h
  cases rx
  cases ry
  obtain ⟨its, r1, p1, _⟩ := I.list hx
  obtain ⟨jts, r2, p2, _⟩ := I.list hy
  cases r2
  cases r1 with
  | nil => exact SeqAt.eq_listAt (e := fun _ => true) p1.isList p2.isList rfl hu (fun j h1 => absurd h1 (by simp)) ⟨.bl _, H, I, rfl, q⟩
  | cons r1 r2 => exact SeqAt.eq_list_lengthsAt p1.isList p2.isList (by simp) hu ⟨.bl _, H, I, rfl, q⟩
theorem op_neNil {X : Cx} (hu : X.A.units < cLine) : OpR X (compareOp .NotEq) (rNilL X.K true) := by
  intro pins s σ H x y v u Q I rx ry h
  obtain ⟨a, b, xs, rfl, rfl, hx, hy, q⟩ := h
  cases rx
  cases ry
  obtain ⟨its, r1, p1, _⟩ := I.list hx
  obtain ⟨jts, r2, p2, _⟩ := I.list hy
  cases r2
  cases r1 with
  | nil => exact SeqAt.RcNeAt.lists (e := fun _ => true) p1.isList p2.isList rfl hu (fun j h1 => absurd h1 (by simp)) X.prog X.w X.xe _ ⟨.bl _, H, I, rfl, q⟩
  | cons r1 r2 => exact SeqAt.RcNeAt.lists_lengths p1.isList p2.isList (by simp) hu X.prog X.w X.xe _ ⟨.bl _, H, I, rfl, q⟩
theorem hu0 {A : Around} {k : Nat} (hr : Room k A) : A.units < cLine := Nat.lt_of_succ_lt (hu_of hr)
/-! ### the stack in the heap -/
theorem dues_len (o : Op) (d : Due) : (o.dues d).length = o.arity := by cases o <;> rfl
theorem build_data {o : Op} {ps : List Ex} (h : ps.length = o.arity) : (build o ps).data = .tuple (.str o.w :: ps.map Ex.data) := by
  cases o with
  | not =>
    match ps, h with
    | [c], _ => rfl
  | bin o =>
    match ps, h with
    | [a, b], _ => rfl
  | cond =>
    match ps, h with
    | [c, a, b], _ => rfl
def FrAt (K : PySem.W.Frag) (H : Hp) (f : Fr) (v : V) (pl : Addr) : Prop := ∃ a td xs, v = .ref a ∧ SqT K H a [.str f.op.w, .ref td, .ref pl] ∧ TupK K td (dueS f.dues) ∧ H pl = some (.lst xs) ∧ DpAll K H xs (f.parts.map Ex.data)
def StkAt (K : PySem.W.Frag) (H : Hp) : List Fr → List V → List Addr → Prop
  | [], [], [] => True
  | f :: st, v :: vs, pl :: pls => FrAt K H f v pl ∧ StkAt K H st vs pls
  | _, _, _ => False
theorem stk_len {K : PySem.W.Frag} {H : Hp} : ∀ {st : List Fr} {vs : List V} {pls : List Addr}, StkAt K H st vs pls → vs.length = st.length ∧ pls.length = st.length
  | [], [], [], _ => ⟨rfl, rfl⟩
  | f :: st, v :: vs, pl :: pls, h => by
    have := stk_len h.2
    exact ⟨by rw [List.length_cons, List.length_cons, this.1], by rw [List.length_cons, List.length_cons, this.2]⟩
  | [], [], _ :: _, h => h.elim
  | [], _ :: _, _, h => h.elim
  | _ :: _, [], _, h => h.elim
  | _ :: _, _ :: _, [], h => h.elim
theorem parts_plain {ps : List Ex} (h : ∀ p ∈ ps, p.Wf) : plainAll (ps.map Ex.data) := by
  induction ps with
  | nil => simp only [List.map_nil, plainAll]
  | cons a r ih =>
    simp only [List.map_cons, plainAll]
    exact ⟨data_plain a (h a (by simp)), ih fun p hp => h p (List.mem_cons_of_mem _ hp)⟩
theorem stk_tk {K : PySem.W.Frag} {H H' : Hp} (t : Tk H H') : ∀ {st : List Fr} {vs : List V} {pls : List Addr}, FrsOk st → (∀ pl ∈ pls, H' pl = H pl) → StkAt K H st vs pls → StkAt K H' st vs pls
  | [], [], [], _, _, _ => True.intro
  | f :: st, v :: vs, pl :: pls, ok, hp, h => by
    obtain ⟨⟨a, td, xs, e, h1, h2, h3, h4⟩, h5⟩ := h
    refine ⟨⟨a, td, xs, e, tk_t t h1, h2, by rw [hp pl (by simp)]; exact h3, Dp.tkAll t _ _ (parts_plain fun p hp => (ok.2.1 p hp).1) h4⟩, stk_tk t ok.2.2 (fun p hm => hp p (List.mem_cons_of_mem _ hm)) h5⟩
  | [], [], _ :: _, _, _, h => h.elim
  | [], _ :: _, _, _, _, h => h.elim
  | _ :: _, [], _, _, _, h => h.elim
  | _ :: _, _ :: _, [], _, _, h => h.elim
theorem stk_lst {K : PySem.W.Frag} {H : Hp} : ∀ {st : List Fr} {vs : List V} {pls : List Addr}, StkAt K H st vs pls → ∀ pl ∈ pls, ∃ xs, H pl = some (.lst xs)
  | [], [], [], _, _, h => by simp at h
  | f :: st, v :: vs, pl :: pls, h, p, hp => by
    obtain ⟨⟨a, td, xs, e, h1, h2, h3, h4⟩, h5⟩ := h
    rcases List.mem_cons.mp hp with rfl | hp
    · exact ⟨xs, h3⟩
    · exact stk_lst h5 p hp
  | [], [], _ :: _, h, _, _ => h.elim
  | [], _ :: _, _, h, _, _ => h.elim
  | _ :: _, [], _, h, _, _ => h.elim
  | _ :: _, _ :: _, [], h, _, _ => h.elim
section
variable {P : Program} {w : World} {K : PySem.W.Frag} {mg : Str → Option Value} {base : Heap} {C CI fI D1 D2 D3 t2 t3 u1 u2 v3 : Addr}
/-- what is wanted of a result of the machine, counted from place i -/
def GoalR (K : PySem.W.Frag) (C CI : Addr) (W : List Str) (wl : Addr) (row fld : Int) (r : Addr) (H : Hp) (Q : VK) (E : XK) (i : Nat) (R : Res Ex) : Prop :=
  (∀ e n, R = .ok e n → e.Wf → ∀ v H', Kr r H H' → RdAt K C W wl row fld r (i + n) H' → Dp K H' v e.data → Q v H') ∧ (∀ k, R = .err k → ErrAt CI r H E row (fld + ((i + k : Nat) : Int)))
theorem GoalR.up {W : List Str} {wl : Addr} {row fld : Int} {r : Addr} {H : Hp} {Q : VK} {E : XK} {i a : Nat} {R : Res Ex} (h : GoalR K C CI W wl row fld r H Q E i (R.up a)) : GoalR K C CI W wl row fld r H Q E (i + a) R :=
  ⟨fun e n hr hw v H' k hR hv => h.1 e (a + n) (by rw [hr]; rfl) hw v H' k (by rw [← Nat.add_assoc]; exact hR) hv, fun k hr => by
    have := h.2 (a + k) (by rw [hr]; rfl)
    rw [← Nat.add_assoc] at this
    exact this⟩
def spPart (K : PySem.W.Frag) (C CI : Addr) : Sp := fun vs H Q E => ∃ (r : Addr) (W : List Str) (wl : Addr) (row fld : Int) (i : Nat) (due : Due), vs = [.ref r, .str due.s] ∧ RdAt K C W wl row fld r i H ∧ GoalR K C CI W wl row fld r H Q E i (run [] due (W.drop i))
/-- the opened operations: the list at o, the parts' lists -/
structure StI (K : PySem.W.Frag) (H : Hp) (o : Addr) (st : List Fr) (vs : List V) (pls : List Addr) (H' : Hp) : Prop where
  o0 : H o = none
  ol : H' o = some (.lst vs.reverse)
  stk : StkAt K H' st vs pls
  on : o ∉ pls
  nd : pls.Nodup
  p0 : ∀ pl ∈ pls, H pl = none
  ok : FrsOk st
  len : st.length ≤ 30
theorem StI.kr {H : Hp} {o r : Addr} {st : List Fr} {vs : List V} {pls : List Addr} {H1 H2 : Hp} (h : StI K H o st vs pls H1) {c dx : Addr} {fs : List (Str × V)} (hr : H1 r = some (.ins c dx fs)) (k : Kr r H1 H2) : StI K H o st vs pls H2 := by
  refine ⟨h.o0, k _ _ (fun z => ?_) h.ol, stk_tk (k.tk hr) h.ok (fun pl hp => ?_) h.stk, h.on, h.nd, h.p0, h.ok, h.len⟩
  · have := h.ol
    rw [z, hr] at this
    cases this
  · obtain ⟨xs, hx⟩ := stk_lst h.stk pl hp
    rw [hx]
    refine k _ _ (fun z => ?_) hx
    rw [z, hr] at hx
    cases hx
theorem atI_last (l : List V) (x : V) : atI (l ++ [x]) (-(1 : Int)) = some x := by
  unfold atI ixN
  rw [if_neg (by decide)]
  have h1 : (-(1 : Int)) + ((l ++ [x]).length : Int) = (l.length : Int) := by rw [List.length_append]; simp; omega
  rw [if_pos (by simp; omega), Option.bind_some, h1]
  simp
theorem atI_head (x : V) (l : List V) : atI (x :: l) 0 = some x := by simp [atI, ixN]
theorem dpAll_app {H : Hp} : ∀ {xs ys : List V} {ds es : List PyData}, DpAll K H xs ds → DpAll K H ys es → DpAll K H (xs ++ ys) (ds ++ es)
  | _, _, _, _, .nil, h => h
  | _, _, _, _, .cons a b, h => .cons a (dpAll_app b h)
theorem drop_next {W : List Str} {i : Nat} {z : Str} (h : W[i]? = some z) : W.drop i = z :: W.drop (i + 1) := by
  obtain ⟨hl, e⟩ := List.getElem?_eq_some_iff.mp h
  rw [← e]
  exact List.drop_eq_getElem_cons hl
theorem scR5 : FnScope ["self", "due", "opened", "want", "word", "found", "dues", "parts"] ["self", "due"] (defScope (inClass (top 46) 5)) := ⟨rfl, rfl, rfl, by decide +kernel, rfl, by decide +kernel, by decide +kernel⟩
theorem met_part (T : Tx K mg) (R : Rt P K mg C CI fI) (O : Ops K w mg D1 D2 D3 t2 t3 u1 u2 v3) : Met P w K mg base (L2.CX P w) 6 C "part" ["self", "due"] (spPart K C CI) := by
  have M1 := met_require (w := w) (base := base) R
  have M2 := met_present (w := w) (base := base) T R
  have M4 := met_small (w := w) (base := base) T R
  have CO := cal_ops (P := P) (base := base) T O
  obtain ⟨tMo, cMo⟩ := T.c_MOSTO
  refine R.m5.met scR5 (fun vs H Q E h => ?_) (fun _ _ _ _ _ _ us hl => match us, hl with | [_, _], _ => rfl) (fun fn cdv A outer s H vs Q E hr h => ?_)
  · obtain ⟨r, W, wl, row, fld, i, due, rfl, _⟩ := h; rfl
  · obtain ⟨r, W, wl, row, fld, i0, due, rfl, hR, hgoal⟩ := h
    refine ⟨_, (pss_cons (ps_set (i := 2) scR5.nd rfl (Or.inl rfl) (pe_lst pa_nil))
      (pss_cons (ps_set (i := 3) scR5.nd rfl (Or.inl rfl) (pv 1))
      (pss_one (ps_while (passes_of rfl) (pt_val pe_bl) (pss_cons (ps_set (i := 4) scR5.nd rfl (Or.inl rfl) (pe_met0 (E := E) M2 R.cl (hr.mono (by decide)) (passes_call (takes_of rfl rfl rfl rfl) (fun _ _ _ _ h => h)) (pv 0)))
(pss_cons (ps_if (pt_cmp (pc_din (hu_of hr) (pv 4) (pe_cal (E := E) CO (hr.mono (by decide)) rfl pass0 (pa_cons (pv 3) pa_nil)))) (pss_cons (ps_expr (pe_met (E := E) M1 R.cl (hr.mono (by decide)) (passes_call (takes_of rfl rfl rfl rfl) (fun _ _ _ _ h => h)) (pv 0) (pa_cons (pe_cmpR op_lt (pe_callB call_len_seq (by rfl) T.b_len PySem.boot_len (pa_cons (pv 2) pa_nil)) (pe_gi cMo) (nomark _)) pa_nil)))
(pss_cons (ps_fldaug (pv 0) pe_int in_add)
(pss_cons (ps_expr (pe_bm PySem.F.plainAttrs_list PySem.F.slot_list_append PySem.F.type_list_append mt_append (pv 2) (pa_cons (pe_tup (pa_cons (pv 4) (pa_cons (pe_dget (hu_of hr) (pe_cal (E := E) CO (hr.mono (by decide)) rfl pass0 (pa_cons (pv 3) pa_nil)) (pv 4) (fun _ _ => rfl)) (pa_cons (pe_lst pa_nil) pa_nil)))) pa_nil)))
(pss_cons (ps_set (i := 3) scR5.nd rfl (Or.inl rfl) (pe_ixT K rfl (pe_ixT K rfl (pe_ixL K rfl (pv 2) (pe_un un_neg pe_int) (fun _ _ => rfl)) pe_int (fun _ _ => rfl)) pe_int (fun _ _ => rfl)))
(pss_one ps_continue))))) pss_nil)
(pss_cons (ps_set (i := 5) scR5.nd rfl (Or.inl rfl) (pe_met (E := E) M4 R.cl hr (passes_call (takes_of rfl rfl rfl rfl) (fun _ _ _ _ h => h)) (pv 0) (pa_cons (pv 3) pa_nil)))
(pss_cons (ps_while (passes_of rfl) (PW.pt (pw_and (pt_cmpR (op_neNil (hu0 hr)) (pv 2) (pe_lst pa_nil) (nomark _)) (pw_and1 (pt_cmpR op_eq (pe_op op_add (pe_callB call_len_seq (by rfl) T.b_len PySem.boot_len (pa_cons (pe_ixT K rfl (pe_ixL K rfl (pv 2) (pe_un un_neg pe_int) (fun _ _ => rfl)) pe_int (fun _ _ => rfl)) pa_nil)) pe_int) (pe_callB call_len_seq (by rfl) T.b_len PySem.boot_len (pa_cons (pe_ixT K rfl (pe_ixL K rfl (pv 2) (pe_un un_neg pe_int) (fun _ _ => rfl)) pe_int (fun _ _ => rfl)) pa_nil)) (nomark _))))) (pss_cons (ps_asg (pe_bm0 PySem.F.plainAttrs_list PySem.F.slot_list_pop PySem.F.type_list_pop mt_pop (pv 2)) (pg_tup rfl (pgs_cons (pg_name (i := 4) scR5.nd rfl (Or.inl rfl)) (pgs_cons (pg_name (i := 6) scR5.nd rfl (Or.inl rfl)) (pgs_cons (pg_name (i := 7) scR5.nd rfl (Or.inl rfl)) pgs_nil)))))
(pss_one (ps_set (i := 5) scR5.nd rfl (Or.inl rfl) (pe_tup (pa_cons (pv 4) (StX.pa_star (pv 7) (pa_cons (pv 5) pa_nil))))))))
(pss_cons (ps_if (pt_cmpR (op_eqNil (hu0 hr)) (pv 2) (pe_lst pa_nil) (nomark _)) (pss_one (ps_ret (pv 5))) pss_nil)
(pss_cons (ps_expr (pe_bm PySem.F.plainAttrs_list PySem.F.slot_list_append PySem.F.type_list_append mt_append (pe_ixT K rfl (pe_ixL K rfl (pv 2) (pe_un un_neg pe_int) (fun _ _ => rfl)) pe_int (fun _ _ => rfl)) (pa_cons (pv 5) pa_nil)))
(pss_one (ps_set (i := 3) scR5.nd rfl (Or.inl rfl) (pe_ixT K rfl (pe_ixT K rfl (pe_ixL K rfl (pv 2) (pe_un un_neg pe_int) (fun _ _ => rfl)) pe_int (fun _ _ => rfl)) (pe_callB call_len_seq (by rfl) T.b_len PySem.boot_len (pa_cons (pe_ixT K rfl (pe_ixL K rfl (pv 2) (pe_un un_neg pe_int) (fun _ _ => rfl)) pe_int (fun _ _ => rfl)) pa_nil)) (fun _ _ => rfl)))))))))))))), ?_⟩
    obtain ⟨_, _, hw0, _⟩ := id hR
    refine ⟨small100 (by simp), fun o ho => ⟨_, rfl, fun m σ H' => ∃ (i : Nat) (want : Due) (st : List Fr) (vs : List V) (pls : List Addr) (x4 x5 x6 x7 : Option V), m = W.length - i ∧ σ = [some (.ref r), some (.str due.s), some (.ref o), some (.str want.s), x4, x5, x6, x7] ∧
      Kr r H H' ∧ RdAt K C W wl row fld r i H' ∧ StI K H o st vs pls H' ∧ GoalR K C CI W wl row fld r H Q E i (run st want (W.drop i)), ⟨_, i0, due, [], [], [], none, none, none, none, rfl, rfl, kr_of (same_new ho), hR.same (same_new ho), ⟨ho, upd_same, True.intro, by simp, by simp, by simp, True.intro, by simp⟩, hgoal⟩, ?_⟩⟩
    rintro m σ H1 ⟨i, want, st, vs, pls, x4, x5, x6, x7, rfl, rfl, kr1, hR1, hS1, hG⟩
    refine ⟨true, rfl, iteT ⟨_, fun _ _ h => h, ?_⟩⟩
    obtain ⟨dx, h1, h2, h3, h4⟩ := id hR1
    refine ⟨_, rfl, r, dx, _, rfl, h1, rfl, r, W, wl, row, fld, i, rfl, hR1, fun z hz H2 s2 => ?_, fun e => ?_⟩
    rotate_left
    · have := hG.2 0 (by rw [List.drop_of_length_le e, run_nil])
      exact ErrAt.kr this kr1
    have hdz := drop_next hz
    have hi := (List.getElem?_eq_some_iff.mp hz).1
    have kr2 := kr1.trans (kr_of s2)
    have hS2 := hS1.kr h1 (kr_of s2)
    rw [hdz] at hG
    refine ⟨_, rfl, _, rfl, want, rfl, fun p kvs hp hops => ?_⟩
    have hp3 : Same H2 (upd H2 p (.dK kvs)) := same_new hp
    have s3 := s2.trans hp3
    have hD : DGet (upd H2 p (.dK kvs)) p (.str z) (valV kvs (.inr z)) := DGet.k (k := .inr z) upd_same
    have hop := hops z
    cases hw : opOf want z with
    | some q =>
      obtain ⟨op, ds⟩ := q
      rw [hw] at hop
      obtain ⟨td, hv, htd⟩ := hop
      rw [hv] at hD
      refine ⟨p, _, rfl, hD, true, rfl, iteT ?_⟩
      rw [run_op hw] at hG
      have hR3 := hR1.same s3
      have h13 := s3 _ _ h1
      have hS3 := hS1.kr h1 (kr_of s3)
      have lv := (stk_len hS1.stk).1
      refine ⟨_, rfl, r, dx, _, rfl, h13, rfl, _, rfl, o, _, rfl, .inl (sq_l hS3.ol), _, _, rfl, rfl, r, decide (((vs.reverse).length : Int) < 30), W, wl, row, fld, i, rfl, hR3, fun e H4 s4 => ?_, fun e => ?_⟩
      rotate_left
      · have e' := of_decide_eq_false e
        rw [List.length_reverse] at e'
        have := hG.2 0 (by rw [if_neg (by omega)])
        exact ErrAt.kr this (kr1.trans (kr_of s3))
      have e' := of_decide_eq_true e
      rw [List.length_reverse] at e'
      rw [if_pos (by omega)] at hG
      have hG1 := hG.up
      have s4' := s3.trans s4
      have h14 := s4' _ _ h1
      refine ⟨_, rfl, r, C, dx, _, _, rfl, h14, R.cl, R.nA, rf_at, _, _, rfl, rfl, dx, _, h14, (show 4 < 1000 by decide), ?_⟩
      rw [rf_put]
      have kr5 : Kr r H1 (upd H4 r (.ins C dx (rf wl (i + 1) row fld))) := kr_upd (kr_of s4')
      have hR5 : RdAt K C W wl row fld r (i + 1) (upd H4 r (.ins C dx (rf wl (i + 1) row fld))) := RdAt.next (s4'.seq h2) h3 h4
      have hS5 := hS1.kr h1 kr5
      refine ⟨_, rfl, .inl ⟨rfl, _, sq_l hS5.ol⟩, _, rfl, _, rfl, want, rfl, fun p2 kvs2 hp2 hops2 => ⟨_, rfl, ?_⟩⟩
      have hop2 := hops2 z
      rw [hw] at hop2
      obtain ⟨td2, hv2, htd2⟩ := hop2
      have hD2 : DGet (upd (upd H4 r (.ins C dx (rf wl (i + 1) row fld))) p2 (.dK kvs2)) p2 (.str z) (some (.ref td2)) := by
        rw [← hv2]
        exact DGet.k (k := .inr z) upd_same
      refine ⟨p2, .ref td2, rfl, hD2, small100 (by simp), fun pl hpl => ⟨small100 (by simp), fun tp htp => ?_⟩⟩
      -- the heap so far
      have sA : Same (upd H4 r (.ins C dx (rf wl (i + 1) row fld))) (upd (upd (upd (upd H4 r (.ins C dx (rf wl (i + 1) row fld))) p2 (.dK kvs2)) pl (.lst [])) tp (.tup [.str z, .ref td2, .ref pl])) := (same_new hp2).trans ((same_new hpl).trans (same_new htp))
      generalize hH6 : upd (upd (upd (upd H4 r (.ins C dx (rf wl (i + 1) row fld))) p2 (.dK kvs2)) pl (.lst [])) tp (.tup [.str z, .ref td2, .ref pl]) = H6 at sA ⊢
      have htp6 : H6 tp = some (.tup [.str z, .ref td2, .ref pl]) := by rw [← hH6]; exact upd_same
      have hpl6 : H6 pl = some (.lst []) := by
        rw [← hH6, upd_ne]
        · exact upd_same
        · rintro rfl
          rw [upd_same] at htp
          cases htp
      have hpl1 : H1 pl = none := by
        have : (upd H4 r (.ins C dx (rf wl (i + 1) row fld))) pl = none := (same_new hp2).free hpl
        by_cases e : pl = r
        · rw [e, upd_same] at this; cases this
        · rw [upd_ne e] at this
          exact s4'.free this
      have hpl0 : H pl = none := by
        by_cases e : pl = r
        · rw [e, h1] at hpl1; cases hpl1
        · cases hh : H pl with
          | none => rfl
          | some u => rw [kr1 pl u e hh] at hpl1; cases hpl1
      have hR6 := hR5.same sA
      have kr6 := kr5.trans (kr_of sA)
      have hS6 := hS1.kr h1 kr6
      have hopl : o ≠ pl := fun e => by rw [← e, hS1.ol] at hpl1; cases hpl1
      have hplm : pl ∉ pls := fun hm => by
        obtain ⟨xs, hx⟩ := stk_lst hS1.stk pl hm
        rw [hx] at hpl1; cases hpl1
      have hro : o ≠ r := fun e => by
        have := hS1.ol
        rw [e, h1] at this; cases this
      refine ⟨o, _, .ref tp, rfl, rfl, hS6.ol, small100' (by rw [List.length_reverse]; omega), ?_⟩
      have t7 : Tk H6 (upd H6 o (.lst (vs.reverse ++ [.ref tp]))) := tk_mut (Tk.refl _) hS6.ol (fun _ z => by cases z) (fun _ _ z => by cases z)
      have htT : SqT K (upd H6 o (.lst (vs.reverse ++ [.ref tp]))) tp [.str z, .ref td2, .ref pl] := tk_t t7 (sq_t htp6)
      obtain ⟨e1, e2, e3⟩ := opOf_dues hw
      have hdn : ∃ d0 dr, ds = d0 :: dr := by
        rw [e1]
        cases op <;> exact ⟨_, _, rfl⟩
      obtain ⟨d0, dr, hds⟩ := hdn
      refine ⟨_, rfl, 1, rfl, o, _, _, _, rfl, rfl, sq_l upd_same, atI_last _ _, tp, _, _, _, rfl, rfl, htT, rfl, td2, _, _, .str d0.s, rfl, rfl, htd2 _, by rw [hds]; exact atI_head _ _, ?_⟩
      have kr7 : Kr r H (upd H6 o (.lst (vs.reverse ++ [.ref tp]))) := by
        intro b u hb hu
        have hbo : b ≠ o := fun e => by rw [e, hS1.o0] at hu; cases hu
        rw [upd_ne hbo]
        exact (kr1.trans kr6) b u hb hu
      refine ⟨W.length - (i + 1), by omega, i + 1, d0, { op := op, due := want, parts := [] } :: st, .ref tp :: vs, pl :: pls, some (.str z), x5, x6, x7, rfl, rfl, ?_, ?_, ?_, ?_⟩
      · exact kr7
      · obtain ⟨dx6, a1, a2, a3, a4⟩ := hR6
        exact ⟨dx6, by rw [upd_ne hro.symm]; exact a1, kr_l kr7 a3 hw0, a3, a4⟩
      · refine ⟨hS1.o0, by rw [List.reverse_cons]; exact upd_same, ⟨⟨tp, td2, [], rfl, ?_, ?_, by rw [upd_ne hopl.symm]; exact hpl6, .nil⟩, stk_tk t7 hS1.ok (fun q hq => upd_ne (fun e => hS1.on (by rw [← e]; exact hq))) hS6.stk⟩, ?_, ?_, ?_, ?_, ?_⟩
        · rw [← e2]; exact htT
        · show TupK K td2 (dueS (op.dues want))
          rw [← e1]; exact htd2
        · intro hm
          rcases List.mem_cons.mp hm with e | hm
          · exact hopl e
          · exact hS1.on hm
        · exact List.nodup_cons.mpr ⟨hplm, hS1.nd⟩
        · intro q hq
          rcases List.mem_cons.mp hq with rfl | hq
          · exact hpl0
          · exact hS1.p0 q hq
        · refine ⟨?_, fun p hp => absurd hp (by simp), hS1.ok⟩
          show 0 < op.arity
          cases op <;> simp [Op.arity]
        · rw [List.length_cons]; omega
      · rw [hds] at hG1
        exact hG1
    | none =>
      rw [hw] at hop
      rw [hop] at hD
      refine ⟨p, _, rfl, hD, false, rfl, iteF ?_⟩
      have hR3 := hR1.same s3
      have h13 := s3 _ _ h1
      have hS3 := hS1.kr h1 (kr_of s3)
      have kr3 := kr1.trans (kr_of s3)
      refine ⟨_, rfl, r, dx, _, rfl, h13, rfl, _, rfl, r, W, wl, row, fld, i, want, z, W.drop (i + 1), rfl, hR3, hdz, fun e0 n hs v0 H4 k4 hR4 hv0 => ?_, fun k hs => ?_⟩
      rotate_left
      · have := hG.2 k (by rw [run_sm hw, hs])
        exact ErrAt.kr this kr3
      obtain ⟨hw1, ho1, _, hn1, hn2⟩ := small_ok hs
      have hS4 := hS3.kr h13 k4
      have kr4 := kr3.trans k4
      have hG4 : GoalR K C CI W wl row fld r H Q E (i + n) (after st e0 (W.drop (i + n))) := by
        have e : (W.drop (i + 1)).drop (n - 1) = W.drop (i + n) := by rw [List.drop_drop]; congr 1; omega
        have hG2 := hG
        rw [run_sm hw, hs] at hG2
        rw [← e]
        exact hG2.up
      -- operations that are full are closed
      refine ⟨fun m σ H' => ∃ (st1 : List Fr) (vs1 : List V) (pls1 : List Addr) (e1 : Ex) (v1 : V) (y4 y6 y7 : Option V), m = st1.length ∧ σ = [some (.ref r), some (.str due.s), some (.ref o), some (.str want.s), y4, some v1, y6, y7] ∧
        Kr r H H' ∧ RdAt K C W wl row fld r (i + n) H' ∧ StI K H o st1 vs1 pls1 H' ∧ Dp K H' v1 e1.data ∧ e1.Wf ∧ st1.length + e1.opens ≤ 30 ∧ GoalR K C CI W wl row fld r H Q E (i + n) (after st1 e1 (W.drop (i + n))),
        ⟨_, st, vs, pls, e0, v0, some (.str z), x6, x7, rfl, rfl, kr4, hR4, hS4, hv0, hw1, by have := hS1.len; omega, hG4⟩, ?_⟩
      rintro m1 σ1 H5 ⟨st1, vs1, pls1, e1, v1, y4, y6, y7, rfl, rfl, kr5, hR5, hS5, hv5, hw5, ho5, hG5⟩
      obtain ⟨dx5, g1, g2, g3, g4⟩ := id hR5
      refine ⟨_, rfl, small100 (by simp), fun q hq => ⟨o, q, _, rfl, rfl, sq_l ((same_new hq) o _ hS5.ol), sq_l upd_same, !vs1.reverse.isEmpty, rfl, ?_⟩⟩
      have s6 : Same H5 (upd H5 q (.lst [])) := same_new hq
      generalize hH6 : upd H5 q (.lst []) = H6 at s6 ⊢
      have hS6 := hS5.kr g1 (kr_of s6)
      have hR6 := hR5.same s6
      have kr6 := kr5.trans (kr_of s6)
      have g6 := s6 _ _ g1
      have hv6 : Dp K H6 v1 e1.data := Dp.tk (tk_of s6) _ _ (data_plain e1 hw5) hv5
      match st1, vs1, pls1, hS6 with
      | [], [], [], hS6 =>
        refine iteF (iteF ?_)
        refine ⟨_, rfl, small100 (by simp), fun q2 hq2 => ⟨o, q2, _, rfl, rfl, sq_l ((same_new hq2) o _ hS6.ol), sq_l upd_same, true, rfl, iteT ?_⟩⟩
        refine ⟨_, rfl, hG5.1 e1 0 rfl hw5 v1 _ (kr6.trans (kr_of (same_new hq2))) (hR6.same (same_new hq2)) (Dp.tk (tk_of (same_new hq2)) _ _ (data_plain e1 hw5) hv6)⟩
      | f :: st', v :: vs', pl :: pls', hS6 =>
        obtain ⟨⟨a, td, xs, rfl, hT, htd, hpl, hps⟩, hst⟩ := hS6.stk
        have hne : (!((V.ref a :: vs').reverse).isEmpty) = true := by rw [List.reverse_cons]; cases vs'.reverse <;> rfl
        rw [hne]
        refine iteT ?_
        have hol : H6 o = some (.lst (vs'.reverse ++ [V.ref a])) := by rw [hS6.ol, List.reverse_cons]
        have lxs : xs.length = f.parts.length := by rw [dpAll_len hps, List.length_map]
        refine ⟨_, rfl, 1, rfl, o, _, _, _, rfl, rfl, sq_l hol, atI_last _ _, a, _, _, _, rfl, rfl, hT, rfl, pl, _, rfl, .inl (sq_l hpl), _, _, rfl, rfl, _, rfl, 1, rfl, o, _, _, _, rfl, rfl, sq_l hol, atI_last _ _, a, _, _, _, rfl, rfl, hT, rfl, td, _, rfl, .inr (htd _), rfl, decide (f.parts.length + 1 = f.op.arity), ?_, ?_⟩
        · have ld : ((dueS f.dues).map V.str).length = f.op.arity := by rw [List.length_map]; unfold dueS; rw [List.length_map]; exact dues_len _ _
          rw [ld, lxs]
          congr 1
          by_cases hl : f.parts.length + 1 = f.op.arity
          · rw [decide_eq_true hl]
            exact decide_eq_true (by rw [← hl]; simp)
          · rw [decide_eq_false hl]
            exact decide_eq_false (fun e => hl (by have := V.int.inj e; omega))
        by_cases hl : f.parts.length + 1 = f.op.arity
        · -- full: popped, built
          rw [decide_eq_true hl]
          refine iteT ⟨_, fun _ _ h => h, ?_⟩
          refine ⟨_, rfl, .inl ⟨rfl, _, sq_l hol⟩, o, _, .ref a, rfl, rfl, hol, by simp, ?_⟩
          rw [List.dropLast_concat]
          have t7 : Tk H6 (upd H6 o (.lst vs'.reverse)) := tk_mut (Tk.refl _) hol (fun _ z => by cases z) (fun _ _ z => by cases z)
          have hopl : o ≠ pl := fun e => hS6.on (by rw [e]; exact List.mem_cons_self)
          have hro : o ≠ r := fun e => by
            have := hol
            rw [e, g6] at this; cases this
          refine ⟨a, _, rfl, tk_t t7 hT, rfl, _, _, rfl, _, _, rfl, _, _, rfl, rfl, ?_⟩
          refine ⟨_, rfl, _, rfl, pl, xs, rfl, .inr (sq_l (by rw [upd_ne hopl.symm]; exact hpl)), _, rfl, small100 ?_, fun np hnp => ?_⟩
          · have := hS6.ok.1
            have ha : f.op.arity ≤ 3 := by cases f.op <;> simp [Op.arity]
            simp only [List.length_cons, List.length_append, List.length_nil]
            omega
          have hlen : (f.parts ++ [e1]).length = f.op.arity := by rw [List.length_append, List.length_singleton]; exact hl
          have hp : ∀ p ∈ f.parts ++ [e1], p.Wf ∧ st'.length + 1 + p.opens ≤ 30 := fun p hp => by
            rw [List.mem_append, List.mem_singleton] at hp
            rcases hp with hp | rfl
            · exact hS6.ok.2.1 p hp
            · exact ⟨hw5, by rw [List.length_cons] at ho5; omega⟩
          obtain ⟨bw, bo⟩ := build_ok (n := st'.length) hlen hp
          have t8 : Tk H6 (upd (upd H6 o (.lst vs'.reverse)) np (.tup (.str f.op.w :: (xs ++ [v1])))) := tk_new t7 hnp
          have kr8 : Kr r H (upd (upd H6 o (.lst vs'.reverse)) np (.tup (.str f.op.w :: (xs ++ [v1])))) := by
            refine kr_new ?_ ?_
            · intro b u hb hu
              have hbo : b ≠ o := fun e => by rw [e, hS6.o0] at hu; cases hu
              rw [upd_ne hbo]
              exact kr6 b u hb hu
            · by_cases e : np = r
              · rw [e, upd_ne hro.symm, g6] at hnp; cases hnp
              · cases hh : H np with
                | none => rfl
                | some u =>
                  have hbo : np ≠ o := fun e => by rw [e, hS6.o0] at hh; cases hh
                  rw [upd_ne hbo, kr6 np u e hh] at hnp
                  cases hnp
          have hnpr : r ≠ np := fun e => by rw [← e, upd_ne hro.symm, g6] at hnp; cases hnp
          have hnpo : o ≠ np := fun e => by rw [← e, upd_same] at hnp; cases hnp
          have hnpl : ∀ q ∈ pls', q ≠ np := fun q hq e => by
            obtain ⟨ys, hy⟩ := stk_lst hst q hq
            rw [← e, upd_ne (fun e2 => hS6.on (by rw [← e2]; exact List.mem_cons_of_mem _ hq)), hy] at hnp
            cases hnp
          refine ⟨st'.length, by rw [List.length_cons]; omega, st', vs', pls', build f.op (f.parts ++ [e1]), .ref np, _, _, _, rfl, rfl, kr8, ?_, ?_, ?_, bw, bo, ?_⟩
          · exact ⟨dx5, by rw [upd_ne hnpr, upd_ne hro.symm]; exact g6, kr_l kr8 g3 hw0, g3, g4⟩
          · refine ⟨hS6.o0, by rw [upd_ne hnpo]; exact upd_same, stk_tk t8 hS6.ok.2.2 (fun q hq => ?_) hst, fun hm => hS6.on (List.mem_cons_of_mem _ hm), (List.nodup_cons.mp hS6.nd).2, fun q hq => hS6.p0 q (List.mem_cons_of_mem _ hq), hS6.ok.2.2, by have := hS6.len; rw [List.length_cons] at this; omega⟩
            rw [upd_ne (hnpl q hq), upd_ne (fun e2 => hS6.on (by rw [← e2]; exact List.mem_cons_of_mem _ hq))]
          · rw [build_data hlen, List.map_append]
            exact .tup (sq_t upd_same) (.cons (.str _) (dpAll_app (Dp.tkAll t8 _ _ (parts_plain fun p hp => (hS6.ok.2.1 p hp).1) hps) (.cons (Dp.tk t8 _ _ (data_plain e1 hw5) hv6) .nil)))
          · rw [after_last hl] at hG5
            exact hG5
        · -- not full: one part more
          rw [decide_eq_false hl]
          refine iteF ?_
          refine ⟨_, rfl, small100 (by simp), fun q2 hq2 => ⟨o, q2, _, rfl, rfl, sq_l ((same_new hq2) o _ hol), sq_l upd_same, false, by cases vs'.reverse <;> rfl, iteF ?_⟩⟩
          have s7 : Same H6 (upd H6 q2 (.lst [])) := same_new hq2
          generalize hH7 : upd H6 q2 (.lst []) = H7 at s7 ⊢
          have hS7 := hS6.kr g6 (kr_of s7)
          have hR7 := hR6.same s7
          have kr7 := kr6.trans (kr_of s7)
          have g7 := s7 _ _ g6
          have hol7 := s7 _ _ hol
          have hT7 := tk_t (tk_of s7) hT
          have hpl7 := s7 _ _ hpl
          have hopl : o ≠ pl := fun e => hS6.on (by rw [e]; exact List.mem_cons_self)
          have hplr : pl ≠ r := fun e => by rw [e, g6] at hpl; cases hpl
          have t8 : Tk H7 (upd H7 pl (.lst (xs ++ [v1]))) := tk_mut (Tk.refl _) hpl7 (fun _ z => by cases z) (fun _ _ z => by cases z)
          have ha : f.op.arity ≤ 3 := by cases f.op <;> simp [Op.arity]
          have hlt := hS6.ok.1
          have hpl0 : H pl = none := hS6.p0 pl List.mem_cons_self
          have kr8 : Kr r H (upd H7 pl (.lst (xs ++ [v1]))) := by
            intro b u hb hu
            have hbo : b ≠ pl := fun e => by rw [e, hpl0] at hu; cases hu
            rw [upd_ne hbo]
            exact kr7 b u hb hu
          refine ⟨_, rfl, 1, rfl, o, _, _, _, rfl, rfl, sq_l hol7, atI_last _ _, a, _, _, _, rfl, rfl, hT7, rfl, .inl ⟨rfl, _, sq_l hpl7⟩, _, rfl, pl, xs, v1, rfl, rfl, hpl7, small100' (by omega), ?_⟩
          have hol8 : (upd H7 pl (.lst (xs ++ [v1]))) o = some (.lst (vs'.reverse ++ [V.ref a])) := by rw [upd_ne hopl]; exact hol7
          have hT8 := tk_t t8 hT7
          have hpl8 : (upd H7 pl (.lst (xs ++ [v1]))) pl = some (.lst (xs ++ [v1])) := upd_same
          have hlt2 : f.parts.length + 1 < f.dues.length := by
            have : f.dues.length = f.op.arity := dues_len _ _
            omega
          refine ⟨_, rfl, 1, rfl, o, _, _, _, rfl, rfl, sq_l hol8, atI_last _ _, a, _, _, _, rfl, rfl, hT8, rfl, _, rfl, 1, rfl, o, _, _, _, rfl, rfl, sq_l hol8, atI_last _ _, a, _, _, _, rfl, rfl, hT8, rfl, pl, _, rfl, .inl (sq_l hpl8), td, _, _, .str (nextDue { f with parts := f.parts ++ [e1] }).s, rfl, rfl, htd _, ?_, ?_⟩
          · have e1' : ((xs ++ [v1]).length : Int) = ((f.parts.length + 1 : Nat) : Int) := by rw [List.length_append, lxs, List.length_singleton]
            rw [e1']
            have hg : ((dueS f.dues).map V.str)[f.parts.length + 1]? = some (.str (nextDue { f with parts := f.parts ++ [e1] }).s) := by
              unfold dueS nextDue
              rw [List.getElem?_map, List.getElem?_map, List.length_append, List.length_singleton]
              rw [List.getElem?_eq_getElem hlt2]
              rfl
            unfold atI ixN
            rw [if_pos (by omega)]
            have : ((dueS f.dues).map V.str).length = f.dues.length := by rw [List.length_map]; unfold dueS; rw [List.length_map]
            rw [if_pos (by rw [this]; omega)]
            exact hg
          · refine ⟨W.length - (i + n), by omega, i + n, nextDue { f with parts := f.parts ++ [e1] }, { f with parts := f.parts ++ [e1] } :: st', .ref a :: vs', pl :: pls', _, _, _, _, rfl, rfl, kr8, ?_, ?_, ?_⟩
            · exact ⟨dx5, by rw [upd_ne hplr.symm]; exact g7, kr_l kr8 g3 hw0, g3, g4⟩
            · have hst7 := hS7.stk.2
              refine ⟨hS6.o0, by rw [List.reverse_cons]; exact hol8, ⟨⟨a, td, xs ++ [v1], rfl, hT8, htd, hpl8, ?_⟩, stk_tk t8 hS6.ok.2.2 (fun q hq => upd_ne (fun e => (List.nodup_cons.mp hS6.nd).1 (by rw [← e]; exact hq))) hst7⟩, hS6.on, hS6.nd, hS6.p0, ⟨?_, fun p hp => ?_, hS6.ok.2.2⟩, hS6.len⟩
              · show DpAll K _ _ ((f.parts ++ [e1]).map Ex.data)
                rw [List.map_append]
                have t67 := (tk_of s7).trans t8
                exact dpAll_app (Dp.tkAll t67 _ _ (parts_plain fun p hp => (hS6.ok.2.1 p hp).1) hps) (.cons (Dp.tk t67 _ _ (data_plain e1 hw5) hv6) .nil)
              · show (f.parts ++ [e1]).length < f.op.arity
                rw [List.length_append, List.length_singleton]
                omega
              · have hp' : p ∈ f.parts ++ [e1] := hp
                rw [List.mem_append, List.mem_singleton] at hp'
                rcases hp' with hp' | rfl
                · exact hS6.ok.2.1 p hp'
                · exact ⟨hw5, by rw [List.length_cons] at ho5; omega⟩
            · rw [after_part hl] at hG5
              exact hG5
      | [], [], _ :: _, hS6 => exact hS6.stk.elim
      | [], _ :: _, _, hS6 => exact hS6.stk.elim
      | _ :: _, [], _, hS6 => exact hS6.stk.elim
      | _ :: _, _ :: _, [], hS6 => exact hS6.stk.elim
end
end K12

set_option maxHeartbeats 4000000
/-! K9: read_expression, read_kind. -/
namespace K12
open PySem PySem.Spec PyProof.Rows L2 TL NumText
set_option autoImplicit false
/-! ### defs with row=0, field=0 -/
def HsD (K : PySem.W.Frag) (mg : Str → Option Value) (x : Str) (st : Stmt) : Prop := ∃ f fd, FunD K x x (defArgs st) (defBody st) (defScope st) [] [("row", .int 0), ("field", .int 0)] f fd ∧ mg x = some (.ref f)
def gRF {α : Type} (us ws : List α) : List α := us ++ ws
def gFR {α : Type} (us ws : List α) : List α := us ++ ws.reverse
structure CalK (P : Program) (w : World) (K : PySem.W.Frag) (mg : Str → Option Value) (base : Heap) (CX : CXT) (k : Nat) (x : Str) (n : Nat) (ps : List Str) (sp : Sp) : Prop where
  ex : ∃ f fd, FnOk P w K mg base CX k f fd ps sp ∧ mg x = some (.ref f) ∧ PySem.W.keepIn K (.ref f) = true ∧ (∃ ds, Vals [.int 0, .int 0] ds ∧ Binds K fd ps ds) ∧ KBn K fd ps n ["row", "field"] gRF gRF ∧ KBn K fd ps n ["field", "row"] gFR gFR
section
variable {P : Program} {w : World} {K : PySem.W.Frag} {mg : Str → Option Value} {base : Heap}
theorem HsD.cal {x : Str} {st : Stmt} {N ps : List Str} {k n : Nat} {sp : Sp} (h : HsD K mg x st) (S : FnScope N ps (defScope st)) (len : ∀ vs H Q E, sp vs H Q E → vs.length = ps.length) (hn : n + 2 = ps.length)
    (hb0 : ∀ (D : Addr) (doc pm : Value) (an : Option Addr) (cdv ct : Value) (us ks : List Value), us.length = n → ks.length = 2 → KwChain D ([("row" : Str), "field"].zip ks) (bindArgs (PySem.W.fnOf x x (defArgs st) (defBody st) (defScope st) .none (.ref D) doc pm an cdv ct) ⟨us, []⟩) (ps.zip (us ++ ks)))
    (hb1 : ∀ (kV doc pm : Value) (an : Option Addr) (cdv ct : Value) (us ws : List Value), us.length = n → ws.length = 2 → bindArgs (PySem.W.fnOf x x (defArgs st) (defBody st) (defScope st) .none kV doc pm an cdv ct) ⟨us, [("row" : Str), "field"].zip ws⟩ = pure (ps.zip (gRF us ws)))
    (hb2 : ∀ (kV doc pm : Value) (an : Option Addr) (cdv ct : Value) (us ws : List Value), us.length = n → ws.length = 2 → bindArgs (PySem.W.fnOf x x (defArgs st) (defBody st) (defScope st) .none kV doc pm an cdv ct) ⟨us, [("field" : Str), "row"].zip ws⟩ = pure (ps.zip (gFR us ws)))
    (hbody : ∀ (f : Addr) (cdv : Value) (A : Around) (outer : List Env) (s : Shared) (H : Hp) (vs : List V) (Q : VK) (E : XK), Room k (A.deeper (envOfC x (defScope st) s.heap.objs.size f cdv)) → sp vs H Q E →
      ∃ t, PSs (cxOf (L2.CX P w) P w K mg base N x (defScope st) f cdv A outer s H E) (defBody st) t ∧ t { nx := fun _ H' => Q .non H', rt := Q } (L2.start N vs) H) : CalK P w K mg base (L2.CX P w) (k + 1) x n ps sp := by
  obtain ⟨f, fd, F, m⟩ := h
  refine ⟨f, fd, F.ok S len (hbody f), m, F.kp, F.binds0 n (by simp) (by simpa using hn) hb0, ?_, ?_⟩
  · obtain ⟨oc, od, dV, kV, doc, pm, an, cdv, ct, osl, rfl, lk, hcd, hD, hK⟩ := F.ex
    rcases hD with ⟨_, rfl⟩ | ⟨e, _⟩
    · exact ⟨fun s us ws _ l1 l2 => .of_eq (hb1 kV doc pm an cdv ct us ws l1 l2), fun r1 r2 => r1.append r2⟩
    · exact absurd rfl e
  · obtain ⟨oc, od, dV, kV, doc, pm, an, cdv, ct, osl, rfl, lk, hcd, hD, hK⟩ := F.ex
    rcases hD with ⟨_, rfl⟩ | ⟨e, _⟩
    · exact ⟨fun s us ws _ l1 l2 => .of_eq (hb2 kV doc pm an cdv ct us ws l1 l2), fun r1 r2 => r1.append r2.reverse⟩
    · exact absurd rfl e
end
/-- f(e, ..) with the defaults -/
def tC00 (sp : Sp) (E : XK) (t : TA) : TE := fun σ H Q => t σ H fun vs H1 => sp (vs ++ [.int 0, .int 0]) H1 Q E
theorem pe_cal00 {X : Cx} {CX : CXT} {k n : Nat} {x : Str} {ps : List Str} {sp : Sp} {E : XK} {p pos : Pos} {e : Expr} {es : List Expr} {t : TA} (C : CalK X.prog X.w X.K X.mg X.base CX k x n ps sp) (hr : Room k X.A) (hg : Gl X x) (hx : Passes CX X E) (ha : PA X (e :: es) t)
    (hdb : (x == ("__debug__" : Str)) = false := by decide) (he : starEach (e :: es) X.env = (false, eval e X.env) :: starEach es X.env := by rfl) (hpl : (backTo pos (starEach es X.env)).any (·.1) = false := by rfl) :
    PE X (.Call (.Name x p) (e :: es) [] pos) (tC00 sp E t) := by
  refine ⟨fun pins s σ H Q I h => ?_⟩
  obtain ⟨f, fd, F, m, kp, ⟨ds, hd, b⟩, _⟩ := C.ex
  exact (pe_call F hr hg m kp b hd hx ha hdb he hpl).run pins s σ H Q I h
/-- f(e, .., row=a, field=b) -/
def tCRF (n : Nat) (sp : Sp) (g : List V → List V → List V) (E : XK) (t tk : TA) : TE := fun σ H Q => t σ H fun vs H1 => tk σ H1 fun zs H2 => vs.length = n ∧ zs.length = 2 ∧ sp (g vs zs) H2 Q E
theorem pe_calRF {X : Cx} {CX : CXT} {k n : Nat} {x : Str} {ps : List Str} {sp : Sp} {E : XK} {p pos : Pos} {e : Expr} {es : List Expr} {kws : List Keyword} {t tk : TA} (C : CalK X.prog X.w X.K X.mg X.base CX k x n ps sp) (hr : Room k X.A) (hg : Gl X x) (hx : Passes CX X E) (ha : PA X (e :: es) t) (hkw : PK X kws tk)
    (hall : (backToKw pos (keywordEach kws X.env)).all (·.1.isSome) = true := by rfl) (hks : (backToKw pos (keywordEach kws X.env)).filterMap (·.1) = (["row", "field"] : List Str) := by rfl)
    (hdb : (x == ("__debug__" : Str)) = false := by decide) (he : starEach (e :: es) X.env = (false, eval e X.env) :: starEach es X.env := by rfl)
    (hpl : ((backTo pos (starEach (e :: es) X.env)).any (·.1) || (backToKw pos (keywordEach kws X.env)).any (·.1.isNone)) = false := by rfl) :
    PE X (.Call (.Name x p) (e :: es) kws pos) (tCRF n sp gRF E t tk) := by
  refine ⟨fun pins s σ H Q I h => ?_⟩
  obtain ⟨f, fd, F, m, kp, _, b, _⟩ := C.ex
  exact (pe_callN F hr hg m kp b hx ha hkw hall hks hdb he hpl).run pins s σ H Q I h
theorem pe_calFR {X : Cx} {CX : CXT} {k n : Nat} {x : Str} {ps : List Str} {sp : Sp} {E : XK} {p pos : Pos} {e : Expr} {es : List Expr} {kws : List Keyword} {t tk : TA} (C : CalK X.prog X.w X.K X.mg X.base CX k x n ps sp) (hr : Room k X.A) (hg : Gl X x) (hx : Passes CX X E) (ha : PA X (e :: es) t) (hkw : PK X kws tk)
    (hall : (backToKw pos (keywordEach kws X.env)).all (·.1.isSome) = true := by rfl) (hks : (backToKw pos (keywordEach kws X.env)).filterMap (·.1) = (["field", "row"] : List Str) := by rfl)
    (hdb : (x == ("__debug__" : Str)) = false := by decide) (he : starEach (e :: es) X.env = (false, eval e X.env) :: starEach es X.env := by rfl)
    (hpl : ((backTo pos (starEach (e :: es) X.env)).any (·.1) || (backToKw pos (keywordEach kws X.env)).any (·.1.isNone)) = false := by rfl) :
    PE X (.Call (.Name x p) (e :: es) kws pos) (tCRF n sp gFR E t tk) := by
  refine ⟨fun pins s σ H Q I h => ?_⟩
  obtain ⟨f, fd, F, m, kp, _, _, b⟩ := C.ex
  exact (pe_callN F hr hg m kp b hx ha hkw hall hks hdb he hpl).run pins s σ H Q I h
section
variable {P : Program} {w : World} {K : PySem.W.Frag} {mg : Str → Option Value} {base : Heap} {C CI fI D1 D2 D3 t2 t3 u1 u2 v3 : Addr}
/-! ### PartReader(..) -/
def spInit (C : Addr) : Sp := fun vs H Q _ => ∃ (x dx wl : Addr) (i : Nat) (row fld : Int), vs = [.ref x, .ref wl, .int (i : Int), .int row, .int fld] ∧ H x = some (.ins C dx []) ∧ ∀ H', (∀ b, b ≠ x → H' b = H b) → H' x = some (.ins C dx (rf wl i row fld)) → Q .non H'
theorem scR0 : FnScope ["self", "words", "at", "row", "field"] ["self", "words", "at", "row", "field"] (defScope (inClass (top 46) 0)) := ⟨rfl, rfl, rfl, by decide +kernel, rfl, by decide +kernel, by decide +kernel⟩
theorem ok_init (R : Rt P K mg C CI fI) {f : Addr} {fd : FuncData} (F : Fun K "__init__" "PartReader.__init__" (inClass (top 46) 0) f fd) : FnOk P w K mg base CX0 1 f fd ["self", "words", "at", "row", "field"] (spInit C) := by
  refine F.ok scR0 (fun vs H Q E h => ?_) (fun cdv A outer s H vs Q E hr h => ?_)
  · obtain ⟨x, dx, wl, i, row, fld, rfl, _⟩ := h; rfl
  · obtain ⟨x, dx, wl, i, row, fld, rfl, hx, k⟩ := h
    refine ⟨_, pss_cons (ps_fld (pv 0) (pv 1) rfl) (pss_cons (ps_fld (pv 0) (pv 2) rfl) (pss_cons (ps_fld (pv 0) (pv 3) rfl) (pss_one (ps_fld (pv 0) (pv 4) rfl)))), ?_⟩
    refine ⟨_, rfl, _, rfl, x, C, dx, [], rfl, hx, R.cl, R.nW, (show 0 < 1000 by decide), ?_⟩
    refine ⟨_, rfl, _, rfl, x, C, dx, _, rfl, upd_same, R.cl, R.nA, (show 1 < 1000 by decide), ?_⟩
    refine ⟨_, rfl, _, rfl, x, C, dx, _, rfl, upd_same, R.cl, R.nR, (show 2 < 1000 by decide), ?_⟩
    refine ⟨_, rfl, _, rfl, x, C, dx, _, rfl, upd_same, R.cl, R.nF, (show 3 < 1000 by decide), ?_⟩
    exact k _ (fun b hb => by rw [upd_ne hb, upd_ne hb, upd_ne hb, upd_ne hb]) upd_same
/-! ### read_expression -/
def spReadE (K : PySem.W.Frag) (CI : Addr) : Sp := fun vs H Q E => ∃ (z : Str) (due : Due) (row fld : Int), vs = [.str z, .str due.s, .int row, .int fld] ∧ z.length ≤ 80000 ∧ (∀ e, readE due z = .inl e → ∀ v H', Same H H' → Dp K H' v e.data → Q v H') ∧
  (∀ k : Nat, readE due z = .inr k → ∀ d H', Same H H' → H' d = some (.xd (itF (.int row) (.int (fld + (k : Int))))) → E (.ref CI) (some d) H')
theorem sc47 : FnScope ["text", "due", "row", "field", "reader", "found"] ["text", "due", "row", "field"] (defScope (top 47)) := ⟨rfl, rfl, rfl, by decide +kernel, rfl, by decide +kernel, by decide +kernel⟩
theorem cal_read_e (T : Tx K mg) (R : Rt P K mg C CI fI) (O : Ops K w mg D1 D2 D3 t2 t3 u1 u2 v3) (h47 : HsD K mg "read_expression" (top 47)) : CalK P w K mg base (L2.CX P w) 7 "read_expression" 2 ["text", "due", "row", "field"] (spReadE K CI) := by
  have M1 := met_require (w := w) (base := base) R
  have M5 := met_part (base := base) T R O
  obtain ⟨fi, fdi, Fi, mk⟩ := R.mI
  have GI := ok_init (w := w) (base := base) R Fi
  have bI : Binds K fdi ["self", "words", "at", "row", "field"] [] := Fi.binds fun _ _ _ _ _ _ us hl => match us, hl with | [_, _, _, _, _], _ => rfl
  refine h47.cal sc47 (fun vs H Q E h => ?_) rfl
    (fun D _ _ _ _ _ us ks h1 h2 => match us, ks, h1, h2 with | [a, b], [u, v], _, _ => ⟨_, _, _, _, _, _, rfl, rfl, _, _, _, _, _, _, rfl, rfl, rfl⟩)
    (fun _ _ _ _ _ _ us ws h1 h2 => match us, ws, h1, h2 with | [_, _], [_, _], _, _ => rfl)
    (fun _ _ _ _ _ _ us ws h1 h2 => match us, ws, h1, h2 with | [_, _], [_, _], _, _ => rfl) (fun f cdv A outer s H vs Q E hr h => ?_)
  · obtain ⟨z, due, row, fld, rfl, _⟩ := h; rfl
  · obtain ⟨z, due, row, fld, rfl, hz, k1, k2⟩ := h
    refine ⟨_, pss_cons (ps_set (i := 4) sc47.nd rfl (Or.inl rfl) (pe_make (E := E) mk GI (hr.mono (by decide)) rfl R.gP bI .nil pass0 (pa_cons (pe_split (pv 0) pe_str) (pa_cons pe_int (pa_cons (pv 2) (pa_cons (pv 3) pa_nil))))))
      (pss_cons (ps_set (i := 5) sc47.nd rfl (Or.inl rfl) (pe_met (E := E) M5 R.cl hr (passes_call (takes_of rfl rfl rfl rfl) (fun _ _ _ _ h => h)) (pv 4) (pa_cons (pv 1) pa_nil)))
      (pss_cons (ps_expr (pe_met (E := E) M1 R.cl (hr.mono (by decide)) (passes_call (takes_of rfl rfl rfl rfl) (fun _ _ _ _ h => h)) (pv 4) (pa_cons (pe_cmpR op_eq (pe_fld (pv 4) rfl) (pe_callB call_len_seq (by rfl) T.b_len PySem.boot_len (pa_cons (pe_fld (pv 4) rfl) pa_nil)) (nomark _)) pa_nil)))
      (pss_one (ps_ret (pv 5))))), ?_⟩
    have hd1 : tl spc ≠ [] := by rw [tl_spc]; simp
    have hd2 : spc.cps.all (· < 256) = true := by decide +kernel
    have hlen := split_len (z := z) hd1 hd2 (by decide +kernel)
    have hcnt := split_count (z := z) hd1 hd2
    refine ⟨_, rfl, ⟨z, rfl⟩, z, spc, rfl, rfl, by decide +kernel, small100 (by omega), fun wl hwl => ⟨_, rfl, _, rfl, fun x dx hx hdx hdxx => ?_⟩⟩
    have hwx : wl ≠ x := fun e => by rw [← e, upd_same] at hx; cases hx
    have hwd : wl ≠ dx := fun e => by rw [← e, upd_same] at hdx; cases hdx
    refine ⟨x, dx, wl, 0, row, fld, rfl, upd_same, fun H1 hk hx1 => ⟨rfl, ?_⟩⟩
    have s1 : Same H H1 := fun b u hb => by
      have h1 : (upd H wl (.lst ((sp z).map V.str))) b = some u := same_new hwl b u hb
      have hbx : b ≠ x := fun e => by rw [e] at h1; rw [show (upd H wl (.lst ((sp z).map V.str))) x = none from hx] at h1; cases h1
      have hbd : b ≠ dx := fun e => by rw [e] at h1; rw [show (upd H wl (.lst ((sp z).map V.str))) dx = none from hdx] at h1; cases h1
      rw [hk b hbx, upd_ne hbx, upd_ne hbd]
      exact h1
    have hx0 : H x = none := by
      cases hh : H x with
      | none => rfl
      | some u =>
        have h1 : (upd H wl (.lst ((sp z).map V.str))) x = some u := same_new hwl x u hh
        rw [show (upd H wl (.lst ((sp z).map V.str))) x = none from hx] at h1
        cases h1
    have hR : RdAt K C (sp z) wl row fld x 0 H1 := by
      refine ⟨dx, hx1, sq_l ?_, hwx, ?_, fun w hw => Nat.le_trans (hlen w hw) (by omega)⟩
      · rw [hk wl hwx, upd_ne hwx, upd_ne hwd]; exact upd_same
      · have : (sp z).length = (Txt.split z spc).length := rfl
        omega
    have sK : ∀ H', Kr x H1 H' → Same H H' := fun H' k b u hb => k b u (fun e => by rw [e, hx0] at hb; cases hb) (s1 b u hb)
    refine ⟨_, rfl, x, dx, _, rfl, hx1, rfl, _, rfl, x, sp z, wl, row, fld, 0, due, rfl, hR, fun e n he hw v H2 kr2 hR2 hv => ?_, fun k he d H2 kr2 h2 => ?_⟩
    · rw [List.drop_zero] at he
      rw [Nat.zero_add] at hR2
      obtain ⟨dx2, g1, g2, g3, g4⟩ := id hR2
      refine ⟨_, rfl, x, dx2, _, rfl, g1, rfl, _, rfl, x, C, dx2, _, _, rfl, g1, R.cl, R.nA, rf_at, _, rfl, x, C, dx2, _, _, rfl, g1, R.cl, R.nW, rf_words, wl, _, rfl, .inl g2, rfl, x, decide (n = (sp z).length), sp z, wl, row, fld, n, ?_, hR2, fun en H3 s3 => ?_, fun en d H3 kr3 h3 => ?_⟩
      · have : decide (V.int (n : Int) = V.int (((sp z).map V.str).length : Int)) = decide (n = (sp z).length) := by
          rw [List.length_map]
          by_cases hn : n = (sp z).length
          · rw [decide_eq_true hn]; exact decide_eq_true (by rw [hn])
          · rw [decide_eq_false hn]; exact decide_eq_false (fun e => hn (by have := V.int.inj e; omega))
        rw [this]
        rfl
      · refine ⟨_, rfl, k1 e ?_ v _ ((sK _ kr2).trans s3) (Dp.tk (tk_of s3) _ _ (data_plain e hw) hv)⟩
        unfold readE readW
        rw [he]
        simp only
        rw [if_pos (of_decide_eq_true en)]
      · refine k2 n ?_ d H3 (fun b u hb => kr3 b u (fun e => by rw [e, hx0] at hb; cases hb) (sK _ kr2 b u hb)) h3
        unfold readE readW
        rw [he]
        simp only
        rw [if_neg (of_decide_eq_false en)]
    · rw [List.drop_zero] at he
      rw [Nat.zero_add] at h2
      refine k2 k ?_ d H2 (sK _ kr2) h2
      unfold readE readW
      rw [he]
/-! ### read_kind -/
def spReadK (K : PySem.W.Frag) (CI : Addr) : Sp := fun vs H Q E => ∃ (z : Str) (row fld : Int), vs = [.str z, .int row, .int fld] ∧ z.length ≤ 80000 ∧ (∀ k, kindOf z = some k → ∀ v H', Same H H' → Dp K H' v k.data → Q v H') ∧
  (kindOf z = none → ∀ d H', Same H H' → H' d = some (.xd (itF (.int row) (.int fld))) → E (.ref CI) (some d) H')
theorem sc49 : FnScope ["text", "row", "field", "found"] ["text", "row", "field"] (defScope (top 49)) := ⟨rfl, rfl, rfl, by decide +kernel, rfl, by decide +kernel, by decide +kernel⟩
theorem kd_not_none {K : PySem.W.Frag} {H : Hp} {v : V} {k : Kd} (h : Dp K H v k.data) : v ≠ .non := fun e => by
  have := dp_non (e ▸ h)
  cases k <;> cases this
theorem cal_read_k (T : Tx K mg) (I : ItTxt P K mg CI fI) (h49 : HsD K mg "read_kind" (top 49)) : CalK P w K mg base (L2.CX P w) 4 "read_kind" 1 ["text", "row", "field"] (spReadK K CI) := by
  have CK := cal_kind_or (P := P) (w := w) (base := base) T
  refine h49.cal sc49 (fun vs H Q E h => ?_) rfl
    (fun D _ _ _ _ _ us ks h1 h2 => match us, ks, h1, h2 with | [a], [u, v], _, _ => ⟨_, _, _, _, _, _, rfl, rfl, _, _, _, _, _, _, rfl, rfl, rfl⟩)
    (fun _ _ _ _ _ _ us ws h1 h2 => match us, ws, h1, h2 with | [_], [_, _], _, _ => rfl)
    (fun _ _ _ _ _ _ us ws h1 h2 => match us, ws, h1, h2 with | [_], [_, _], _, _ => rfl) (fun f cdv A outer s H vs Q E hr h => ?_)
  · obtain ⟨z, row, fld, rfl, _⟩ := h; rfl
  · obtain ⟨z, row, fld, rfl, hz, k1, k2⟩ := h
    refine ⟨_, pss_cons (ps_set (i := 3) sc49.nd rfl (Or.inl rfl) (pe_cal (E := E) CK hr rfl pass0 (pa_cons (pv 0) pa_nil)))
      (pss_cons (ps_if (pt_cmpR op_isN (pv 3) pe_non (nomark _)) (pss_one (ps_raiseIt rfl I hr (takes_of rfl rfl rfl rfl) (pa_cons (pv 1) (pa_cons (pv 2) pa_nil)))) pss_nil) (pss_one (ps_ret (pv 3)))), ?_⟩
    refine ⟨_, rfl, z, rfl, by omega, fun e H1 s1 => ?_, fun a e v H1 s1 hv => ?_⟩
    · exact ⟨_, rfl, rfl, true, rfl, iteT ⟨_, rfl, _, rfl, _, _, rfl, fun d hd => k2 e d _ (s1.trans (same_new hd)) upd_same⟩⟩
    · exact ⟨_, rfl, rfl, false, by rw [decide_eq_false (kd_not_none hv)], iteF ⟨_, rfl, k1 a e v _ s1 hv⟩⟩
end
end K12

set_option maxHeartbeats 4000000
/-! K10: read_form. -/
namespace K12
open PySem PySem.Spec PyProof.Rows L2 TL NumText
set_option autoImplicit false
def nmD : Option Str → PyData
  | none => .none
  | some n => .str n
def vName : Option Str → V
  | none => .non
  | some n => .str n
def kdD : Option Kd → PyData
  | none => .none
  | some k => k.data
def prD (p : Option Str × Option Kd) : PyData := .tuple [nmD p.1, kdD p.2]
theorem nm_plain {w : Str} : plain (nmD (nameOf w)) := by
  cases h : nameOf w with
  | none => simp only [nmD, plain]
  | some n => exact namePlain w n h
theorem kdo_plain {w : Str} : plain (kdD (kindOf w)) := by
  cases h : kindOf w with
  | none => simp only [kdD, plain]
  | some k => exact kd_plain (kindOf_some h).2
theorem pr_plain (w : Str) : plain (prD (fldOf w)) := by
  unfold prD fldOf
  simp only [plain, plainAll, and_true]
  exact ⟨nm_plain, kdo_plain⟩
theorem all_plain {α : Type} {f : α → PyData} : ∀ (l : List α), (∀ x ∈ l, plain (f x)) → plainAll (l.map f)
  | [], _ => by simp only [List.map_nil, plainAll]
  | a :: r, h => by
    simp only [List.map_cons, plainAll]
    exact ⟨h a (by simp), all_plain r fun x hx => h x (List.mem_cons_of_mem _ hx)⟩
theorem kd_depth (o : Option Kd) : (kdD o).depth ≤ 3 := by
  rcases o with _ | (_ | _)
  · simp [kdD, PyData.depth]
  · simp [kdD, Kd.data, PyData.depth, PyData.depthAll]
  · simp [kdD, Kd.data, PyData.depth]
theorem kds_depth : ∀ l : List (Option Kd), PyData.depthAll (l.map kdD) ≤ 3
  | [] => by simp [PyData.depthAll]
  | a :: r => by
    have h1 := kds_depth r
    have h2 := kd_depth a
    simp only [List.map_cons, PyData.depthAll]
    omega
theorem shaped_of {ds : List PyData} {n : Nat} (h : plainAll ds) (hd : PyData.depthAll ds ≤ n) (hn : n ≤ 60) : SeqAt.shaped (.list ds) = true := by
  unfold SeqAt.shaped
  rw [Bool.and_eq_true]
  refine ⟨?_, decide_eq_true (by simp only [PyData.depth]; omega)⟩
  simp only [PyData.canLay0]
  exact plainAll_lay _ h
theorem shaped_none : SeqAt.shaped .none = true := by
  unfold SeqAt.shaped
  simp [PyData.canLay0, PyData.depth]
theorem hu65 {A : Around} {k : Nat} (hr : Room k A) : A.units + 65 < cLine := by have := hr.un; omega
/-- the kinds' values of the pairs -/
theorem pr_open {K : PySem.W.Frag} {H : Hp} : ∀ {xs : List V} {ps : List (Option Str × Option Kd)}, DpAll K H xs (ps.map prD) → ∃ kvs : List V, kvs.length = ps.length ∧ DpAll K H kvs (ps.map fun p => kdD p.2) ∧
    ∀ (i : Nat) (x : V), xs[i]? = some x → ∃ a kv p, x = .ref a ∧ kvs[i]? = some kv ∧ ps[i]? = some p ∧ SqT K H a [vName p.1, kv]
  | xs, [], h => by
    cases h
    exact ⟨[], rfl, .nil, fun i x e => by simp at e⟩
  | xs, p :: ps, h => by
    cases h with
    | cons h1 h2 =>
      obtain ⟨kvs, e1, e2, e3⟩ := pr_open h2
      unfold prD at h1
      cases h1 with
      | tup hs ha =>
        cases ha with
        | cons a1 ha =>
          cases ha with
          | @cons kv _ _ _ a2 ha =>
            cases ha
            refine ⟨kv :: kvs, by simp [e1], .cons a2 e2, fun i x e => ?_⟩
            cases i with
            | zero =>
              simp only [List.getElem?_cons_zero] at e
              cases e
              refine ⟨_, kv, p, rfl, rfl, rfl, ?_⟩
              obtain ⟨pn, pk⟩ := p
              cases pn with
              | none => cases a1; exact hs
              | some n => cases a1; exact hs
            | succ i =>
              simp only [List.getElem?_cons_succ] at e
              obtain ⟨a, kv2, p2, r1, r2, r3, r4⟩ := e3 i x e
              exact ⟨a, kv2, p2, r1, by simpa using r2, by simpa using r3, r4⟩
theorem allSome_none1 : ∀ {ps : List (Option Str × Option Kd)}, (ps.any fun p => p.1.isNone) = true → allSome ps = none
  | [], h => by simp at h
  | (none, _) :: _, _ => rfl
  | (some _, none) :: _, _ => rfl
  | (some n, some k) :: r, h => by
    have : (r.any fun p => p.1.isNone) = true := by simpa using h
    show (allSome r).map _ = none
    rw [allSome_none1 this]; rfl
theorem allSome_none2 : ∀ {ps : List (Option Str × Option Kd)}, (ps.any fun p => p.2.isNone) = true → allSome ps = none
  | [], h => by simp at h
  | (none, _) :: _, _ => rfl
  | (some _, none) :: _, _ => rfl
  | (some n, some k) :: r, h => by
    have : (r.any fun p => p.2.isNone) = true := by simpa using h
    show (allSome r).map _ = none
    rw [allSome_none2 this]; rfl
theorem allSome_all : ∀ {ps : List (Option Str × Option Kd)}, (ps.any fun p => p.1.isNone) = false → (ps.any fun p => p.2.isNone) = false → ∃ f : Form, allSome ps = some f ∧ ps = f.map fun x => (some x.1, some x.2)
  | [], _, _ => ⟨[], rfl, rfl⟩
  | (none, _) :: _, h, _ => by simp at h
  | (some _, none) :: _, _, h => by simp at h
  | (some n, some k) :: r, h1, h2 => by
    obtain ⟨f, e1, e2⟩ := allSome_all (ps := r) (by simpa using h1) (by simpa using h2)
    exact ⟨(n, k) :: f, by show (allSome r).map _ = _; rw [e1]; rfl, by rw [e2]; rfl⟩
theorem inV_names (ps : List (Option Str × Option Kd)) : inV .non (ps.map fun p => vName p.1) = ps.any fun p => p.1.isNone := by
  unfold inV
  rw [List.any_map]
  congr 1
  funext p
  obtain ⟨pn, pk⟩ := p
  cases pn <;> rfl
theorem flat_names (ps : List (Option Str × Option Kd)) : (ps.map fun p => vName p.1).all flatV = true := by
  rw [List.all_map, List.all_eq_true]
  rintro ⟨pn, pk⟩ _
  cases pn <;> rfl
theorem any_kinds (ps : List (Option Str × Option Kd)) : ((ps.map fun p => kdD p.2).any fun z => PyData.eqv z .none) = ps.any fun p => p.2.isNone := by
  rw [List.any_map]
  congr 1
  funext p
  obtain ⟨pn, pk⟩ := p
  rcases pk with _ | (_ | _)
  · simp [kdD, PyData.eqv]
  · simp [kdD, Kd.data, PyData.eqv]
  · simp [kdD, Kd.data, PyData.eqv]
theorem part_len (x : Str) : (Txt.partition x colon).1.length ≤ x.length ∧ (Txt.partition x colon).2.2.length ≤ x.length := by
  rw [partition_par x colon (by rw [tl_colon]; simp), tl_colon]
  cases h : par [58] [] (tl x) with
  | none => exact ⟨Nat.le_refl _, Nat.zero_le _⟩
  | some q =>
    obtain ⟨a, b⟩ := q
    have := par1_some h
    have hl : (tl x).length = a.length + (b.length + 1) := by rw [← List.length_cons, ← List.length_append, ← this]; rfl
    rw [← len_tl] at hl
    constructor
    · show (mk a).length ≤ x.length
      rw [len_mk]; omega
    · show (mk b).length ≤ x.length
      rw [len_mk]; omega
theorem parse_o {K : PySem.W.Frag} {α : Type} {f : Str → Option α} {d : α → PyData} (oD : Option α → PyData) (h0 : oD none = .none) (h1 : ∀ a, oD (some a) = d a) {z : Str} {H : Hp} {Q : VK} {E : XK} (hz : z.length ≤ 90000) (k : ∀ v H', Same H H' → Dp K H' v (oD (f z)) → Q v H') : spParse K f d [.str z] H Q E := by
  refine ⟨z, rfl, hz, fun e H' s => k _ H' s ?_, fun a e v H' s hd => k v H' s ?_⟩
  · rw [e, h0]; exact .non
  · rw [e, h1]; exact hd
theorem take_map_succ {α β : Type} {l : List α} {i : Nat} {x : α} (f : α → β) (h : l[i]? = some x) : (l.take (i + 1)).map f = (l.take i).map f ++ [f x] := by
  rw [List.take_succ, h, List.map_append]; rfl
section
variable {P : Program} {w : World} {K : PySem.W.Frag} {mg : Str → Option Value} {base : Heap} {CI fI : Addr}
def spReadF (K : PySem.W.Frag) (CI : Addr) : Sp := fun vs H Q E => ∃ (z : Str) (row fld : Int), vs = [.str z, .int row, .int fld] ∧ z.length ≤ 80000 ∧ (∀ f, formOf z = some f → ∀ v H', Same H H' → Dp K H' v f.data → Q v H') ∧
  (formOf z = none → ∀ d H', Same H H' → H' d = some (.xd (itF (.int row) (.int fld))) → E (.ref CI) (some d) H')
theorem sc50 : FnScope ["text", "row", "field", "found", "word", "own", "sign", "kind", "names"] ["text", "row", "field"] (defScope (top 50)) := ⟨rfl, rfl, rfl, by decide +kernel, rfl, by decide +kernel, by decide +kernel⟩
theorem cal_read_f (T : Tx K mg) (I : ItTxt P K mg CI fI) (h50 : HsD K mg "read_form" (top 50)) : CalK P w K mg base (L2.CX P w) 4 "read_form" 1 ["text", "row", "field"] (spReadF K CI) := by
  have CN := cal_name_or (P := P) (w := w) (base := base) T
  have CK := cal_kind_or (P := P) (w := w) (base := base) T
  have CR := cal_rises (P := P) (w := w) (base := base) T
  obtain ⟨tN, cN⟩ := T.c_NONE
  refine h50.cal sc50 (fun vs H Q E h => ?_) rfl
    (fun D _ _ _ _ _ us ks h1 h2 => match us, ks, h1, h2 with | [a], [u, v], _, _ => ⟨_, _, _, _, _, _, rfl, rfl, _, _, _, _, _, _, rfl, rfl, rfl⟩)
    (fun _ _ _ _ _ _ us ws h1 h2 => match us, ws, h1, h2 with | [_], [_, _], _, _ => rfl)
    (fun _ _ _ _ _ _ us ws h1 h2 => match us, ws, h1, h2 with | [_], [_, _], _, _ => rfl) (fun f cdv A outer s H vs Q E hr h => ?_)
  · obtain ⟨z, row, fld, rfl, _⟩ := h; rfl
  · obtain ⟨z, row, fld, rfl, hz, k1, k2⟩ := h
    refine ⟨_, (pss_cons (ps_if (pt_cmpR op_eq (pv 0) (pe_gs cN) (nomark _)) (pss_one (ps_ret (pe_tup pa_nil))) pss_nil)
      (pss_cons (ps_set (i := 3) sc50.nd rfl (Or.inl rfl) (pe_lst pa_nil))
      (pss_cons (ps_for (passes_of rfl) rfl (pi_list (pe_split (pv 0) pe_str)) (pg_name (i := 4) sc50.nd rfl (Or.inl rfl)) (pss_cons (ps_asg (pe_partition (pv 4) pe_str) (pg_tup rfl (pgs_cons (pg_name (i := 5) sc50.nd rfl (Or.inl rfl)) (pgs_cons (pg_name (i := 6) sc50.nd rfl (Or.inl rfl)) (pgs_cons (pg_name (i := 7) sc50.nd rfl (Or.inl rfl)) pgs_nil)))))
(pss_one (ps_expr (pe_bm PySem.F.plainAttrs_list PySem.F.slot_list_append PySem.F.type_list_append mt_append (pv 3) (pa_cons (pe_tup (pa_cons (pe_cal CN (hr.mono (by decide)) rfl pass0 (pa_cons (pv 5) pa_nil)) (pa_cons (pe_cal CK hr rfl pass0 (pa_cons (pv 7) pa_nil)) pa_nil))) pa_nil))))))
      (pss_cons (ps_setLc (i := 8) (own := [("own", 5), ("kind", 7)]) (g := (gTup K 2 (gCons (gName 5) (gCons (gName 7) gNil)))) (tt := tYes) rfl sc50.nd rfl rfl rfl (pi_list (pv 3)) (blkOk_by (N := ["text", "row", "field", "found", "word", "own", "sign", "kind", "names"]) (sc := defScope (top 50)) (by decide +kernel)) (fun _ _ _ _ _ => (pg_tup rfl (pgs_cons (pg_name (i := 5) sc50.nd rfl (Or.inl rfl)) (pgs_cons (pg_name (i := 7) sc50.nd rfl (Or.inl rfl)) pgs_nil)))) (fun _ _ _ _ _ => pts_nil) (fun _ _ _ _ _ => (pv 5)))
      (pss_cons (ps_if (PW.pt (pw_or (pt_cmpR op_in_seq pe_non (pv 8) rfl) (pw_or (pt_cmpR (op_inD (hu65 hr)) pe_non (pe_lc (own := [("own", 5), ("kind", 7)]) (g := (gTup K 2 (gCons (gName 5) (gCons (gName 7) gNil)))) (tt := tYes) rfl sc50.nd (pi_list (pv 3)) (blkOk_by (N := ["text", "row", "field", "found", "word", "own", "sign", "kind", "names"]) (sc := defScope (top 50)) (by decide +kernel)) (fun _ _ _ _ _ => (pg_tup rfl (pgs_cons (pg_name (i := 5) sc50.nd rfl (Or.inl rfl)) (pgs_cons (pg_name (i := 7) sc50.nd rfl (Or.inl rfl)) pgs_nil)))) (fun _ _ _ _ _ => pts_nil) (fun _ _ _ _ _ => (pv 7))) rfl) (pw_or1 (pt_not (pt_val (pe_cal CR (hr.mono (by decide)) rfl pass0 (pa_cons (pv 8) pa_nil)))))))) (pss_one (ps_raiseIt rfl I hr (takes_of rfl rfl rfl rfl) (pa_cons (pv 1) (pa_cons (pv 2) pa_nil)))) pss_nil)
      (pss_one (ps_ret (pe_callTy call_tuple_of (by rfl) T.b_tuple boot_tuple (pa_cons (pv 3) pa_nil))))))))), ?_⟩
    refine ⟨_, rfl, rfl, decide (z = dash), ?_, ?_⟩
    · by_cases e : z = dash
      · rw [decide_eq_true e]; exact congrArg V.bl (decide_eq_true (by rw [e]; rfl))
      · rw [decide_eq_false e]; exact congrArg V.bl (decide_eq_false (fun h => e (V.str.inj h)))
    by_cases hdash : z = dash
    · rw [decide_eq_true hdash]
      refine iteT ⟨small100 (by simp), fun p hp => k1 [] ?_ _ _ (same_new hp) (.tup (sq_t upd_same) .nil)⟩
      unfold formOf; rw [if_pos hdash]
    rw [decide_eq_false hdash]
    refine iteF ⟨small100 (by simp), fun f hf => ?_⟩
    have hd1 : tl comma ≠ [] := by rw [tl_comma]; simp
    have hd2 : comma.cps.all (· < 256) = true := by decide +kernel
    have hlen := split_len (z := z) hd1 hd2 (by decide +kernel)
    have hcnt := split_count (z := z) hd1 hd2
    have eform : formOf z = match allSome ((Txt.split z comma).map fldOf) with
        | some f => if rises (f.map (·.1)) = true then some f else none
        | none => none := by unfold formOf; rw [if_neg hdash] <;> rfl
    generalize hws : Txt.split z comma = ws at hlen hcnt eform
    have sf : Same H (upd H f (.lst [])) := same_new hf
    refine ⟨_, rfl, ⟨z, rfl⟩, z, comma, rfl, rfl, by decide +kernel, small100 (by omega), fun p hp => ⟨p, rfl, ⟨_, sq_l upd_same⟩, ?_⟩⟩
    rw [hws]
    have hpf : f ≠ p := fun e => by rw [← e, upd_same] at hp; cases hp
    have hp0 : H p = none := sf.free hp
    refine for_it (walk_list (K := K) (a := p) (xs := ws.map V.str)) (fun i σ H' => ∃ (x4 x5 x6 x7 : Option V) (xs : List V), σ = [some (.str z), some (.int row), some (.int fld), some (.ref f), x4, x5, x6, x7, none] ∧ Same H H' ∧ H' p = some (.lst (ws.map V.str)) ∧ H' f = some (.lst xs) ∧ xs.length = i ∧ DpAll K H' xs (((ws.take i).map fldOf).map prD))
      ⟨none, none, none, none, [], rfl, sf.trans (same_new hp), upd_same, by rw [upd_ne hpf]; exact upd_same, rfl, .nil⟩ (fun i σ H' _ ⟨_, _, _, _, _, _, _, hh, _⟩ => sq_l hh) ?_ ?_
    · rintro i x σ H1 H1' hi ⟨x4, x5, x6, x7, xs, rfl, s1, hp1, hf1, hl1, hd⟩ ⟨rfl, hx⟩
      obtain ⟨wd, hwd, rfl⟩ := strs_get hx
      have hwl := hlen wd (List.mem_of_getElem? hwd)
      have hpl := part_len wd
      refine ⟨_, rfl, ⟨wd, rfl⟩, wd, colon, rfl, rfl, by decide +kernel, small100 (by omega), fun t ht => ⟨t, _, rfl, sq_t upd_same, rfl, _, _, rfl, _, _, rfl, _, _, rfl, rfl, ?_⟩⟩
      have s2 : Same H1' (upd H1' t (.tup [.str (Txt.partition wd colon).1, .str (Txt.partition wd colon).2.1, .str (Txt.partition wd colon).2.2])) := same_new ht
      refine ⟨_, rfl, .inl ⟨rfl, _, sq_l (s2 _ _ hf1)⟩, _, rfl, ?_⟩
      unfold tNil
      refine parse_o (K := K) (f := nameOf) (d := dStr) (z := (Txt.partition wd colon).1) nmD rfl (fun _ => rfl) (by omega) (fun v1 H2 s3 d1 => ⟨_, rfl, ?_⟩)
      refine parse_o (K := K) (f := kindOf) (d := Kd.data) (z := (Txt.partition wd colon).2.2) kdD rfl (fun _ => rfl) (by omega) (fun v2 H3 s4 d2 => ⟨small100 (by simp), fun tp htp => ?_⟩)
      have s5 : Same H3 (upd H3 tp (.tup [v1, v2])) := same_new htp
      have sA := s2.trans (s3.trans (s4.trans s5))
      have hf5 := sA _ _ hf1
      refine ⟨f, xs, .ref tp, rfl, rfl, hf5, small100' (by rw [List.length_map] at hi; omega), ?_⟩
      have t6 : Tk (upd H3 tp (.tup [v1, v2])) (upd (upd H3 tp (.tup [v1, v2])) f (.lst (xs ++ [.ref tp]))) := tk_mut (Tk.refl _) hf5 (fun _ z => by cases z) (fun _ _ z => by cases z)
      refine ⟨_, _, _, _, xs ++ [.ref tp], rfl, same_mut (s1.trans sA) hf, by rw [upd_ne hpf.symm]; exact sA _ _ hp1, upd_same, by simp [hl1], ?_⟩
      have e1 : ((ws.take (i + 1)).map fldOf).map prD = ((ws.take i).map fldOf).map prD ++ [prD (fldOf wd)] := by
        rw [take_map_succ fldOf hwd, List.map_append]; rfl
      rw [e1]
      refine dpAll_app (Dp.tkAll ((tk_of sA).trans t6) _ _ ?_ hd) (.cons (.tup (tk_t t6 (sq_t upd_same)) (.cons (Dp.tk ((tk_of s4).trans ((tk_of s5).trans t6)) _ _ nm_plain d1) (.cons (Dp.tk ((tk_of s5).trans t6) _ _ kdo_plain d2) .nil))) .nil)
      rw [List.map_map]
      exact all_plain _ fun w _ => pr_plain w
    · rintro σ H1 ⟨x4, x5, x6, x7, xs, rfl, s1, hp1, hf1, hl1, hd⟩
      rw [List.length_map] at hl1 hd
      rw [List.take_length] at hd
      obtain ⟨kvs, g1, g2, g3⟩ := pr_open hd
      have lps : (ws.map fldOf).length = xs.length := by rw [List.length_map, hl1]
      have lws : ws.length ≤ 100000 := by omega
      refine ⟨_, rfl, f, rfl, ⟨_, sq_l hf1⟩, fun D hD => lc_map walk_list (by omega) ((ws.map fldOf).map fun p => vName p.1) (by simp [hl1]) hD (fun H2 s2 => sq_l (s2 _ _ hf1)) ?_ ?_⟩
      · rintro i x H2 H3 Q1 hi s2 ⟨rfl, hx⟩ kq
        obtain ⟨a, kv, p2, rfl, r2, r3, r4⟩ := g3 i x hx
        refine ⟨a, _, rfl, tk_t (tk_of s2) r4, rfl, _, _, rfl, _, _, rfl, rfl, rfl, _, rfl, kq _ _ ?_ (Same.refl _)⟩
        rw [List.getElem?_map, r3]; rfl
      · intro H2 hy s2
        have hf2 := s2 _ _ hf1
        refine ⟨_, rfl, D, _, rfl, .inl (sq_l hy), rfl, flat_names _, (ws.map fldOf).any fun p => p.1.isNone, ?_, ?_⟩
        · show V.bl (inV .non ((ws.map fldOf).map fun p => vName p.1)) = _
          rw [inV_names]
        cases hA : (ws.map fldOf).any fun p => p.1.isNone with
        | true =>
          refine iteT (iteT ⟨_, rfl, _, rfl, _, _, rfl, fun d hd => k2 ?_ d _ (s1.trans (s2.trans (same_new hd))) upd_same⟩)
          rw [eform, allSome_none1 hA]
        | false =>
          refine iteF ⟨_, rfl, f, rfl, ⟨_, sq_l hf2⟩, fun D2 hD2 => lc_map walk_list (by omega) kvs (by rw [g1, lps]) hD2 (fun H3 s3 => sq_l (s3 _ _ hf2)) ?_ ?_⟩
          · rintro i x H3 H4 Q1 hi s3 ⟨rfl, hx⟩ kq
            obtain ⟨a, kv, p2, rfl, r2, r3, r4⟩ := g3 i x hx
            refine ⟨a, _, rfl, tk_t ((tk_of s2).trans (tk_of s3)) r4, rfl, _, _, rfl, _, _, rfl, rfl, rfl, _, rfl, kq _ _ r2 (Same.refl _)⟩
          · intro H3 hy3 s3
            have s13 := s1.trans (s2.trans s3)
            have pk : plainAll ((ws.map fldOf).map fun p => kdD p.2) := by
              rw [List.map_map]
              exact all_plain _ fun w _ => kdo_plain
            have dk : PyData.depthAll ((ws.map fldOf).map fun p => kdD p.2) ≤ 3 := by
              have := kds_depth ((ws.map fldOf).map fun p => p.2)
              rw [List.map_map] at this
              exact this
            refine ⟨.none, (ws.map fldOf).map (fun (p : Option Str × Option Kd) => kdD p.2), .non, .lst (sq_l hy3) (Dp.tkAll ((tk_of s2).trans (tk_of s3)) _ _ pk g2), shaped_none, shaped_of pk dk (by decide), (ws.map fldOf).any fun p => p.2.isNone, by rw [any_kinds], ?_⟩
            cases hB : (ws.map fldOf).any fun p => p.2.isNone with
            | true =>
              refine iteT (iteT ⟨_, rfl, _, rfl, _, _, rfl, fun d hd => k2 ?_ d _ (s13.trans (same_new hd)) upd_same⟩)
              rw [eform, allSome_none2 hB]
            | false =>
              refine iteF ?_
              obtain ⟨fm, f1, f2⟩ := allSome_all hA hB
              have en : ((ws.map fldOf).map fun p => vName p.1) = (fm.map (·.1)).map V.str := by
                rw [f2, List.map_map, List.map_map]; rfl
              have hyD := s3 _ _ hy
              rw [en] at hyD
              have lfm : (fm.map (·.1)).length ≤ 100000 := by
                have : fm.length = ws.length := by
                  have := congrArg List.length f2
                  rw [List.length_map, List.length_map] at this
                  exact this.symm
                rw [List.length_map]; omega
              refine ⟨_, rfl, D, fm.map (·.1), rfl, sq_l hyD, lfm, fun H4 s4 => ⟨rises (fm.map (·.1)), rfl, ?_⟩⟩
              cases hr2 : rises (fm.map (·.1)) with
              | true =>
                refine iteF ?_
                have s24 := s2.trans (s3.trans s4)
                refine ⟨_, rfl, f, xs, rfl, .inl ⟨sq_l (s24 _ _ hf1), fun t ht => k1 fm ?_ _ _ (s13.trans (s4.trans (same_new ht))) ?_⟩⟩
                · rw [eform, f1]
                  simp only
                  rw [if_pos hr2]
                · have ed : (ws.map fldOf).map prD = fm.map fldD := by rw [f2, List.map_map]; rfl
                  rw [ed] at hd
                  refine .tup (sq_t upd_same) (Dp.tkAll ((tk_of s24).trans (tk_of (same_new ht))) _ _ ?_ hd)
                  rw [← ed, List.map_map]
                  exact all_plain _ fun w _ => pr_plain w
              | false =>
                refine iteT ⟨_, rfl, _, rfl, _, _, rfl, fun d hd => k2 ?_ d _ (s13.trans (s4.trans (same_new hd))) upd_same⟩
                rw [eform, f1]
                simp only
                rw [if_neg (by rw [hr2]; simp)]
end
end K12

set_option maxHeartbeats 4000000
/-! K11: the drawn numbers: _law_feed, _law_draw. -/
namespace K12
open PySem PySem.Spec PyProof.Rows L2 TL NumText
set_option autoImplicit false
def fdL (c : Addr) (a l n : Int) : List (Key × V) := [(.inr "cells", .ref c), (.inr "at", .int a), (.inr "left", .int l), (.inr "count", .int n)]
theorem fd_cells {c : Addr} {a l n : Int} : valV (fdL c a l n) (.inr "cells") = some (.ref c) := by rfl
theorem fd_at {c : Addr} {a l n : Int} : valV (fdL c a l n) (.inr "at") = some (.int a) := by rfl
theorem fd_left {c : Addr} {a l n : Int} : valV (fdL c a l n) (.inr "left") = some (.int l) := by rfl
theorem fd_count {c : Addr} {a l n : Int} : valV (fdL c a l n) (.inr "count") = some (.int n) := by rfl
theorem fd_put_at {c : Addr} {a l n z : Int} : putK (fdL c a l n) (.inr "at") (.int z) = fdL c z l n := by rfl
theorem fd_put_left {c : Addr} {a l n z : Int} : putK (fdL c a l n) (.inr "left") (.int z) = fdL c a z n := by rfl
theorem fd_put_count {c : Addr} {a l n z : Int} : putK (fdL c a l n) (.inr "count") (.int z) = fdL c a l z := by rfl
/-- at F: the feed -/
def FeedOk (F c : Addr) (H : Hp) : Prop := ∃ (ns : List Int) (a l n : Int), H F = some (.dK (fdL c a l n)) ∧ H c = some (.lst (ns.map V.int)) ∧ ns.length ≤ 63
theorem FeedOk.same {F c : Addr} {H H' : Hp} (h : FeedOk F c H) (s : Same H H') : FeedOk F c H' := by
  obtain ⟨ns, a, l, n, h1, h2, h3⟩ := h
  exact ⟨ns, a, l, n, s _ _ h1, s _ _ h2, h3⟩
theorem fd_get {F c : Addr} {a l n : Int} {H : Hp} {x : Str} {v : V} (h : H F = some (.dK (fdL c a l n))) (e : valV (fdL c a l n) (.inr x) = some v) : DGet H F (.str x) (some v) := by
  rw [← e]; exact DGet.k (k := .inr x) h
theorem fd_put {F c : Addr} {a l n : Int} {H : Hp} {x : Str} {v : V} (h : H F = some (.dK (fdL c a l n))) : DPut H F (.str x) v (upd H F (.dK (putK (fdL c a l n) (.inr x) v))) := DPut.k (k := .inr x) h (small100' (by show 4 < 100000; decide))
theorem emod_lt {x m : Int} (h : 0 < m) : 0 ≤ x % m ∧ x % m < m := ⟨Int.emod_nonneg _ (by omega), Int.emod_lt_of_pos _ h⟩
section
variable {P : Program} {w : World} {K : PySem.W.Frag} {mg : Str → Option Value} {base : Heap}
def spFeed (K : PySem.W.Frag) : Sp := fun vs H Q _ => ∃ (a : Addr) (ns : List Int), vs = [.ref a] ∧ SqL K H a (ns.map V.int) ∧ ns.length ≤ 63 ∧ ∀ F c H', Same H H' → FeedOk F c H' → Q (.ref F) H'
theorem sc52 : FnScope ["_law_script"] ["_law_script"] (defScope (top 52)) := ⟨rfl, rfl, rfl, by decide +kernel, rfl, by decide +kernel, by decide +kernel⟩
theorem cal_feed (T : Tx K mg) : Cal P w K mg base CX0 1 "_law_feed" ["_law_script"] (spFeed K) := by
  refine T.h52.cal sc52 (fun vs H Q E h => ?_) (fun _ _ _ _ _ _ us hl => match us, hl with | [_], _ => rfl) (fun f cdv A outer s H vs Q E hr h => ?_)
  · obtain ⟨z, ns, rfl, _⟩ := h; rfl
  · obtain ⟨a, ns, rfl, hs, hl, k⟩ := h
    refine ⟨_, pss_one (ps_ret (pe_disp (pps_cons pe_str (pe_callTy call_list_of (by rfl) T.b_list boot_list (pa_cons (pe_slice sl_list (pv 0) po_none (po_some pe_int)) pa_nil)) (pps_cons pe_str pe_int (pps_cons pe_str pe_int (pps_cons pe_str pe_int pps_nil)))) rfl rfl (by simp) (by decide))), ?_⟩
    intro F hF
    have s1 : Same H (upd H F (.dK [])) := same_new hF
    refine ⟨_, rfl, 63, rfl, a, _, rfl, s1.seq hs, fun p hp => ⟨p, _, rfl, .inl (sq_l upd_same), fun c hc => ?_⟩⟩
    have hFp : F ≠ p := fun e => by rw [← e, upd_same] at hp; cases hp
    have hFc : F ≠ c := fun e => by rw [← e, upd_ne hFp, upd_same] at hc; cases hc
    refine ⟨by rw [upd_ne hFc, upd_ne hFp]; exact upd_same, [(.inr "cells", .ref c), (.inr "at", .int 0), (.inr "left", .int 0), (.inr "count", .int 0)], rfl, by simp, ?_⟩
    refine k F c _ ?_ ⟨ns, 0, 0, 0, upd_same, ?_, hl⟩
    · exact same_mut (s1.trans ((same_new hp).trans (same_new hc))) hF
    · rw [upd_ne hFc.symm, upd_same]
      have : cutV (ns.map V.int) none (some (63 : Int)) = ns.map V.int := by
        show cutV (ns.map V.int) none (some ((63 : Nat) : Int)) = _
        rw [cutV_to, List.take_of_length_le (by rw [List.length_map]; exact hl)]
      rw [this]
def spDraw : Sp := fun vs H Q _ => ∃ (F c : Addr) (many : Int), vs = [.ref F, .int many] ∧ FeedOk F c H ∧ 0 < many ∧ many ≤ 1000000 ∧ ∀ d H', 0 ≤ d → d < many → Kp H H' → FeedOk F c H' → Q (.int d) H'
theorem sc53 : FnScope ["_law_feed_here", "_law_many", "_law_digit", "_law_spot", "_law_cell", "_law_mixed"] ["_law_feed_here", "_law_many"] (defScope (top 53)) := ⟨rfl, rfl, rfl, by decide +kernel, rfl, by decide +kernel, by decide +kernel⟩
theorem cal_draw (T : Tx K mg) : Cal P w K mg base CX0 1 "_law_draw" ["_law_feed_here", "_law_many"] spDraw := by
  refine T.h53.cal sc53 (fun vs H Q E h => ?_) (fun _ _ _ _ _ _ us hl => match us, hl with | [_, _], _ => rfl) (fun f cdv A outer s H vs Q E hr h => ?_)
  · obtain ⟨z, c, m, rfl, _⟩ := h; rfl
  · obtain ⟨F, c, many, rfl, hF, hm0, hm1, k⟩ := h
    refine ⟨_, (pss_cons (ps_dput (hu_of hr) (pv 0) pe_str (pe_op op_add (pe_dget (hu_of hr) (pv 0) pe_str (fun _ _ => rfl)) pe_int) (by rfl))
      (pss_cons (ps_if (pt_cmpR op_gt (pe_dget (hu_of hr) (pv 0) pe_str (fun _ _ => rfl)) pe_int (nomark _)) (pss_cons (ps_set (i := 2) sc53.nd rfl (Or.inl rfl) (pe_op op_mod (pe_callTy call_int1 (by rfl) T.b_int boot_int (pa_cons (pe_dget (hu_of hr) (pv 0) pe_str (fun _ _ => rfl)) pa_nil)) (pv 1)))
(pss_cons (ps_dput (hu_of hr) (pv 0) pe_str (pe_op op_fdiv (pe_dget (hu_of hr) (pv 0) pe_str (fun _ _ => rfl)) (pv 1)) (by rfl))
(pss_one (ps_ret (pv 2))))) pss_nil)
      (pss_cons (ps_set (i := 3) sc53.nd rfl (Or.inl rfl) (pe_dget (hu_of hr) (pv 0) pe_str (fun _ _ => rfl)))
      (pss_cons (ps_dput (hu_of hr) (pv 0) pe_str (pe_op op_add (pv 3) pe_int) (by rfl))
      (pss_cons (ps_set (i := 4) sc53.nd rfl (Or.inl rfl) (pe_ifExp (pt_cmpR (op_neNil (hu0 hr)) (pe_dget (hu_of hr) (pv 0) pe_str (fun _ _ => rfl)) (pe_lst pa_nil) (nomark _)) (pe_ixL K rfl (pe_dget (hu_of hr) (pv 0) pe_str (fun _ _ => rfl)) (pe_op op_mod (pe_callTy call_int1 (by rfl) T.b_int boot_int (pa_cons (pv 3) pa_nil)) (pe_callB call_len_seq (by rfl) T.b_len PySem.boot_len (pa_cons (pe_dget (hu_of hr) (pv 0) pe_str (fun _ _ => rfl)) pa_nil))) (fun _ _ => rfl)) pe_int))
      (pss_cons (ps_if (PW.pt (pw_and (pt_cmpR op_ge (pv 4) (pe_op op_pow pe_int pe_int) (nomark _)) (pw_and1 (pt_cmpR op_lt (pv 3) (pe_callB call_len_seq (by rfl) T.b_len PySem.boot_len (pa_cons (pe_dget (hu_of hr) (pv 0) pe_str (fun _ _ => rfl)) pa_nil)) (nomark _))))) (pss_cons (ps_dput (hu_of hr) (pv 0) pe_str (pe_op op_fdiv (pv 4) (pv 1)) (by rfl))
(pss_one (ps_ret (pe_op op_mod (pe_callTy call_int1 (by rfl) T.b_int boot_int (pa_cons (pv 4) pa_nil)) (pv 1))))) pss_nil)
      (pss_cons (ps_set (i := 5) sc53.nd rfl (Or.inl rfl) (pe_op op_mod (pe_callTy call_int1 (by rfl) T.b_int boot_int (pa_cons (pe_op op_add (pe_op op_add (pe_op op_mod (pe_callTy call_int1 (by rfl) T.b_int boot_int (pa_cons (pv 4) pa_nil)) pe_int) (pe_op op_mul pe_int (pe_dget (hu_of hr) (pv 0) pe_str (fun _ _ => rfl)))) pe_int) pa_nil)) pe_int))
      (pss_cons (ps_set (i := 5) sc53.nd rfl (Or.inl rfl) (pe_op op_mod (pe_callTy call_int1 (by rfl) T.b_int boot_int (pa_cons (pe_op op_add (pe_op op_add (pe_op op_mul (pv 5) (pv 5)) (pe_op op_mul pe_int (pe_dget (hu_of hr) (pv 0) pe_str (fun _ _ => rfl)))) pe_int) pa_nil)) pe_int))
      (pss_one (ps_ret (pe_op op_mod (pe_callTy call_int1 (by rfl) T.b_int boot_int (pa_cons (pe_op op_fdiv (pe_op op_mod (pe_callTy call_int1 (by rfl) T.b_int boot_int (pa_cons (pe_op op_add (pe_op op_mul (pv 5) (pv 5)) (pe_op op_mul pe_int (pv 5))) pa_nil)) pe_int) pe_int) pa_nil)) (pv 1)))))))))))), ?_⟩
    obtain ⟨ns, a, l, n, h1, h2, h3⟩ := hF
    have hcF : c ≠ F := fun e => by rw [e, h1] at h2; cases h2
    -- the heap behind the writes
    have up : ∀ {Hc : Hp} {a' l' n' : Int}, Kp H Hc → Hc c = some (.lst (ns.map V.int)) → Kp H (upd Hc F (.dK (fdL c a' l' n'))) ∧ (upd Hc F (.dK (fdL c a' l' n'))) F = some (.dK (fdL c a' l' n')) ∧ (upd Hc F (.dK (fdL c a' l' n'))) c = some (.lst (ns.map V.int)) :=
      fun kp hc => ⟨kp_dict kp h1, upd_same, by rw [upd_ne hcF]; exact hc⟩
    refine ⟨_, rfl, F, .int n, rfl, fd_get h1 fd_count, n, 1, rfl, rfl, _, rfl, F, _, rfl, fd_put h1, ?_⟩
    rw [fd_put_count]
    obtain ⟨k1, f1, c1⟩ := up (a' := a) (l' := l) (n' := n + 1) (Kp.refl H) h2
    generalize upd H F (.dK (fdL c a l (n + 1))) = H1 at k1 f1 c1 ⊢
    refine ⟨_, rfl, F, .int l, rfl, fd_get f1 fd_left, l, 0, rfl, rfl, decide (0 < l), rfl, ?_⟩
    by_cases hl0 : 0 < l
    · rw [decide_eq_true hl0]
      refine iteT ?_
      refine ⟨_, rfl, F, .int l, rfl, fd_get f1 fd_left, .inl ⟨l, rfl, _, rfl, l, many, rfl, rfl, hm0, ?_⟩⟩
      refine ⟨_, rfl, F, .int l, rfl, fd_get f1 fd_left, _, rfl, l, many, rfl, rfl, ⟨hm0, by omega⟩, _, rfl, F, _, rfl, fd_put f1, ?_⟩
      rw [fd_put_left]
      obtain ⟨k2, f2, c2⟩ := up (a' := a) (l' := l / many) (n' := n + 1) k1 c1
      exact ⟨_, rfl, k _ _ (emod_lt hm0).1 (emod_lt hm0).2 k2 ⟨ns, _, _, _, f2, c2, h3⟩⟩
    · rw [decide_eq_false hl0]
      refine iteF ?_
      refine ⟨_, rfl, F, .int a, rfl, fd_get f1 fd_at, ?_⟩
      refine ⟨_, rfl, a, 1, rfl, rfl, _, rfl, F, _, rfl, fd_put f1, ?_⟩
      rw [fd_put_at]
      obtain ⟨k2, f2, c2⟩ := up (a' := a + 1) (l' := l) (n' := n + 1) k1 c1
      generalize upd H1 F (.dK (fdL c (a + 1) l (n + 1))) = H2 at k2 f2 c2 ⊢
      -- the cell
      have fin : ∀ (cell : Int) (H3 : Hp), Kp H H3 → H3 F = some (.dK (fdL c (a + 1) l (n + 1))) → H3 c = some (.lst (ns.map V.int)) → ∀ d, 0 ≤ d → d < many → ∀ l', Q (.int d) (upd H3 F (.dK (fdL c (a + 1) l' (n + 1)))) ∧ Q (.int d) H3 := fun cell H3 k3 f3 c3 d d1 d2 l' => by
        obtain ⟨k4, f4, c4⟩ := up (a' := a + 1) (l' := l') (n' := n + 1) k3 c3
        exact ⟨k d _ d1 d2 k4 ⟨ns, _, _, _, f4, c4, h3⟩, k d _ d1 d2 k3 ⟨ns, _, _, _, f3, c3, h3⟩⟩
      refine ⟨_, rfl, F, _, rfl, fd_get f2 fd_cells, small100 (by simp), fun q hq => ⟨c, q, _, rfl, rfl, sq_l ((same_new hq) _ _ c2), sq_l upd_same, !ns.isEmpty, by cases ns <;> rfl, ?_⟩⟩
      have s3 : Same H2 (upd H2 q (.lst [])) := same_new hq
      have f3 := s3 _ _ f2
      have c3 := s3 _ _ c2
      have k3 : Kp H (upd H2 q (.lst [])) := k2.trans (kp_of s3)
      generalize upd H2 q (.lst []) = H3 at s3 f3 c3 k3 ⊢
      have bd : ∀ {x m : Int}, 0 ≤ x → x < m → m ≤ 3000000000 → CMul x x := fun h0 h1 h2 => .inl ⟨by omega, by omega⟩
      by_cases hnil : ns = []
      case' pos =>
        have hb : (!ns.isEmpty) = false := by rw [hnil]; rfl
        rw [hb]
        refine iteF ?_
        generalize (37 : Int) = cell
      case' neg =>
        have hpos : 0 < ns.length := List.length_pos_iff.mpr hnil
        have hlm : (ns.map V.int).length = ns.length := by rw [List.length_map]
        have hb : (!ns.isEmpty) = true := by cases ns with | nil => exact absurd rfl hnil | cons _ _ => rfl
        rw [hb]
        refine iteT ?_
        obtain ⟨j1, j2⟩ := emod_lt (x := a) (m := (ns.length : Int)) (by omega)
        have hj : (a % (ns.length : Int)).toNat < ns.length := by omega
        refine ⟨_, rfl, F, _, rfl, fd_get f3 fd_cells, _, rfl, .inl ⟨a, rfl, _, rfl, F, _, rfl, fd_get f3 fd_cells, c, _, rfl, .inl (sq_l c3), a, _, rfl, rfl, by rw [hlm]; omega, c, _, _, .int ns[(a % (ns.length : Int)).toNat], rfl, rfl, sq_l c3, ?_, ?_⟩⟩
        · rw [hlm]
          unfold atI ixN
          rw [if_pos (by omega), if_pos (by rw [hlm]; omega), Option.bind_some, List.getElem?_map, List.getElem?_eq_getElem hj]
          rfl
        generalize ns[(a % (ns.length : Int)).toNat] = cell
      all_goals
        refine ⟨_, rfl, 10, 18, rfl, rfl, ⟨by decide, by decide, by decide⟩, cell, _, rfl, rfl, decide ((10 : Int) ^ (18 : Int).toNat ≤ cell), rfl, ?_⟩
        by_cases h18 : (10 : Int) ^ (18 : Int).toNat ≤ cell
        case' pos =>
          rw [decide_eq_true h18]
          refine iteT ⟨_, rfl, _, rfl, F, _, rfl, fd_get f3 fd_cells, c, _, rfl, .inl (sq_l c3), a, _, rfl, rfl, decide (a < ((ns.map V.int).length : Int)), rfl, ?_⟩
          by_cases hsp : a < ((ns.map V.int).length : Int)
          case' pos =>
            rw [decide_eq_true hsp]
            refine iteT ⟨_, rfl, _, rfl, cell, many, rfl, rfl, ⟨hm0, by omega⟩, _, rfl, F, _, rfl, fd_put f3, ?_⟩
            rw [fd_put_left]
            refine ⟨_, rfl, .inl ⟨cell, rfl, _, rfl, cell, many, rfl, rfl, hm0, (fin cell H3 k3 f3 c3 _ (emod_lt hm0).1 (emod_lt hm0).2 _).1⟩⟩
          rw [decide_eq_false hsp]
          refine iteF ?_
        case' neg =>
          rw [decide_eq_false h18]
          refine iteF (iteF ?_)
        all_goals
          refine ⟨_, rfl, .inl ⟨cell, rfl, cell, _, rfl, rfl, (show (0 : Int) < 1000000531 by decide), _, rfl, F, _, rfl, fd_get f3 fd_count, 150001, n + 1, rfl, rfl, .inl ⟨by decide, by decide⟩, _, _, rfl, rfl, _, _, rfl, rfl, .inl ⟨_, rfl, _, _, rfl, rfl, (show (0 : Int) < 2147483477 by decide), ?_⟩⟩⟩
          obtain ⟨p1, p2⟩ := emod_lt (x := cell % 1000000531 + 150001 * (n + 1) + 73) (m := 2147483477) (by decide)
          have b1 := bd p1 p2 (by decide)
          refine ⟨_, rfl, _, rfl, _, _, rfl, rfl, b1, _, rfl, F, _, rfl, fd_get f3 fd_count, 4200013, n + 1, rfl, rfl, .inl ⟨by decide, by decide⟩, _, _, rfl, rfl, _, _, rfl, rfl, .inl ⟨_, rfl, _, _, rfl, rfl, (show (0 : Int) < 2147483423 by decide), ?_⟩⟩
          obtain ⟨q1, q2⟩ := emod_lt (x := (cell % 1000000531 + 150001 * (n + 1) + 73) % 2147483477 * ((cell % 1000000531 + 150001 * (n + 1) + 73) % 2147483477) + 4200013 * (n + 1) + 41) (m := 2147483423) (by decide)
          have b2 := bd q1 q2 (by decide)
          refine ⟨_, rfl, _, rfl, _, _, rfl, rfl, b2, _, rfl, 89, _, rfl, rfl, .inl ⟨by decide, by decide⟩, _, _, rfl, rfl, .inl ⟨_, rfl, _, _, rfl, rfl, (show (0 : Int) < 2147483353 by decide), _, _, rfl, rfl, ⟨(show (0 : Int) < 16 by decide), (show (16 : Int) < 1073741824 by decide)⟩, .inl ⟨_, rfl, _, rfl, _, many, rfl, rfl, hm0, ?_⟩⟩⟩
          exact (fin cell H3 k3 f3 c3 _ (emod_lt hm0).1 (emod_lt hm0).2 0).2
end
end K12

set_option maxHeartbeats 4000000
/-! G1: drawn paths, leaves, conditions, numbers, links. -/
namespace K12
open PySem PySem.Spec PyProof.Rows L2 TL NumText
set_option autoImplicit false
theorem at_pick {l : List V} {d : Int} (h0 : 0 ≤ d) (h1 : d < (l.length : Int)) : ∃ x, x ∈ l ∧ l[d.toNat]? = some x ∧ atI l d = some x := by
  have hd : d.toNat < l.length := by omega
  refine ⟨l[d.toNat], List.getElem_mem hd, List.getElem?_eq_getElem hd, ?_⟩
  unfold atI ixN
  rw [if_pos h0, if_pos h1, Option.bind_some, List.getElem?_eq_getElem hd]
theorem str_pick {ws : List Str} {x : V} (h : x ∈ ws.map V.str) : ∃ z ∈ ws, x = .str z := by
  obtain ⟨z, hz, rfl⟩ := List.mem_map.mp h
  exact ⟨z, hz, rfl⟩
theorem FeedOk.at {F c D : Addr} {H : Hp} {ys : List V} {o : HO} (h : FeedOk F c H) (hD : H D = some (.lst ys)) (hc : D ≠ c) : FeedOk F c (upd H D o) := by
  obtain ⟨ns, a, l, n, h1, h2, h3⟩ := h
  refine ⟨ns, a, l, n, ?_, ?_, h3⟩
  · rw [upd_ne (fun e => by rw [e, hD] at h1; cases h1)]; exact h1
  · rw [upd_ne hc.symm]; exact h2
theorem FeedOk.new {F c D : Addr} {H : Hp} {o : HO} (h : FeedOk F c H) (hD : H D = none) : FeedOk F c (upd H D o) := h.same (same_new hD)
theorem FeedOk.cell {F c D : Addr} {H : Hp} (h : FeedOk F c H) (hD : H D = none) : D ≠ c := by
  obtain ⟨ns, a, l, n, h1, h2, h3⟩ := h
  rintro rfl
  rw [h2] at hD
  cases hD
section
variable {P : Program} {w : World} {K : PySem.W.Frag} {mg : Str → Option Value} {base : Heap}
/-- the names that paths are drawn of -/
def pathPool : List Str := ["a", "get", "lid", "none", "size", "x", "zzzzzzzz"]
theorem pathPool_ok : ∀ z ∈ pathPool, isName z = true := by decide +kernel
def spFPath (K : PySem.W.Frag) : Sp := fun vs H Q _ => ∃ (F c : Addr), vs = [.ref F] ∧ FeedOk F c H ∧ ∀ v p H', Kp H H' → FeedOk F c H' → okPath p → p.length ≤ 3 → Dp K H' v (dPath p) → Q v H'
theorem sc57 : FnScope ["_law_feed_here", "_law_pool", "_law_k"] ["_law_feed_here"] (defScope (top 57)) := ⟨rfl, rfl, rfl, by decide +kernel, rfl, by decide +kernel, by decide +kernel⟩
/-- a list of names: of texts -/
theorem names_of : ∀ {ys : List V} {H : Hp}, (∀ (i : Nat) (y : V), ys[i]? = some y → ∃ z, isName z = true ∧ y = .str z) → ∃ p : List Str, ys = p.map V.str ∧ ∀ z ∈ p, isName z = true
  | [], _, _ => ⟨[], rfl, by simp⟩
  | y :: ys, H, h => by
    obtain ⟨z, hz, rfl⟩ := h 0 y rfl
    obtain ⟨p, rfl, hp⟩ := names_of (ys := ys) (H := H) fun i y e => h (i + 1) y (by simpa using e)
    exact ⟨z :: p, rfl, fun x hx => by
      rcases List.mem_cons.mp hx with rfl | hx
      · exact hz
      · exact hp x hx⟩
theorem cal_fpath (T : Tx K mg) : Cal P w K mg base CX0 2 "_law_free_path" ["_law_feed_here"] (spFPath K) := by
  have CD := cal_draw (P := P) (w := w) (base := base) T
  refine T.h57.cal sc57 (fun vs H Q E h => ?_) (fun _ _ _ _ _ _ us hl => match us, hl with | [_], _ => rfl) (fun f cdv A outer s H vs Q E hr h => ?_)
  · obtain ⟨F, c, rfl, _⟩ := h; rfl
  · obtain ⟨F, c, rfl, hF, k⟩ := h
    refine ⟨_, (pss_cons (ps_set (i := 1) sc57.nd rfl (Or.inr rfl) (pe_lst (pa_cons pe_str (pa_cons pe_str (pa_cons pe_str (pa_cons pe_str (pa_cons pe_str (pa_cons pe_str (pa_cons pe_str pa_nil)))))))))
      (pss_one (ps_ret (pe_callTy call_tuple_of (by rfl) T.b_tuple boot_tuple (pa_cons (pe_lc (own := [("_law_k", 2)]) (g := (gName 2)) (tt := tYes) rfl sc57.nd (pi_range1 (by rfl) T.b_range (pa_cons (pe_op op_add pe_int (pe_cal CD hr rfl pass0 (pa_cons (pv 0) (pa_cons pe_int pa_nil)))) pa_nil)) (blkOk_by (N := ["_law_feed_here", "_law_pool", "_law_k"]) (sc := defScope (top 57)) (by decide +kernel)) (fun _ _ _ _ _ => (pg_name (i := 2) sc57.nd rfl (Or.inl rfl))) (fun _ _ _ _ _ => pts_nil) (fun _ _ _ _ _ => (pe_ixL K rfl (pv 1) (pe_cal CD hr rfl pass0 (pa_cons (pv 0) (pa_cons pe_int pa_nil))) (fun _ _ => rfl)))) pa_nil))))), ?_⟩
    refine ⟨small100 (by simp), fun p hp => ?_⟩
    have kp1 : Kp H (upd H p (.lst (pathPool.map V.str))) := kp_new hp
    have hF1 : FeedOk F c (upd H p (.lst (pathPool.map V.str))) := hF.new hp
    have hp1 : (upd H p (.lst (pathPool.map V.str))) p = some (.lst (pathPool.map V.str)) := upd_same
    have hpc := hF.cell hp
    generalize hH1 : upd H p (.lst (pathPool.map V.str)) = H1 at kp1 hF1 hp1
    have hH1' : upd H p (.lst [.str "a", .str "get", .str "lid", .str "none", .str "size", .str "x", .str "zzzzzzzz"]) = H1 := hH1
    rw [hH1']
    refine ⟨_, rfl, F, c, 3, rfl, hF1, by decide, by decide, fun d H2 d0 d1 kp2 hF2 => ⟨1, d, rfl, rfl, 1 + d, rfl, by omega, by omega, ?_⟩⟩
    intro D hD
    have kp12 := kp1.trans kp2
    have hp2 := kp2 _ _ hp1 rfl
    have hDp : D ≠ p := fun e => by rw [e, hp2] at hD; cases hD
    have hDc := hF2.cell hD
    refine lc_all walk_range (by omega) (fun H' => Kp H2 H' ∧ FeedOk F c H') (fun _ y _ => ∃ z, isName z = true ∧ y = .str z) ⟨kp_new hD, hF2.new hD⟩ (fun _ _ => True.intro)
      (fun H' zs r hh => ⟨kp_mut r.1 hD, by obtain ⟨ys, hy⟩ := hh; exact r.2.at hy hDc⟩) (fun _ _ _ _ h _ => h) ?_ ?_
    · rintro i x H3 H4 Q1 hi ⟨r1, r2⟩ _ ⟨rfl, rfl⟩ kq
      refine ⟨rfl, _, rfl, _, rfl, F, c, 7, rfl, r2, by decide, by decide, fun e H5 e0 e1 kp5 hF5 => ?_⟩
      have hp5 := kp5 _ _ (r1 _ _ hp2 rfl) rfl
      obtain ⟨x, hx, _, hat⟩ := at_pick (l := pathPool.map V.str) e0 (by show e < (7 : Int); exact e1)
      obtain ⟨z, hz, rfl⟩ := str_pick hx
      exact ⟨p, _, _, _, rfl, rfl, sq_l hp5, hat, kq _ _ kp5 ⟨r1.trans kp5, hF5⟩ ⟨z, pathPool_ok z hz, rfl⟩⟩
    · rintro ys H3 hl hy ⟨r1, r2⟩ hn
      obtain ⟨q, rfl, hq⟩ := names_of (H := H3) hn
      rw [List.length_map] at hl
      refine ⟨D, _, rfl, .inl ⟨sq_l hy, fun t ht => k _ q _ (kp12.trans (r1.trans (kp_new ht))) (r2.new ht) ⟨?_, hq⟩ ?_ (.tup (sq_t upd_same) (dp_of_strs q))⟩⟩
      · intro e
        rw [e] at hl
        simp at hl
        omega
      · omega

/-! ### what is drawn -/
/-- an expression fit for d, of at most o open operations, at most B signs -/
def GenE (K : PySem.W.Frag) (F c : Addr) (H : Hp) (Q : VK) (d : Due) (o B : Nat) : Prop := ∀ (v : V) (e : Ex) (H' : Hp), Kp H H' → FeedOk F c H' → e.Fits d → e.Wf → e.opens ≤ o → e.m ≤ B → Dp K H' v e.data → Q v H'
theorem path_bd {p : List Str} (h : okPath p) (hl : p.length ≤ 3) : m1 p ≤ 27 := by
  have : ∀ l : List Str, (∀ x ∈ l, isName x = true) → m1 l ≤ 9 * l.length := by
    intro l
    induction l with
    | nil => intro _; exact Nat.le_refl _
    | cons a r ih =>
      intro h
      have h1 := (isName_iff.mp (h a (by simp))).2.1
      have h2 := ih fun x hx => h x (List.mem_cons_of_mem _ hx)
      rw [m1_cons, List.length_cons]; omega
  have := this p h.2
  omega
theorem iw_bd {i : Int} (h : i.natAbs ≤ 1000) : (iw i).length ≤ 5 := iw_len (k := 4) (by omega) (by omega)
theorem okInt_small {i : Int} (h : i.natAbs ≤ 1000) : okInt i := Nat.lt_of_le_of_lt h (by decide)
theorem get_m {p : List Str} {i : Int} (h : okPath p) (hl : p.length ≤ 3) (hi : i.natAbs ≤ 1000) : Ex.m (.get p i) ≤ 40 := by
  have e : Ex.m (.get p i) = ("get" : Str).length + 1 + ((pathW p).length + 1 + ((iw i).length + 1)) := by
    show m1 ("get" :: [pathW p, iw i]) = _
    rw [m1_cons, m1_cons, m1_cons] <;> rfl
  have h1 := path_m h
  have h2 := path_bd h hl
  have h3 := iw_bd hi
  have h4 : ("get" : Str).length = 3 := by decide +kernel
  omega
theorem int_m {i : Int} (hi : i.natAbs ≤ 1000) : Ex.m (.int i) ≤ 40 := by
  have e : Ex.m (.int i) = (iw i).length + 1 := by
    show m1 [iw i] = _
    rw [m1_cons] <;> rfl
  have h3 := iw_bd hi
  omega
theorem sum_m {a b c : Str} (ha : isName a = true) (hb : isName b = true) (hc : isName c = true) : Ex.m (.sum a b c) ≤ 40 := by
  have e : Ex.m (.sum a b c) = ("sum" : Str).length + 1 + (a.length + 1 + (b.length + 1 + (c.length + 1))) := by
    show m1 ("sum" :: [a, b, c]) = _
    rw [m1_cons, m1_cons, m1_cons, m1_cons] <;> rfl
  have h1 := (isName_iff.mp ha).2.1
  have h2 := (isName_iff.mp hb).2.1
  have h3 := (isName_iff.mp hc).2.1
  have h4 : ("sum" : Str).length = 3 := by decide +kernel
  omega
def sumPool : List Str := ["box", "if", "self", "sum", "x"]
theorem sumPool_ok : ∀ z ∈ sumPool, isName z = true := by decide +kernel
def intPool : List Int := [0, 1, -1, 7, -1000, 1000]
theorem intPool_ok : ∀ i ∈ intPool, i.natAbs ≤ 1000 := by decide +kernel
def spLeaf (K : PySem.W.Frag) : Sp := fun vs H Q _ => ∃ (F c : Addr), vs = [.ref F] ∧ FeedOk F c H ∧ GenE K F c H Q .num 0 40
theorem sc58 : FnScope ["_law_feed_here", "_law_way", "_law_pool", "_law_k"] ["_law_feed_here"] (defScope (top 58)) := ⟨rfl, rfl, rfl, by decide +kernel, rfl, by decide +kernel, by decide +kernel⟩
theorem cal_leaf (T : Tx K mg) : Cal P w K mg base CX0 3 "_law_free_leaf" ["_law_feed_here"] (spLeaf K) := by
  have CD := cal_draw (P := P) (w := w) (base := base) T
  have CP := cal_fpath (P := P) (w := w) (base := base) T
  refine T.h58.cal sc58 (fun vs H Q E h => ?_) (fun _ _ _ _ _ _ us hl => match us, hl with | [_], _ => rfl) (fun f cdv A outer s H vs Q E hr h => ?_)
  · obtain ⟨F, c, rfl, _⟩ := h; rfl
  · obtain ⟨F, c, rfl, hF, k⟩ := h
    refine ⟨_, (pss_cons (ps_asg (pe_tup (pa_cons (pe_cal CD (hr.mono (by decide)) rfl pass0 (pa_cons (pv 0) (pa_cons pe_int pa_nil))) (pa_cons (pe_lst (pa_cons pe_str (pa_cons pe_str (pa_cons pe_str (pa_cons pe_str (pa_cons pe_str pa_nil)))))) pa_nil))) (pg_tup rfl (pgs_cons (pg_name (i := 1) sc58.nd rfl (Or.inl rfl)) (pgs_cons (pg_name (i := 2) sc58.nd rfl (Or.inr rfl)) pgs_nil))))
      (pss_cons (ps_if (pt_cmpR op_eq (pv 1) pe_int (nomark _)) (pss_one (ps_ret (pe_op op_catT (pe_tup (pa_cons pe_str pa_nil)) (pe_callTy call_tuple_of (by rfl) T.b_tuple boot_tuple (pa_cons (pe_lc (own := [("_law_k", 3)]) (g := (gName 3)) (tt := tYes) rfl sc58.nd (pi_range1 (by rfl) T.b_range (pa_cons pe_int pa_nil)) (blkOk_by (N := ["_law_feed_here", "_law_way", "_law_pool", "_law_k"]) (sc := defScope (top 58)) (by decide +kernel)) (fun _ _ _ _ _ => (pg_name (i := 3) sc58.nd rfl (Or.inl rfl))) (fun _ _ _ _ _ => pts_nil) (fun _ _ _ _ _ => (pe_ixL K rfl (pv 2) (pe_cal CD (hr.mono (by decide)) rfl pass0 (pa_cons (pv 0) (pa_cons pe_int pa_nil))) (fun _ _ => rfl)))) pa_nil))))) pss_nil)
      (pss_cons (ps_if (pt_cmpR op_gt (pv 1) pe_int (nomark _)) (pss_one (ps_ret (pe_tup (pa_cons pe_str (pa_cons (pe_cal CP hr rfl pass0 (pa_cons (pv 0) pa_nil)) (pa_cons (pe_op op_sub (pe_cal CD (hr.mono (by decide)) rfl pass0 (pa_cons (pv 0) (pa_cons pe_int pa_nil))) pe_int) pa_nil)))))) pss_nil)
      (pss_one (ps_ret (pe_ixL K rfl (pe_lst (pa_cons pe_int (pa_cons pe_int (pa_cons (pe_un un_neg pe_int) (pa_cons pe_int (pa_cons (pe_un un_neg pe_int) (pa_cons pe_int pa_nil))))))) (pe_cal CD (hr.mono (by decide)) rfl pass0 (pa_cons (pv 0) (pa_cons pe_int pa_nil))) (fun _ _ => rfl))))))), ?_⟩
    refine ⟨_, rfl, F, c, 5, rfl, hF, by decide, by decide, fun way H1 w0 w1 kp1 hF1 => ⟨small100 (by simp), fun p hp => ⟨small100 (by simp), fun t ht => ?_⟩⟩⟩
    have sA : Same H1 (upd (upd H1 p (.lst (sumPool.map V.str))) t (.tup [.int way, .ref p])) := (same_new hp).trans (same_new ht)
    refine ⟨t, _, rfl, sq_t upd_same, rfl, _, _, rfl, _, _, rfl, rfl, ?_⟩
    have hF2 := hF1.same sA
    have kp2 := kp1.trans (kp_of sA)
    have hp2 : (upd (upd H1 p (.lst (sumPool.map V.str))) t (.tup [.int way, .ref p])) p = some (.lst (sumPool.map V.str)) := by
      rw [upd_ne (fun e => by rw [← e, upd_same] at ht; cases ht)]; exact upd_same
    have hH2 : upd (upd H1 p (.lst [.str "box", .str "if", .str "self", .str "sum", .str "x"])) t (.tup [.int way, .ref p]) = upd (upd H1 p (.lst (sumPool.map V.str))) t (.tup [.int way, .ref p]) := rfl
    rw [hH2]
    generalize upd (upd H1 p (.lst (sumPool.map V.str))) t (.tup [.int way, .ref p]) = H2 at sA hF2 kp2 hp2 ⊢
    refine ⟨_, rfl, rfl, decide (way = 1), ?_, ?_⟩
    · by_cases e : way = 1
      · rw [decide_eq_true e]; exact congrArg V.bl (decide_eq_true (by rw [e]))
      · rw [decide_eq_false e]; exact congrArg V.bl (decide_eq_false (fun h => e (V.int.inj h)))
    by_cases hw1 : way = 1
    · rw [decide_eq_true hw1]
      refine iteT ⟨small100 (by simp), fun t2 ht2 => ⟨3, rfl, by decide, by decide, ?_⟩⟩
      have hF3 := hF2.new (o := .tup [.str "sum"]) ht2
      have kp3 := kp2.trans (kp_new (o := .tup [.str "sum"]) ht2)
      have hp3 := same_new (o := .tup [.str "sum"]) ht2 _ _ hp2
      have ht3 : (upd H2 t2 (.tup [.str "sum"])) t2 = some (.tup [.str "sum"]) := upd_same
      generalize upd H2 t2 (.tup [.str "sum"]) = H3 at hF3 kp3 hp3 ht3 ⊢
      intro D hD
      have hDp : D ≠ p := fun e => by rw [e, hp3] at hD; cases hD
      have hDc := hF3.cell hD
      refine lc_all walk_range (by decide) (fun H' => Kp H3 H' ∧ FeedOk F c H') (fun _ y _ => ∃ z, isName z = true ∧ y = .str z) ⟨kp_new hD, hF3.new hD⟩ (fun _ _ => True.intro)
        (fun H' zs r hh => ⟨kp_mut r.1 hD, by obtain ⟨ys, hy⟩ := hh; exact r.2.at hy hDc⟩) (fun _ _ _ _ h _ => h) ?_ ?_
      · rintro i x H4 H5 Q1 hi ⟨r1, r2⟩ _ ⟨rfl, rfl⟩ kq
        refine ⟨rfl, _, rfl, _, rfl, F, c, 5, rfl, r2, by decide, by decide, fun e H5 e0 e1 kp5 hF5 => ?_⟩
        have hp5 := kp5 _ _ (r1 _ _ hp3 rfl) rfl
        obtain ⟨x, hx, _, hat⟩ := at_pick (l := sumPool.map V.str) e0 (by show e < (5 : Int); exact e1)
        obtain ⟨z, hz, rfl⟩ := str_pick hx
        exact ⟨p, _, _, _, rfl, rfl, sq_l hp5, hat, kq _ _ kp5 ⟨r1.trans kp5, hF5⟩ ⟨z, sumPool_ok z hz, rfl⟩⟩
      · rintro ys H4 hl hy ⟨r1, r2⟩ hn
        obtain ⟨q, rfl, hq⟩ := names_of (H := H4) hn
        rw [List.length_map] at hl
        obtain ⟨x, y, z, rfl⟩ : ∃ x y z, q = [x, y, z] := by
          match q, hl with
          | [x, y, z], _ => exact ⟨x, y, z, rfl⟩
        have hx := hq x (by simp)
        have hy' := hq y (by simp)
        have hz := hq z (by simp)
        refine ⟨D, _, rfl, .inl ⟨sq_l hy, fun t4 ht4 => ?_⟩⟩
        have s4 := same_new (o := .tup ([x, y, z].map V.str)) ht4
        refine ⟨t2, t4, _, _, rfl, rfl, tk_t (tk_of s4) (sq_t (r1 _ _ ht3 rfl)), sq_t upd_same, by simp, small100 (by simp), fun e => by simp at e, fun _ t5 ht5 => ?_⟩
        refine k _ (.sum x y z) _ (kp3.trans (r1.trans (kp_of (s4.trans (same_new ht5))))) (r2.same (s4.trans (same_new ht5))) True.intro ⟨hx, hy', hz⟩ (Nat.zero_le _) (sum_m hx hy' hz) ?_
        exact .tup (sq_t upd_same) (.cons (.str _) (dp_of_strs [x, y, z]))
    · rw [decide_eq_false hw1]
      refine iteF ⟨_, rfl, way, 2, rfl, rfl, decide (2 < way), rfl, ?_⟩
      by_cases hw2 : 2 < way
      · rw [decide_eq_true hw2]
        refine iteT ⟨_, rfl, F, c, rfl, hF2, fun v q H3 kp3 hF3 hq hql dv => ⟨_, rfl, F, c, 2001, rfl, hF3, by decide, by decide, fun d H4 d0 d1 kp4 hF4 => ⟨d, 1000, rfl, rfl, small100 (by simp), fun t2 ht2 => ?_⟩⟩⟩
        have hd : (d - 1000).natAbs ≤ 1000 := by omega
        refine k _ (.get q (d - 1000)) _ (kp2.trans (kp3.trans (kp4.trans (kp_new ht2)))) (hF4.new ht2) True.intro ⟨hq, okInt_small hd⟩ (Nat.zero_le _) (get_m hq hql hd) ?_
        exact .tup (sq_t upd_same) (.cons (.str _) (.cons (Dp.tk (kp4.tk.trans (tk_of (same_new ht2))) _ _ (by show plainAll (pstrs q); exact pstrs_plain hq.2) dv) (.cons (.int _) .nil)))
      · rw [decide_eq_false hw2]
        refine iteF ⟨1, rfl, 1000, rfl, small100 (by simp), fun p2 hp2' => ⟨_, rfl, F, c, 6, rfl, hF2.new hp2', by decide, by decide, fun d H4 d0 d1 kp4 hF4 => ?_⟩⟩
        obtain ⟨x, hx, _, hat⟩ := at_pick (l := intPool.map V.int) d0 (by show d < (6 : Int); exact d1)
        obtain ⟨j, hj, rfl⟩ := List.mem_map.mp hx
        have hj2 := intPool_ok j hj
        refine ⟨p2, _, _, _, rfl, rfl, sq_l (kp4 _ _ upd_same rfl), hat, k _ (.int j) _ (kp2.trans ((kp_new hp2').trans kp4)) hF4 True.intro (okInt_small hj2) (Nat.zero_le _) (int_m hj2) (.int j)⟩
end
end K12

set_option maxHeartbeats 4000000
/-! G2: drawn conditions, numbers, links. -/
namespace K12
open PySem PySem.Spec PyProof.Rows L2 TL NumText
set_option autoImplicit false
theorem bin_m (o : B2) (a b : Ex) : Ex.m (.bin o a b) = o.w.length + 1 + (a.m + b.m) := by
  show m1 (o.w :: (a.ws ++ b.ws)) = _
  rw [m1_cons, m1_app] <;> rfl
theorem bw_len (o : B2) : o.w.length ≤ 5 := by cases o <;> decide +kernel
theorem not_m (c : Ex) : Ex.m (.not c) = 4 + c.m := by
  show m1 ("not" :: c.ws) = _
  rw [m1_cons]
  have : ("not" : Str).length = 3 := by decide +kernel
  rw [this]; rfl
theorem cond_m (c a b : Ex) : Ex.m (.cond c a b) = 3 + (c.m + (a.m + b.m)) := by
  show m1 ("if" :: (c.ws ++ (a.ws ++ b.ws))) = _
  rw [m1_cons, m1_app, m1_app]
  have : ("if" : Str).length = 2 := by decide +kernel
  rw [this]; rfl
theorem isnone_m {p : List Str} (h : okPath p) (hl : p.length ≤ 3) : Ex.m (.isnone p) ≤ 32 := by
  have e : Ex.m (.isnone p) = ("none" : Str).length + 1 + ((pathW p).length + 1) := by
    show m1 ("none" :: [pathW p]) = _
    rw [m1_cons, m1_cons] <;> rfl
  have h1 := path_m h
  have h2 := path_bd h hl
  have h4 : ("none" : Str).length = 4 := by decide +kernel
  omega
theorem to_m {p : List Str} (h : okPath p) (hl : p.length ≤ 3) : Ex.m (.to p) ≤ 30 := by
  have e : Ex.m (.to p) = ("to" : Str).length + 1 + ((pathW p).length + 1) := by
    show m1 ("to" :: [pathW p]) = _
    rw [m1_cons, m1_cons] <;> rfl
  have h1 := path_m h
  have h2 := path_bd h hl
  have h4 : ("to" : Str).length = 2 := by decide +kernel
  omega
theorem path_plain {p : List Str} (h : okPath p) : plain (dPath p) := by show plainAll (pstrs p); exact pstrs_plain h.2
def spNo2 : Sp := fun vs _ _ _ => vs.length = 2 ∧ False
section
variable {P : Program} {w : World} {K : PySem.W.Frag} {mg : Str → Option Value} {base : Heap}
def spCond (K : PySem.W.Frag) (dp : Int) (o B : Nat) : Sp := fun vs H Q _ => ∃ (F c : Addr), vs = [.ref F, .int dp] ∧ FeedOk F c H ∧ GenE K F c H Q .con o B
theorem sc59 : FnScope ["_law_feed_here", "_law_deep", "_law_way"] ["_law_feed_here", "_law_deep"] (defScope (top 59)) := ⟨rfl, rfl, rfl, by decide +kernel, rfl, by decide +kernel, by decide +kernel⟩
theorem bool_int {a b : Int} : (V.bl (decide (V.int a = V.int b))) = V.bl (decide (a = b)) := by
  by_cases e : a = b
  · rw [decide_eq_true e, decide_eq_true (by rw [e])]
  · rw [decide_eq_false e, decide_eq_false (fun h => e (V.int.inj h))]
theorem cond_step (T : Tx K mg) (dp : Int) (o B k : Nat) (hk : 3 ≤ k) (hB : (dp ≤ 0 ∧ o = 1 ∧ B = 90) ∨ (0 < dp ∧ o = 2 ∧ B = 190)) {spC : Sp} (C : Cal P w K mg base CX0 k "_law_free_condition" ["_law_feed_here", "_law_deep"] spC) (hC : 0 < dp → ∀ vs H Q E, spCond K 0 1 90 vs H Q E → spC vs H Q E) :
    Cal P w K mg base CX0 (k + 1) "_law_free_condition" ["_law_feed_here", "_law_deep"] (spCond K dp o B) := by
  have CD := cal_draw (P := P) (w := w) (base := base) T
  have CP := cal_fpath (P := P) (w := w) (base := base) T
  have CL := cal_leaf (P := P) (w := w) (base := base) T
  refine T.h59.cal sc59 (fun vs H Q E h => ?_) (fun _ _ _ _ _ _ us hl => match us, hl with | [_, _], _ => rfl) (fun f cdv A outer s H vs Q E hr h => ?_)
  · obtain ⟨F, c, rfl, _⟩ := h; rfl
  · obtain ⟨F, c, rfl, hF, kq⟩ := h
    refine ⟨_, (pss_cons (ps_set (i := 2) sc59.nd rfl (Or.inl rfl) (pe_cal CD (hr.mono (Nat.le_trans (by decide) hk)) rfl pass0 (pa_cons (pv 0) (pa_cons pe_int pa_nil))))
      (pss_cons (ps_if (pt_cmpR op_lt (pv 2) pe_int (nomark _)) (pss_one (ps_ret (pe_tup (pa_cons pe_str (pa_cons (pe_cal CP (hr.mono (Nat.le_trans (by decide) hk)) rfl pass0 (pa_cons (pv 0) pa_nil)) pa_nil))))) pss_nil)
      (pss_cons (ps_if (PW.pt (pw_and (pt_cmpR op_gt (pv 1) pe_int (nomark _)) (pw_and1 (pt_cmpR op_eq (pv 2) pe_int (nomark _))))) (pss_one (ps_ret (pe_tup (pa_cons pe_str (pa_cons (pe_cal C hr rfl pass0 (pa_cons (pv 0) (pa_cons pe_int pa_nil))) pa_nil))))) pss_nil)
      (pss_cons (ps_if (PW.pt (pw_and (pt_cmpR op_gt (pv 1) pe_int (nomark _)) (pw_and1 (pt_cmpR op_eq (pv 2) pe_int (nomark _))))) (pss_one (ps_ret (pe_tup (pa_cons pe_str (pa_cons (pe_cal C hr rfl pass0 (pa_cons (pv 0) (pa_cons pe_int pa_nil))) (pa_cons (pe_cal C hr rfl pass0 (pa_cons (pv 0) (pa_cons pe_int pa_nil))) pa_nil)))))) pss_nil)
      (pss_one (ps_ret (pe_tup (pa_cons (pe_ifExp (pt_cmpR op_lt (pv 2) pe_int (nomark _)) pe_str pe_str) (pa_cons (pe_cal CL (hr.mono hk) rfl pass0 (pa_cons (pv 0) pa_nil)) (pa_cons (pe_cal CL (hr.mono hk) rfl pass0 (pa_cons (pv 0) pa_nil)) pa_nil)))))))))), ?_⟩
    refine ⟨_, rfl, F, c, 6, rfl, hF, by decide, by decide, fun way H1 w0 w1 kp1 hF1 => ⟨_, rfl, way, 2, rfl, rfl, decide (way < 2), rfl, ?_⟩⟩
    by_cases h2 : way < 2
    · rw [decide_eq_true h2]
      refine iteT ⟨_, rfl, F, c, rfl, hF1, fun v p H2 kp2 hF2 hp hpl dv => ⟨small100 (by simp), fun t ht => ?_⟩⟩
      have hm := isnone_m hp hpl
      exact kq _ (.isnone p) _ (kp1.trans (kp2.trans (kp_new ht))) (hF2.new ht) True.intro hp (Nat.zero_le _) (by rcases hB with h | h <;> omega) (.tup (sq_t upd_same) (.cons (.str _) (.cons (Dp.tk (tk_of (same_new ht)) _ _ (path_plain hp) dv) .nil)))
    · rw [decide_eq_false h2]
      refine iteF ⟨_, rfl, dp, 0, rfl, rfl, decide (0 < dp), rfl, ?_⟩
      -- the last: two leaves
      by_cases hd : 0 < dp
      case' pos =>
        have hB' : o = 2 ∧ B = 190 := by rcases hB with h | h <;> omega
        rw [decide_eq_true hd]
        refine iteT ⟨_, rfl, rfl, decide (way = 2), bool_int, ?_⟩
        by_cases e2 : way = 2
        case' pos =>
          rw [decide_eq_true e2]
          refine iteT ⟨_, rfl, hC hd _ _ _ _ ⟨F, c, rfl, hF1, fun v e H2 kp2 hF2 he hw ho hm dv => ⟨small100 (by simp), fun t ht => ?_⟩⟩⟩
          exact kq _ (.not e) _ (kp1.trans (kp2.trans (kp_new ht))) (hF2.new ht) he hw (by simp only [Ex.opens]; omega) (by rw [not_m]; omega) (.tup (sq_t upd_same) (.cons (.str _) (.cons (Dp.tk (tk_of (same_new ht)) _ _ (data_plain e hw) dv) .nil)))
        rw [decide_eq_false e2]
        refine iteF ⟨_, rfl, dp, 0, rfl, rfl, decide (0 < dp), rfl, ?_⟩
        rw [decide_eq_true hd]
        refine iteT ⟨_, rfl, rfl, decide (way = 3), bool_int, ?_⟩
        by_cases e3 : way = 3
        case' pos =>
          rw [decide_eq_true e3]
          refine iteT ⟨_, rfl, hC hd _ _ _ _ ⟨F, c, rfl, hF1, fun v e H2 kp2 hF2 he hw ho hm dv => ⟨_, rfl, hC hd _ _ _ _ ⟨F, c, rfl, hF2, fun v' e' H3 kp3 hF3 he' hw' ho' hm' dv' => ⟨small100 (by simp), fun t ht => ?_⟩⟩⟩⟩⟩
          exact kq _ (.bin .and e e') _ (kp1.trans (kp2.trans (kp3.trans (kp_new ht)))) (hF3.new ht) ⟨rfl, he, he'⟩ ⟨hw, hw'⟩ (by simp only [Ex.opens]; omega) (by rw [bin_m]; have := bw_len .and; omega)
            (.tup (sq_t upd_same) (.cons (.str _) (.cons (Dp.tk (kp3.tk.trans (tk_of (same_new ht))) _ _ (data_plain e hw) dv) (.cons (Dp.tk (tk_of (same_new ht)) _ _ (data_plain e' hw') dv') .nil))))
        rw [decide_eq_false e3]
        refine iteF ?_
      case' neg =>
        rw [decide_eq_false hd]
        refine iteF (iteF ⟨_, rfl, dp, 0, rfl, rfl, decide (0 < dp), rfl, ?_⟩)
        rw [decide_eq_false hd]
        refine iteF (iteF ?_)
      all_goals
        refine ⟨_, rfl, way, 4, rfl, rfl, decide (way < 4), rfl, ?_⟩
        by_cases h4 : way < 4
        · rw [decide_eq_true h4]
          refine iteT ⟨_, rfl, F, c, rfl, hF1, fun v e H2 kp2 hF2 he hw ho hm dv => ⟨_, rfl, F, c, rfl, hF2, fun v' e' H3 kp3 hF3 he' hw' ho' hm' dv' => ⟨small100 (by simp), fun t ht => ?_⟩⟩⟩
          exact kq _ (.bin .lt e e') _ (kp1.trans (kp2.trans (kp3.trans (kp_new ht)))) (hF3.new ht) ⟨rfl, he, he'⟩ ⟨hw, hw'⟩ (by simp only [Ex.opens]; rcases hB with h | h <;> omega)
            (by rw [bin_m]; have := bw_len .lt; rcases hB with h | h <;> omega)
            (.tup (sq_t upd_same) (.cons (.str _) (.cons (Dp.tk (kp3.tk.trans (tk_of (same_new ht))) _ _ (data_plain e hw) dv) (.cons (Dp.tk (tk_of (same_new ht)) _ _ (data_plain e' hw') dv') .nil))))
        · rw [decide_eq_false h4]
          refine iteF ⟨_, rfl, F, c, rfl, hF1, fun v e H2 kp2 hF2 he hw ho hm dv => ⟨_, rfl, F, c, rfl, hF2, fun v' e' H3 kp3 hF3 he' hw' ho' hm' dv' => ⟨small100 (by simp), fun t ht => ?_⟩⟩⟩
          exact kq _ (.bin .eq e e') _ (kp1.trans (kp2.trans (kp3.trans (kp_new ht)))) (hF3.new ht) ⟨rfl, he, he'⟩ ⟨hw, hw'⟩ (by simp only [Ex.opens]; rcases hB with h | h <;> omega)
            (by rw [bin_m]; have := bw_len .eq; rcases hB with h | h <;> omega)
            (.tup (sq_t upd_same) (.cons (.str _) (.cons (Dp.tk (kp3.tk.trans (tk_of (same_new ht))) _ _ (data_plain e hw) dv) (.cons (Dp.tk (tk_of (same_new ht)) _ _ (data_plain e' hw') dv') .nil))))
theorem cal_cond0 (T : Tx K mg) : Cal P w K mg base CX0 4 "_law_free_condition" ["_law_feed_here", "_law_deep"] (spCond K 0 1 90) := by
  have C0 : Cal P w K mg base CX0 3 "_law_free_condition" ["_law_feed_here", "_law_deep"] spNo2 :=
    T.h59.cal sc59 (fun vs H Q E h => h.2.elim) (fun _ _ _ _ _ _ us hl => match us, hl with | [_, _], _ => rfl) (fun f cdv A outer s H vs Q E hr h => h.2.elim)
  exact cond_step T 0 1 90 3 (by decide) (.inl ⟨by decide, rfl, rfl⟩) C0 fun h => absurd h (by decide)
theorem cal_cond1 (T : Tx K mg) : Cal P w K mg base CX0 5 "_law_free_condition" ["_law_feed_here", "_law_deep"] (spCond K 1 2 190) :=
  cond_step T 1 2 190 4 (by decide) (.inr ⟨by decide, rfl, rfl⟩) (cal_cond0 T) fun _ _ _ _ _ h => h
/-! ### numbers -/
def spNumb (K : PySem.W.Frag) (dp : Int) (o B : Nat) : Sp := fun vs H Q _ => ∃ (F c : Addr), vs = [.ref F, .int dp] ∧ FeedOk F c H ∧ GenE K F c H Q .num o B
def numOps : List B2 := [.add, .sub, .mul, .least, .most]
theorem numOps_ok : ∀ o ∈ numOps, o.dues = (.num, .num, .num) := by decide +kernel
theorem sc60 : FnScope ["_law_feed_here", "_law_deep", "_law_way", "_law_first", "_law_one"] ["_law_feed_here", "_law_deep"] (defScope (top 60)) := ⟨rfl, rfl, rfl, by decide +kernel, rfl, by decide +kernel, by decide +kernel⟩
theorem num_step (T : Tx K mg) (dp : Int) (o B oc Bc o1 B1 k : Nat) (hk : 3 ≤ k) (h40 : 40 ≤ B) {spC sp1 sp2 : Sp} (CC : Cal P w K mg base CX0 k "_law_free_condition" ["_law_feed_here", "_law_deep"] spC) (C1 : Cal P w K mg base CX0 k "_law_free_number" ["_law_feed_here", "_law_deep"] sp1) (C2 : Cal P w K mg base CX0 k "_law_free_number" ["_law_feed_here", "_law_deep"] sp2)
    (hC : 0 < dp → (∀ vs H Q E, spCond K (dp - 1) oc Bc vs H Q E → spC vs H Q E) ∧ (∀ vs H Q E, spNumb K (dp - 1) o1 B1 vs H Q E → sp1 vs H Q E) ∧ (∀ vs H Q E, spNumb K (dp - 2) 0 40 vs H Q E → sp2 vs H Q E) ∧ oc + 1 ≤ o ∧ o1 + 1 ≤ o ∧ Bc + 83 ≤ B ∧ B1 + B1 + 6 ≤ B) :
    Cal P w K mg base CX0 (k + 1) "_law_free_number" ["_law_feed_here", "_law_deep"] (spNumb K dp o B) := by
  have CD := cal_draw (P := P) (w := w) (base := base) T
  have CL := cal_leaf (P := P) (w := w) (base := base) T
  refine T.h60.cal sc60 (fun vs H Q E h => ?_) (fun _ _ _ _ _ _ us hl => match us, hl with | [_, _], _ => rfl) (fun f cdv A outer s H vs Q E hr h => ?_)
  · obtain ⟨F, c, rfl, _⟩ := h; rfl
  · obtain ⟨F, c, rfl, hF, kq⟩ := h
    refine ⟨_, (pss_cons (ps_set (i := 2) sc60.nd rfl (Or.inl rfl) (pe_cal CD (hr.mono (Nat.le_trans (by decide) hk)) rfl pass0 (pa_cons (pv 0) (pa_cons pe_int pa_nil))))
      (pss_cons (ps_if (PW.pt (pw_or (pt_cmpR op_lt (pv 1) pe_int (nomark _)) (pw_or1 (pt_cmpR op_lt (pv 2) pe_int (nomark _))))) (pss_one (ps_ret (pe_cal CL (hr.mono hk) rfl pass0 (pa_cons (pv 0) pa_nil)))) pss_nil)
      (pss_cons (ps_if (pt_cmpR op_lt (pv 2) pe_int (nomark _)) (pss_cons (ps_set (i := 3) sc60.nd rfl (Or.inl rfl) (pe_cal CC hr rfl pass0 (pa_cons (pv 0) (pa_cons (pe_op op_sub (pv 1) pe_int) pa_nil))))
(pss_one (ps_ret (pe_tup (pa_cons pe_str (pa_cons (pv 3) (pa_cons (pe_cal CL (hr.mono hk) rfl pass0 (pa_cons (pv 0) pa_nil)) (pa_cons (pe_cal C2 hr rfl pass0 (pa_cons (pv 0) (pa_cons (pe_op op_sub (pv 1) pe_int) pa_nil))) pa_nil)))))))) pss_nil)
      (pss_cons (ps_set (i := 4) sc60.nd rfl (Or.inl rfl) (pe_cal C1 hr rfl pass0 (pa_cons (pv 0) (pa_cons (pe_op op_sub (pv 1) pe_int) pa_nil))))
      (pss_one (ps_ret (pe_tup (pa_cons (pe_ixL K rfl (pe_lst (pa_cons pe_str (pa_cons pe_str (pa_cons pe_str (pa_cons pe_str (pa_cons pe_str pa_nil)))))) (pe_op op_sub (pv 2) pe_int) (fun _ _ => rfl)) (pa_cons (pv 4) (pa_cons (pe_cal C1 hr rfl pass0 (pa_cons (pv 0) (pa_cons (pe_op op_sub (pv 1) pe_int) pa_nil))) pa_nil)))))))))), ?_⟩
    refine ⟨_, rfl, F, c, 9, rfl, hF, by decide, by decide, fun way H1 w0 w1 kp1 hF1 => ⟨_, rfl, dp, 1, rfl, rfl, decide (dp < 1), rfl, ?_⟩⟩
    have leaf : GenE K F c H1 Q .num 0 40 := fun v e H2 kp2 hF2 he hw ho hm dv => kq v e H2 (kp1.trans kp2) hF2 he hw (by omega) (by omega) dv
    by_cases h1 : dp < 1
    · rw [decide_eq_true h1]
      exact iteT (iteT ⟨_, rfl, F, c, rfl, hF1, leaf⟩)
    · rw [decide_eq_false h1]
      refine iteF ⟨_, rfl, way, 2, rfl, rfl, decide (way < 2), rfl, ?_⟩
      by_cases h2 : way < 2
      · rw [decide_eq_true h2]
        exact iteT ⟨_, rfl, F, c, rfl, hF1, leaf⟩
      · rw [decide_eq_false h2]
        obtain ⟨g1, g2, g3, b1, b2, b3, b4⟩ := hC (by omega)
        refine iteF ⟨_, rfl, way, 4, rfl, rfl, decide (way < 4), rfl, ?_⟩
        by_cases h4 : way < 4
        · rw [decide_eq_true h4]
          refine iteT ⟨_, rfl, _, rfl, dp, 1, rfl, rfl, g1 _ _ _ _ ⟨F, c, rfl, hF1, fun v e H2 kp2 hF2 he hw ho hm dv => ⟨_, rfl, _, rfl, F, c, rfl, hF2, fun v' e' H3 kp3 hF3 he' hw' ho' hm' dv' => ?_⟩⟩⟩
          refine ⟨_, rfl, _, rfl, dp, 2, rfl, rfl, g3 _ _ _ _ ⟨F, c, rfl, hF3, fun v2 e2 H4 kp4 hF4 he2 hw2 ho2 hm2 dv2 => ⟨small100 (by simp), fun t ht => ?_⟩⟩⟩
          refine kq _ (.cond e e' e2) _ (kp1.trans (kp2.trans (kp3.trans (kp4.trans (kp_new ht))))) (hF4.new ht) ⟨by decide, he, he', he2⟩ ⟨hw, hw', hw2⟩ (by simp only [Ex.opens]; omega) (by rw [cond_m]; omega) ?_
          have t4 := kp4.tk.trans (tk_of (same_new (o := .tup [.str "if", v, v', v2]) ht))
          exact .tup (sq_t upd_same) (.cons (.str _) (.cons (Dp.tk (kp3.tk.trans t4) _ _ (data_plain e hw) dv) (.cons (Dp.tk t4 _ _ (data_plain e' hw') dv') (.cons (Dp.tk (tk_of (same_new ht)) _ _ (data_plain e2 hw2) dv2) .nil))))
        · rw [decide_eq_false h4]
          refine iteF ⟨_, rfl, _, rfl, dp, 1, rfl, rfl, g2 _ _ _ _ ⟨F, c, rfl, hF1, fun v e H2 kp2 hF2 he hw ho hm dv => ⟨small100 (by simp), fun p hp => ?_⟩⟩⟩
          obtain ⟨x, hx, _, hat⟩ := at_pick (l := numOps.map fun o => V.str o.w) (d := way - 4) (by omega) (by show way - 4 < (5 : Int); omega)
          obtain ⟨op, hop, rfl⟩ := List.mem_map.mp hx
          refine ⟨_, rfl, way, 4, rfl, rfl, p, _, _, _, rfl, rfl, sq_l upd_same, hat, _, rfl, _, rfl, _, rfl, dp, 1, rfl, rfl, g2 _ _ _ _ ⟨F, c, rfl, hF2.new hp, fun v' e' H3 kp3 hF3 he' hw' ho' hm' dv' => ⟨small100 (by simp), fun t ht => ?_⟩⟩⟩
          have hd := numOps_ok op hop
          refine kq _ (.bin op e e') _ (kp1.trans (kp2.trans ((kp_new hp).trans (kp3.trans (kp_new ht))))) (hF3.new ht) ?_ ⟨hw, hw'⟩ (by simp only [Ex.opens]; omega) (by rw [bin_m]; have := bw_len op; omega) ?_
          · show op.dues.1 = .num ∧ Ex.Fits op.dues.2.1 e ∧ Ex.Fits op.dues.2.2 e'
            rw [hd]
            exact ⟨rfl, he, he'⟩
          · exact .tup (sq_t upd_same) (.cons (.str _) (.cons (Dp.tk ((tk_of (same_new hp)).trans (kp3.tk.trans (tk_of (same_new ht)))) _ _ (data_plain e hw) dv) (.cons (Dp.tk (tk_of (same_new ht)) _ _ (data_plain e' hw') dv') .nil)))
theorem cond_no (T : Tx K mg) {k : Nat} : Cal P w K mg base CX0 (k + 1) "_law_free_condition" ["_law_feed_here", "_law_deep"] spNo2 :=
  T.h59.cal sc59 (fun vs H Q E h => h.2.elim) (fun _ _ _ _ _ _ us hl => match us, hl with | [_, _], _ => rfl) (fun f cdv A outer s H vs Q E hr h => h.2.elim)
theorem num_no (T : Tx K mg) {k : Nat} : Cal P w K mg base CX0 (k + 1) "_law_free_number" ["_law_feed_here", "_law_deep"] spNo2 :=
  T.h60.cal sc60 (fun vs H Q E h => h.2.elim) (fun _ _ _ _ _ _ us hl => match us, hl with | [_, _], _ => rfl) (fun f cdv A outer s H vs Q E hr h => h.2.elim)
theorem cal_num_low (T : Tx K mg) (dp : Int) (h : dp ≤ 0) : Cal P w K mg base CX0 4 "_law_free_number" ["_law_feed_here", "_law_deep"] (spNumb K dp 0 40) :=
  num_step T dp 0 40 0 0 0 0 3 (by decide) (by decide) (cond_no T) (num_no T) (num_no T) fun z => absurd z (by omega)
theorem cal_num1 (T : Tx K mg) : Cal P w K mg base CX0 5 "_law_free_number" ["_law_feed_here", "_law_deep"] (spNumb K 1 2 180) :=
  num_step T 1 2 180 1 90 0 40 4 (by decide) (by decide) (cal_cond0 T) (cal_num_low T 0 (by decide)) (cal_num_low T (1 - 2) (by decide)) fun _ => ⟨fun _ _ _ _ h => h, fun _ _ _ _ h => h, fun _ _ _ _ h => h, by decide, by decide, by decide, by decide⟩
theorem cal_num2 (T : Tx K mg) : Cal P w K mg base CX0 6 "_law_free_number" ["_law_feed_here", "_law_deep"] (spNumb K 2 3 370) :=
  num_step T 2 3 370 2 190 2 180 5 (by decide) (by decide) (cal_cond1 T) (cal_num1 T) ((cal_num_low T 0 (by decide)).mono (by decide)) fun _ => ⟨fun _ _ _ _ h => h, fun _ _ _ _ h => h, fun _ _ _ _ h => h, by decide, by decide, by decide, by decide⟩
/-! ### links -/
def spLink (K : PySem.W.Frag) (dp : Int) (o B : Nat) : Sp := fun vs H Q _ => ∃ (F c : Addr), vs = [.ref F, .int dp] ∧ FeedOk F c H ∧ GenE K F c H Q .lnk o B
theorem sc61 : FnScope ["_law_feed_here", "_law_deep", "_law_some", "_law_first"] ["_law_feed_here", "_law_deep"] (defScope (top 61)) := ⟨rfl, rfl, rfl, by decide +kernel, rfl, by decide +kernel, by decide +kernel⟩
/-- a link that is one of four -/
def LkOk (K : PySem.W.Frag) (H : Hp) (v : V) : Prop := ∃ e : Ex, Dp K H v e.data ∧ e.Fits .lnk ∧ e.Wf ∧ e.opens = 0 ∧ e.m ≤ 30
theorem LkOk.tk {K : PySem.W.Frag} {H H' : Hp} {v : V} (t : Tk H H') (h : LkOk K H v) : LkOk K H' v := by
  obtain ⟨e, h1, h2⟩ := h
  exact ⟨e, Dp.tk t _ _ (data_plain e h2.2.1) h1, h2⟩
theorem link_step (T : Tx K mg) (dp : Int) (o B o1 B1 k : Nat) (hk : 4 ≤ k) (h30 : 30 ≤ B) {sp1 : Sp} (C1 : Cal P w K mg base CX0 k "_law_free_link" ["_law_feed_here", "_law_deep"] sp1)
    (hC : 0 < dp → (∀ vs H Q E, spLink K (dp - 1) o1 B1 vs H Q E → sp1 vs H Q E) ∧ 2 ≤ o ∧ o1 + 1 ≤ o ∧ B1 + 123 ≤ B) :
    Cal P w K mg base CX0 (k + 1) "_law_free_link" ["_law_feed_here", "_law_deep"] (spLink K dp o B) := by
  have CD := cal_draw (P := P) (w := w) (base := base) T
  have CP := cal_fpath (P := P) (w := w) (base := base) T
  have CC := cal_cond0 (P := P) (w := w) (base := base) T
  refine T.h61.cal sc61 (fun vs H Q E h => ?_) (fun _ _ _ _ _ _ us hl => match us, hl with | [_, _], _ => rfl) (fun f cdv A outer s H vs Q E hr h => ?_)
  · obtain ⟨F, c, rfl, _⟩ := h; rfl
  · obtain ⟨F, c, rfl, hF, kq⟩ := h
    refine ⟨_, (pss_cons (ps_set (i := 2) sc61.nd rfl (Or.inl rfl) (pe_lst (pa_cons pe_non (pa_cons (pe_tup (pa_cons pe_str pa_nil)) (pa_cons (pe_tup (pa_cons pe_str (pa_cons (pe_cal CP (hr.mono (Nat.le_trans (by decide) hk)) rfl pass0 (pa_cons (pv 0) pa_nil)) pa_nil))) (pa_cons (pe_tup (pa_cons pe_str (pa_cons (pe_cal CP (hr.mono (Nat.le_trans (by decide) hk)) rfl pass0 (pa_cons (pv 0) pa_nil)) pa_nil))) pa_nil))))))
      (pss_cons (ps_if (PW.pt (pw_and (pt_cmpR op_gt (pv 1) pe_int (nomark _)) (pw_and1 (pt_cmpR op_gt (pe_cal CD (hr.mono (Nat.le_trans (by decide) hk)) rfl pass0 (pa_cons (pv 0) (pa_cons pe_int pa_nil))) pe_int (nomark _))))) (pss_cons (ps_set (i := 3) sc61.nd rfl (Or.inl rfl) (pe_cal CC (hr.mono hk) rfl pass0 (pa_cons (pv 0) (pa_cons pe_int pa_nil))))
(pss_one (ps_ret (pe_tup (pa_cons pe_str (pa_cons (pv 3) (pa_cons (pe_cal C1 hr rfl pass0 (pa_cons (pv 0) (pa_cons (pe_op op_sub (pv 1) pe_int) pa_nil))) (pa_cons (pe_ixL K rfl (pv 2) (pe_cal CD (hr.mono (Nat.le_trans (by decide) hk)) rfl pass0 (pa_cons (pv 0) (pa_cons pe_int pa_nil))) (fun _ _ => rfl)) pa_nil)))))))) pss_nil)
      (pss_one (ps_ret (pe_ixL K rfl (pv 2) (pe_cal CD (hr.mono (Nat.le_trans (by decide) hk)) rfl pass0 (pa_cons (pv 0) (pa_cons pe_int pa_nil))) (fun _ _ => rfl)))))), ?_⟩
    -- [None, ('self',), ('to', ..), ('to', ..)]
    refine ⟨small100 (by simp), fun t1 ht1 => ⟨_, rfl, F, c, rfl, hF.new ht1, fun v2 p2 H2 kp2 hF2 hp2 hl2 dv2 => ⟨small100 (by simp), fun t2 ht2 => ⟨_, rfl, F, c, rfl, hF2.new ht2, fun v3 p3 H3 kp3 hF3 hp3 hl3 dv3 => ⟨small100 (by simp), fun t3 ht3 => ⟨small100 (by simp), fun L hL => ?_⟩⟩⟩⟩⟩⟩
    have kA : Kp H (upd (upd H3 t3 (.tup [.str "to", v3])) L (.lst [.non, .ref t1, .ref t2, .ref t3])) := (kp_new ht1).trans (kp2.trans ((kp_new ht2).trans (kp3.trans ((kp_new ht3).trans (kp_new hL)))))
    have hFA : FeedOk F c (upd (upd H3 t3 (.tup [.str "to", v3])) L (.lst [.non, .ref t1, .ref t2, .ref t3])) := (hF3.new ht3).new hL
    have hLA : (upd (upd H3 t3 (.tup [.str "to", v3])) L (.lst [.non, .ref t1, .ref t2, .ref t3])) L = some (.lst [.non, .ref t1, .ref t2, .ref t3]) := upd_same
    have ok : ∀ v ∈ [V.non, .ref t1, .ref t2, .ref t3], LkOk K (upd (upd H3 t3 (.tup [.str "to", v3])) L (.lst [.non, .ref t1, .ref t2, .ref t3])) v := by
      have k2L : Tk (upd H2 t2 (.tup [.str "to", v2])) (upd (upd H3 t3 (.tup [.str "to", v3])) L (.lst [.non, .ref t1, .ref t2, .ref t3])) := kp3.tk.trans ((tk_of (same_new ht3)).trans (tk_of (same_new hL)))
      have k1L : Tk (upd H t1 (.tup [.str "self"])) (upd (upd H3 t3 (.tup [.str "to", v3])) L (.lst [.non, .ref t1, .ref t2, .ref t3])) := kp2.tk.trans ((tk_of (same_new ht2)).trans k2L)
      intro v hv
      simp only [List.mem_cons, List.not_mem_nil, or_false] at hv
      rcases hv with rfl | rfl | rfl | rfl
      · refine ⟨.non, .non, True.intro, True.intro, rfl, ?_⟩
        show m1 [dash] ≤ 30
        decide +kernel
      · refine ⟨.self, .tup (tk_t k1L (sq_t upd_same)) (.cons (.str _) .nil), True.intro, True.intro, rfl, ?_⟩
        show m1 ["self"] ≤ 30
        decide +kernel
      · exact ⟨.to p2, .tup (tk_t k2L (sq_t upd_same)) (.cons (.str _) (.cons (Dp.tk ((tk_of (same_new ht2)).trans k2L) _ _ (path_plain hp2) dv2) .nil)), True.intro, hp2, rfl, to_m hp2 hl2⟩
      · exact ⟨.to p3, .tup (tk_t (tk_of (same_new hL)) (sq_t upd_same)) (.cons (.str _) (.cons (Dp.tk ((tk_of (same_new ht3)).trans (tk_of (same_new hL))) _ _ (path_plain hp3) dv3) .nil)), True.intro, hp3, rfl, to_m hp3 hl3⟩
    generalize upd (upd H3 t3 (.tup [.str "to", v3])) L (.lst [.non, .ref t1, .ref t2, .ref t3]) = HA at kA hFA hLA ok ⊢
    refine ⟨_, rfl, dp, 0, rfl, rfl, decide (0 < dp), rfl, ?_⟩
    have fin : ∀ H5, Kp HA H5 → FeedOk F c H5 → ∀ d, 0 ≤ d → d < 4 → ∃ v, atI [V.non, .ref t1, .ref t2, .ref t3] d = some v ∧ LkOk K H5 v ∧ Q v H5 := fun H5 k5 f5 d d0 d1 => by
      obtain ⟨x, hx, _, hat⟩ := at_pick (l := [V.non, .ref t1, .ref t2, .ref t3]) d0 (by show d < (4 : Int); exact d1)
      have hk5 := (ok x hx).tk k5.tk
      obtain ⟨e, h1, h2, h3, h4, h5⟩ := id hk5
      exact ⟨x, hat, hk5, kq x e H5 (kA.trans k5) f5 h2 h3 (by omega) (by omega) h1⟩
    by_cases hd : 0 < dp
    case' pos =>
      obtain ⟨g1, b1, b2, b3⟩ := hC hd
      rw [decide_eq_true hd]
      refine iteT ⟨_, rfl, F, c, 3, rfl, hFA, by decide, by decide, fun d H5 d0 d1 kp5 hF5 => ⟨d, 0, rfl, rfl, decide (0 < d), rfl, ?_⟩⟩
      by_cases hdd : 0 < d
      case' pos =>
        rw [decide_eq_true hdd]
        refine iteT ⟨_, rfl, F, c, rfl, hF5, fun v e H6 kp6 hF6 he hw ho hm dv => ⟨_, rfl, _, rfl, _, rfl, dp, 1, rfl, rfl, g1 _ _ _ _ ⟨F, c, rfl, hF6, fun v' e' H7 kp7 hF7 he' hw' ho' hm' dv' => ?_⟩⟩⟩
        have k57 := kp5.trans (kp6.trans kp7)
        refine ⟨_, rfl, _, rfl, F, c, 4, rfl, hF7, by decide, by decide, fun d2 H8 e0 e1 kp8 hF8 => ?_⟩
        have k58 := k57.trans kp8
        obtain ⟨x, hx, _, hat⟩ := at_pick (l := [V.non, .ref t1, .ref t2, .ref t3]) e0 (by show d2 < (4 : Int); exact e1)
        obtain ⟨e2, h1, h2, h3, h4, h5⟩ := (ok x hx).tk k58.tk
        refine ⟨L, _, _, _, rfl, rfl, sq_l (k58 _ _ hLA rfl), hat, small100 (by simp), fun t ht => ?_⟩
        have t8 := kp8.tk.trans (tk_of (same_new (o := .tup [.str "if", v, v', x]) ht))
        refine kq _ (.cond e e' e2) _ (kA.trans (k58.trans (kp_new ht))) (hF8.new ht) ⟨by decide, he, he', h2⟩ ⟨hw, hw', h3⟩ (by simp only [Ex.opens]; omega) (by rw [cond_m]; omega) ?_
        exact .tup (sq_t upd_same) (.cons (.str _) (.cons (Dp.tk (kp7.tk.trans t8) _ _ (data_plain e hw) dv) (.cons (Dp.tk t8 _ _ (data_plain e' hw') dv') (.cons (Dp.tk (tk_of (same_new ht)) _ _ (data_plain e2 h3) h1) .nil))))
      rw [decide_eq_false hdd]
      refine iteF ⟨_, rfl, _, rfl, F, c, 4, rfl, hF5, by decide, by decide, fun d2 H8 e0 e1 kp8 hF8 => ?_⟩
      obtain ⟨x, hat, _, hq⟩ := fin H8 (kp5.trans kp8) hF8 d2 e0 e1
      exact ⟨L, _, _, _, rfl, rfl, sq_l ((kp5.trans kp8) _ _ hLA rfl), hat, hq⟩
    rw [decide_eq_false hd]
    refine iteF (iteF ⟨_, rfl, _, rfl, F, c, 4, rfl, hFA, by decide, by decide, fun d2 H8 e0 e1 kp8 hF8 => ?_⟩)
    obtain ⟨x, hat, _, hq⟩ := fin H8 kp8 hF8 d2 e0 e1
    exact ⟨L, _, _, _, rfl, rfl, sq_l (kp8 _ _ hLA rfl), hat, hq⟩
theorem link_no (T : Tx K mg) {k : Nat} : Cal P w K mg base CX0 (k + 1) "_law_free_link" ["_law_feed_here", "_law_deep"] spNo2 :=
  T.h61.cal sc61 (fun vs H Q E h => h.2.elim) (fun _ _ _ _ _ _ us hl => match us, hl with | [_, _], _ => rfl) (fun f cdv A outer s H vs Q E hr h => h.2.elim)
theorem cal_link0 (T : Tx K mg) : Cal P w K mg base CX0 5 "_law_free_link" ["_law_feed_here", "_law_deep"] (spLink K 0 0 30) :=
  link_step T 0 0 30 0 0 4 (by decide) (by decide) (link_no T) fun z => absurd z (by decide)
theorem cal_link1 (T : Tx K mg) : Cal P w K mg base CX0 6 "_law_free_link" ["_law_feed_here", "_law_deep"] (spLink K 1 2 160) :=
  link_step T 1 2 160 0 30 5 (by decide) (by decide) (cal_link0 T) fun _ => ⟨fun _ _ _ _ h => h, by decide, by decide, by decide⟩
theorem cal_link2 (T : Tx K mg) : Cal P w K mg base CX0 7 "_law_free_link" ["_law_feed_here", "_law_deep"] (spLink K 2 3 290) :=
  link_step T 2 3 290 2 160 6 (by decide) (by decide) (cal_link1 T) fun _ => ⟨fun _ _ _ _ h => h, by decide, by decide, by decide⟩
/-! ### any -/
def wayD (i : Int) : Due := if i = 0 then .num else if i = 1 then .con else .lnk
def spAny (K : PySem.W.Frag) : Sp := fun vs H Q _ => ∃ (F c : Addr) (i : Int), vs = [.ref F, .int i] ∧ FeedOk F c H ∧ GenE K F c H Q (wayD i) 3 400
theorem sc62 : FnScope ["_law_feed_here", "_law_way"] ["_law_feed_here", "_law_way"] (defScope (top 62)) := ⟨rfl, rfl, rfl, by decide +kernel, rfl, by decide +kernel, by decide +kernel⟩
theorem GenE.mono {F c : Addr} {H : Hp} {Q : VK} {d : Due} {o B o' B' : Nat} (h : GenE K F c H Q d o B) (ho : o' ≤ o) (hB : B' ≤ B) : GenE K F c H Q d o' B' := fun v e H' k f a b c' d' e' => h v e H' k f a b (by omega) (by omega) e'
theorem cal_any (T : Tx K mg) : Cal P w K mg base CX0 8 "_law_free_any" ["_law_feed_here", "_law_way"] (spAny K) := by
  have CN := cal_num2 (P := P) (w := w) (base := base) T
  have CC := cal_cond1 (P := P) (w := w) (base := base) T
  have CL := cal_link2 (P := P) (w := w) (base := base) T
  refine T.h62.cal sc62 (fun vs H Q E h => ?_) (fun _ _ _ _ _ _ us hl => match us, hl with | [_, _], _ => rfl) (fun f cdv A outer s H vs Q E hr h => ?_)
  · obtain ⟨F, c, i, rfl, _⟩ := h; rfl
  · obtain ⟨F, c, i, rfl, hF, kq⟩ := h
    refine ⟨_, (pss_cons (ps_if (pt_cmpR op_eq (pv 1) pe_int (nomark _)) (pss_one (ps_ret (pe_cal CN (hr.mono (by decide)) rfl pass0 (pa_cons (pv 0) (pa_cons pe_int pa_nil))))) pss_nil)
      (pss_one (ps_ret (pe_ifExp (pt_cmpR op_eq (pv 1) pe_int (nomark _)) (pe_cal CC (hr.mono (by decide)) rfl pass0 (pa_cons (pv 0) (pa_cons pe_int pa_nil))) (pe_cal CL hr rfl pass0 (pa_cons (pv 0) (pa_cons pe_int pa_nil))))))), ?_⟩
    refine ⟨_, rfl, rfl, decide (i = 0), bool_int, ?_⟩
    by_cases h0 : i = 0
    · rw [decide_eq_true h0]
      have e : wayD i = .num := by unfold wayD; rw [if_pos h0]
      rw [e] at kq
      exact iteT ⟨_, rfl, F, c, rfl, hF, kq.mono (by decide) (by decide)⟩
    · rw [decide_eq_false h0]
      refine iteF ⟨_, rfl, rfl, decide (i = 1), bool_int, ?_⟩
      by_cases h1 : i = 1
      · rw [decide_eq_true h1]
        have e : wayD i = .con := by unfold wayD; rw [if_neg h0, if_pos h1]
        rw [e] at kq
        exact iteT ⟨_, rfl, F, c, rfl, hF, kq.mono (by decide) (by decide)⟩
      · rw [decide_eq_false h1]
        have e : wayD i = .lnk := by unfold wayD; rw [if_neg h0, if_neg h1]
        rw [e] at kq
        exact iteF ⟨_, rfl, F, c, rfl, hF, kq.mono (by decide) (by decide)⟩
end
end K12

set_option maxHeartbeats 4000000
/-! G3: drawn forms. -/
namespace K12
open PySem PySem.Spec PyProof.Rows L2 TL NumText
set_option autoImplicit false
theorem lt_total : ∀ a b : List Nat, ¬ b < a → a ≠ b → a < b
  | [], [], _, h => absurd rfl h
  | [], _ :: _, _, _ => List.nil_lt_cons _ _
  | _ :: _, [], h, _ => absurd (List.nil_lt_cons _ _) h
  | x :: a, y :: b, h, hn => by
    rw [List.cons_lt_cons_iff] at h ⊢
    rcases Nat.lt_trichotomy x y with h1 | h1 | h1
    · exact .inl h1
    · subst h1
      exact .inr ⟨rfl, lt_total a b (fun z => h (.inr ⟨rfl, z⟩)) (fun e => hn (by rw [e]))⟩
    · exact absurd (.inl h1) h
theorem rises_of_sorted : ∀ (l : List Str), sortedS l = true → l.Nodup → rises l = true
  | [], _, _ => rfl
  | [_], _, _ => rfl
  | a :: b :: r, h, hn => by
    have h' : (!ltCps b.cps.toList a.cps.toList && risingS b r) = true := by simpa [sortedS, risingS] using h
    rw [Bool.and_eq_true] at h'
    obtain ⟨n1, n2⟩ := List.nodup_cons.mp hn
    have hr := rises_of_sorted (b :: r) h'.2 n2
    show (decide (tl a < tl b) && rises (b :: r)) = true
    rw [hr, Bool.and_true]
    refine decide_eq_true (lt_total _ _ (fun hh => ?_) fun e => n1 (by rw [ext_tl e]; exact List.mem_cons_self))
    have h1 := h'.1
    rw [ltCps_eq] at h1
    have : decide (b.cps.toList < a.cps.toList) = true := decide_eq_true hh
    rw [this] at h1
    cases h1
def stK (kvs : List (Str × V)) : List (Key × V) := kvs.map fun p => (.inr p.1, p.2)
theorem valV_st : ∀ (l : List (Str × V)) (x : Str), valV (stK l) (.inr x) = l.lookup x
  | [], x => rfl
  | (y, a) :: l, x => by
    have ih := valV_st l x
    unfold valV stK at ih ⊢
    rw [List.lookup_cons, List.map_cons, List.find?_cons]
    by_cases h : x = y
    · subst h; simp
    · have h1 : (x == y) = false := by simpa using h
      have h2 : decide ((Sum.inr y : Key) = Sum.inr x) = false := decide_eq_false (fun z => h (Sum.inr.inj z).symm)
      rw [h1, h2]
      exact ih
theorem merge_nd : ∀ (l acc : List (Key × V)), ((acc ++ l).map (·.1)).Nodup → mergeK acc l = acc ++ l
  | [], acc, _ => by rw [List.append_nil]; rfl
  | p :: l, acc, h => by
    have hk : p.1 ∉ acc.map (·.1) := by
      rw [List.map_append, List.nodup_append] at h
      exact fun hm => h.2.2 _ hm _ (by simp) rfl
    have e : putK acc p.1 p.2 = acc ++ [p] := by
      unfold putK
      rw [if_neg]
      intro ha
      rw [List.any_eq_true] at ha
      obtain ⟨q, hq, hd⟩ := ha
      exact hk (List.mem_map.mpr ⟨q, hq, of_decide_eq_true hd⟩)
    show mergeK (putK acc p.1 p.2) l = _
    rw [e, merge_nd l (acc ++ [p]) (by simpa using h)]
    simp
/-- the pairs of a list of fields -/
theorem ent_open {K : PySem.W.Frag} {H : Hp} : ∀ {xs : List V} {f : Form}, DpAll K H xs (f.map fldD) → ∃ (ps : List Addr) (kvs : List (Str × V)), xs = ps.map V.ref ∧ Paired (fun (p : Addr) (q : Key × V) => SqT K H p [kV q.1, q.2]) ps (stK kvs) ∧ kvs.map (·.1) = f.map (·.1) ∧
    ∀ z, match f.lookup z with | none => kvs.lookup z = none | some kd => ∃ v, kvs.lookup z = some v ∧ Dp K H v kd.data
  | xs, [], h => by
    cases h
    exact ⟨[], [], rfl, .nil, rfl, fun z => rfl⟩
  | xs, (n, kd) :: f, h => by
    cases h with
    | cons h1 h2 =>
      obtain ⟨ps, kvs, rfl, e2, e3, e4⟩ := ent_open h2
      obtain ⟨a, v, rfl, hs, hv⟩ := fld_cases h1
      refine ⟨a :: ps, (n, v) :: kvs, rfl, .cons hs e2, by simp [e3], fun z => ?_⟩
      rw [List.lookup_cons, List.lookup_cons]
      cases z == n with
      | true => exact ⟨v, rfl, hv⟩
      | false => exact e4 z
theorem lookup_mem {α : Type} {f : List (Str × α)} {z : Str} (h : z ∈ f.map (·.1)) : ∃ k, f.lookup z = some k ∧ (z, k) ∈ f := by
  induction f with
  | nil => simp at h
  | cons p r ih =>
    obtain ⟨n, k⟩ := p
    rw [List.lookup_cons]
    by_cases e : z = n
    · subst e
      rw [beq_self_eq_true]
      exact ⟨k, rfl, by simp⟩
    · have h' : z ∈ r.map (·.1) := by simpa [e] using h
      obtain ⟨k', h1, h2⟩ := ih h'
      rw [show (z == n) = false by simpa using e]
      exact ⟨k', h1, List.mem_cons_of_mem _ h2⟩
/-- data from what is told of each place -/
theorem dpAll_of {K : PySem.W.Frag} {H : Hp} : ∀ {ys : List V} {ds : List PyData}, ys.length = ds.length → (∀ (i : Nat) (y : V), ys[i]? = some y → ∃ d, ds[i]? = some d ∧ Dp K H y d) → DpAll K H ys ds
  | [], [], _, _ => .nil
  | y :: ys, d :: ds, hl, h => by
    obtain ⟨d', e1, e2⟩ := h 0 y rfl
    obtain rfl : d = d' := by simpa using e1
    exact .cons e2 (dpAll_of (by simpa using hl) fun i y e => by simpa using h (i + 1) y (by simpa using e))
  | [], _ :: _, hl, _ => by simp at hl
  | _ :: _, [], hl, _ => by simp at hl
section
variable {P : Program} {w : World} {K : PySem.W.Frag} {mg : Str → Option Value} {base : Heap}
def spOrdered (K : PySem.W.Frag) : Sp := fun vs H Q _ => ∃ (L : Addr) (xs : List V) (f : Form), vs = [.ref L] ∧ SqL K H L xs ∧ DpAll K H xs (f.map fldD) ∧ (∀ x ∈ f, isName x.1 = true ∧ x.2.Ok) ∧ (f.map (·.1)).Nodup ∧ f.length ≤ 10 ∧
  ∀ v g H', Same H H' → Form.Ok g → g.length = f.length → Dp K H' v (Form.data g) → Q v H'
theorem sc55 : FnScope ["_law_entries", "_law_known", "_law_slot"] ["_law_entries"] (defScope (top 55)) := ⟨rfl, rfl, rfl, by decide +kernel, rfl, by decide +kernel, by decide +kernel⟩
theorem cal_ordered (T : Tx K mg) : Cal P w K mg base CX0 1 "_law_ordered" ["_law_entries"] (spOrdered K) := by
  refine T.h55.cal sc55 (fun vs H Q E h => ?_) (fun _ _ _ _ _ _ us hl => match us, hl with | [_], _ => rfl) (fun fn cdv A outer s H vs Q E hr h => ?_)
  · obtain ⟨L, xs, f, rfl, _⟩ := h; rfl
  · obtain ⟨L, xs, f, rfl, hs, hd, ok, nd, hl, k⟩ := h
    refine ⟨_, (pss_cons (ps_set (i := 1) sc55.nd rfl (Or.inr rfl) (pe_callTy (call_dictP rfl) (by rfl) T.b_dict boot_dict (pa_cons (pv 0) pa_nil)))
      (pss_one (ps_ret (pe_callTy call_tuple_of (by rfl) T.b_tuple boot_tuple (pa_cons (pe_lc (own := [("_law_slot", 2)]) (g := (gName 2)) (tt := tYes) rfl sc55.nd (pi_list (pe_callB (call_sortedD rfl) (by rfl) T.b_sorted (by decide +kernel) (pa_cons (pv 1) pa_nil))) (blkOk_by (N := ["_law_entries", "_law_known", "_law_slot"]) (sc := defScope (top 55)) (by decide +kernel)) (fun _ _ _ _ _ => (pg_name (i := 2) sc55.nd rfl (Or.inl rfl))) (fun _ _ _ _ _ => pts_nil) (fun _ _ _ _ _ => (pe_tup (pa_cons (pv 2) (pa_cons (pe_dget (hu_of hr) (pv 1) (pv 2) (fun _ _ => rfl)) pa_nil))))) pa_nil))))), ?_⟩
    obtain ⟨ps, kvs, rfl, hp, hk, hlk⟩ := ent_open hd
    have ekeys : (stK kvs).map (·.1) = (f.map (·.1)).map Sum.inr := by
      unfold stK
      rw [List.map_map, ← hk, List.map_map]; rfl
    have hmg : mergeK [] (stK kvs) = stK kvs := merge_nd _ [] (by rw [List.nil_append, ekeys]; exact List.Pairwise.map Sum.inr (fun a b (h : a ≠ b) z => h (Sum.inr.inj z)) nd)
    refine ⟨_, rfl, L, ps, stK kvs, rfl, hs, hp, fun d hdd => ?_⟩
    rw [hmg]
    have s1 : Same H (upd H d (.dK (stK kvs))) := same_new hdd
    have hd1 : (upd H d (.dK (stK kvs))) d = some (.dK (stK kvs)) := upd_same
    generalize upd H d (.dK (stK kvs)) = H1 at s1 hd1 ⊢
    refine ⟨_, rfl, d, stK kvs, f.map (·.1), rfl, .inl hd1, ekeys, by rw [List.length_map]; omega, fun ys p hperm hsort hp1 => ⟨p, rfl, ⟨_, sq_l upd_same⟩, fun D hD => ?_⟩⟩
    have hys : ys.length = f.length := by rw [hperm.length_eq, List.length_map]
    have s2 : Same H1 (upd H1 p (.lst (ys.map V.str))) := same_new hp1
    have hp2 : (upd H1 p (.lst (ys.map V.str))) p = some (.lst (ys.map V.str)) := upd_same
    have hd2 := s2 _ _ hd1
    generalize upd H1 p (.lst (ys.map V.str)) = H2 at s2 hp2 hd2 hD ⊢
    have s12 := s1.trans s2
    refine lc_all walk_list (by rw [List.length_map]; omega) (fun H' => Same H2 H') (fun i v H' => ∃ z kd, ys[i]? = some z ∧ f.lookup z = some kd ∧ (z, kd) ∈ f ∧ Dp K H' v (fldD (z, kd))) (same_new hD) (fun H' s => sq_l (s _ _ hp2)) (fun H' zs r _ => same_mut r hD)
      (fun i y H3 H4 ⟨z, kd, a1, a2, a3, a4⟩ t => ⟨z, kd, a1, a2, a3, Dp.tk t _ _ (fld_plain (ok _ a3).1 (ok _ a3).2) a4⟩) ?_ ?_
    · rintro i x H3 H4 Q1 hi r _ ⟨rfl, hx⟩ kq
      obtain ⟨z, hz, rfl⟩ := strs_get hx
      have hzm : z ∈ f.map (·.1) := hperm.mem_iff.mp (List.mem_of_getElem? hz)
      obtain ⟨kd, l1, l2⟩ := lookup_mem hzm
      have := hlk z
      rw [l1] at this
      obtain ⟨v, v1, v2⟩ := this
      refine ⟨rfl, _, rfl, _, rfl, _, rfl, d, v, rfl, ?_, small100 (by simp), fun t ht => ?_⟩
      · have := DGet.k (k := .inr z) (r _ _ hd2)
        rw [valV_st, v1] at this
        exact this
      · have t4 : Tk H H4 := (tk_of s12).trans (tk_of r)
        exact kq _ _ (kp_new ht) (r.trans (same_new ht)) ⟨z, kd, hz, l1, l2, .tup (sq_t upd_same) (.cons (.str _) (.cons (Dp.tk (t4.trans (tk_of (same_new ht))) _ _ (kd_plain (ok _ l2).2) v2) .nil))⟩
    · rintro zs H3 hzl hz r hP
      rw [List.length_map] at hzl
      refine ⟨D, _, rfl, .inl ⟨sq_l hz, fun t ht => ?_⟩⟩
      have hsub : ∀ z ∈ ys, ∃ kd, f.lookup z = some kd ∧ (z, kd) ∈ f := fun z hz => lookup_mem (hperm.mem_iff.mp hz)
      refine k _ (ys.map fun z => (z, (f.lookup z).getD (.cls z))) _ (s12.trans (r.trans (same_new ht))) ⟨fun x hx => ?_, ?_⟩ (by rw [List.length_map, hys]) ?_
      · obtain ⟨z, hzm, rfl⟩ := List.mem_map.mp hx
        obtain ⟨kd, l1, l2⟩ := hsub z hzm
        rw [l1]
        exact ok _ l2
      · rw [List.map_map]
        have : (ys.map ((fun x => x.1) ∘ fun z => (z, (f.lookup z).getD (.cls z)))) = ys := by
          rw [show ((fun x : Str × Kd => x.1) ∘ fun z => (z, (f.lookup z).getD (.cls z))) = id from rfl, List.map_id]
        rw [this]
        exact rises_of_sorted ys hsort (hperm.nodup_iff.mpr nd)
      · refine .tup (sq_t upd_same) (Dp.tkAll (tk_of (same_new ht)) _ _ ?_ (dpAll_of (by rw [hzl, List.length_map, List.length_map]) fun i y hy => ?_))
        · exact form_plain fun x hx => by
            obtain ⟨z, hzm, rfl⟩ := List.mem_map.mp hx
            obtain ⟨kd, l1, l2⟩ := hsub z hzm
            rw [l1]
            exact ok _ l2
        · obtain ⟨z, kd, a1, a2, a3, a4⟩ := hP i y hy
          refine ⟨_, ?_, a4⟩
          rw [List.getElem?_map, List.getElem?_map, a1]
          simp [a2]
end
end K12

set_option maxHeartbeats 4000000
/-! G4: _law_schema. -/
namespace K12
open PySem PySem.Spec PyProof.Rows L2 TL NumText
set_option autoImplicit false
/-- o.pop(e), K named -/
theorem pe_popK {X : Cx} (K : PySem.W.Frag) (hK : X.K = K) {o e : Expr} {es : List Expr} {to : TE} {t : TA} {apos cpos : Pos} (ho : PE X o to) (ha : PA X (e :: es) t)
    (hbase : attributeBase o "pop" X.env (eval o X.env) = eval o X.env := by rfl)
    (hfew : ((backTo cpos (starEach (e :: es) X.env)).all (fun x => !x.1) && (backToKw cpos (keywordEach [] X.env)).all (fun x => x.1.isSome)
      && decide ((e :: es).length + ([] : List Keyword).length + (if ([] : List Keyword).isEmpty then 0 else 1) < 30)) = true := by rfl)
    (hline : (apos.endLine == cpos.line) = true := by rfl) (hs : starEach (e :: es) X.env = (false, eval e X.env) :: starEach es X.env := by rfl) (hplain : (backTo cpos (starEach es X.env)).any (·.1) = false := by rfl) :
    PE X (.Call (.Attribute o "pop" apos) (e :: es) [] cpos) (tBM K "list" rPopAt to t) := by
  subst hK
  exact pe_bm PySem.F.plainAttrs_list PySem.F.slot_list_pop PySem.F.type_list_pop mt_popAt ho ha hbase hfew hline hs hplain
theorem call_len_K {X : Cx} (K : PySem.W.Frag) (hK : X.K = K) : CallR X (.builtin "len") (fun xs H Q => ∃ p ys, xs = [.ref p] ∧ (SqL K H p ys ∨ SqT K H p ys) ∧ Q (.int ys.length) H) := by
  subst hK; exact call_len_seq
theorem seq_at {n : Nat} {d : Int} (h0 : 0 ≤ d) (h1 : d < (n : Int)) : seqIndex? d n = some d.toNat := PySem.StrLaws.seqIndex_nonneg h0 h1
def titlePool : List Str := ["a", "box", "get", "lid", "zzzzzzzz"]
theorem titlePool_ok : ∀ z ∈ titlePool, isName z = true := by decide +kernel
def slotPool : List Str := ["a", "if", "lid", "none", "of", "size", "x"]
theorem slotPool_ok : ∀ z ∈ slotPool, isName z = true := by decide +kernel
theorem titlePool_nd : titlePool.Nodup := by decide +kernel
theorem slotPool_nd : slotPool.Nodup := by decide +kernel
theorem perm_erase {α : Type} : ∀ (l : List α) (i : Nat) (h : i < l.length), l.Perm (l[i] :: l.eraseIdx i)
  | a :: l, 0, _ => List.Perm.refl _
  | a :: l, i + 1, h => by
    have h' : i < l.length := by simpa using h
    show (a :: l).Perm (l[i] :: a :: l.eraseIdx i)
    exact ((perm_erase l i h').cons a).trans (List.Perm.swap _ _ _)
theorem kp_mut' {H H' : Hp} {p : Addr} {o : HO} (e : Kp H H') (n : ∀ u, H p = some u → Stb u = false) : Kp H (upd H' p o) := fun b u ha hs => by
  have hb : b ≠ p := fun z => by rw [z] at ha; rw [n u ha] at hs; cases hs
  rw [upd_ne hb]
  exact e b u ha hs
theorem fresh_kp {H H' : Hp} {p : Addr} (e : Kp H H') (h : H' p = none) : ∀ u, H p = some u → Stb u = false := fun u hu => free_kp e h hu
/-- a name is taken out of what is left -/
theorem perm_take {us ws pool : List Str} {i : Nat} {z : Str} (h : (us ++ ws).Perm pool) (hz : ws[i]? = some z) : ((us ++ [z]) ++ ws.eraseIdx i).Perm pool := by
  obtain ⟨hl, e⟩ := List.getElem?_eq_some_iff.mp hz
  have h1 : ws.Perm (z :: ws.eraseIdx i) := by
    rw [← e]
    exact perm_erase ws i hl
  refine List.Perm.trans ?_ h
  rw [List.append_assoc]
  exact List.Perm.append_left us (by simpa using h1.symm)
def lowPool : List Int := [0, 0, -3, 5, -1000, 990]
def upPool : List Int := [0, 1, 3, 9]
theorem lowPool_ok : ∀ i ∈ lowPool, -1000 ≤ i ∧ i ≤ 990 := by decide +kernel
theorem upPool_ok : ∀ i ∈ upPool, 0 ≤ i ∧ i ≤ 9 := by decide +kernel
def schD (g : Str × Form) : PyData := .tuple [.str g.1, g.2.data]
section
variable {P : Program} {w : World} {K : PySem.W.Frag} {mg : Str → Option Value} {base : Heap}
def SchOk (gs : List (Str × Form)) : Prop := gs ≠ [] ∧ gs.length ≤ 3 ∧ ∀ g ∈ gs, isName g.1 = true ∧ g.2.Ok ∧ g.2.length ≤ 4
def spSchema (K : PySem.W.Frag) : Sp := fun vs H Q _ => ∃ (F c : Addr), vs = [.ref F] ∧ FeedOk F c H ∧ ∀ v gs H', Kp H H' → FeedOk F c H' → SchOk gs → Dp K H' v (.tuple (gs.map schD)) → Q v H'
theorem sc54 : FnScope ["_law_feed_here", "_law_pool", "_law_found", "_law_names", "_law_k", "_law_title", "_law_slots", "_law_entries", "_law_slot", "_law_low", "_law_sort"] ["_law_feed_here"] (defScope (top 54)) := ⟨rfl, rfl, rfl, by decide +kernel, rfl, by decide +kernel, by decide +kernel⟩
theorem cal_schema (T : Tx K mg) : Cal P w K mg base CX0 2 "_law_schema" ["_law_feed_here"] (spSchema K) := by
  have CD := cal_draw (P := P) (w := w) (base := base) T
  have CO := cal_ordered (P := P) (w := w) (base := base) T
  refine T.h54.cal sc54 (fun vs H Q E h => ?_) (fun _ _ _ _ _ _ us hl => match us, hl with | [_], _ => rfl) (fun f cdv A outer s H vs Q E hr h => ?_)
  · obtain ⟨F, c, rfl, _⟩ := h; rfl
  · obtain ⟨F, c, rfl, hF, k⟩ := h
    refine ⟨_, (pss_cons (ps_asg (pe_tup (pa_cons (pe_lst (pa_cons pe_str (pa_cons pe_str (pa_cons pe_str (pa_cons pe_str (pa_cons pe_str pa_nil)))))) (pa_cons (pe_lst pa_nil) pa_nil))) (pg_tup rfl (pgs_cons (pg_name (i := 1) sc54.nd rfl (Or.inr rfl)) (pgs_cons (pg_name (i := 2) sc54.nd rfl (Or.inl rfl)) pgs_nil))))
      (pss_cons (ps_set (i := 3) sc54.nd rfl (Or.inl rfl) (pe_callB cr_sortedS (by rfl) T.b_sorted (by decide +kernel) (pa_cons (pe_lc (own := [("_law_k", 4)]) (g := (gName 4)) (tt := tYes) rfl sc54.nd (pi_range1 (by rfl) T.b_range (pa_cons (pe_op op_add pe_int (pe_cal CD hr rfl pass0 (pa_cons (pv 0) (pa_cons pe_int pa_nil)))) pa_nil)) (blkOk_by (N := ["_law_feed_here", "_law_pool", "_law_found", "_law_names", "_law_k", "_law_title", "_law_slots", "_law_entries", "_law_slot", "_law_low", "_law_sort"]) (sc := defScope (top 54)) (by decide +kernel)) (fun _ _ _ _ _ => (pg_name (i := 4) sc54.nd rfl (Or.inl rfl))) (fun _ _ _ _ _ => pts_nil) (fun _ _ _ _ _ => (pe_popK K rfl (pv 1) (pa_cons (pe_cal CD hr rfl pass0 (pa_cons (pv 0) (pa_cons (pe_callB (call_len_K K rfl) (by rfl) T.b_len PySem.boot_len (pa_cons (pv 1) pa_nil)) pa_nil))) pa_nil)))) pa_nil)))
      (pss_cons (ps_for PassesOwn.never rfl (pi_list (pv 3)) (pg_name (i := 5) sc54.nd rfl (Or.inl rfl)) (pss_cons (ps_par (i := 6) (j := 7) rfl sc54.nd rfl rfl (by decide) rfl rfl (pa_cons (pe_lst (pa_cons pe_str (pa_cons pe_str (pa_cons pe_str (pa_cons pe_str (pa_cons pe_str (pa_cons pe_str (pa_cons pe_str pa_nil)))))))) (pa_cons (pe_lst pa_nil) pa_nil)) (by rfl))
(pss_cons (ps_for PassesOwn.never rfl (pi_range1 (by rfl) T.b_range (pa_cons (pe_cal CD hr rfl pass0 (pa_cons (pv 0) (pa_cons pe_int pa_nil))) pa_nil)) (pg_name (i := 4) sc54.nd rfl (Or.inl rfl)) (pss_cons (ps_set (i := 8) sc54.nd rfl (Or.inl rfl) (pe_bm PySem.F.plainAttrs_list PySem.F.slot_list_pop PySem.F.type_list_pop mt_popAt (pv 6) (pa_cons (pe_cal CD hr rfl pass0 (pa_cons (pv 0) (pa_cons (pe_callB call_len_seq (by rfl) T.b_len PySem.boot_len (pa_cons (pv 6) pa_nil)) pa_nil))) pa_nil)))
(pss_cons (ps_set (i := 9) sc54.nd rfl (Or.inl rfl) (pe_ixL K rfl (pe_lst (pa_cons pe_int (pa_cons pe_int (pa_cons (pe_un un_neg pe_int) (pa_cons pe_int (pa_cons (pe_un un_neg pe_int) (pa_cons pe_int pa_nil))))))) (pe_cal CD hr rfl pass0 (pa_cons (pv 0) (pa_cons pe_int pa_nil))) (fun _ _ => rfl)))
(pss_cons (ps_set (i := 10) sc54.nd rfl (Or.inl rfl) (pe_tup (pa_cons (pv 9) (pa_cons (pe_op op_add (pv 9) (pe_ixL K rfl (pe_lst (pa_cons pe_int (pa_cons pe_int (pa_cons pe_int (pa_cons pe_int pa_nil))))) (pe_cal CD hr rfl pass0 (pa_cons (pv 0) (pa_cons pe_int pa_nil))) (fun _ _ => rfl))) pa_nil))))
(pss_cons (ps_if (pt_cmpR op_eq (pe_cal CD hr rfl pass0 (pa_cons (pv 0) (pa_cons pe_int pa_nil))) pe_int (nomark _)) (pss_one (ps_set (i := 10) sc54.nd rfl (Or.inl rfl) (pe_ixL K rfl (pv 3) (pe_cal CD hr rfl pass0 (pa_cons (pv 0) (pa_cons (pe_callB call_len_seq (by rfl) T.b_len PySem.boot_len (pa_cons (pv 3) pa_nil)) pa_nil))) (fun _ _ => rfl)))) pss_nil)
(pss_one (ps_expr (pe_bm PySem.F.plainAttrs_list PySem.F.slot_list_append PySem.F.type_list_append mt_append (pv 7) (pa_cons (pe_tup (pa_cons (pv 8) (pa_cons (pv 10) pa_nil))) pa_nil)))))))))
(pss_one (ps_expr (pe_bm PySem.F.plainAttrs_list PySem.F.slot_list_append PySem.F.type_list_append mt_append (pv 2) (pa_cons (pe_tup (pa_cons (pv 5) (pa_cons (pe_cal CO hr rfl pass0 (pa_cons (pv 7) pa_nil)) pa_nil))) pa_nil)))))))
      (pss_one (ps_ret (pe_callTy call_tuple_of (by rfl) T.b_tuple boot_tuple (pa_cons (pv 2) pa_nil))))))), ?_⟩
    refine ⟨small100 (by simp), fun p hp => ⟨small100 (by simp), fun fo hfo => ⟨small100 (by simp), fun t ht => ⟨t, _, rfl, sq_t upd_same, rfl, _, _, rfl, _, _, rfl, rfl, ?_⟩⟩⟩⟩
    have nfo : ∀ u, H fo = some u → Stb u = false := fresh_kp (kp_new hp) hfo
    have np0 : ∀ u, H p = some u → Stb u = false := fun u hu => by rw [hp] at hu; cases hu
    have hpf : fo ≠ p := fun e => by rw [e, upd_same] at hfo; cases hfo
    have hpt : t ≠ p := fun e => by rw [e, upd_ne hpf.symm, upd_same] at ht; cases ht
    have hft : t ≠ fo := fun e => by rw [e, upd_same] at ht; cases ht
    have kA : Kp H (upd (upd (upd H p (.lst (titlePool.map V.str))) fo (.lst [])) t (.tup [.ref p, .ref fo])) := (kp_new hp).trans ((kp_new hfo).trans (kp_new ht))
    have hFA : FeedOk F c (upd (upd (upd H p (.lst (titlePool.map V.str))) fo (.lst [])) t (.tup [.ref p, .ref fo])) := ((hF.new hp).new hfo).new ht
    have hpA : (upd (upd (upd H p (.lst (titlePool.map V.str))) fo (.lst [])) t (.tup [.ref p, .ref fo])) p = some (.lst (titlePool.map V.str)) := by rw [upd_ne hpt.symm, upd_ne hpf.symm]; exact upd_same
    have hfA : (upd (upd (upd H p (.lst (titlePool.map V.str))) fo (.lst [])) t (.tup [.ref p, .ref fo])) fo = some (.lst []) := by rw [upd_ne hft.symm]; exact upd_same
    have hpc := hF.cell hp
    have hfc := (hF.new (o := .lst (titlePool.map V.str)) hp).cell hfo
    have hHA : upd (upd (upd H p (.lst [.str "a", .str "box", .str "get", .str "lid", .str "zzzzzzzz"])) fo (.lst [])) t (.tup [.ref p, .ref fo]) = upd (upd (upd H p (.lst (titlePool.map V.str))) fo (.lst [])) t (.tup [.ref p, .ref fo]) := rfl
    rw [hHA]
    generalize upd (upd (upd H p (.lst (titlePool.map V.str))) fo (.lst [])) t (.tup [.ref p, .ref fo]) = HA at kA hFA hpA hfA ⊢
    -- the titles
    refine ⟨_, rfl, F, c, 3, rfl, hFA, by decide, by decide, fun d H1 d0 d1 kp1 hF1 => ⟨1, d, rfl, rfl, 1 + d, rfl, by omega, by omega, fun D hD => ?_⟩⟩
    have kD := fresh_kp (kA.trans kp1) hD
    have hp1 := kp1 _ _ hpA rfl
    have hf1 := kp1 _ _ hfA rfl
    have hDp : D ≠ p := fun e => by rw [e, hp1] at hD; cases hD
    have hDf : D ≠ fo := fun e => by rw [e, hf1] at hD; cases hD
    have hDc := hF1.cell hD
    refine lc_it walk_range (fun i H' => ∃ us ws : List Str, H' D = some (.lst (us.map V.str)) ∧ us.length = i ∧ H' p = some (.lst (ws.map V.str)) ∧ (us ++ ws).Perm titlePool ∧ FeedOk F c H' ∧ Kp H H' ∧ H' fo = some (.lst []))
      ⟨[], titlePool, upd_same, rfl, by rw [upd_ne hDp.symm]; exact hp1, List.Perm.refl _, hF1.new hD, (kA.trans kp1).trans (kp_new hD), by rw [upd_ne hDf.symm]; exact hf1⟩ (fun _ _ _ _ => True.intro) ?_ ?_
    · rintro i x H2 H2' hi ⟨us, ws, a1, a2, a3, a4, a5, a6, a7⟩ ⟨rfl, rfl⟩
      have hlen : us.length + ws.length = 5 := by rw [← List.length_append, a4.length_eq]; rfl
      refine ⟨rfl, yes_i ⟨_, rfl, .inl ⟨rfl, _, sq_l a3⟩, _, rfl, _, rfl, p, _, rfl, .inl (sq_l a3), F, c, _, rfl, a5, by rw [List.length_map]; omega, by rw [List.length_map]; omega, fun e H3 e0 e1 kp3 hF3 => ?_⟩⟩
      rw [List.length_map] at e1
      have he : e.toNat < ws.length := by omega
      have hz : ws[e.toNat]? = some ws[e.toNat] := List.getElem?_eq_getElem he
      refine ⟨p, ws.map V.str, e, e.toNat, .str ws[e.toNat], rfl, rfl, kp3 _ _ a3 rfl, by omega, by omega, seq_at e0 (by rw [List.length_map]; exact e1), by rw [List.getElem?_map, hz]; rfl, us.map V.str, by rw [upd_ne hDp]; exact kp3 _ _ a1 rfl, small100' (by rw [List.length_map]; omega), us ++ [ws[e.toNat]], ws.eraseIdx e.toNat, ?_, by simp [a2], ?_, perm_take a4 hz, ?_, ?_, ?_⟩
      · rw [List.map_append]; exact upd_same
      · rw [upd_ne hDp.symm, upd_same]
        have er : ∀ (l : List Str) (j : Nat), (l.map V.str).eraseIdx j = (l.eraseIdx j).map V.str := by
          intro l
          induction l with
          | nil => intro j; rfl
          | cons a r ih =>
            intro j
            cases j with
            | zero => rfl
            | succ j => simp [ih]
        rw [er]
      · exact (hF3.at (kp3 _ _ a3 rfl) hpc).at (ys := us.map V.str) (by rw [upd_ne hDp]; exact kp3 _ _ a1 rfl) hDc
      · exact kp_mut' (kp_mut' (a6.trans kp3) np0) kD
      · rw [upd_ne hDf.symm, upd_ne hpf]; exact kp3 _ _ a7 rfl
    rintro H2 ⟨us, ws, a1, a2, a3, a4, a5, a6, a7⟩
    have hun : us.Nodup := by
      have := a4.nodup_iff.mpr titlePool_nd
      exact (List.nodup_append.mp this).1
    have huo : ∀ z ∈ us, isName z = true := fun z hz => titlePool_ok z (a4.mem_iff.mp (List.mem_append_left _ hz))
    refine ⟨D, us, rfl, sq_l a1, by omega, fun ns np hperm hsort hnp => ?_⟩
    have hnl : ns.length = us.length := hperm.length_eq
    have hno : ∀ z ∈ ns, isName z = true := fun z hz => huo z (hperm.mem_iff.mp hz)
    have kB := a6.trans (kp_new (o := .lst (ns.map V.str)) hnp)
    have hFB := a5.new (o := .lst (ns.map V.str)) hnp
    have hfB : (upd H2 np (.lst (ns.map V.str))) fo = some (.lst []) := by rw [upd_ne (fun e => by rw [← e, a7] at hnp; cases hnp)]; exact a7
    have hnB : (upd H2 np (.lst (ns.map V.str))) np = some (.lst (ns.map V.str)) := upd_same
    have hnf : np ≠ fo := fun e => by rw [e, a7] at hnp; cases hnp
    have hnpc := a5.cell hnp
    generalize upd H2 np (.lst (ns.map V.str)) = HB at kB hFB hfB hnB ⊢
    refine ⟨_, rfl, np, rfl, ⟨_, sq_l hnB⟩, for_it (walk_list (K := K) (a := np) (xs := ns.map V.str)) (fun j σ H' => ∃ (x4 x5 x6 x7 x8 x9 x10 : Option V) (vs : List V) (gs : List (Str × Form)), σ = [some (.ref F), some (.ref p), some (.ref fo), some (.ref np), x4, x5, x6, x7, x8, x9, x10] ∧
        H' fo = some (.lst vs) ∧ DpAll K H' vs (gs.map schD) ∧ gs.length = j ∧ (∀ g ∈ gs, isName g.1 = true ∧ g.2.Ok ∧ g.2.length ≤ 4) ∧ H' np = some (.lst (ns.map V.str)) ∧ FeedOk F c H' ∧ Kp H H')
      ⟨none, none, none, none, none, none, none, [], [], rfl, hfB, .nil, rfl, by simp, hnB, hFB, kB⟩ (fun j σ H' _ ⟨_, _, _, _, _, _, _, _, _, _, _, _, _, _, h, _⟩ => sq_l h) ?_ ?_⟩
    · rintro j x σ H3 H3' hj ⟨x4, x5, x6, x7, x8, x9, x10, vs, gs, rfl, b1, b2, b3, b4, b5, b6, b7⟩ ⟨rfl, hx⟩
      obtain ⟨ti, hti, rfl⟩ := strs_get hx
      have htn := hno ti (List.mem_of_getElem? hti)
      rw [List.length_map] at hj
      have gplain : plainAll (gs.map schD) := all_plain gs fun g hg => by
        unfold schD
        simp only [plain, plainAll, and_true]
        refine ⟨by simpa only [plain] using name_plain (b4 g hg).1, ?_⟩
        show plain (Form.data g.2)
        unfold Form.data
        simp only [plain]
        exact form_plain (b4 g hg).2.1.1
      -- two new lists
      refine ⟨small100 (by simp), fun sl hsl => ⟨small100 (by simp), fun en hen => ⟨_, _, rfl, ?_⟩⟩⟩
      have hes : en ≠ sl := fun e => by rw [e, upd_same] at hen; cases hen
      have kC : Kp H3' (upd (upd H3' sl (.lst (slotPool.map V.str))) en (.lst [])) := (kp_new hsl).trans (kp_new hen)
      have hFC := (b6.new (o := .lst (slotPool.map V.str)) hsl).new (o := .lst []) hen
      have hslc := b6.cell hsl
      have henc := (b6.new (o := .lst (slotPool.map V.str)) hsl).cell hen
      have hslC : (upd (upd H3' sl (.lst (slotPool.map V.str))) en (.lst [])) sl = some (.lst (slotPool.map V.str)) := by rw [upd_ne hes.symm]; exact upd_same
      have henC : (upd (upd H3' sl (.lst (slotPool.map V.str))) en (.lst [])) en = some (.lst []) := upd_same
      have nsl : ∀ u, H3' sl = some u → Stb u = false := fun u hu => by rw [hsl] at hu; cases hu
      have nen : ∀ u, H3' en = some u → Stb u = false := fresh_kp (kp_new hsl) hen
      have hHC : upd (upd H3' sl (.lst [.str "a", .str "if", .str "lid", .str "none", .str "of", .str "size", .str "x"])) en (.lst []) = upd (upd H3' sl (.lst (slotPool.map V.str))) en (.lst []) := rfl
      rw [hHC]
      generalize upd (upd H3' sl (.lst (slotPool.map V.str))) en (.lst []) = HC at kC hFC hslC henC ⊢
      refine ⟨_, rfl, F, c, 5, rfl, hFC, by decide, by decide, fun d4 H4 q0 q1 kp4 hF4 => ⟨d4, rfl, by omega, by omega, for_it walk_range (fun i σ H' => ∃ (y4 y8 y9 y10 : Option V) (us ws : List Str) (fm : Form) (xs : List V), σ = [some (.ref F), some (.ref p), some (.ref fo), some (.ref np), y4, some (.str ti), some (.ref sl), some (.ref en), y8, y9, y10] ∧
          H' sl = some (.lst (ws.map V.str)) ∧ (us ++ ws).Perm slotPool ∧ us.length = i ∧ H' en = some (.lst xs) ∧ DpAll K H' xs (fm.map fldD) ∧ fm.map (·.1) = us ∧ (∀ q ∈ fm, isName q.1 = true ∧ q.2.Ok) ∧ FeedOk F c H' ∧ Kp H3' H')
        ⟨x4, x8, x9, x10, [], slotPool, [], [], rfl, kp4 _ _ hslC rfl, List.Perm.refl _, rfl, kp4 _ _ henC rfl, .nil, rfl, by simp, hF4, kC.trans kp4⟩ (fun _ _ _ _ _ => True.intro) ?_ ?_⟩⟩
      · rintro i x σ H5 H5' hi ⟨y4, y8, y9, y10, us, ws, fm, xs, rfl, c1, c2, c3, c4, c5, c6, c7, c8, c9⟩ ⟨rfl, rfl⟩
        have hlen : us.length + ws.length = 7 := by rw [← List.length_append, c2.length_eq]; rfl
        have hi4 : i < 4 ∨ True := .inr True.intro
        refine ⟨_, rfl, .inl ⟨rfl, _, sq_l c1⟩, _, rfl, _, rfl, sl, _, rfl, .inl (sq_l c1), F, c, _, rfl, c8, by rw [List.length_map]; omega, by rw [List.length_map]; omega, fun e H6 e0 e1 kp6 hF6 => ?_⟩
        rw [List.length_map] at e1
        have he : e.toNat < ws.length := by omega
        have hz : ws[e.toNat]? = some ws[e.toNat] := List.getElem?_eq_getElem he
        refine ⟨sl, ws.map V.str, e, e.toNat, .str ws[e.toNat], rfl, rfl, kp6 _ _ c1 rfl, by omega, by omega, seq_at e0 (by rw [List.length_map]; exact e1), by rw [List.getElem?_map, hz]; rfl, ?_⟩
        have er : (ws.map V.str).eraseIdx e.toNat = (ws.eraseIdx e.toNat).map V.str := by
          have er : ∀ (l : List Str) (j : Nat), (l.map V.str).eraseIdx j = (l.eraseIdx j).map V.str := by
            intro l
            induction l with
            | nil => intro j; rfl
            | cons a r ih =>
              intro j
              cases j with
              | zero => rfl
              | succ j => simp [ih]
          exact er ws e.toNat
        rw [er]
        have hzn := slotPool_ok _ (c2.mem_iff.mp (List.mem_append_right _ (List.getElem_mem he)))
        have hpm := perm_take c2 hz
        generalize ws[e.toNat] = z at hz hzn hpm ⊢
        have k7 : Kp H3' (upd H6 sl (.lst ((ws.eraseIdx e.toNat).map V.str))) := kp_mut' (c9.trans kp6) nsl
        have hF7 : FeedOk F c (upd H6 sl (.lst ((ws.eraseIdx e.toNat).map V.str))) := hF6.at (kp6 _ _ c1 rfl) hslc
        have s7 : (upd H6 sl (.lst ((ws.eraseIdx e.toNat).map V.str))) sl = some (.lst ((ws.eraseIdx e.toNat).map V.str)) := upd_same
        have e7 : (upd H6 sl (.lst ((ws.eraseIdx e.toNat).map V.str))) en = some (.lst xs) := by rw [upd_ne hes]; exact kp6 _ _ c4 rfl
        have fp : plainAll (fm.map fldD) := form_plain c7
        have d7 : DpAll K (upd H6 sl (.lst ((ws.eraseIdx e.toNat).map V.str))) xs (fm.map fldD) := Dp.tkAll (kp6.tk.trans (tk_mut (Tk.refl _) (kp6 _ _ c1 rfl) (fun _ z => by cases z) (fun _ _ z => by cases z))) _ _ fp c5
        generalize upd H6 sl (.lst ((ws.eraseIdx e.toNat).map V.str)) = H7 at k7 hF7 s7 e7 d7 ⊢
        -- the lower end
        refine ⟨3, rfl, 1000, rfl, small100 (by simp), fun l1 hl1 => ⟨_, rfl, F, c, 6, rfl, hF7.new hl1, by decide, by decide, fun g1 H8 g10 g11 kp8 hF8 => ?_⟩⟩
        obtain ⟨x1, hx1, _, hat1⟩ := at_pick (l := lowPool.map V.int) g10 (by show g1 < (6 : Int); exact g11)
        obtain ⟨lo, hlo, rfl⟩ := List.mem_map.mp hx1
        have hlo' := lowPool_ok lo hlo
        refine ⟨l1, _, _, _, rfl, rfl, sq_l (kp8 _ _ upd_same rfl), hat1, ?_⟩
        have k78 : Kp H7 H8 := (kp_new hl1).trans kp8
        -- the kind
        refine ⟨_, rfl, _, rfl, small100 (by simp), fun l2 hl2 => ⟨_, rfl, F, c, 4, rfl, hF8.new hl2, by decide, by decide, fun g2 H9 g20 g21 kp9 hF9 => ?_⟩⟩
        obtain ⟨x2, hx2, _, hat2⟩ := at_pick (l := upPool.map V.int) g20 (by show g2 < (4 : Int); exact g21)
        obtain ⟨up, hup, rfl⟩ := List.mem_map.mp hx2
        have hup' := upPool_ok up hup
        refine ⟨l2, _, _, _, rfl, rfl, sq_l (kp9 _ _ upd_same rfl), hat2, lo, up, rfl, rfl, small100 (by simp), fun tk htk => ?_⟩
        have k89 : Kp H8 H9 := (kp_new hl2).trans kp9
        have k7t : Kp H7 (upd H9 tk (.tup [.int lo, .int (lo + up)])) := k78.trans (k89.trans (kp_new htk))
        have dk : Dp K (upd H9 tk (.tup [.int lo, .int (lo + up)])) (.ref tk) (Kd.data (.rng lo (lo + up))) := .tup (sq_t upd_same) (.cons (.int _) (.cons (.int _) .nil))
        have kok : Kd.Ok (.rng lo (lo + up)) := ⟨okInt_small (by omega), okInt_small (by omega), by omega⟩
        have hFt : FeedOk F c (upd H9 tk (.tup [.int lo, .int (lo + up)])) := hF9.new htk
        generalize upd H9 tk (.tup [.int lo, .int (lo + up)]) = Ht at k7t dk hFt ⊢
        refine ⟨_, rfl, F, c, 2, rfl, hFt, by decide, by decide, fun g3 H10 g30 g31 kp10 hF10 => ⟨rfl, decide (g3 = 0), bool_int, ?_⟩⟩
        have k710 := k7t.trans kp10
        have dk10 := Dp.tk kp10.tk _ _ (kd_plain kok) dk
        -- in the end a field more
        have fin : ∀ (kd : Kd) (kv : V) (H11 : Hp), kd.Ok → Dp K H11 kv kd.data → Kp H7 H11 → FeedOk F c H11 → tDrop (tBM K "list" rAppend (tVar 7) (tCons (tTup (tCons (tVar 8) (tCons (tVar 10) tNil))) tNil))
            { nx := fun σ H' => ∃ (y4 y8 y9 y10 : Option V) (us ws : List Str) (fm : Form) (xs : List V), σ = [some (.ref F), some (.ref p), some (.ref fo), some (.ref np), y4, some (.str ti), some (.ref sl), some (.ref en), y8, y9, y10] ∧
              H' sl = some (.lst (ws.map V.str)) ∧ (us ++ ws).Perm slotPool ∧ us.length = i + 1 ∧ H' en = some (.lst xs) ∧ DpAll K H' xs (fm.map fldD) ∧ fm.map (·.1) = us ∧ (∀ q ∈ fm, isName q.1 = true ∧ q.2.Ok) ∧ FeedOk F c H' ∧ Kp H3' H', rt := Q }
            [some (.ref F), some (.ref p), some (.ref fo), some (.ref np), some (.int (0 + (i : Int))), some (.str ti), some (.ref sl), some (.ref en), some (.str z), some (.int lo), some kv] H11 := by
          intro kd kv H11 hkd dv k11 hF11
          refine ⟨_, rfl, .inl ⟨rfl, _, sq_l (k11 _ _ e7 rfl)⟩, _, rfl, _, rfl, small100 (by simp), fun t2 ht2 => ⟨en, xs, .ref t2, rfl, rfl, same_new ht2 _ _ (k11 _ _ e7 rfl), small100' ?_, ?_⟩⟩
          · have := dpAll_len d7
            rw [List.length_map] at this
            have h2 : fm.length = us.length := by rw [← c6, List.length_map]
            omega
          have k12 : Kp H7 (upd H11 t2 (.tup [.str z, kv])) := k11.trans (kp_new ht2)
          have e12 := k12 _ _ e7 rfl
          have t13 : Tk (upd H11 t2 (.tup [.str z, kv])) (upd (upd H11 t2 (.tup [.str z, kv])) en (.lst (xs ++ [.ref t2]))) := tk_mut (Tk.refl _) e12 (fun _ z => by cases z) (fun _ _ z => by cases z)
          refine ⟨_, _, _, _, us ++ [z], ws.eraseIdx e.toNat, fm ++ [(z, kd)], xs ++ [.ref t2], rfl, by rw [upd_ne hes.symm]; exact k12 _ _ s7 rfl, hpm, by simp [c3], upd_same, ?_, by rw [List.map_append, c6]; rfl, fun q hq => ?_, (hF11.new ht2).at e12 henc, kp_mut' (k7.trans k12) nen⟩
          · rw [List.map_append]
            refine dpAll_app (Dp.tkAll (k12.tk.trans t13) _ _ fp d7) (.cons (.tup (tk_t t13 (sq_t upd_same)) (.cons (.str _) (.cons (Dp.tk ((tk_of (same_new ht2)).trans t13) _ _ (kd_plain hkd) dv) .nil))) .nil)
          · rcases List.mem_append.mp hq with hq | hq
            · exact c7 q hq
            · rw [List.mem_singleton] at hq
              subst hq
              exact ⟨hzn, hkd⟩
        by_cases h3 : g3 = 0
        · rw [decide_eq_true h3]
          refine iteT ⟨_, rfl, _, rfl, _, rfl, np, _, rfl, .inl (sq_l ((k7.trans k710) _ _ b5 rfl)), F, c, _, rfl, hF10, by rw [List.length_map]; omega, by rw [List.length_map]; omega, fun g4 H11 g40 g41 kp11 hF11 => ?_⟩
          obtain ⟨x4', hx4, _, hat4⟩ := at_pick (l := ns.map V.str) g40 g41
          obtain ⟨nn, hnn, rfl⟩ := str_pick hx4
          refine ⟨np, _, _, _, rfl, rfl, sq_l ((k7.trans (k710.trans kp11)) _ _ b5 rfl), hat4, ?_⟩
          exact fin (.cls nn) (.str nn) H11 (hno nn hnn) (.str nn) (k710.trans kp11) hF11
        · rw [decide_eq_false h3]
          exact iteF (fin (.rng lo (lo + up)) (.ref tk) H10 kok dk10 k710 hF10)
      · rintro σ H5 ⟨y4, y8, y9, y10, us, ws, fm, xs, rfl, c1, c2, c3, c4, c5, c6, c7, c8, c9⟩
        have nd5 : (fm.map (·.1)).Nodup := by
          rw [c6]
          exact (List.nodup_append.mp (c2.nodup_iff.mpr slotPool_nd)).1
        have l5 : fm.length = us.length := by rw [← c6, List.length_map]
        have hle4 : fm.length ≤ 4 := by omega
        refine ⟨_, rfl, .inl ⟨rfl, _, sq_l (c9 _ _ b1 rfl)⟩, _, rfl, _, rfl, en, xs, fm, rfl, sq_l c4, c5, c7, nd5, by omega, fun v g H6 s6 gok gl dv => ⟨small100 (by simp), fun t3 ht3 => ?_⟩⟩
        have k6 : Kp H3' (upd H6 t3 (.tup [.str ti, v])) := c9.trans ((kp_of s6).trans (kp_new ht3))
        have f6 := k6 _ _ b1 rfl
        have nfo3 := nfo
        refine ⟨fo, vs, .ref t3, rfl, rfl, f6, small100' ?_, ?_⟩
        · have := dpAll_len b2
          rw [List.length_map] at this
          omega
        have t7 : Tk (upd H6 t3 (.tup [.str ti, v])) (upd (upd H6 t3 (.tup [.str ti, v])) fo (.lst (vs ++ [.ref t3]))) := tk_mut (Tk.refl _) f6 (fun _ z => by cases z) (fun _ _ z => by cases z)
        refine ⟨_, _, _, _, _, _, _, vs ++ [.ref t3], gs ++ [(ti, g)], rfl, upd_same, ?_, by simp [b3], fun q hq => ?_, by rw [upd_ne hnf]; exact k6 _ _ b5 rfl, ((c8.same s6).new ht3).at f6 hfc, kp_mut' (b7.trans k6) nfo⟩
        · rw [List.map_append]
          refine dpAll_app (Dp.tkAll (k6.tk.trans t7) _ _ gplain b2) (.cons (.tup (tk_t t7 (sq_t upd_same)) (.cons (.str _) (.cons (Dp.tk ((tk_of (same_new ht3)).trans t7) _ _ ?_ dv) .nil))) .nil)
          unfold Form.data
          simp only [plain]
          exact form_plain gok.1
        · rcases List.mem_append.mp hq with hq | hq
          · exact b4 q hq
          · rw [List.mem_singleton] at hq
            subst hq
            exact ⟨htn, gok, by show g.length ≤ 4; omega⟩
    · rintro σ H3 ⟨x4, x5, x6, x7, x8, x9, x10, vs, gs, rfl, b1, b2, b3, b4, b5, b6, b7⟩
      rw [List.length_map] at b3
      have gplain : plainAll (gs.map schD) := all_plain gs fun g hg => by
        unfold schD
        simp only [plain, plainAll, and_true]
        refine ⟨by simpa only [plain] using name_plain (b4 g hg).1, ?_⟩
        show plain (Form.data g.2)
        unfold Form.data
        simp only [plain]
        exact form_plain (b4 g hg).2.1.1
      refine ⟨_, rfl, fo, _, rfl, .inl ⟨sq_l b1, fun t3 ht3 => k _ gs _ (b7.trans (kp_new ht3)) (b6.new ht3) ⟨?_, by omega, b4⟩ (.tup (sq_t upd_same) (Dp.tkAll (tk_of (same_new ht3)) _ _ gplain b2))⟩⟩
      intro e
      rw [e] at b3
      simp only [List.length_nil] at b3
      omega
end
end K12

set_option maxHeartbeats 4000000
/-! G5: _law_spoilt. -/
namespace K12
open PySem PySem.Spec PyProof.Rows L2 TL NumText
set_option autoImplicit false
def zs60 : Str := ⟨(List.replicate 60 ("0" : Str).cps).foldl (· ++ ·) #[]⟩
theorem op_mul60 {X : Cx} : OpR X (binaryOp .Mult) (fun x y H Q => x = .str "0" ∧ y = .int 60 ∧ Q (.str zs60) H) := by
  intro pins s σ H x y v u Q I rx ry h
  obtain ⟨rfl, rfl, q⟩ := h
  obtain ⟨t, rfl⟩ := rx
  obtain ⟨t', rfl⟩ := ry
  refine PySem.P.mul_str (by decide) (fun _ _ => by decide +kernel) (fun _ _ => by decide +kernel) ?_
  rw [if_neg (by decide), if_neg (by decide +kernel)]
  exact ⟨by decide +kernel, ⟨.str zs60, H, I.tok _, ⟨_, rfl⟩, q⟩⟩
theorem m1_take (l : List Str) (k : Nat) : m1 (l.take k) ≤ m1 l := by
  have : m1 l = m1 (l.take k) + m1 (l.drop k) := by rw [← m1_app, List.take_append_drop]
  omega
theorem m1_drop (l : List Str) (k : Nat) : m1 (l.drop k) ≤ m1 l := by
  have : m1 l = m1 (l.take k) + m1 (l.drop k) := by rw [← m1_app, List.take_append_drop]
  omega
theorem m1_mem {l : List Str} {x : Str} (h : x ∈ l) : x.length + 1 ≤ m1 l := by
  induction l with
  | nil => simp at h
  | cons a r ih =>
    rw [m1_cons]
    rcases List.mem_cons.mp h with rfl | h
    · omega
    · have := ih h; omega
theorem m1_set : ∀ (l : List Str) (i : Nat) (x : Str), m1 (l.set i x) ≤ m1 l + (x.length + 1)
  | [], _, _ => by simp [m1]
  | a :: r, 0, x => by rw [List.set_cons_zero, m1_cons, m1_cons]; omega
  | a :: r, i + 1, x => by
    have := m1_set r i x
    rw [List.set_cons_succ, m1_cons, m1_cons]; omega
theorem cut_strs (l : List Str) (lo hi : Option Int) : ∃ l' : List Str, cutV (l.map V.str) lo hi = l'.map V.str ∧ m1 l' ≤ m1 l ∧ l'.length ≤ l.length := by
  unfold cutV
  refine ⟨(l.drop (HT.sIx (l.map V.str).length 0 lo)).take (HT.sIx (l.map V.str).length (l.map V.str).length hi - HT.sIx (l.map V.str).length 0 lo), ?_, ?_, ?_⟩
  · rw [List.map_take, List.map_drop]
  · exact Nat.le_trans (m1_take _ _) (m1_drop _ _)
  · rw [List.length_take, List.length_drop]; omega
def rSlM (K : PySem.W.Frag) : V → Option Int → Option Int → Hp → VK → Prop := fun x _ _ H Q => ∃ (a : Addr) (l : List Str), x = .ref a ∧ SqL K H a (l.map V.str) ∧ ∀ p l', H p = none → m1 l' ≤ m1 l → l'.length ≤ l.length → Q (.ref p) (upd H p (.lst (l'.map V.str)))
theorem sl_strs {X : Cx} : SlR X (rSlM X.K) := by
  intro pins s σ H x v vl vu lo hi sl Q I rx hs pl pu h
  obtain ⟨a, l, e, hx, q⟩ := h
  refine sl_list pins s σ H x v vl vu lo hi sl Q I rx hs pl pu ⟨a, l.map V.str, e, hx, fun p hp => ?_⟩
  obtain ⟨l', e1, e2, e3⟩ := cut_strs l lo hi
  rw [e1]
  exact q p l' hp e2 e3
theorem m1_len (l : List Str) : l.length ≤ m1 l := by
  induction l with
  | nil => exact Nat.le_refl _
  | cons a r ih => rw [m1_cons, List.length_cons]; omega
theorem cut_two (z : Str) {a b : Int} (ha : 0 ≤ a) (hb : a ≤ b) : (cutS z none (some a)).length + (cutS z (some b) none).length ≤ z.length := by
  show (((z.cps.toList.drop (HT.sIx z.length 0 none)).take (HT.sIx z.length z.length (some a) - HT.sIx z.length 0 none)).toArray).size + (((z.cps.toList.drop (HT.sIx z.length 0 (some b))).take (HT.sIx z.length z.length none - HT.sIx z.length 0 (some b))).toArray).size ≤ z.cps.size
  have e : z.length = z.cps.size := rfl
  simp only [List.size_toArray, List.length_take, List.length_drop, Array.length_toList, HT.sIx, e, if_neg (show ¬ a < 0 by omega), if_neg (show ¬ b < 0 by omega)]
  omega
theorem iteD {b : Bool} {A B : Prop} (h1 : b = true → A) (h2 : b = false → B) : if b = true then A else B := by
  cases b with
  | true => exact iteT (h1 rfl)
  | false => exact iteF (h2 rfl)
theorem join_le (l : List Str) : (Txt.join spc l).length ≤ m1 l := by
  by_cases h : l = []
  · subst h; decide +kernel
  · have := join_len1 spc spc_len l h
    omega
theorem sp_m1 (z : Str) : m1 (sp z) = z.length + 1 := by
  have := join_len1 spc spc_len (sp z) (sp_ne z)
  rw [sp_join] at this
  exact this.symm
theorem in56 {n : Int} (h : (if false = true then !inV (V.int n) [V.int 5, V.int 6] else inV (V.int n) [V.int 5, V.int 6]) = true) : n = 5 ∨ n = 6 := by
  rw [if_neg (by decide)] at h
  have h' : (5 == n) = true ∨ (6 == n) = true := by simpa [inV, eqV] using h
  rcases h' with e | e
  · exact .inl (beq_iff_eq.mp e).symm
  · exact .inr (beq_iff_eq.mp e).symm
theorem at_get {α : Type} {l : List α} {d : Int} (h0 : 0 ≤ d) (h1 : d < (l.length : Int)) : ∃ x, atI l d = some x := by
  have hd : d.toNat < l.length := by omega
  refine ⟨l[d.toNat], ?_⟩
  unfold atI ixN
  rw [if_pos h0, if_pos h1, Option.bind_some, List.getElem?_eq_getElem hd]
theorem ixN_in {n : Nat} {i : Int} (h0 : 0 ≤ i) (h1 : i < (n : Int)) : ixN n i = some i.toNat := by
  unfold ixN; rw [if_pos h0, if_pos h1]
def someA : List Str := ["", "-", "0", "-0", "01", "-1", ("1" : Str) ++ zs60, "x", "a.b", "a..b", ".a", "A", "get", "to", "self", "none"]
def someB : List Str := ["if", "sum", "and", "not", "<", "=", "+", "least", "1..2", "x:0..1", ",", ":"]
theorem some_ok : ∀ z ∈ someA ++ someB, z.length ≤ 61 := by decide +kernel
def signs9 : Str := " -01.,:x\n"
section
variable {P : Program} {w : World} {K : PySem.W.Frag} {mg : Str → Option Value} {base : Heap}
def spSpoilt : Sp := fun vs H Q _ => ∃ (F c : Addr) (z : Str), vs = [.ref F, .str z] ∧ FeedOk F c H ∧ z.length ≤ 20000 ∧ ∀ z' H', Kp H H' → FeedOk F c H' → z'.length ≤ 3 * z.length + 100 → Q (.str z') H'
theorem sc63 : FnScope ["_law_feed_here", "_law_text_in", "_law_words", "_law_way", "_law_k", "_law_to", "_law_some", "_law_word", "_law_told", "_law_at", "_law_more"] ["_law_feed_here", "_law_text_in"] (defScope (top 63)) := ⟨rfl, rfl, rfl, by decide +kernel, rfl, by decide +kernel, by decide +kernel⟩
def NSP : List Str := ["_law_feed_here", "_law_text_in", "_law_words", "_law_way", "_law_k", "_law_to", "_law_some", "_law_word", "_law_told", "_law_at", "_law_more"]
theorem spoilt_tail (T : Tx K mg) {f : Addr} {cdv : Value} {A : Around} {outer : List Env} {s : Shared} {H : Hp} {E : XK} (hr : Room 1 (A.deeper (envOfC "_law_spoilt" (defScope (top 63)) s.heap.objs.size f cdv))) :
    ∃ t, PSs (cxOf CX0 P w K mg base NSP "_law_spoilt" (defScope (top 63)) f cdv A outer s H E).nox ((defBody (top 63)).drop 9) t ∧ ∀ (D : L2.Ends) (F c cu : Addr) (m : Nat) (lf : List Str) (way : Int) (H0 Hf : Hp) (z1 z4 z5 z6 z7 z8 z9 z10 : Option V), FeedOk F c Hf → Hf cu = some (.lst (lf.map V.str)) → m1 lf ≤ m → m ≤ 90000 → Kp H0 Hf →
      (∀ z' H', Kp H0 H' → FeedOk F c H' → z'.length ≤ m + 1 → D.rt (.str z') H') → t D [some (.ref F), z1, some (.ref cu), some (.int way), z4, z5, z6, z7, z8, z9, z10] Hf := by
  have CD := cal_draw (P := P) (w := w) (base := base) T
  refine ⟨_, (pss_cons (ps_set (i := 8) sc63.nd rfl (Or.inl rfl) (pe_join pe_str (pv 2)))
      (pss_cons (ps_set (i := 9) sc63.nd rfl (Or.inl rfl) (pe_cal CD hr rfl pass0 (pa_cons (pv 0) (pa_cons (pe_op op_add (pe_callB call_len_str (by rfl) T.b_len PySem.boot_len (pa_cons (pv 8) pa_nil)) pe_int) pa_nil))))
      (pss_cons (ps_if (pt_cmpR op_gt (pv 3) pe_int (nomark _)) (pss_cons (ps_set (i := 10) sc63.nd rfl (Or.inl rfl) (pe_ifExp (pt_cmpR op_eq (pv 3) pe_int (nomark _)) pe_str (pe_ix ix_str pe_str (pe_cal CD hr rfl pass0 (pa_cons (pv 0) (pa_cons pe_int pa_nil))) (fun _ _ => rfl))))
(pss_one (ps_set (i := 8) sc63.nd rfl (Or.inl rfl) (pe_op op_add_str (pe_op op_add_str (pe_slice sl_str (pv 8) po_none (po_some (pv 9))) (pv 10)) (pe_slice sl_str (pv 8) (po_some (pe_op op_add (pv 9) (pe_callTy call_int1 (by rfl) T.b_int boot_int (pa_cons (pe_cmpR op_eq (pv 3) pe_int (nomark _)) pa_nil)))) po_none))))) pss_nil)
      (pss_one (ps_ret (pv 8)))))), ?_⟩
  intro D F c cu m lf way H0 Hf z1 z4 z5 z6 z7 z8 z9 z10 hFf hcuf hmf hm9 kf k
  refine ⟨⟨spc, rfl⟩, _, rfl, spc, _, lf, rfl, rfl, .inl (sq_l hcuf), by rw [show spc.length = 1 from by decide +kernel, m1_sum]; omega, ?_⟩
  have jl := join_le lf
  generalize Txt.join spc lf = tld at jl ⊢
  refine ⟨_, rfl, _, rfl, tld, rfl, small100 (by omega), _, _, rfl, rfl, F, c, _, rfl, hFf, by omega, by omega, fun ta Hg e0 e1 kpg hFg => ?_⟩
  have kg := kf.trans kpg
  refine ⟨_, rfl, _, 7, rfl, rfl, _, rfl, iteD (fun _ => ?_) (fun _ => ⟨_, rfl, k _ _ kg hFg (by omega)⟩)⟩
  refine ⟨_, rfl, rfl, _, rfl, iteD (fun _ => ?_) (fun _ => ?_)⟩
  case' refine_1 =>
    have hml : ("" : Str).length ≤ 1 := by decide
    have kh := kg
    have hFh := hFg
    generalize ("" : Str) = mo at hml ⊢
  case' refine_2 =>
    refine ⟨_, rfl, F, c, 9, rfl, hFg, by decide, by decide, fun tq Hq q0 q1 kpq hFh => ?_⟩
    obtain ⟨ch, hch⟩ := at_get (l := signs9.cps.toList) q0 q1
    refine ⟨signs9, _, ch, rfl, rfl, small100 (by decide), hch, ?_⟩
    have kh := kg.trans kpq
    have hml : (⟨#[ch]⟩ : Str).length ≤ 1 := Nat.le_refl _
    generalize (⟨#[ch]⟩ : Str) = mo at hml ⊢
  all_goals
    have hc1 := cutS_length tld none (some ta)
    refine ⟨_, rfl, _, rfl, _, rfl, tld, rfl, small100 (by omega), _, rfl, _, _, rfl, rfl, small100 (by omega), ?_⟩
    refine ⟨_, rfl, _, rfl, _, rfl, rfl, .inr ⟨_, rfl, _, _, rfl, rfl, _, rfl, tld, rfl, small100 (by omega), _, _, rfl, rfl, small100 ?_, _, rfl, k _ _ kh hFh ?_⟩⟩
    all_goals
      have hc2 := cut_two tld (a := ta) (b := ta + if decide (V.int way = V.int 8) = true then 1 else 0) e0 (by split <;> omega)
      simp only [len_append]
      omega

theorem spoilt_mid (T : Tx K mg) {f : Addr} {cdv : Value} {A : Around} {outer : List Env} {s : Shared} {H : Hp} {E : XK} (hr : Room 1 (A.deeper (envOfC "_law_spoilt" (defScope (top 63)) s.heap.objs.size f cdv))) :
    ∃ t, PSs (cxOf CX0 P w K mg base NSP "_law_spoilt" (defScope (top 63)) f cdv A outer s H E).nox ((defBody (top 63)).drop 7) t ∧ ∀ (D : L2.Ends) (F c cu : Addr) (n m : Nat) (lc : List Str) (wy kk tt : Int) (H Hc : Hp) (z1 z6 z7 z8 z9 z10 : Option V), FeedOk F c Hc → Hc cu = some (.lst (lc.map V.str)) → m1 lc ≤ 2 * n + 62 → (5 ≤ wy → lc.length = m ∧ m1 lc ≤ n) → n ≤ 20001 →
      0 ≤ kk → kk < (m : Int) → 0 ≤ tt → tt < (m : Int) → (∀ u, H cu = some u → Stb u = false) → cu ≠ c → Kp H Hc →
      (∀ z' H', Kp H H' → FeedOk F c H' → z'.length ≤ 3 * n + 63 → D.rt (.str z') H') → t D [some (.ref F), z1, some (.ref cu), some (.int wy), some (.int kk), some (.int tt), z6, z7, z8, z9, z10] Hc := by
  have CD := cal_draw (P := P) (w := w) (base := base) T
  obtain ⟨tz, htz, lz⟩ := spoilt_tail (P := P) (w := w) (base := base) T (f := f) (cdv := cdv) (A := A) (outer := outer) (s := s) (H := H) (E := E) hr
  refine ⟨_, (pss_cons (ps_if (pt_cmpR op_in_seq (pv 3) (pe_tup (pa_cons pe_int (pa_cons pe_int pa_nil))) rfl) (pss_one (ps_set (i := 2) sc63.nd rfl (Or.inl rfl) (pe_ifExp (pt_cmpR op_eq (pv 3) pe_int (nomark _)) (pe_op op_cat (pe_slice sl_strs (pv 2) po_none (po_some (pv 4))) (pe_slice sl_strs (pv 2) (po_some (pe_op op_add (pv 4) pe_int)) po_none)) (pe_op op_cat (pe_slice sl_strs (pv 2) po_none (po_some (pe_op op_add (pv 4) pe_int))) (pe_slice sl_strs (pv 2) (po_some (pv 4)) po_none))))) pss_nil)
      (pss_cons (ps_if (pt_cmpR op_eq (pv 3) pe_int (nomark _)) (pss_one (ps_asg (pe_tup (pa_cons (pe_ixL K rfl (pv 2) (pv 5) (fun _ _ => rfl)) (pa_cons (pe_ixL K rfl (pv 2) (pv 4) (fun _ _ => rfl)) pa_nil))) (pg_tup rfl (pgs_cons (pg_sub (pv 2) (pv 4) set_list) (pgs_cons (pg_sub (pv 2) (pv 5) set_list) pgs_nil))))) pss_nil)
      htz)), ?_⟩
  intro D F c cu n m lc wy kk tt H Hc z1 z6 z7 z8 z9 z10 hFc hcur hm h7 hn a0 a1 b0 b1 ncur curc kc k
  refine ⟨_, rfl, small100 (by simp), fun tv htv => ⟨tv, _, rfl, .inr (sq_t upd_same), rfl, rfl, _, rfl, iteD (fun t56 => ?_) (fun t56 => ?_)⟩⟩
  all_goals
    have kd := kc.trans (kp_new (o := .tup [.int 5, .int 6]) htv)
    have hFd := hFc.new (o := .tup [.int 5, .int 6]) htv
    have hcud := (kp_new (o := .tup [.int 5, .int 6]) htv) _ _ hcur rfl
    generalize upd Hc tv (.tup [.int 5, .int 6]) = Hd at kd hFd hcud ⊢
  case' refine_2 =>
    have ke := kd
    have hFe := hFd
    have hcue := hcud
    have ncue := ncur
    have cuec := curc
    have hme := hm
    have h7e : wy = 7 → lc.length = m ∧ m1 lc ≤ n := fun e => h7 (by omega)
    generalize lc = le at hcue hme h7e ⊢
    generalize Hd = He at ke hFe hcue ⊢
  case' refine_1 =>
    have h56 : wy = 5 ∨ wy = 6 := in56 t56
    obtain ⟨g1, g2⟩ := h7 (by omega)
    refine ⟨_, rfl, rfl, _, rfl, iteD (fun _ => ?_) (fun _ => ?_)⟩
    case' refine_1 => refine ⟨_, rfl, _, rfl, kk, rfl, _, lc, rfl, sq_l hcud, fun p1 l1 hp1 m1' c1 => ?_⟩
    case' refine_2 => refine ⟨_, rfl, _, rfl, kk, _, rfl, rfl, _, rfl, _, lc, rfl, sq_l hcud, fun p1 l1 hp1 m1' c1 => ?_⟩
    all_goals
      have k8 : Kp Hd (upd Hd p1 (.lst (l1.map V.str))) := kp_new hp1
      have hF8 := hFd.new (o := .lst (l1.map V.str)) hp1
      have g8 : (upd Hd p1 (.lst (l1.map V.str))) p1 = some (.lst (l1.map V.str)) := upd_same
      have cu8 := k8 _ _ hcud rfl
      generalize upd Hd p1 (.lst (l1.map V.str)) = H8 at k8 hF8 g8 cu8 ⊢
    case' refine_1 => refine ⟨_, rfl, _, rfl, kk, _, rfl, rfl, _, rfl, _, lc, rfl, sq_l cu8, fun p2 l2 hp2 m2' c2 => ?_⟩
    case' refine_2 => refine ⟨_, rfl, _, rfl, kk, rfl, _, lc, rfl, sq_l cu8, fun p2 l2 hp2 m2' c2 => ?_⟩
    all_goals
      have k9 : Kp H8 (upd H8 p2 (.lst (l2.map V.str))) := kp_new hp2
      have hF9 := hF8.new (o := .lst (l2.map V.str)) hp2
      have g9 : (upd H8 p2 (.lst (l2.map V.str))) p2 = some (.lst (l2.map V.str)) := upd_same
      generalize upd H8 p2 (.lst (l2.map V.str)) = H9 at k9 hF9 g9 ⊢
      have ln := m1_len lc
      refine ⟨p1, p2, _, _, rfl, rfl, k9 _ _ g8 rfl, g9, small100 (by rw [List.length_map, List.length_map]; omega), fun p3 hp3 => ?_⟩
      rw [← List.map_append]
      have ke : Kp H (upd H9 p3 (.lst ((l1 ++ l2).map V.str))) := kd.trans (k8.trans (k9.trans (kp_new hp3)))
      have hFe := hF9.new (o := .lst ((l1 ++ l2).map V.str)) hp3
      have hcue : (upd H9 p3 (.lst ((l1 ++ l2).map V.str))) p3 = some (.lst ((l1 ++ l2).map V.str)) := upd_same
      have ncue := fresh_kp (kd.trans (k8.trans k9)) hp3
      have cuec := hF9.cell hp3
      have hme : m1 (l1 ++ l2) ≤ 2 * n + 62 := by rw [m1_app]; omega
      have h7e : wy = 7 → (l1 ++ l2).length = m ∧ m1 (l1 ++ l2) ≤ n := fun e => by omega
      generalize l1 ++ l2 = le at ke hFe hcue hme h7e ⊢
      generalize upd H9 p3 (.lst (le.map V.str)) = He at ke hFe hcue ⊢
  all_goals
    refine ⟨_, rfl, rfl, _, rfl, iteD (fun t7 => ?_) (fun t7 => ?_)⟩
    case' refine_1 =>
      have h77 : wy = 7 := V.int.inj (of_decide_eq_true t7)
      obtain ⟨g1, g2⟩ := h7e h77
      have lle : (le.map V.str).length = m := by rw [List.length_map]; exact g1
      obtain ⟨xv, hxv, _, hatx⟩ := at_pick (l := le.map V.str) b0 (by rw [lle]; exact b1)
      obtain ⟨yv, hyv, _, haty⟩ := at_pick (l := le.map V.str) a0 (by rw [lle]; exact a1)
      obtain ⟨xs, hxs, rfl⟩ := str_pick hxv
      obtain ⟨ys, hys, rfl⟩ := str_pick hyv
      refine ⟨_, rfl, _, rfl, _, _, _, _, rfl, rfl, sq_l hcue, hatx, _, rfl, _, rfl, _, _, _, _, rfl, rfl, sq_l hcue, haty, small100 (by simp), fun tu htu => ?_⟩
      have hcu1 := (kp_new (o := .tup [.str xs, .str ys]) htu) _ _ hcue rfl
      have hF1' := hFe.new (o := .tup [.str xs, .str ys]) htu
      have k1' := ke.trans (kp_new (o := .tup [.str xs, .str ys]) htu)
      refine ⟨tu, _, rfl, sq_t upd_same, rfl, ?_⟩
      generalize upd He tu (.tup [.str xs, .str ys]) = Hv at hcu1 hF1' k1' ⊢
      refine ⟨_, _, rfl, _, rfl, _, rfl, _, _, _, _, rfl, rfl, hcu1, ixN_in a0 (by rw [lle]; exact a1), ?_⟩
      rw [← List.map_set]
      have hF2' := hF1'.at (o := .lst ((le.set kk.toNat xs).map V.str)) hcu1 cuec
      have k2' := kp_mut' (o := .lst ((le.set kk.toNat xs).map V.str)) k1' ncue
      refine ⟨_, _, rfl, _, rfl, _, rfl, _, _, _, _, rfl, rfl, upd_same, ixN_in b0 (by rw [List.length_map, List.length_set, g1]; exact b1), rfl, ?_⟩
      rw [← List.map_set]
      have hFf := hF2'.at (o := .lst (((le.set kk.toNat xs).set tt.toNat ys).map V.str)) upd_same cuec
      have kf := kp_mut' (o := .lst (((le.set kk.toNat xs).set tt.toNat ys).map V.str)) k2' ncue
      have mx := m1_mem hxs
      have my := m1_mem hys
      have hmf : m1 ((le.set kk.toNat xs).set tt.toNat ys) ≤ 3 * n + 62 := by
        have q1 := m1_set le kk.toNat xs
        have q2 := m1_set (le.set kk.toNat xs) tt.toNat ys
        omega
      generalize (le.set kk.toNat xs).set tt.toNat ys = lf at hFf kf hmf ⊢
      exact lz _ F c _ (3 * n + 62) lf _ H _ _ _ _ _ _ _ _ _ hFf upd_same hmf (by omega) kf (fun z' H' a1 a2 a3 => k z' H' a1 a2 (by omega))
    case' refine_2 =>
      have kf := ke
      have hFf := hFe
      have hcuf := hcue
      have hmf : m1 le ≤ 3 * n + 62 := by omega
      generalize le = lf at hcuf hmf ⊢
      exact lz _ F c _ (3 * n + 62) lf _ H _ _ _ _ _ _ _ _ _ hFf hcuf hmf (by omega) kf (fun z' H' a1 a2 a3 => k z' H' a1 a2 (by omega))
theorem cal_spoilt (T : Tx K mg) : Cal P w K mg base CX0 2 "_law_spoilt" ["_law_feed_here", "_law_text_in"] spSpoilt := by
  have CD := cal_draw (P := P) (w := w) (base := base) T
  refine T.h63.cal sc63 (fun vs H Q E h => ?_) (fun _ _ _ _ _ _ us hl => match us, hl with | [_, _], _ => rfl) (fun f cdv A outer s H vs Q E hr h => ?_)
  · obtain ⟨F, c, z, rfl, _⟩ := h; rfl
  · obtain ⟨F, c, z, rfl, hF, hz, k⟩ := h
    obtain ⟨tz, htz, lz⟩ := spoilt_mid (P := P) (w := w) (base := base) T (f := f) (cdv := cdv) (A := A) (outer := outer) (s := s) (H := H) (E := E) hr
    refine ⟨_, (pss_cons (ps_set (i := 2) sc63.nd rfl (Or.inl rfl) (pe_split (pv 1) pe_str))
      (pss_cons (ps_set (i := 3) sc63.nd rfl (Or.inl rfl) (pe_ifExp (pt_cmpR op_gt (pe_callB call_len_seq (by rfl) T.b_len PySem.boot_len (pa_cons (pv 2) pa_nil)) pe_int (nomark _)) (pe_cal CD hr rfl pass0 (pa_cons (pv 0) (pa_cons pe_int pa_nil))) (pe_op op_add pe_int (pe_cal CD hr rfl pass0 (pa_cons (pv 0) (pa_cons pe_int pa_nil))))))
      (pss_cons (ps_par (i := 4) (j := 5) rfl sc63.nd rfl rfl (by decide) rfl rfl (pa_cons (pe_cal CD hr rfl pass0 (pa_cons (pv 0) (pa_cons (pe_callB call_len_seq (by rfl) T.b_len PySem.boot_len (pa_cons (pv 2) pa_nil)) pa_nil))) (pa_cons (pe_cal CD hr rfl pass0 (pa_cons (pv 0) (pa_cons (pe_callB call_len_seq (by rfl) T.b_len PySem.boot_len (pa_cons (pv 2) pa_nil)) pa_nil))) pa_nil)) (by rfl))
      (pss_cons (ps_set (i := 6) sc63.nd rfl (Or.inl rfl) (pe_lst (pa_cons pe_str (pa_cons pe_str (pa_cons pe_str (pa_cons pe_str (pa_cons pe_str (pa_cons pe_str (pa_cons (pe_op op_add_str pe_str (pe_op op_mul60 pe_str pe_int)) (pa_cons pe_str (pa_cons pe_str (pa_cons pe_str (pa_cons pe_str (pa_cons pe_str (pa_cons pe_str (pa_cons pe_str (pa_cons pe_str (pa_cons pe_str pa_nil))))))))))))))))))
      (pss_cons (ps_expr (pe_bm PySem.F.plainAttrs_list PySem.F.slot_list_extend PySem.F.type_list_extend mt_extend (pv 6) (pa_cons (pe_lst (pa_cons pe_str (pa_cons pe_str (pa_cons pe_str (pa_cons pe_str (pa_cons pe_str (pa_cons pe_str (pa_cons pe_str (pa_cons pe_str (pa_cons pe_str (pa_cons pe_str (pa_cons pe_str (pa_cons pe_str pa_nil))))))))))))) pa_nil)))
      (pss_cons (ps_set (i := 7) sc63.nd rfl (Or.inl rfl) (pe_ixL K rfl (pv 6) (pe_cal CD hr rfl pass0 (pa_cons (pv 0) (pa_cons pe_int pa_nil))) (fun _ _ => rfl)))
      (pss_cons (ps_if (pt_cmpR op_lt (pv 3) pe_int (nomark _)) (pss_one (ps_set (i := 2) sc63.nd rfl (Or.inl rfl) (pe_op op_cat (pe_op op_cat (pe_slice sl_strs (pv 2) po_none (po_some (pv 4))) (pe_lst (pa_cons (pv 7) pa_nil))) (pe_slice sl_strs (pv 2) (po_some (pe_op op_add (pv 4) (pe_callTy call_int1 (by rfl) T.b_int boot_int (pa_cons (pe_cmpR op_lt (pv 3) pe_int (nomark _)) pa_nil)))) po_none)))) pss_nil)
      htz))))))), ?_⟩
    have hcnt := split_count (z := z) (y := spc) (by rw [tl_spc]; simp) (by decide +kernel)
    have hn0 : 0 < (sp z).length := List.length_pos_iff.mpr (sp_ne z)
    have hn1 : (sp z).length ≤ 20001 := by have : (sp z).length = (Txt.split z spc).length := rfl; omega
    have hm0 := sp_m1 z
    have lm : ((sp z).map V.str).length = (sp z).length := by rw [List.length_map]
    refine ⟨_, rfl, ⟨z, rfl⟩, z, spc, rfl, rfl, by decide +kernel, small100 (by omega), fun wl hwl => ?_⟩
    have kp1 : Kp H (upd H wl (.lst ((sp z).map V.str))) := kp_new hwl
    have hF1 := hF.new (o := .lst ((sp z).map V.str)) hwl
    have hw1 : (upd H wl (.lst ((sp z).map V.str))) wl = some (.lst ((sp z).map V.str)) := upd_same
    have hwc := hF.cell hwl
    have nwl : ∀ u, H wl = some u → Stb u = false := fun u hu => by rw [hwl] at hu; cases hu
    have hHs : upd H wl (.lst ((Txt.split z spc).map V.str)) = upd H wl (.lst ((sp z).map V.str)) := rfl
    rw [hHs]
    generalize upd H wl (.lst ((sp z).map V.str)) = H1 at kp1 hF1 hw1 ⊢
    refine ⟨_, rfl, wl, _, rfl, .inl (sq_l hw1), _, _, rfl, rfl, _, rfl, iteD (fun _ => ?_) (fun _ => ?_)⟩
    case' refine_1 => refine ⟨_, rfl, F, c, 11, rfl, hF1, by decide, by decide, fun way H2 w0 w1 kp2 hF2 => ?_⟩
    case' refine_1 =>
      obtain ⟨wy, hwy⟩ : ∃ wy : Int, wy = way := ⟨_, rfl⟩
      rw [← hwy]
    case' refine_2 => refine ⟨_, rfl, F, c, 3, rfl, hF1, by decide, by decide, fun dw H2 w0 w1 kp2 hF2 => ⟨8, dw, rfl, rfl, ?_⟩⟩
    case' refine_2 =>
      obtain ⟨wy, hwy⟩ : ∃ wy : Int, wy = 8 + dw := ⟨_, rfl⟩
      skip
    all_goals
      have hw2 := kp2 _ _ hw1 rfl
      have k02 := kp1.trans kp2
      refine ⟨_, rfl, _, rfl, wl, _, rfl, .inl (sq_l hw2), F, c, _, rfl, hF2, by omega, by omega, fun kk H3 a0 a1 kp3 hF3 => ?_⟩
      have hw3 := kp3 _ _ hw2 rfl
      refine ⟨_, rfl, _, rfl, wl, _, rfl, .inl (sq_l hw3), F, c, _, rfl, hF3, by omega, by omega, fun tt H4 b0 b1 kp4 hF4 => ⟨_, _, rfl, ?_⟩⟩
      have k04 := k02.trans (kp3.trans kp4)
      have hw4 := kp4 _ _ hw3 rfl
      rw [lm] at a1 b1
      -- the words
      refine ⟨rfl, rfl, _, _, rfl, rfl, small100 (by decide +kernel), small100 (by simp), fun so hso => ?_⟩
      have hso4 : (upd H4 so (.lst (someA.map V.str))) so = some (.lst (someA.map V.str)) := upd_same
      have k05 := k04.trans (kp_new (o := .lst (someA.map V.str)) hso)
      have hF5 := hF4.new (o := .lst (someA.map V.str)) hso
      have hsoc := hF4.cell hso
      have nso := fresh_kp k04 hso
      have hws : wl ≠ so := fun e => by rw [← e, hw4] at hso; cases hso
      have hw5 : (upd H4 so (.lst (someA.map V.str))) wl = some (.lst ((sp z).map V.str)) := by rw [upd_ne hws]; exact hw4
      refine ⟨_, rfl, .inl ⟨rfl, _, sq_l hso4⟩, small100 (by simp), fun sb hsb => ?_⟩
      have hsb1 : so ≠ sb := fun e => by
        have : (upd H4 so (.lst (someA.map V.str))) sb = none := hsb
        rw [← e, hso4] at this; cases this
      refine ⟨so, sb, someA.map V.str, someB.map V.str, rfl, rfl, by rw [upd_ne hsb1]; exact hso4, upd_same, small100 (by simp [someA, someB]), ?_⟩
      have hsb' : (upd H4 so (.lst (someA.map V.str))) sb = none := hsb
      have k06 : Kp H (upd (upd (upd H4 so (.lst (someA.map V.str))) sb (.lst (someB.map V.str))) so (.lst (someA.map V.str ++ someB.map V.str))) := kp_mut' (k05.trans (kp_new hsb')) nso
      have hF6 : FeedOk F c (upd (upd (upd H4 so (.lst (someA.map V.str))) sb (.lst (someB.map V.str))) so (.lst (someA.map V.str ++ someB.map V.str))) := (hF5.new hsb').at (ys := someA.map V.str) (by rw [upd_ne hsb1]; exact hso4) hsoc
      have hso6 : (upd (upd (upd H4 so (.lst (someA.map V.str))) sb (.lst (someB.map V.str))) so (.lst (someA.map V.str ++ someB.map V.str))) so = some (.lst ((someA ++ someB).map V.str)) := by rw [upd_same, List.map_append]
      have hw6 : (upd (upd (upd H4 so (.lst (someA.map V.str))) sb (.lst (someB.map V.str))) so (.lst (someA.map V.str ++ someB.map V.str))) wl = some (.lst ((sp z).map V.str)) := by
        rw [upd_ne hws, upd_ne (fun e => by rw [← e, hw5] at hsb'; cases hsb')]; exact hw5
      have hHg : upd (upd (upd H4 so (.lst [.str "", .str "-", .str "0", .str "-0", .str "01", .str "-1", .str (("1" : Str) ++ zs60), .str "x", .str "a.b", .str "a..b", .str ".a", .str "A", .str "get", .str "to", .str "self", .str "none"])) sb (.lst [.str "if", .str "sum", .str "and", .str "not", .str "<", .str "=", .str "+", .str "least", .str "1..2", .str "x:0..1", .str ",", .str ":"])) so (.lst (someA.map V.str ++ someB.map V.str)) = upd (upd (upd H4 so (.lst (someA.map V.str))) sb (.lst (someB.map V.str))) so (.lst (someA.map V.str ++ someB.map V.str)) := rfl
      rw [hHg]
      generalize upd (upd (upd H4 so (.lst (someA.map V.str))) sb (.lst (someB.map V.str))) so (.lst (someA.map V.str ++ someB.map V.str)) = H6 at k06 hF6 hso6 hw6 ⊢
      refine ⟨_, rfl, _, rfl, F, c, 28, rfl, hF6, by decide, by decide, fun dn H7 n0 n1 kp7 hF7 => ?_⟩
      obtain ⟨xw, hxw, _, hatw⟩ := at_pick (l := (someA ++ someB).map V.str) n0 (by show dn < (28 : Int); exact n1)
      obtain ⟨wd, hwd, rfl⟩ := str_pick hxw
      have hwdl := some_ok wd hwd
      refine ⟨so, _, _, _, rfl, rfl, sq_l (kp7 _ _ hso6 rfl), hatw, ?_⟩
      have k07 := k06.trans kp7
      have hw7 := kp7 _ _ hw6 rfl
      -- way < 5
      refine ⟨_, rfl, _, 5, rfl, rfl, _, rfl, iteD (fun t5 => ?_) (fun t5 => ?_)⟩
      case' refine_1 =>
        refine ⟨_, rfl, _, rfl, kk, rfl, wl, sp z, rfl, sq_l hw7, fun p1 l1 hp1 m1' c1 => ?_⟩
        have k8 : Kp H7 (upd H7 p1 (.lst (l1.map V.str))) := kp_new hp1
        have hF8 := hF7.new (o := .lst (l1.map V.str)) hp1
        have g8 : (upd H7 p1 (.lst (l1.map V.str))) p1 = some (.lst (l1.map V.str)) := upd_same
        generalize upd H7 p1 (.lst (l1.map V.str)) = H8 at k8 hF8 g8 ⊢
        refine ⟨_, rfl, small100 (by simp), fun p2 hp2 => ?_⟩
        have k9 : Kp H8 (upd H8 p2 (.lst [.str wd])) := kp_new hp2
        have hF9 := hF8.new (o := .lst [.str wd]) hp2
        have g9 : (upd H8 p2 (.lst [.str wd])) p2 = some (.lst [.str wd]) := upd_same
        generalize upd H8 p2 (.lst [.str wd]) = H9 at k9 hF9 g9 ⊢
        refine ⟨p1, p2, _, _, rfl, rfl, k9 _ _ g8 rfl, g9, small100 (by rw [List.length_map, List.length_singleton]; omega), fun p3 hp3 => ?_⟩
        have k10 : Kp H9 (upd H9 p3 (.lst (l1.map V.str ++ [.str wd]))) := kp_new hp3
        have hF10 := hF9.new (o := .lst (l1.map V.str ++ [.str wd])) hp3
        have g10 : (upd H9 p3 (.lst (l1.map V.str ++ [.str wd]))) p3 = some (.lst (l1.map V.str ++ [.str wd])) := upd_same
        generalize upd H9 p3 (.lst (l1.map V.str ++ [.str wd])) = H10 at k10 hF10 g10 ⊢
        refine ⟨_, rfl, _, rfl, _, rfl, _, 4, rfl, rfl, .inr ⟨_, rfl, kk, _, rfl, rfl, _, rfl, wl, sp z, rfl, sq_l ((k8.trans (k9.trans k10)) _ _ hw7 rfl), fun p4 l2 hp4 m2' c2 => ?_⟩⟩
        have k11 : Kp H10 (upd H10 p4 (.lst (l2.map V.str))) := kp_new hp4
        have hF11 := hF10.new (o := .lst (l2.map V.str)) hp4
        have g11 : (upd H10 p4 (.lst (l2.map V.str))) p4 = some (.lst (l2.map V.str)) := upd_same
        generalize upd H10 p4 (.lst (l2.map V.str)) = H11 at k11 hF11 g11 ⊢
        refine ⟨p3, p4, _, _, rfl, rfl, k11 _ _ g10 rfl, g11, small100 (by simp only [List.length_append, List.length_map, List.length_singleton]; omega), fun p5 hp5 => ?_⟩
        have e5 : (l1.map V.str ++ [V.str wd]) ++ l2.map V.str = (l1 ++ [wd] ++ l2).map V.str := by simp
        rw [e5]
        have kc : Kp H (upd H11 p5 (.lst ((l1 ++ [wd] ++ l2).map V.str))) := k07.trans (k8.trans (k9.trans (k10.trans (k11.trans (kp_new hp5)))))
        have hFc := hF11.new (o := .lst ((l1 ++ [wd] ++ l2).map V.str)) hp5
        have hcur : (upd H11 p5 (.lst ((l1 ++ [wd] ++ l2).map V.str))) p5 = some (.lst ((l1 ++ [wd] ++ l2).map V.str)) := upd_same
        have ncur := fresh_kp (k07.trans (k8.trans (k9.trans (k10.trans k11)))) hp5
        have curc := hF11.cell hp5
        have hm : m1 (l1 ++ [wd] ++ l2) ≤ 2 * (z.length + 1) + 62 := by rw [m1_app, m1_app, m1_cons, m1_nil]; omega
        subst hwy
        refine lz _ F c p5 (z.length + 1) (sp z).length _ _ kk tt H _ _ _ _ _ _ _ hFc hcur hm (fun e => by have := of_decide_eq_true t5; omega) (by omega) a0 a1 b0 b1 ncur curc kc ?_
        exact fun z' H' a1 a2 a3 => k z' H' a1 a2 (by omega)
      case' refine_2 =>
        subst hwy
        refine lz _ F c wl (z.length + 1) (sp z).length _ _ kk tt H _ _ _ _ _ _ _ hF7 hw7 (by omega) (fun _ => ⟨rfl, by omega⟩) (by omega) a0 a1 b0 b1 nwl hwc k07 ?_
        exact fun z' H' a1 a2 a3 => k z' H' a1 a2 (by omega)
end
end K12

set_option maxHeartbeats 4000000
/-! H1: _law_heard, asked through a lambda. -/
namespace K12
open PySem PySem.Spec PyProof.Rows L2 TL NumText
set_option autoImplicit false
/-- isinstance(e, c), e the caught error with its own dict -/
def rIsD (K : PySem.W.Frag) (a : Addr) (cls : Value) (d : Option Addr) : List V → Hp → VK → Prop := fun xs H Q => ∃ (D dd : Addr) (fs : List (Str × V)) (c : Addr) (b : Bool), cls = .ref D ∧ d = some dd ∧ ExcC K D ∧ H dd = some (.xd fs) ∧ xs = [.ref a, .ref c] ∧ PySem.W.kitOne K (.ref D) (.ref c) = some b ∧ Q (.bl b) H
def rIsDT (K : PySem.W.Frag) (a : Addr) (cls : Value) (d : Option Addr) : List V → Hp → VK → Prop := fun xs H Q => ∃ (D dd : Addr) (fs : List (Str × V)) (tp : Addr) (cs : List V) (us : List Value) (b : Bool), cls = .ref D ∧ d = some dd ∧ ExcC K D ∧ H dd = some (.xd fs) ∧ xs = [.ref a, .ref tp] ∧ H tp = some (.tup cs) ∧ Paired ClsV cs us ∧ PySem.W.kitAny K (.ref D) us = some b ∧ Q (.bl b) H
section
variable {X : Cx} {a : Addr} {oe : Obj} {cls : Value} {d : Option Addr} {pn : List (Addr × Obj)}
theorem instD {D dd : Addr} {fs : List (Str × V)} {pins : List (Addr × Obj)} {σ : L2.St} {H : Hp} {s : Shared} (I : Inv (X.suite a ((a, oe) :: pn)) pins σ H s) (hz : Zc (.ref D) (some dd) oe) (hf : ∃ vs, oe.data = .fields vs) (ea : H dd = some (.xd fs)) : ∃ od, PySem.W.InstAt s.heap a oe D (some od) := by
  obtain ⟨ha, _⟩ := I.pin (a, oe) (List.mem_append_left _ List.mem_cons_self)
  obtain ⟨vs, hd⟩ := hf
  have hx : ObjOk X.prog X.w H s.heap dd (.xd fs) := I.hok dd _ ea
  obtain ⟨mA, hns, hr⟩ := hx
  obtain ⟨od, ho, hl⟩ := lookIn_ns hns
  exact ⟨od, ha, hz.1, by unfold PySem.W.notCls; rw [hd] <;> rfl, by rw [hz.2]; exact ho⟩
theorem clsS_of {K : PySem.W.Frag} {D : Addr} (h : PySem.W.hasDictIn K D = true) : (PySem.W.clsIn K D).isSome = true := by
  obtain ⟨cd, hc, _⟩ := PySem.W.any_some h
  rw [hc]; rfl
theorem call_isD (hz : Zc cls d oe) (hf : ∃ vs, oe.data = .fields vs) : CallR (X.suite a ((a, oe) :: pn)) (.builtin "isinstance") (rIsD X.K a cls d) := by
  intro pins s σ H xs us Q I r h
  obtain ⟨D, dd, fs, c, b, rfl, rfl, C, ea, rfl, e, q⟩ := h
  obtain ⟨u1, u2, rfl, r1, r2⟩ := vals2 r
  cases (show u1 = Value.ref a from r1)
  cases (show u2 = Value.ref c from r2)
  obtain ⟨od, J⟩ := instD I hz hf ea
  exact PySem.W.kia_one (PySem.W.kitx_exc (clsS_of C.hd) C.hg C.hk C.hs C.ha C.hn C.ht C.hm) I.kIn J e (fun z => nomatch z) fun tk => ⟨.bl b, H, I.tok tk, rfl, q⟩
theorem call_isDT (hz : Zc cls d oe) (hf : ∃ vs, oe.data = .fields vs) : CallR (X.suite a ((a, oe) :: pn)) (.builtin "isinstance") (rIsDT X.K a cls d) := by
  intro pins s σ H xs us Q I r h
  obtain ⟨D, dd, fs, tp, cs, ws, b, rfl, rfl, C, ea, rfl, hT, k, e, q⟩ := h
  obtain ⟨u1, u2, rfl, r1, r2⟩ := vals2 r
  cases (show u1 = Value.ref a from r1)
  cases (show u2 = Value.ref tp from r2)
  obtain ⟨od, J⟩ := instD I hz hf ea
  obtain ⟨_, its, rv, o, h1, h2, n, h3⟩ := (show ObjOk X.prog X.w H s.heap tp (.tup cs) from I.hok tp _ hT)
  have e3 := ClsV.all k rv
  subst e3
  obtain ⟨oc, od', dt, sl⟩ := o
  simp only at h2 h3
  subst h2 h3
  exact PySem.W.kia_tup (PySem.W.kitx_exc (clsS_of C.hd) C.hg C.hk C.hs C.ha C.hn C.ht C.hm) I.kIn J h1 e (fun z => nomatch z) fun tk => ⟨.bl b, H, I.tok tk, rfl, q⟩
end
/-- the classes that _law_heard names, as InvalidText at CI stands to them -/
structure Kin (K : PySem.W.Frag) (mg : Str → Option Value) (CI cL p1 p2 p3 q1 q2 q3 q4 r1 r2 r3 r4 r5 : Addr) : Prop where
  late : mg "LateError" = some (.ref cL)
  lateX : PySem.W.exmOne K (.ref CI) (.ref cL) = some true
  g1 : mg "PaperError" = some (.ref p1)
  k1 : PySem.W.kitOne K (.ref CI) (.ref p1) = some false
  g2 : mg "StoreError" = some (.ref p2)
  k2 : PySem.W.kitOne K (.ref CI) (.ref p2) = some false
  g3 : mg "TextError" = some (.ref p3)
  k3 : PySem.W.kitOne K (.ref CI) (.ref p3) = some true
  g4 : mg "InvalidPaper" = some (.ref q1)
  k4 : PySem.W.kitOne K (.ref CI) (.ref q1) = some false
  g5 : mg "UnknownObject" = some (.ref q2)
  k5 : PySem.W.kitOne K (.ref CI) (.ref q2) = some false
  g6 : mg "UnfitExpression" = some (.ref q3)
  k6 : PySem.W.kitOne K (.ref CI) (.ref q3) = some false
  g7 : mg "InvalidText" = some (.ref q4)
  k7 : PySem.W.kitOne K (.ref CI) (.ref q4) = some true
  o1 : mg "InvalidStep" = some (.ref r1)
  o2 : mg "GoneCell" = some (.ref r2)
  o3 : mg "NothingToUndo" = some (.ref r3)
  o4 : mg "InvalidPace" = some (.ref r4)
  o5 : mg "InvalidCommand" = some (.ref r5)
  oK : PySem.W.kitAny K (.ref CI) [.ref r1, .ref r2, .ref r3, .ref r4, .ref r5] = some false
  ex : ExcC K CI
  xf : XfC K CI
  nw : PySem.W.findIn K (.ref CI) "word" = some none
  na : PySem.W.findIn K (.ref CI) "at" = some none
  nn : PySem.W.findIn K (.ref CI) "number" = some none
  np : PySem.W.findIn K (.ref CI) "path" = some none
  nr : PySem.W.findIn K (.ref CI) "row" = some none
  nf : PySem.W.findIn K (.ref CI) "field" = some none
theorem sc56 : FnScope ["_law_ask", "e_in", "_law_families", "_law_strays", "_law_others"] ["_law_ask"] (defScope (top 56)) := ⟨rfl, rfl, rfl, by decide +kernel, rfl, by decide +kernel, by decide +kernel⟩
theorem pss_imp {X : Cx} {st : List Stmt} {t t' : TS} (h : PSs X st t) (k : ∀ D σ H, σ.length = X.N.length → t' D σ H → t D σ H) : PSs X st t' := ⟨fun pins s σ H D I q => h.run pins s σ H D I (k D σ H I.len q)⟩
/-- what the suite of _law_heard answers -/
def tHS (CI : Addr) (a : Addr) (cls : Value) (d : Option Addr) : TS := fun D σ H => (1 < σ.length → σ[1]? = some (some (.ref a))) ∧ ∃ (row n : Int) (dd : Addr), cls = .ref CI ∧ d = some dd ∧ H dd = some (.xd (itF (.int row) (.int n))) ∧ ∀ H'' t, Same H H'' → H'' t = some (.tup [.str "text", .int row, .int n]) → D.rt (.ref t) H''
theorem dp_bls {K : PySem.W.Frag} {H : Hp} : ∀ bs : List Bool, DpAll K H (bs.map V.bl) (bs.map PyData.bool)
  | [] => .nil
  | b :: r => .cons (.bl b) (dp_bls r)
theorem eq_bls {K : PySem.W.Frag} {H : Hp} {a p : Addr} {bs cs : List Bool} {r : Bool} {Q : VK} (ha : H a = some (.lst (bs.map V.bl))) (hp : H p = none) (h1 : SeqAt.shaped (.list (bs.map PyData.bool)) = true) (h2 : SeqAt.shaped (.list (cs.map PyData.bool)) = true) (e : PyData.eqv (.list (bs.map PyData.bool)) (.list (cs.map PyData.bool)) = r)
    (h : Q (.bl r) (upd H p (.lst (cs.map V.bl)))) : rEqD K (.ref a) (.ref p) (upd H p (.lst (cs.map V.bl))) Q :=
  ⟨_, _, .lst (sq_l (by rw [upd_ne (ne_of_none ha hp)]; exact ha)) (dp_bls bs), .lst (sq_l upd_same) (dp_bls cs), h1, h2, by rw [e]; exact h⟩
/-- what an asked error is answered with -/
def errA (CI : Addr) (Q : VK) : XK := fun cls d H' => ∃ (row n : Int) (dd : Addr), cls = .ref CI ∧ d = some dd ∧ H' dd = some (.xd (itF (.int row) (.int n))) ∧ ∀ H'' t, Same H' H'' → H'' t = some (.tup [.str "text", .int row, .int n]) → Q (.ref t) H''
def THear (CI : Addr) : (XK → Hp → VK → Prop) → Hp → VK → Prop := fun tl H Q =>
  tl (errA CI Q) H fun v H' => [V.str "told", v].length ≤ sizeLine ∧ ∀ t, H' t = none → Q (.ref t) (upd H' t (.tup [.str "told", v]))
section
variable {X : Cx}
theorem heard_gives (T : Tx X.K X.mg) {CI cL p1 p2 p3 q1 q2 q3 q4 r1 r2 r3 r4 r5 : Addr} (KI : Kin X.K X.mg CI cL p1 p2 p3 q1 q2 q3 q4 r1 r2 r3 r4 r5) {k : Nat} (hr : Room (k + 2) X.A) {g : Addr} {cdg : Value} {q : Str} :
    LamX.GivesTo X ["_law_ask", "e_in", "_law_families", "_law_strays", "_law_others"] "_law_heard" (defScope (top 56)) g cdg (defBody (top 56)) "_law_ask" q (THear CI) := by
  intro f c' s H Q tl act hc h
  have hu := (hr.deeper (envOfC "_law_heard" (defScope (top 56)) s.heap.objs.size g cdg)).units
  refine ⟨_, pss_one (ps_try_as (X := (cxOf C8.CX0 X.prog X.w X.K X.mg X.base ["_law_ask", "e_in", "_law_families", "_law_strays", "_law_others"] "_law_heard" (defScope (top 56)) g cdg X.A X.stack s H C8.E0).nox) (i := 1) (c := .ref cL)
      (tb := fun W D σ H => ∃ Ech : XK, (∀ cls d σ' H', Ech cls d H' → W cls d σ' H') ∧ tRet (tTup (tCons (tC (.str "told")) (tCons (fun σZ HZ Q => σZ[0]? = some (some (.ref f)) ∧ HZ c' = some (LamX.CodeO c' q) ∧ tl Ech HZ Q) tNil))) D σ H)
      (ts := tHS CI) rfl rfl sc56.nd rfl rfl ⟨by rfl, by decide, .inl KI.late⟩ LamX.takes0 (fun W pn xe tk _ => ?_) (fun a oe cls d pn hz hf => ?_)), ?_⟩
  · refine ⟨fun pins s' σ H' D I h' => ?_⟩
    obtain ⟨Ech, hW, h1⟩ := h'
    exact (pss_one (ps_ret (pe_tup (pa_cons pe_str (pa_cons (act W pn xe Ech _ _ tk hW) pa_nil))))).run pins s' σ H' D I h1
  · refine pss_imp
      (pss_cons (ps_set (i := 2) sc56.nd rfl (Or.inl rfl) (pe_lst (pa_cons (pe_callB (call_isD hz hf) (by rfl) T.b_isinstance (by decide +kernel) (pa_cons (pv 1) (pa_cons (pe_glob (v := .ref p1) (by rfl) KI.g1 rfl) pa_nil))) (pa_cons (pe_callB (call_isD hz hf) (by rfl) T.b_isinstance (by decide +kernel) (pa_cons (pv 1) (pa_cons (pe_glob (v := .ref p2) (by rfl) KI.g2 rfl) pa_nil))) (pa_cons (pe_callB (call_isD hz hf) (by rfl) T.b_isinstance (by decide +kernel) (pa_cons (pv 1) (pa_cons (pe_glob (v := .ref p3) (by rfl) KI.g3 rfl) pa_nil))) pa_nil)))))
      (pss_cons (ps_set (i := 3) sc56.nd rfl (Or.inl rfl) (pe_lst (pa_cons (pe_callB (call_isD hz hf) (by rfl) T.b_isinstance (by decide +kernel) (pa_cons (pv 1) (pa_cons (pe_glob (v := .ref q1) (by rfl) KI.g4 rfl) pa_nil))) (pa_cons (pe_callB (call_isD hz hf) (by rfl) T.b_isinstance (by decide +kernel) (pa_cons (pv 1) (pa_cons (pe_glob (v := .ref q2) (by rfl) KI.g5 rfl) pa_nil))) (pa_cons (pe_callB (call_isD hz hf) (by rfl) T.b_isinstance (by decide +kernel) (pa_cons (pv 1) (pa_cons (pe_glob (v := .ref q3) (by rfl) KI.g6 rfl) pa_nil))) pa_nil)))))
      (pss_cons (ps_expr (pe_bm PySem.F.plainAttrs_list PySem.F.slot_list_append PySem.F.type_list_append mt_append (pv 3) (pa_cons (pe_callB (call_isD hz hf) (by rfl) T.b_isinstance (by decide +kernel) (pa_cons (pv 1) (pa_cons (pe_glob (v := .ref q4) (by rfl) KI.g7 rfl) pa_nil))) pa_nil)))
      (pss_cons (ps_set (i := 4) sc56.nd rfl (Or.inl rfl) (pe_callB (call_isDT hz hf) (by rfl) T.b_isinstance (by decide +kernel) (pa_cons (pv 1) (pa_cons (pe_tup (pa_cons (pe_glob (v := .ref r1) (by rfl) KI.o1 rfl) (pa_cons (pe_glob (v := .ref r2) (by rfl) KI.o2 rfl) (pa_cons (pe_glob (v := .ref r3) (by rfl) KI.o3 rfl) (pa_cons (pe_glob (v := .ref r4) (by rfl) KI.o4 rfl) (pa_cons (pe_glob (v := .ref r5) (by rfl) KI.o5 rfl) pa_nil)))))) pa_nil))))
      (pss_cons (ps_if (PW.pt (pw_and (pt_cmpR (op_eqD hu) (pv 2) (pe_lst (pa_cons pe_bl (pa_cons pe_bl (pa_cons pe_bl pa_nil)))) (nomark _)) (pw_and (pt_cmpR (op_eqD hu) (pv 3) (pe_lst (pa_cons pe_bl (pa_cons pe_bl (pa_cons pe_bl (pa_cons pe_bl pa_nil))))) (nomark _)) (pw_and1 (pt_not (pt_val (pv 4))))))) (pss_one (ps_ret (pe_tup (pa_cons pe_str (pa_cons (pe_xf KI.xf KI.nw hz hf (pv 1)) (pa_cons (pe_xf KI.xf KI.na hz hf (pv 1)) pa_nil)))))) pss_nil)
      (pss_cons (ps_if (PW.pt (pw_and (pt_cmpR (op_eqD hu) (pv 2) (pe_lst (pa_cons pe_bl (pa_cons pe_bl (pa_cons pe_bl pa_nil)))) (nomark _)) (pw_and (pt_cmpR (op_eqD hu) (pv 3) (pe_lst (pa_cons pe_bl (pa_cons pe_bl (pa_cons pe_bl (pa_cons pe_bl pa_nil))))) (nomark _)) (pw_and1 (pt_not (pt_val (pv 4))))))) (pss_one (ps_ret (pe_tup (pa_cons pe_str (pa_cons (pe_xf KI.xf KI.nn hz hf (pv 1)) pa_nil))))) pss_nil)
      (pss_cons (ps_if (PW.pt (pw_and (pt_cmpR (op_eqD hu) (pv 2) (pe_lst (pa_cons pe_bl (pa_cons pe_bl (pa_cons pe_bl pa_nil)))) (nomark _)) (pw_and (pt_cmpR (op_eqD hu) (pv 3) (pe_lst (pa_cons pe_bl (pa_cons pe_bl (pa_cons pe_bl (pa_cons pe_bl pa_nil))))) (nomark _)) (pw_and1 (pt_not (pt_val (pv 4))))))) (pss_one (ps_ret (pe_tup (pa_cons pe_str (pa_cons (pe_xf KI.xf KI.np hz hf (pv 1)) pa_nil))))) pss_nil)
      (pss_cons (ps_if (PW.pt (pw_and (pt_cmpR (op_eqD hu) (pv 2) (pe_lst (pa_cons pe_bl (pa_cons pe_bl (pa_cons pe_bl pa_nil)))) (nomark _)) (pw_and (pt_cmpR (op_eqD hu) (pv 3) (pe_lst (pa_cons pe_bl (pa_cons pe_bl (pa_cons pe_bl (pa_cons pe_bl pa_nil))))) (nomark _)) (pw_and1 (pt_not (pt_val (pv 4))))))) (pss_one (ps_ret (pe_tup (pa_cons pe_str (pa_cons (pe_xf KI.xf KI.nr hz hf (pv 1)) (pa_cons (pe_xf KI.xf KI.nf hz hf (pv 1)) pa_nil)))))) pss_nil)
      (pss_one (ps_ret (pe_tup (pa_cons pe_str pa_nil))))))))))))
      (fun D σ H hl h' => ?_)
    obtain ⟨hσ, row, n, dd, rfl, rfl, hdd, k⟩ := h'
    match σ, hl, hσ with
    | [x0, _, x2, x3, x4], _, hσ =>
    obtain rfl := Option.some.inj (hσ (by simp))
    refine ⟨_, rfl, CI, dd, _, p1, false, rfl, rfl, KI.ex, hdd, rfl, KI.k1, _, rfl, CI, dd, _, p2, false, rfl, rfl, KI.ex, hdd, rfl, KI.k2, _, rfl, CI, dd, _, p3, true, rfl, rfl, KI.ex, hdd, rfl, KI.k3, small100 (by simp), fun pf hpf => ?_⟩
    have s1 : Same H (upd H pf (.lst ([false, false, true].map V.bl))) := same_new hpf
    have f1 : (upd H pf (.lst ([false, false, true].map V.bl))) pf = some (.lst ([false, false, true].map V.bl)) := upd_same
    show tSeq _ _ _ _ (upd H pf (.lst ([false, false, true].map V.bl)))
    generalize upd H pf (.lst ([false, false, true].map V.bl)) = H1 at s1 f1 ⊢
    refine ⟨_, rfl, CI, dd, _, q1, false, rfl, rfl, KI.ex, s1 _ _ hdd, rfl, KI.k4, _, rfl, CI, dd, _, q2, false, rfl, rfl, KI.ex, s1 _ _ hdd, rfl, KI.k5, _, rfl, CI, dd, _, q3, false, rfl, rfl, KI.ex, s1 _ _ hdd, rfl, KI.k6, small100 (by simp), fun ps hps => ?_⟩
    have s2 : Same H (upd H1 ps (.lst ([false, false, false].map V.bl))) := s1.trans (same_new hps)
    have f2 : (upd H1 ps (.lst ([false, false, false].map V.bl))) pf = some (.lst ([false, false, true].map V.bl)) := same_new hps _ _ f1
    have g2 : (upd H1 ps (.lst ([false, false, false].map V.bl))) ps = some (.lst ([false, false, false].map V.bl)) := upd_same
    have nps : H ps = none := free_same s1 hps
    have hpp : pf ≠ ps := ne_of_none f1 hps
    show tSeq _ _ _ _ (upd H1 ps (.lst ([false, false, false].map V.bl)))
    generalize upd H1 ps (.lst ([false, false, false].map V.bl)) = H2 at s2 f2 g2 ⊢
    refine ⟨_, rfl, ?_, _, rfl, CI, dd, _, q4, true, rfl, rfl, KI.ex, s2 _ _ hdd, rfl, KI.k7, ps, _, _, rfl, rfl, g2, small100 (by simp), ?_⟩
    case refine_1 => exact .inl ⟨rfl, _, sq_l g2⟩
    have s3 : Same H (upd H2 ps (.lst ([false, false, false, true].map V.bl))) := same_mut s2 nps
    have f3 : (upd H2 ps (.lst ([false, false, false, true].map V.bl))) pf = some (.lst ([false, false, true].map V.bl)) := by rw [upd_ne hpp]; exact f2
    have g3 : (upd H2 ps (.lst ([false, false, false, true].map V.bl))) ps = some (.lst ([false, false, false, true].map V.bl)) := upd_same
    show tSeq _ _ _ _ (upd H2 ps (.lst ([false, false, false, true].map V.bl)))
    generalize upd H2 ps (.lst ([false, false, false, true].map V.bl)) = H3 at s3 f3 g3 ⊢
    refine ⟨_, rfl, small100 (by simp), fun pt hpt => ⟨CI, dd, _, pt, _, _, false, rfl, rfl, KI.ex, (s3.trans (same_new hpt)) _ _ hdd, rfl, upd_same, .cons (.own _) (.cons (.own _) (.cons (.own _) (.cons (.own _) (.cons (.own _) .nil)))), KI.oK, ?_⟩⟩
    have s4 := s3.trans (same_new (o := .tup [.ref r1, .ref r2, .ref r3, .ref r4, .ref r5]) hpt)
    have f4 := same_new (o := .tup [.ref r1, .ref r2, .ref r3, .ref r4, .ref r5]) hpt _ _ f3
    have g4 := same_new (o := .tup [.ref r1, .ref r2, .ref r3, .ref r4, .ref r5]) hpt _ _ g3
    show tSeq _ _ _ _ (upd H3 pt (.tup [.ref r1, .ref r2, .ref r3, .ref r4, .ref r5]))
    generalize upd H3 pt (.tup [.ref r1, .ref r2, .ref r3, .ref r4, .ref r5]) = H4 at s4 f4 g4 ⊢
    -- the four tests
    refine ⟨_, rfl, small100 (by simp), fun c1 hc1 => eq_bls (cs := [true, false, false]) (r := false) f4 hc1 (by decide +kernel) (by decide +kernel) (by decide +kernel) ⟨_, rfl, iteF (iteF ?_)⟩⟩
    replace s4 := s4.trans (same_new (o := .lst ([true, false, false].map V.bl)) hc1)
    replace f4 := same_new (o := .lst ([true, false, false].map V.bl)) hc1 _ _ f4
    replace g4 := same_new (o := .lst ([true, false, false].map V.bl)) hc1 _ _ g4
    refine ⟨_, rfl, small100 (by simp), fun c2 hc2 => eq_bls (cs := [false, true, false]) (r := false) f4 hc2 (by decide +kernel) (by decide +kernel) (by decide +kernel) ⟨_, rfl, iteF (iteF ?_)⟩⟩
    replace s4 := s4.trans (same_new (o := .lst ([false, true, false].map V.bl)) hc2)
    replace f4 := same_new (o := .lst ([false, true, false].map V.bl)) hc2 _ _ f4
    replace g4 := same_new (o := .lst ([false, true, false].map V.bl)) hc2 _ _ g4
    refine ⟨_, rfl, small100 (by simp), fun c3 hc3 => eq_bls (cs := [false, true, false]) (r := false) f4 hc3 (by decide +kernel) (by decide +kernel) (by decide +kernel) ⟨_, rfl, iteF (iteF ?_)⟩⟩
    replace s4 := s4.trans (same_new (o := .lst ([false, true, false].map V.bl)) hc3)
    replace f4 := same_new (o := .lst ([false, true, false].map V.bl)) hc3 _ _ f4
    replace g4 := same_new (o := .lst ([false, true, false].map V.bl)) hc3 _ _ g4
    refine ⟨_, rfl, small100 (by simp), fun c4 hc4 => eq_bls (cs := [false, false, true]) (r := true) f4 hc4 (by decide +kernel) (by decide +kernel) (by decide +kernel) ⟨_, rfl, iteT ?_⟩⟩
    replace s4 := s4.trans (same_new (o := .lst ([false, false, true].map V.bl)) hc4)
    replace g4 := same_new (o := .lst ([false, false, true].map V.bl)) hc4 _ _ g4
    refine ⟨_, rfl, small100 (by simp), fun c5 hc5 => eq_bls (cs := [false, false, false, true]) (r := true) g4 hc5 (by decide +kernel) (by decide +kernel) (by decide +kernel) ⟨_, rfl, iteT ?_⟩⟩
    replace s4 := s4.trans (same_new (o := .lst ([false, false, false, true].map V.bl)) hc5)
    refine ⟨_, rfl, false, rfl, iteT ?_⟩
    refine ⟨_, rfl, rfl, rfl, dd, _, .int row, rfl, s4 _ _ hdd, rfl, _, rfl, rfl, rfl, dd, _, .int n, rfl, s4 _ _ hdd, rfl, small100 (by simp), fun pz hpz => k _ pz (s4.trans (same_new hpz)) upd_same⟩
  · refine ⟨errA CI Q, fun cls d σ' H' he => ?_, rfl, hc, h⟩
    obtain ⟨row, n, dd, rfl, rfl, hdd, k⟩ := he
    refine ⟨true, KI.lateX, fun _ a ha => ⟨fun hl => ?_, row, n, dd, rfl, rfl, hdd, k⟩, fun z => Bool.noConfusion z⟩
    rw [List.length_set] at hl
    rw [List.getElem?_set_self hl]
end
end K12

set_option maxHeartbeats 4000000
/-! H2: calls under empty guards (repr asks that), repr, _law_heard asked. -/
namespace K12
open PySem PySem.Spec PyProof.Rows L2 TL NumText
set_option autoImplicit false
/-- FnOk, promised where the guards are empty -/
structure FnG (P : Program) (w : World) (K : PySem.W.Frag) (mg : Str → Option Value) (base : Heap) (CX : CXT) (k : Nat) (f : Addr) (fd : FuncData) (ps : List Str) (sp : Sp) : Prop where
  len : ∀ vs H Q E, sp vs H Q E → vs.length = ps.length
  run : ∀ (A : Around) (outer : List Env) (s : Shared) (H : Hp) (args : Args) (us : List Value) (vs : List V) (Q : VK) (E : XK), A.guards = some [] → Room k A → Env0 P w K mg base A outer s H → BindsTo s fd args (ps.zip us) → Vals vs us → sp vs H Q E →
    codeAny (model P w) A (.call (.ref f) args) (CR CX outer P w H s Q E) s
structure CalG (P : Program) (w : World) (K : PySem.W.Frag) (mg : Str → Option Value) (base : Heap) (CX : CXT) (k : Nat) (x : Str) (ps : List Str) (sp : Sp) : Prop where
  ex : ∃ f fd, FnG P w K mg base CX k f fd ps sp ∧ mg x = some (.ref f) ∧ PySem.W.keepIn K (.ref f) = true ∧ Binds K fd ps []
/-- the def st stands under the name x, its code object at c -/
structure HsC (K : PySem.W.Frag) (mg : Str → Option Value) (x : Str) (st : Stmt) (c : Addr) : Prop where
  ex : ∃ (f : Addr) (oc : Value) (od : Option Addr) (kV doc pm : Value) (an : Option Addr) (ct : Value) (osl : Array (Option Value)),
    K.lookup f = some ⟨oc, od, .func (PySem.W.fnOf x x (defArgs st) (defBody st) (defScope st) .none kV doc pm an (.ref c) ct), osl⟩ ∧ PySem.W.codeIn K (.ref c) x = true ∧ PySem.W.keepIn K (.ref f) = true ∧ mg x = some (.ref f)
section
variable {P : Program} {w : World} {K : PySem.W.Frag} {mg : Str → Option Value} {base : Heap}
theorem HsC.calG {x : Str} {st : Stmt} {c : Addr} {N ps : List Str} {k : Nat} {sp : Sp} (h : HsC K mg x st c) (S : FnScope N ps (defScope st)) (len : ∀ vs H Q E, sp vs H Q E → vs.length = ps.length)
    (hbind : ∀ (kV doc pm : Value) (an : Option Addr) (cdv ct : Value) (us : List Value), us.length = ps.length → bindArgs (PySem.W.fnOf x x (defArgs st) (defBody st) (defScope st) .none kV doc pm an cdv ct) ⟨us, []⟩ = pure (ps.zip us))
    (hbody : ∀ (f : Addr) (A : Around) (outer : List Env) (s : Shared) (H : Hp) (vs : List V) (Q : VK) (E : XK), A.guards = some [] → Room k (A.deeper (envOfC x (defScope st) s.heap.objs.size f (.ref c))) → sp vs H Q E →
      ∃ t, PSs (cxOf CX0 P w K mg base N x (defScope st) f (.ref c) A outer s H E).nox (defBody st) t ∧ t { nx := fun _ H' => Q .non H', rt := Q } (L2.start N vs) H) : CalG P w K mg base CX0 (k + 1) x ps sp := by
  obtain ⟨f, oc, od, kV, doc, pm, an, ct, osl, lk, hcd, kp, m⟩ := h.ex
  refine ⟨f, _, ⟨len, fun A outer s H args us vs Q E hg hr e0 hb r hsp => ?_⟩, m, kp, .all (hbind kV doc pm an (.ref c) ct)⟩
  refine LamX.run_ofS lk hcd S hr e0 hb r (len _ _ _ _ hsp) fun hr' => ?_
  obtain ⟨t, h, q⟩ := hbody f A outer s H vs Q E hg hr' hsp
  exact ⟨t, h.nox, q⟩
end
theorem run_fnG {X : Cx} {CX : CXT} {k : Nat} {f : Addr} {fd : FuncData} {ps : List Str} {sp : Sp} {E : XK} {pins : List (Addr × Obj)} {σ : L2.St} {H : Hp} {s : Shared} {Q : VK} {us : List Value} {vs : List V} (F : FnG X.prog X.w X.K X.mg X.base CX k f fd ps sp) (hgd : X.A.guards = some []) (hr : Room k X.A) (hb : Binds X.K fd ps []) (hx : Passes CX X E)
    (I : Inv X pins σ H s) (r : Vals vs us) (h : sp vs H Q E) : wpAny (model X.prog X.w) X.A (call (.ref f) us) (EP X pins σ Q) X.xe s := by
  have hl : us.length = ps.length := by rw [← r.length]; exact F.len _ _ _ _ h
  have hb' := hb s us I.kIn (by rw [List.append_nil]; exact hl)
  rw [List.append_nil] at hb'
  refine wpAny_call (codeAny_mono (F.run X.A X.stack s H ⟨us, []⟩ us vs Q E hgd hr I.env0 hb' r h) fun q s' hq => ?_)
  match q, hq with
  | .error e, hq => exact hx pins σ H s e s' I hq
  | .ok (.ret u), hq => exact I.after hq
  | .ok .next, hq => exact False.elim hq
  | .ok .brk, hq => exact False.elim hq
  | .ok .cont, hq => exact False.elim hq
/-- f(e, ..), f promised under empty guards -/
theorem pe_calG {X : Cx} {CX : CXT} {k : Nat} {x : Str} {ps : List Str} {sp : Sp} {E : XK} {p pos : Pos} {e : Expr} {es : List Expr} {t : TA} (C : CalG X.prog X.w X.K X.mg X.base CX k x ps sp) (hgd : X.A.guards = some []) (hr : Room k X.A) (hg : Gl X x) (hx : Passes CX X E) (ha : PA X (e :: es) t)
    (hdb : (x == ("__debug__" : Str)) = false := by decide) (he : starEach (e :: es) X.env = (false, eval e X.env) :: starEach es X.env := by rfl) (hpl : (backTo pos (starEach es X.env)).any (·.1) = false := by rfl) :
    PE X (.Call (.Name x p) (e :: es) [] pos) (fun σ H Q => t σ H fun vs H1 => sp vs H1 Q E) := by
  refine ⟨fun pins s σ H Q I h => ?_⟩
  obtain ⟨f, fd, F, m, kp, b⟩ := C.ex
  refine wpAny_Call_Name_kw (ld_glob I hg m ?_ hdb)
  refine PySem.W.callWith_K (h₀ := X.base) I.ok.mod.kin kp (thn (ha.run pos pins s σ H _ I h) fun us s1 ⟨vs, H1, I1, r, q⟩ => ⟨I1.kIn, ?_⟩) he hpl
  exact run_fnG F hgd hr b hx I1 r q
/-- repr of a list or a tuple of simple values -/
def rRepr (K : PySem.W.Frag) : List V → Hp → VK → Prop := fun xs H Q => ∃ (a : Addr) (d : PyData), xs = [.ref a] ∧ Dp K H (.ref a) d ∧ d.showable = true ∧ d.hasDict = false ∧ d.depth ≤ 100 ∧ d.shown.length ≤ sizeLine ∧ Q (.str d.shown) H
theorem call_repr {X : Cx} (hgd : X.A.guards = some []) (hu : X.A.units + 200 < cLine) : CallR X (.builtin "repr") (rRepr X.K) := by
  intro pins s σ H xs us Q I r h
  obtain ⟨a, d, rfl, hd, sh, nd, dp, sz, q⟩ := h
  obtain ⟨u, rfl, r1⟩ := vals1 r
  cases (show u = Value.ref a from r1)
  obtain ⟨as, rd⟩ := Dp.reads I d _ _ hd rfl
  exact repr_of_reads' rd sh (fun z => by rw [nd] at z; cases z) hgd (by omega) (fun _ _ e => e) (fun h' u tk hk => ⟨.str _, H, I.kept (t' := tk) hk, ⟨_, rfl⟩, q⟩) sz
/-- _law_heard(lambda: body) -/
theorem pe_heard {X : Cx} (T : Tx X.K X.mg) {CI cL p1 p2 p3 q1 q2 q3 q4 r1 r2 r3 r4 r5 : Addr} (KI : Kin X.K X.mg CI cL p1 p2 p3 q1 q2 q3 q4 r1 r2 r3 r4 r5) {k : Nat} (hr : Room (k + 2) X.A) {TT : List (Addr × Str)} {c P : Addr} {params : Arguments} {body : Expr} {scope : Scope} {t : XK → TE} {p lpos pos : Pos}
    (hg : Gl X "_law_heard") (TB : LamX.TabB X.base X.mg c P) (hcode : X.env.code = .ref c) (hmT : (P, X.env.qual ++ "<lambda>") ∈ TT) (hu : ∀ p ∈ TT, p.1 = P → p.2 = X.env.qual ++ "<lambda>") (L : LamX.LamS X.env.scope scope) (hdef : defaultsOf params X.env = ([], []))
    (hbind : ∀ (q : Str) (cl : List (Str × Addr)) (pm cv ctv : Value), bindArgs (PySem.W.kla_fn "<lambda>" q params body scope cl pm cv ctv) ⟨[], []⟩ = pure [])
    (hbody : ∀ (A : Around) (outer : List Env) (s : Shared) (H : Hp) (E : XK) (f c' : Addr), Room k (A.deeper (LamX.lamEnv X scope s.heap.objs.size f c')) → PE (LamX.lamCx X A outer s H E scope f c') body (t E)) :
    PE X (.Call (.Name "_law_heard" p) [.Lambda params body scope lpos] [] pos) (LamX.tLam TT (THear CI) t) := by
  obtain ⟨g, fd, F, m⟩ := T.h56
  obtain ⟨oc, od, kV, doc, pm, an, cdv, ct, osl, rfl, lk, hcd⟩ := F.ex
  exact LamX.pe_lamcall hg m F.kp lk hcd (.all fun us hl => match us, hl with | [_], _ => rfl) sc56 rfl (.inl rfl) (heard_gives T KI hr) TB hcode hmT hu hr L hdef hbind hbody
end K12

set_option maxHeartbeats 4000000
/-! H3: what is heard; _law_any_right. -/
namespace K12
open PySem PySem.Spec PyProof.Rows L2 TL NumText
set_option autoImplicit false
/-- the items of what _law_heard answers -/
def heardL {α : Type} (dat : α → PyData) (row fld : Int) : α ⊕ Nat → List PyData
  | .inl e => [.str "told", dat e]
  | .inr k => [.str "text", .int row, .int (fld + (k : Int))]
def Heard (K : PySem.W.Frag) (ds : List PyData) (v : V) (H : Hp) : Prop := ∃ t xs, v = .ref t ∧ H t = some (.tup xs) ∧ DpAll K H xs ds
theorem ext_same {H H' : Hp} (s : Same H H') : LamX.ExtN H H' := LamX.ExtN.of s
theorem ext_new {H : Hp} {p : Addr} {o : HO} (h : H p = none) : LamX.ExtN H (upd H p o) := ext_same (same_new h)
theorem ext_tk {H H' : Hp} (e : LamX.ExtN H H') : Tk H H' := ⟨fun b xs h => e b _ h (fun ps z => by cases z), fun b o u h => e b _ h (fun ps z => by cases z)⟩
theorem ext_t {H H' : Hp} (e : LamX.ExtN H H') {b : Addr} {xs : List V} (h : H b = some (.tup xs)) : H' b = some (.tup xs) := (ext_tk e).1 _ _ h
theorem hear {K : PySem.W.Frag} {CI : Addr} {TT : List (Addr × Str)} {α : Type} {dat : α → PyData} {rd : α ⊕ Nat} {row fld : Int} {t : XK → TE} {σ : L2.St} {H : Hp} {Q : VK} (hp : ∀ e, rd = .inl e → plain (dat e)) (hT : LamX.Tabs TT H)
    (ht : ∀ (E : XK) (H1 : Hp) (Q1 : VK), LamX.ExtN H H1 → (∀ e, rd = .inl e → ∀ v H', Same H1 H' → Dp K H' v (dat e) → Q1 v H') → (∀ k : Nat, rd = .inr k → ∀ d H', Same H1 H' → H' d = some (.xd (itF (.int row) (.int (fld + (k : Int))))) → E (.ref CI) (some d) H') → t E σ H1 Q1)
    (k : ∀ v H', LamX.ExtN H H' → LamX.Tabs TT H' → Heard K (heardL dat row fld rd) v H' → Q v H') : LamX.tLam TT (THear CI) t σ H Q := by
  refine ⟨hT, fun H1 e1 T1 => ht _ H1 _ e1 (fun e he v H' sm dv => ⟨small100 (by simp), fun p hp' => ?_⟩) (fun n hn d H' sm hd => ⟨row, fld + (n : Int), d, rfl, rfl, hd, fun H'' p s2 e => ?_⟩)⟩
  · have s2 := sm.trans (same_new (o := .tup [.str "told", v]) hp')
    refine k _ _ (e1.trans (ext_same s2)) (T1.ext s2) ⟨p, _, rfl, upd_same, ?_⟩
    rw [he]
    exact .cons (.str _) (.cons (Dp.tk (tk_of (same_new hp')) _ _ (hp e he) dv) .nil)
  · have s3 := sm.trans s2
    refine k _ _ (e1.trans (ext_same s3)) (T1.ext s3) ⟨p, _, rfl, e, ?_⟩
    rw [hn]
    exact .cons (.str _) (.cons (.int _) (.cons (.int _) .nil))
theorem heard_told {K : PySem.W.Frag} {α : Type} {dat : α → PyData} {row fld : Int} {e : α} {v : V} {H : Hp} (h : Heard K (heardL dat row fld (.inl e)) v H) : ∃ t x, v = .ref t ∧ H t = some (.tup [.str "told", x]) ∧ Dp K H x (dat e) := by
  obtain ⟨t, xs, rfl, ht, hd⟩ := h
  cases hd with
  | cons h1 h2 =>
    cases h1
    cases h2 with
    | cons h3 h4 => cases h4; exact ⟨t, _, rfl, ht, h3⟩
theorem heard_err {K : PySem.W.Frag} {α : Type} {dat : α → PyData} {row fld : Int} {k : Nat} {v : V} {H : Hp} (h : Heard K (heardL dat row fld (.inr k)) v H) : ∃ t, v = .ref t ∧ H t = some (.tup [.str "text", .int row, .int (fld + (k : Int))]) := by
  obtain ⟨t, xs, rfl, ht, hd⟩ := h
  cases hd with
  | cons h1 h2 =>
    cases h1
    cases h2 with
    | cons h3 h4 =>
      cases h3
      cases h4 with
      | cons h5 h6 => cases h5; cases h6; exact ⟨t, rfl, ht⟩
theorem pstrs_depth : ∀ p : List Str, PyData.depthAll (pstrs p) ≤ 1
  | [] => by simp [pstrs, PyData.depthAll]
  | _ :: r => by
    have h := pstrs_depth r
    simp only [pstrs, List.map_cons, PyData.depthAll, PyData.depth] at h ⊢
    omega
theorem data_depth : ∀ e : Ex, e.data.depth ≤ e.opens + 3 := by
  intro e
  induction e with
  | int i => simp [Ex.data, PyData.depth]
  | non => simp [Ex.data, PyData.depth]
  | self => simp [Ex.data, PyData.depth, PyData.depthAll]
  | get p d => have := pstrs_depth p; simp only [Ex.data, PyData.depth, PyData.depthAll]; omega
  | isnone p => have := pstrs_depth p; simp only [Ex.data, PyData.depth, PyData.depthAll]; omega
  | to p => have := pstrs_depth p; simp only [Ex.data, PyData.depth, PyData.depthAll]; omega
  | sum a b c => simp [Ex.data, PyData.depth, PyData.depthAll]
  | not c ih => simp only [Ex.data, PyData.depth, PyData.depthAll, Ex.opens]; omega
  | bin o a b ih1 ih2 => simp only [Ex.data, PyData.depth, PyData.depthAll, Ex.opens]; omega
  | cond c a b ih1 ih2 ih3 => simp only [Ex.data, PyData.depth, PyData.depthAll, Ex.opens]; omega
/-- what repr asks of an expression, and of it told -/
theorem ex_repr {e : Ex} (hw : e.Wf) (ho : e.opens ≤ 30) (hm : e.m ≤ 100000) : e.data.showable = true ∧ e.data.hasDict = false ∧ e.data.depth ≤ 100 ∧ e.data.shown.length ≤ sizeLine := by
  have hp := data_plain e hw
  have h1 := sz_le _ hp
  have h2 := data_sz e hw
  have h3 := data_depth e
  exact ⟨plain_show _ hp, plain_noDict _ hp, by omega, by rw [sizeLine_eq]; omega⟩
theorem okInt_mid {i : Int} (h : i.natAbs ≤ 1000000) : okInt i := Nat.lt_of_le_of_lt h (by decide)
theorem told_plain {d : PyData} (h : plain d) : plain (.tuple [.str "told", d]) := by
  simp only [plain, plainAll, and_true]
  exact ⟨by decide +kernel, h⟩
theorem told_repr {e : Ex} (hw : e.Wf) (ho : e.opens ≤ 30) (hm : e.m ≤ 100000) : (PyData.tuple [.str "told", e.data]).showable = true ∧ (PyData.tuple [.str "told", e.data]).hasDict = false ∧ (PyData.tuple [.str "told", e.data]).depth ≤ 100 ∧ (PyData.tuple [.str "told", e.data]).shown.length ≤ sizeLine := by
  have hp := told_plain (data_plain e hw)
  have h1 := sz_le _ hp
  have h2 := data_sz e hw
  have h3 := data_depth e
  have h4 : sz (.str "told") ≤ 100 := by decide +kernel
  refine ⟨plain_show _ hp, plain_noDict _ hp, by simp only [PyData.depth, PyData.depthAll]; omega, ?_⟩
  rw [sizeLine_eq]
  refine Nat.le_trans h1 ?_
  simp only [sz, szAll] at h4 ⊢
  omega
/-- the lambdas of the def x, whose code object stands at c -/
structure Lams (base : Heap) (mg : Str → Option Value) (TT : List (Addr × Str)) (x : Str) (c : Addr) : Prop where
  ex : ∃ P, LamX.TabB base mg c P ∧ (P, (x ++ ".<locals>." : Str) ++ "<lambda>") ∈ TT ∧ ∀ p ∈ TT, p.1 = P → p.2 = (x ++ ".<locals>." : Str) ++ "<lambda>"
section
variable {P : Program} {w : World} {K : PySem.W.Frag} {mg : Str → Option Value} {base : Heap} {CI cL p1 p2 p3 q1 q2 q3 q4 r1 r2 r3 r4 r5 : Addr} {TT : List (Addr × Str)}
def spAnyR (TT : List (Addr × Str)) : Sp := fun vs H Q _ => ∃ (z : Str) (d : Due), vs = [.str z, .str d.s] ∧ z.length ≤ 80000 ∧ LamX.Tabs TT H ∧ ∀ H', LamX.ExtN H H' → LamX.Tabs TT H' → Q (.bl true) H'
def N64 : List Str := ["_law_text_in", "_law_goal", "_law_heard_here", "_law_size", "_law_again"]
theorem sc64 : FnScope N64 ["_law_text_in", "_law_goal"] (defScope (top 64)) := ⟨rfl, rfl, rfl, by decide +kernel, rfl, by decide +kernel, by decide +kernel⟩
theorem cal_any_right (T : Tx K mg) (KI : Kin K mg CI cL p1 p2 p3 q1 q2 q3 q4 r1 r2 r3 r4 r5) {c : Addr} (h64 : HsC K mg "_law_any_right" (top 64) c) (LB : Lams base mg TT "_law_any_right" c)
    (CRE : CalK P w K mg base (L2.CX P w) 7 "read_expression" 2 ["text", "due", "row", "field"] (spReadE K CI)) : CalG P w K mg base CX0 34 "_law_any_right" ["_law_text_in", "_law_goal"] (spAnyR TT) := by
  have CT := cal_text (P := P) (w := w) (base := base) T
  obtain ⟨PT, TB, hm, hu⟩ := LB.ex
  refine h64.calG sc64 (fun vs H Q E h => ?_) (fun _ _ _ _ _ _ us hl => match us, hl with | [_, _], _ => rfl) (fun f A outer s H vs Q E hgd hr h => ?_)
  · obtain ⟨z, d, rfl, _⟩ := h; rfl
  · obtain ⟨z, d, rfl, hz, hT, k⟩ := h
    have hun : (A.deeper (envOfC "_law_any_right" (defScope (top 64)) s.heap.objs.size f (.ref c))).units + 200 < cLine := by have := hr.un; omega
    refine ⟨_, (pss_cons (ps_par (i := 2) (j := 3) rfl sc64.nd rfl rfl (by decide) rfl rfl (pa_cons (pe_heard T KI hr (by rfl) TB rfl hm hu (LamX.lamS_by (sc := defScope (top 64)) (by decide +kernel)) rfl (fun _ _ _ _ _ => rfl) (fun A1 o1 s1 H1 E1 f1 c1 hr1 => pe_cal00 (E := E1) CRE (hr1.mono (by decide)) rfl (passes_call (takes_of rfl rfl rfl rfl) (fun _ _ _ _ h => h)) (pa_cons (pv 0) (pa_cons (pv 1) pa_nil)))) (pa_cons (pe_callB call_len_seq (by rfl) T.b_len PySem.boot_len (pa_cons (pe_split (pv 0) pe_str) pa_nil)) pa_nil)) (by rfl))
      (pss_cons (ps_set (i := 4) sc64.nd rfl (Or.inl rfl) (pe_heard T KI hr (by rfl) TB rfl hm hu (LamX.lamS_by (sc := defScope (top 64)) (by decide +kernel)) rfl (fun _ _ _ _ _ => rfl) (fun A1 o1 s1 H1 E1 f1 c1 hr1 => pe_calFR (E := E1) CRE (hr1.mono (by decide)) rfl (passes_call (takes_of rfl rfl rfl rfl) (fun _ _ _ _ h => h)) (pa_cons (pv 0) (pa_cons (pv 1) pa_nil)) (pk_cons pe_int (pk_cons pe_int pk_nil)))))
      (pss_cons (ps_if (pt_cmpR op_eq (pe_ixT K rfl (pv 2) pe_int (fun _ _ => rfl)) pe_str (nomark _)) (pss_one (ps_ret (pe_and (pe_cmpR op_eq (pe_callB (call_repr hgd hun) (by rfl) T.b_repr (by decide +kernel) (pa_cons (pv 4) pa_nil)) (pe_callB (call_repr hgd hun) (by rfl) T.b_repr (by decide +kernel) (pa_cons (pv 2) pa_nil)) (nomark _)) (pe_one (pe_cmpR op_eq (pe_cal CT hr rfl pass0 (pa_cons (pe_ixT K rfl (pv 2) pe_int (fun _ _ => rfl)) pa_nil)) (pv 0) (nomark _)))))) pss_nil)
      (pss_one (ps_ret (pe_and (pe_cmpR (op_eqD hr.units) (pe_slice sl_tupA (pv 2) po_none (po_some pe_int)) (pe_tup (pa_cons pe_str (pa_cons pe_int pa_nil))) (nomark _)) (pe_and (pe_chain op_le op_le pe_int (pe_ixT K rfl (pv 2) pe_int (fun _ _ => rfl)) (pv 3)) (pe_one (pe_cmpR (op_eqD hr.units) (pv 4) (pe_tup (pa_cons pe_str (pa_cons pe_int (pa_cons (pe_op op_add (pe_ixT K rfl (pv 2) pe_int (fun _ _ => rfl)) pe_int) pa_nil)))) (nomark _)))))))))), ?_⟩
    refine hear (K := K) (dat := Ex.data) (rd := readE d z) (row := 0) (fld := 0) (fun e he => data_plain e (readE_inl he).2.1) hT (fun E1 H1 Q1 _ a b => ⟨_, rfl, _, rfl, z, d, 0, 0, rfl, hz, a, b⟩) (fun v1 H1 e1 T1 h1 => ?_)
    refine ⟨_, rfl, ⟨z, rfl⟩, z, spc, rfl, rfl, by decide +kernel, small100 (by omega), fun wl hwl => ?_⟩
    refine ⟨wl, _, rfl, .inl (sq_l upd_same), _, _, rfl, ?_⟩
    have T2 := T1.ext (same_new (o := .lst ((Txt.split z spc).map V.str)) hwl)
    have e2 := e1.trans (ext_new (o := .lst ((Txt.split z spc).map V.str)) hwl)
    refine hear (K := K) (dat := Ex.data) (rd := readE d z) (row := 5) (fld := 6) (fun e he => data_plain e (readE_inl he).2.1) T2 (fun E1 H1 Q1 _ a b => ⟨_, rfl, _, rfl, rfl, rfl, z, d, 5, 6, rfl, hz, a, b⟩) (fun v2 H3 e3 T3 h3 => ?_)
    have e13 := (ext_new (o := .lst ((Txt.split z spc).map V.str)) hwl).trans e3
    have e03 := e1.trans e13
    cases hrd : readE d z with
    | inl e =>
      rw [hrd] at h1 h3
      obtain ⟨t1, x1, rfl, f1, d1⟩ := heard_told h1
      obtain ⟨t2, x2, rfl, f2, d2⟩ := heard_told h3
      obtain ⟨r1, r2, r3⟩ := readE_inl hrd
      have hm : e.m ≤ 100000 := by rw [← txt_len, r1]; omega
      have f1' := ext_t e13 f1
      have d1' := Dp.tk (ext_tk e13) _ _ (data_plain e r2) d1
      obtain ⟨w1, w2, w3, w4⟩ := told_repr r2 r3 hm
      refine ⟨_, rfl, t1, _, 0, .str "told", rfl, rfl, sq_t f1', rfl, rfl, _, rfl, iteD (fun _ => ?_) (fun h => absurd rfl (of_decide_eq_false h))⟩
      refine ⟨_, rfl, t2, _, rfl, .tup (sq_t f2) (.cons (.str "told") (.cons d2 .nil)), w1, w2, w3, w4, _, rfl, t1, _, rfl, .tup (sq_t f1') (.cons (.str "told") (.cons d1' .nil)), w1, w2, w3, w4, rfl, _, rfl, iteD (fun _ => ?_) (fun h => absurd rfl (of_decide_eq_false h))⟩
      refine ⟨_, rfl, t1, _, 1, x1, rfl, rfl, sq_t f1', rfl, x1, e, rfl, d1', r2, r3, hm, fun H4 s4 => ⟨_, rfl, rfl, ?_⟩⟩
      rw [r1, decide_eq_true rfl]
      exact k _ (e03.trans (ext_same s4)) (T3.ext s4)
    | inr n =>
      rw [hrd] at h1 h3
      obtain ⟨t1, rfl, f1⟩ := heard_err h1
      obtain ⟨t2, rfl, f2⟩ := heard_err h3
      have hn := readE_inr hrd
      have f1' := ext_t e13 f1
      refine ⟨_, rfl, t1, _, 0, .str "text", rfl, rfl, sq_t f1', rfl, rfl, _, rfl, iteD (fun h => absurd (of_decide_eq_true h) (by decide +kernel)) (fun _ => ?_)⟩
      refine ⟨_, rfl, 2, rfl, t1, _, rfl, sq_t f1', fun z => absurd z.2 (show ¬ (HT.sIx 3 3 (some 2) = 3) by decide), fun _ p hp => ?_⟩
      have s4 := same_new (o := .tup (cutV [.str "text", .int 0, .int (0 + (n : Int))] none (some 2))) hp
      refine ⟨small100 (by simp), fun p' hp' => ?_⟩
      have s5 := s4.trans (same_new (o := .tup [.str "text", .int 0]) hp')
      refine ⟨.tuple [.str "text", .int 0], .tuple [.str "text", .int 0], .tup (sq_t (same_new hp' _ _ upd_same)) (.cons (.str _) (.cons (.int _) .nil)), .tup (sq_t upd_same) (.cons (.str _) (.cons (.int _) .nil)), by decide +kernel, by decide +kernel, _, rfl, iteD (fun _ => ?_) (fun h => absurd h (by decide +kernel))⟩
      refine ⟨_, rfl, t1, _, 2, .int (0 + (n : Int)), rfl, rfl, sq_t (s5 _ _ f1'), rfl, _, _, rfl, rfl, _, rfl, iteD (fun _ => ?_) (fun h => absurd (of_decide_eq_false h) (by omega))⟩
      refine ⟨_, rfl, _, _, rfl, rfl, _, rfl, iteD (fun _ => ?_) (fun h => absurd (of_decide_eq_false h) (by rw [List.length_map]; have : (sp z).length = (Txt.split z spc).length := rfl; omega))⟩
      refine ⟨_, rfl, _, rfl, t1, _, 2, .int (0 + (n : Int)), rfl, rfl, sq_t (s5 _ _ f1'), rfl, _, _, rfl, rfl, small100 (by simp), fun p3 hp3 => ?_⟩
      have s6 := s5.trans (same_new (o := .tup [.str "text", .int 5, .int (0 + (n : Int) + 6)]) hp3)
      have hlz := split_count (z := z) (y := spc) (by rw [tl_spc]; simp) (by decide +kernel)
      have hsz : (sp z).length = (Txt.split z spc).length := rfl
      have hok : okInt (6 + (n : Int)) := okInt_mid (by omega)
      have hpl : plain (.tuple [.str "text", .int 5, .int (6 + (n : Int))]) := by
        simp only [plain, plainAll, and_true]
        exact ⟨by decide +kernel, okInt_mid (by decide), hok⟩
      have eq6 : (0 + (n : Int) + 6) = 6 + (n : Int) := by omega
      have sh : SeqAt.shaped (.tuple [.str "text", .int 5, .int (6 + (n : Int))]) = true := by
        unfold SeqAt.shaped
        rw [plain_lay _ hpl]
        rfl
      refine ⟨.tuple [.str "text", .int 5, .int (6 + (n : Int))], .tuple [.str "text", .int 5, .int (6 + (n : Int))], .tup (sq_t (s6 _ _ f2)) (.cons (.str _) (.cons (.int _) (.cons (.int _) .nil))), .tup (sq_t upd_same) (.cons (.str _) (.cons (.int _) (.cons (by show Dp _ _ (.int (0 + (n : Int) + 6)) _; rw [eq6]; exact .int _) .nil))), sh, sh, ?_⟩
      rw [(eqv_plain _ _ hpl hpl).mpr rfl]
      exact k _ (e03.trans (ext_same s6)) (T3.ext s6)
end
end K12

set_option maxHeartbeats 4000000
/-! H4: _law_written_right. -/
namespace K12
open PySem PySem.Spec PyProof.Rows L2 TL NumText
set_option autoImplicit false
/-- repr of any simple value -/
def rRepr2 (K : PySem.W.Frag) : List V → Hp → VK → Prop := fun xs H Q => ∃ (x : V) (d : PyData), xs = [x] ∧ Dp K H x d ∧ plain d ∧ d.showable = true ∧ d.hasDict = false ∧ d.depth ≤ 100 ∧ d.shown.length ≤ sizeLine ∧ Q (.str d.shown) H
theorem call_repr2 {X : Cx} (hgd : X.A.guards = some []) (hu : X.A.units + 200 < cLine) : CallR X (.builtin "repr") (rRepr2 X.K) := by
  intro pins s σ H xs us Q I r h
  obtain ⟨x, d, rfl, hd, hp, sh, nd, dp, sz, q⟩ := h
  match d, hp, hd with
  | .tuple ds, _, hd =>
    cases hd with
    | tup h1 h2 => exact call_repr hgd hu pins s σ H _ us Q I r ⟨_, _, rfl, .tup h1 h2, sh, nd, dp, sz, q⟩
  | .none, _, hd =>
    cases hd
    obtain ⟨u, rfl, r1⟩ := vals1 r
    cases (show u = Value.none from r1)
    exact PySem.P.repr_of_none ⟨.str _, H, I.tok _, ⟨_, rfl⟩, q⟩
  | .int i, hp, hd =>
    cases hd
    obtain ⟨u, rfl, t, rfl⟩ := vals1 r
    exact PySem.P.repr_of_int (okInt_log (by simpa only [plain] using hp)) ⟨.str _, H, I.tok _, ⟨_, rfl⟩, q⟩
  | .str y, _, hd =>
    cases hd
    obtain ⟨u, rfl, t, rfl⟩ := vals1 r
    exact PySem.P.repr_of_str ⟨.str _, H, I.tok _, ⟨_, rfl⟩, q⟩ sz
theorem cut_last (ws : List Str) (h : ws ≠ []) : cutV (ws.map V.str) none (some (-1)) = ws.dropLast.map V.str := by
  have hn : 0 < ws.length := List.length_pos_iff.mpr h
  unfold cutV
  rw [List.length_map]
  have e1 : HT.sIx ws.length 0 none = 0 := rfl
  have e2 : HT.sIx ws.length ws.length (some (-1)) = ws.length - 1 := by
    show (if (-1 : Int) < 0 then ((-1 : Int) + (ws.length : Int)).toNat else min (-1 : Int).toNat ws.length) = _
    rw [if_pos (by decide)]; omega
  rw [e1, e2, List.drop_zero, Nat.sub_zero, ← List.map_take, List.dropLast_eq_take]
theorem passF {X : Cx} : Passes (L2.CX X.prog X.w) X (fun _ _ _ => False) := passes_call LamX.takes0 (fun _ _ _ _ h => h)
theorem txt3_ok {r k : Int} (h1 : r.natAbs ≤ 1000000) (h2 : k.natAbs ≤ 1000000) : plain (.tuple [.str "text", .int r, .int k]) ∧ SeqAt.shaped (.tuple [.str "text", .int r, .int k]) = true := by
  have hpl : plain (.tuple [.str "text", .int r, .int k]) := by
    simp only [plain, plainAll, and_true]
    exact ⟨by decide +kernel, okInt_mid h1, okInt_mid h2⟩
  refine ⟨hpl, ?_⟩
  unfold SeqAt.shaped
  rw [plain_lay _ hpl]
  rfl
theorem dp_txt3 {K : PySem.W.Frag} {H : Hp} {t : Addr} {r k : Int} (h : H t = some (.tup [.str "text", .int r, .int k])) : Dp K H (.ref t) (.tuple [.str "text", .int r, .int k]) := .tup (sq_t h) (.cons (.str _) (.cons (.int _) (.cons (.int _) .nil)))
theorem ne_txt3 {K : PySem.W.Frag} {H : Hp} {t p : Addr} {r k k' : Int} {Q : VK} (ht : H t = some (.tup [.str "text", .int r, .int k])) (hp : H p = none) (e : k = k') (h1 : r.natAbs ≤ 1000000) (h2 : k.natAbs ≤ 1000000) (q : Q (.bl false) (upd H p (.tup [.str "text", .int r, .int k']))) :
    rNeD K (.ref t) (.ref p) (upd H p (.tup [.str "text", .int r, .int k'])) Q := by
  subst e
  obtain ⟨a, b⟩ := txt3_ok h1 h2
  refine ⟨_, _, dp_txt3 (same_new hp _ _ ht), dp_txt3 upd_same, b, b, ?_⟩
  rw [(eqv_plain _ _ a a).mpr rfl]
  exact q
def moreL : List Str := [" ", "  1", " x", " -", " 0 1", " self"]
def aheadL : List Str := [" ", "x ", "0 ", "\n"]
theorem more_ok : ∀ x ∈ moreL, ∃ m, x = spc ++ m ∧ x.length ≤ 10 := by
  intro x hx
  have hx : x = " " ∨ x = "  1" ∨ x = " x" ∨ x = " -" ∨ x = " 0 1" ∨ x = " self" := by simpa [moreL] using hx
  rcases hx with rfl | rfl | rfl | rfl | rfl | rfl
  · exact ⟨"", by decide +kernel, by decide +kernel⟩
  · exact ⟨" 1", by decide +kernel, by decide +kernel⟩
  · exact ⟨"x", by decide +kernel, by decide +kernel⟩
  · exact ⟨"-", by decide +kernel, by decide +kernel⟩
  · exact ⟨"0 1", by decide +kernel, by decide +kernel⟩
  · exact ⟨"self", by decide +kernel, by decide +kernel⟩
theorem ahead_ok (d : Due) (z : Str) : ∀ x ∈ aheadL, x.length ≤ 10 ∧ ∃ k, k ≤ 1 ∧ readE d (x ++ z) = .inr k := by
  intro x hx
  have hx : x = " " ∨ x = "x " ∨ x = "0 " ∨ x = "\n" := by simpa [aheadL] using hx
  rcases hx with rfl | rfl | rfl | rfl
  · exact ⟨by decide +kernel, ahead1 d "" z (.inl rfl)⟩
  · exact ⟨by decide +kernel, ahead1 d "x" z (.inr (.inl rfl))⟩
  · exact ⟨by decide +kernel, ahead1 d "0" z (.inr (.inr rfl))⟩
  · exact ⟨by decide +kernel, ahead2 d z⟩
section
variable {P : Program} {w : World} {K : PySem.W.Frag} {mg : Str → Option Value} {base : Heap} {CI cL p1 p2 p3 q1 q2 q3 q4 r1 r2 r3 r4 r5 : Addr} {TT : List (Addr × Str)}
def spWritten (K : PySem.W.Frag) (TT : List (Addr × Str)) : Sp := fun vs H Q _ => ∃ (x : V) (d : Due) (e : Ex), vs = [x, .str d.s] ∧ Dp K H x e.data ∧ Good d e ∧ e.m ≤ 70000 ∧ LamX.Tabs TT H ∧ ∀ H', LamX.ExtN H H' → LamX.Tabs TT H' → Q (.bl true) H'
def N65 : List Str := ["_law_e", "_law_goal", "_law_text_in", "_law_words", "_law_less", "_law_more", "_law_ahead", "_law_heard_here"]
theorem sc65 : FnScope N65 ["_law_e", "_law_goal"] (defScope (top 65)) := ⟨rfl, rfl, rfl, by decide +kernel, rfl, by decide +kernel, by decide +kernel⟩
theorem written_ahead (T : Tx K mg) (KI : Kin K mg CI cL p1 p2 p3 q1 q2 q3 q4 r1 r2 r3 r4 r5) {c : Addr} (LB : Lams base mg TT "_law_written_right" c)
    (CRE : CalK P w K mg base (L2.CX P w) 7 "read_expression" 2 ["text", "due", "row", "field"] (spReadE K CI)) {f : Addr} {A : Around} {outer : List Env} {s : Shared} {H : Hp} {E : XK} (hr : Room 33 (A.deeper (envOfC "_law_written_right" (defScope (top 65)) s.heap.objs.size f (.ref c)))) :
    ∃ t, PSs (cxOf CX0 P w K mg base N65 "_law_written_right" (defScope (top 65)) f (.ref c) A outer s H E).nox ((defBody (top 65)).drop 6) t ∧ ∀ (D : L2.Ends) (z : Str) (d : Due) (H0 Hf : Hp) (z0 z3 z4 z5 : Option V), z.length ≤ 70000 → LamX.ExtN H0 Hf → LamX.Tabs TT Hf →
      (∀ H', LamX.ExtN H0 H' → LamX.Tabs TT H' → D.rt (.bl true) H') → t D [z0, some (.str d.s), some (.str z), z3, z4, z5, none, none] Hf := by
  obtain ⟨PT, TB, hm, hu⟩ := LB.ex
  refine ⟨_, (pss_cons (ps_for PassesOwn.never rfl (pi_tup (pe_tup (pa_cons pe_str (pa_cons pe_str (pa_cons pe_str (pa_cons pe_str pa_nil)))))) (pg_name (i := 6) sc65.nd rfl (Or.inr rfl)) (pss_cons (ps_set (i := 7) sc65.nd rfl (Or.inl rfl) (pe_heard T KI hr (by rfl) TB rfl hm hu (LamX.lamS_by (sc := defScope (top 65)) (by decide +kernel)) rfl (fun _ _ _ _ _ => rfl) (fun A1 o1 s1 H1 E1 f1 c1 hr1 => pe_cal00 (E := E1) CRE (hr1.mono (by decide)) rfl (passes_call (takes_of rfl rfl rfl rfl) (fun _ _ _ _ h => h)) (pa_cons (pe_op op_add_str (pv 6) (pv 2)) (pa_cons (pv 1) pa_nil)))))
(pss_one (ps_if (PW.pt (pw_or (pt_cmpR op_ne (pe_ixT K rfl (pv 7) pe_int (fun _ _ => rfl)) pe_str (nomark _)) (pw_or1 (pt_cmpR op_gt (pe_ixT K rfl (pv 7) pe_int (fun _ _ => rfl)) pe_int (nomark _))))) (pss_one (ps_ret pe_bl)) pss_nil))))
      (pss_one (ps_ret pe_bl))), ?_⟩
  intro D z d H0 Hf z0 z3 z4 z5 hz e0 T0 k
  refine ⟨small100 (by simp), fun pt hpt => ⟨pt, rfl, ⟨_, sq_t upd_same⟩, for_it (walk_tup (K := K) (a := pt) (xs := aheadL.map V.str)) (fun i σ H' => ∃ (x6 x7 : Option V), σ = [z0, some (.str d.s), some (.str z), z3, z4, z5, x6, x7] ∧ LamX.ExtN H0 H' ∧ LamX.Tabs TT H' ∧ H' pt = some (.tup (aheadL.map V.str))) ⟨none, none, rfl, e0.trans (ext_new hpt), T0.ext (same_new hpt), upd_same⟩ (fun i σ H' _ ⟨_, _, _, _, _, hh⟩ => sq_t hh) ?_ ?_⟩⟩
  · rintro i x σ H1 H1' hi ⟨x6, x7, rfl, e1, T1, hp1⟩ ⟨rfl, hx⟩
    obtain ⟨ah, hah, rfl⟩ := str_pick (List.mem_of_getElem? hx)
    obtain ⟨hal, n, hn1, hrd⟩ := ahead_ok d z ah hah
    have hlen : (ah ++ z).length ≤ 80000 := by rw [len_append]; omega
    refine hear (K := K) (dat := Ex.data) (rd := readE d (ah ++ z)) (row := 0) (fld := 0) (fun e he => by rw [hrd] at he; cases he) T1 (fun E1 H2 Q1 _ a b => ⟨_, rfl, _, rfl, ah, z, rfl, rfl, small100 (by omega), _, rfl, ah ++ z, d, 0, 0, rfl, hlen, a, b⟩) (fun v1 H2 e2 T2 h1 => ?_)
    rw [hrd] at h1
    obtain ⟨t1, rfl, f1⟩ := heard_err h1
    refine ⟨_, rfl, t1, _, 0, .str "text", rfl, rfl, sq_t f1, rfl, rfl, _, rfl, iteD (fun h => absurd h (by decide +kernel)) (fun _ => ?_)⟩
    refine ⟨_, rfl, t1, _, 2, .int (0 + (n : Int)), rfl, rfl, sq_t f1, rfl, _, _, rfl, rfl, _, rfl, iteD (fun h => absurd (of_decide_eq_true h) (by omega)) (fun _ => ?_)⟩
    exact ⟨_, _, rfl, e1.trans e2, T2, ext_t e2 hp1⟩
  · rintro σ H1 ⟨x6, x7, rfl, e1, T1, hp1⟩
    exact k _ e1 T1
theorem written_more (T : Tx K mg) (KI : Kin K mg CI cL p1 p2 p3 q1 q2 q3 q4 r1 r2 r3 r4 r5) {c : Addr} (LB : Lams base mg TT "_law_written_right" c)
    (CRE : CalK P w K mg base (L2.CX P w) 7 "read_expression" 2 ["text", "due", "row", "field"] (spReadE K CI)) {f : Addr} {A : Around} {outer : List Env} {s : Shared} {H : Hp} {E : XK} (hr : Room 33 (A.deeper (envOfC "_law_written_right" (defScope (top 65)) s.heap.objs.size f (.ref c)))) :
    ∃ t, PSs (cxOf CX0 P w K mg base N65 "_law_written_right" (defScope (top 65)) f (.ref c) A outer s H E).nox ((defBody (top 65)).drop 5) t ∧ ∀ (D : L2.Ends) (d : Due) (e : Ex) (wl : Addr) (H0 Hf : Hp) (z0 z4 : Option V), Good d e → e.m ≤ 70000 → LamX.ExtN H0 Hf → LamX.Tabs TT Hf → Hf wl = some (.lst (e.ws.map V.str)) →
      (∀ H', LamX.ExtN H0 H' → LamX.Tabs TT H' → D.rt (.bl true) H') → t D [z0, some (.str d.s), some (.str e.txt), some (.ref wl), z4, none, none, none] Hf := by
  obtain ⟨tz, htz, lz⟩ := written_ahead (P := P) (w := w) (outer := outer) (H := H) (E := E) T KI LB CRE hr
  obtain ⟨PT, TB, hm, hu⟩ := LB.ex
  refine ⟨_, (pss_cons (ps_for PassesOwn.never rfl (pi_tup (pe_tup (pa_cons pe_str (pa_cons pe_str (pa_cons pe_str (pa_cons pe_str (pa_cons pe_str (pa_cons pe_str pa_nil)))))))) (pg_name (i := 5) sc65.nd rfl (Or.inr rfl)) (pss_one (ps_if (pt_cmpR (op_neD hr.units) (pe_heard T KI hr (by rfl) TB rfl hm hu (LamX.lamS_by (sc := defScope (top 65)) (by decide +kernel)) rfl (fun _ _ _ _ _ => rfl) (fun A1 o1 s1 H1 E1 f1 c1 hr1 => pe_cal00 (E := E1) CRE (hr1.mono (by decide)) rfl (passes_call (takes_of rfl rfl rfl rfl) (fun _ _ _ _ h => h)) (pa_cons (pe_op op_add_str (pv 2) (pv 5)) (pa_cons (pv 1) pa_nil)))) (pe_tup (pa_cons pe_str (pa_cons pe_int (pa_cons (pe_callB call_len_seq (by rfl) T.b_len PySem.boot_len (pa_cons (pv 3) pa_nil)) pa_nil)))) (nomark _)) (pss_one (ps_ret pe_bl)) pss_nil)))
      htz), ?_⟩
  intro D d e wl H0 Hf z0 z4 g hm7 e0 T0 hwl k
  have hz := txt_len e
  have hws : wl ≠ 0 ∨ True := .inr True.intro
  refine ⟨small100 (by simp), fun pt hpt => ⟨pt, rfl, ⟨_, sq_t upd_same⟩, for_it (walk_tup (K := K) (a := pt) (xs := moreL.map V.str)) (fun i σ H' => ∃ (x5 : Option V), σ = [z0, some (.str d.s), some (.str e.txt), some (.ref wl), z4, x5, none, none] ∧ LamX.ExtN H0 H' ∧ LamX.Tabs TT H' ∧ H' pt = some (.tup (moreL.map V.str)) ∧ H' wl = some (.lst (e.ws.map V.str))) ⟨none, rfl, e0.trans (ext_new hpt), T0.ext (same_new hpt), upd_same, same_new hpt _ _ hwl⟩ (fun i σ H' _ ⟨_, _, _, _, hh, _⟩ => sq_t hh) ?_ ?_⟩⟩
  · rintro i x σ H1 H1' hi ⟨x5, rfl, e1, T1, hp1, hw1⟩ ⟨rfl, hx⟩
    obtain ⟨mo, hmo, rfl⟩ := str_pick (List.mem_of_getElem? hx)
    obtain ⟨m, hmm, hml⟩ := more_ok mo hmo
    have hlen : (e.txt ++ mo).length ≤ 80000 := by rw [len_append]; omega
    have hrd : readE d (e.txt ++ mo) = .inr e.ws.length := by rw [hmm]; exact g.more m
    refine hear (K := K) (dat := Ex.data) (rd := readE d (e.txt ++ mo)) (row := 0) (fld := 0) (fun e he => by rw [hrd] at he; cases he) T1 (fun E1 H2 Q1 _ a b => ⟨_, rfl, _, rfl, e.txt, mo, rfl, rfl, small100 (by omega), _, rfl, e.txt ++ mo, d, 0, 0, rfl, hlen, a, b⟩) (fun v1 H2 e2 T2 h1 => ?_)
    rw [hrd] at h1
    obtain ⟨t1, rfl, f1⟩ := heard_err h1
    have hw2 := e2 _ _ hw1 (fun _ z => by cases z)
    have hel : e.ws.length ≤ e.m := m1_len _
    refine ⟨_, rfl, wl, _, rfl, .inl (sq_l hw2), small100 (by simp), fun p3 hp3 => ne_txt3 f1 hp3 (by rw [List.length_map]; omega) (by decide) (by omega) ⟨_, rfl, iteF ?_⟩⟩
    have s3 := same_new (o := .tup [.str "text", .int 0, .int (((e.ws.map V.str).length : Nat) : Int)]) hp3
    exact ⟨_, rfl, e1.trans (e2.trans (ext_same s3)), T2.ext s3, s3 _ _ (ext_t e2 hp1), s3 _ _ hw2⟩
  · rintro σ H1 ⟨x5, rfl, e1, T1, hp1, hw1⟩
    exact lz D e.txt d H0 H1 _ _ _ _ (by omega) e1 T1 k
theorem cal_written_right (T : Tx K mg) (KI : Kin K mg CI cL p1 p2 p3 q1 q2 q3 q4 r1 r2 r3 r4 r5) {c : Addr} (h65 : HsC K mg "_law_written_right" (top 65) c) (LB : Lams base mg TT "_law_written_right" c)
    (CRE : CalK P w K mg base (L2.CX P w) 7 "read_expression" 2 ["text", "due", "row", "field"] (spReadE K CI)) : CalG P w K mg base CX0 34 "_law_written_right" ["_law_e", "_law_goal"] (spWritten K TT) := by
  have CT := cal_text (P := P) (w := w) (base := base) T
  refine h65.calG sc65 (fun vs H Q E h => ?_) (fun _ _ _ _ _ _ us hl => match us, hl with | [_, _], _ => rfl) (fun f A outer s H vs Q E hgd hr h => ?_)
  · obtain ⟨x, d, e, rfl, _⟩ := h; rfl
  · obtain ⟨tz, htz, lz⟩ := written_more (P := P) (w := w) (outer := outer) (H := H) (E := E) T KI LB CRE hr
    obtain ⟨PT, TB, hm, hu⟩ := LB.ex
    obtain ⟨x, d, e, rfl, dx, g, hm7, hT, k⟩ := h
    have hun : (A.deeper (envOfC "_law_written_right" (defScope (top 65)) s.heap.objs.size f (.ref c))).units + 200 < cLine := by have := hr.un; omega
    refine ⟨_, (pss_cons (ps_set (i := 2) sc65.nd rfl (Or.inr rfl) (pe_cal CT hr rfl pass0 (pa_cons (pv 0) pa_nil)))
      (pss_cons (ps_set (i := 3) sc65.nd rfl (Or.inl rfl) (pe_split (pv 2) pe_str))
      (pss_cons (ps_if (pt_cmpR op_ne (pe_callB (call_repr2 hgd hun) (by rfl) T.b_repr (by decide +kernel) (pa_cons (pe_cal00 (E := fun _ _ _ => False) CRE (hr.mono (by decide)) rfl passF (pa_cons (pv 2) (pa_cons (pv 1) pa_nil))) pa_nil)) (pe_callB (call_repr2 hgd hun) (by rfl) T.b_repr (by decide +kernel) (pa_cons (pv 0) pa_nil)) (nomark _)) (pss_one (ps_ret pe_bl)) pss_nil)
      (pss_cons (ps_set (i := 4) sc65.nd rfl (Or.inr rfl) (pe_join pe_str (pe_slice sl_list (pv 3) po_none (po_some (pe_un un_neg pe_int)))))
      (pss_cons (ps_if (pt_cmpR (op_neD hr.units) (pe_heard T KI hr (by rfl) TB rfl hm hu (LamX.lamS_by (sc := defScope (top 65)) (by decide +kernel)) rfl (fun _ _ _ _ _ => rfl) (fun A1 o1 s1 H1 E1 f1 c1 hr1 => pe_cal00 (E := E1) CRE (hr1.mono (by decide)) rfl (passes_call (takes_of rfl rfl rfl rfl) (fun _ _ _ _ h => h)) (pa_cons (pv 4) (pa_cons (pv 1) pa_nil)))) (pe_tup (pa_cons pe_str (pa_cons pe_int (pa_cons (pe_op op_sub (pe_callB call_len_seq (by rfl) T.b_len PySem.boot_len (pa_cons (pv 3) pa_nil)) pe_int) pa_nil)))) (nomark _)) (pss_one (ps_ret pe_bl)) pss_nil)
      htz))))), ?_⟩
    have hz := txt_len e
    have hel : e.ws.length ≤ e.m := m1_len _
    have hn0 : 0 < e.ws.length := List.length_pos_iff.mpr (ws_ne e)
    have hpl := data_plain e g.wf
    obtain ⟨w1, w2, w3, w4⟩ := ex_repr g.wf g.op (by omega)
    refine ⟨_, rfl, x, e, rfl, dx, g.wf, g.op, by omega, fun H1 s1 => ?_⟩
    refine ⟨_, rfl, ⟨e.txt, rfl⟩, e.txt, spc, rfl, rfl, by decide +kernel, small100 (by omega), fun wl hwl => ?_⟩
    have e01 : LamX.ExtN H H1 := ext_same s1
    have eW : (Txt.split e.txt spc) = e.ws := sp_txt g.wf
    rw [eW]
    have s2 := s1.trans (same_new (o := .lst (e.ws.map V.str)) hwl)
    have hw2 : (upd H1 wl (.lst (e.ws.map V.str))) wl = some (.lst (e.ws.map V.str)) := upd_same
    generalize upd H1 wl (.lst (e.ws.map V.str)) = H2 at s2 hw2 ⊢
    refine ⟨_, rfl, _, rfl, e.txt, d, 0, 0, rfl, by omega, fun e' he' v H3 s3 dv => ?_, fun n hn => by rw [g.back] at hn; cases hn⟩
    obtain rfl : e = e' := by rw [g.back] at he'; exact Sum.inl.inj he'
    refine ⟨v, e.data, rfl, dv, hpl, w1, w2, w3, w4, _, rfl, x, e.data, rfl, Dp.tk (tk_of (s2.trans s3)) _ _ hpl dx, hpl, w1, w2, w3, w4, ?_⟩
    refine ⟨rfl, _, rfl, iteD (fun h => absurd h (by simp)) (fun _ => ?_)⟩
    have hw3 := s3 _ _ hw2
    have s03 := s2.trans s3
    refine ⟨⟨spc, rfl⟩, _, rfl, 1, rfl, _, rfl, wl, _, rfl, sq_l hw3, fun p hp => ?_⟩
    rw [cut_last _ (ws_ne e)]
    have s4 := same_new (o := .lst (e.ws.dropLast.map V.str)) hp
    have hml : m1 e.ws.dropLast ≤ e.m := by rw [List.dropLast_eq_take]; exact m1_take _ _
    refine ⟨spc, p, e.ws.dropLast, rfl, rfl, .inl (sq_l upd_same), by rw [show spc.length = 1 from by decide +kernel, m1_sum]; omega, ?_⟩
    have jl := join_le e.ws.dropLast
    have hless := g.less
    have T4 := hT.ext (s03.trans s4)
    have hw4 := s4 _ _ hw3
    have s04 := s03.trans s4
    generalize upd H3 p (.lst (e.ws.dropLast.map V.str)) = H4 at s04 T4 hw4 ⊢
    refine hear (K := K) (dat := Ex.data) (rd := readE d (Txt.join spc e.ws.dropLast)) (row := 0) (fld := 0) (fun e he => by rw [hless] at he; cases he) T4 (fun E1 H2 Q1 _ a b => ⟨_, rfl, _, rfl, _, d, 0, 0, rfl, by omega, a, b⟩) (fun v1 H5 e5 T5 h1 => ?_)
    rw [hless] at h1
    obtain ⟨t1, rfl, f1⟩ := heard_err h1
    have hw5 := e5 _ _ hw4 (fun _ z => by cases z)
    refine ⟨_, rfl, wl, _, rfl, .inl (sq_l hw5), _, _, rfl, rfl, small100 (by simp), fun p3 hp3 => ne_txt3 f1 hp3 (by rw [List.length_map]; omega) (by decide) (by omega) ⟨_, rfl, iteF ?_⟩⟩
    have s6 := same_new (o := .tup [.str "text", .int 0, .int (((e.ws.map V.str).length : Nat) - 1 : Int)]) hp3
    exact lz _ d e wl H _ _ _ g hm7 ((ext_same s04).trans (e5.trans (ext_same s6))) (T5.ext s6) (s6 _ _ hw5) k
end
end K12

set_option maxHeartbeats 4000000
/-! H5: _law_parts_right. -/
namespace K12
open PySem PySem.Spec PyProof.Rows L2 TL NumText
set_option autoImplicit false
theorem join_cons2 (x y : Str) (r : List Str) : Txt.join spc (x :: y :: r) = x ++ spc ++ Txt.join spc (y :: r) := by
  refine ext_tl ?_
  rw [tl_append, tl_append, join_eq, join_eq, tl_join, tl_join, List.map_cons, joinL_cons (by simp), List.append_assoc]
theorem join_one (x : Str) : Txt.join spc [x] = x := by
  refine ext_tl ?_
  rw [join_eq, tl_join]; rfl
theorem sp_parts : ∀ (es : List Ex) (wd : Str), (∀ e ∈ es, e.Wf) → sp (Txt.join spc (wd :: es.map Ex.txt)) = sp wd ++ es.flatMap Ex.ws
  | [], wd, _ => by rw [List.map_nil, join_one, List.flatMap_nil, List.append_nil]
  | e :: r, wd, h => by
    rw [List.map_cons, join_cons2, sp_app, sp_parts r e.txt (fun x hx => h x (List.mem_cons_of_mem _ hx)), sp_txt (h e List.mem_cons_self), List.flatMap_cons]
theorem parts_txt {e : Ex} {wd : Str} {es : List Ex} (h : e.ws = wd :: es.flatMap Ex.ws) (hw : sp wd = [wd]) (hes : ∀ x ∈ es, x.Wf) : Txt.join spc (wd :: es.map Ex.txt) = e.txt := by
  have h1 := sp_parts es wd hes
  rw [hw, List.singleton_append, ← h] at h1
  have h2 := sp_join (Txt.join spc (wd :: es.map Ex.txt))
  rw [h1] at h2
  exact h2.symm
theorem lc_keep {J : It} {n : Nat} {G : Hp → Prop} {Y : Nat → Hp → V → Hp → Prop} (wk : Walk J n G Y) (hn : n ≤ 100000) {g : TG} {te : TE} {vs : List Nat} {σ : L2.St} {H1 : Hp} {D : Addr} {Qd : Hp → Prop} (R : Hp → Prop) (P : Nat → V → Hp → Prop)
    (h0 : R (upd H1 D (.lst []))) (hG : ∀ H, R H → G H) (hR : ∀ H zs, R H → (∃ ys, H D = some (.lst ys)) → R (upd H D (.lst zs))) (hP : ∀ i y H H' ys, P i y H → H D = some (.lst ys) → (∀ b o, b ≠ D → H b = some o → H' b = some o) → P i y H')
    (turn : ∀ i x H H' (Q : VK), i < n → R H → (∃ ys, H D = some (.lst ys) ∧ ys.length = i) → Y i H x H' → (∀ y H4, Same H H4 → R H4 → P i y H4 → Q y H4) → g x (wipe σ vs) H' fun σ2 H2 => wipe σ2 vs = wipe σ vs ∧ te σ2 H2 Q)
    (hd : ∀ ys H, ys.length = n → H D = some (.lst ys) → R H → (∀ i y, ys[i]? = some y → P i y H) → Qd H) :
    ∃ W : Nat → Nat → Hp → Prop, (∃ m, W 0 m (upd H1 D (.lst []))) ∧ ∀ i m H, W i m H →
      (J.stop i H ∧ Qd H) ∨ (J.go i H ∧ ∃ Nx : Hp → Prop, (∀ H', Nx H' → ∃ m', m' < m ∧ W (i + 1) m' H') ∧ ∀ x H', J.yld i H x H' → g x (wipe σ vs) H' fun σ2 H2 => wipe σ2 vs = wipe σ vs ∧ tYes σ2 H2 fun b H3 =>
        if b = true then te σ2 H3 fun y H4 => ∃ acc, H4 D = some (.lst acc) ∧ acc.length < sizeLine ∧ Nx (upd H4 D (.lst (acc ++ [y]))) else Nx H3) := by
  refine lc_it wk (fun i H => R H ∧ ∃ ys, H D = some (.lst ys) ∧ ys.length = i ∧ ∀ j y, ys[j]? = some y → P j y H) ⟨h0, [], upd_same, rfl, fun j y e => by simp at e⟩ (fun i H _ p => hG H p.1) ?_ ?_
  · rintro i x H H' hi ⟨r, ys, hy, hl, hp⟩ y
    refine turn i x H H' _ hi r ⟨ys, hy, hl⟩ y fun v H4 k r4 p4 => ?_
    have hy4 := k D _ hy
    have kD : ∀ b o, b ≠ D → H4 b = some o → (upd H4 D (.lst (ys ++ [v]))) b = some o := fun b o hb e => by rw [upd_ne hb]; exact e
    refine ⟨ys, hy4, small100' (by omega), hR _ _ r4 ⟨_, hy4⟩, ys ++ [v], upd_same, by rw [List.length_append, List.length_singleton, hl], fun j z e => ?_⟩
    rcases Nat.lt_or_ge j ys.length with hj | hj
    · rw [List.getElem?_append_left hj] at e
      exact hP _ _ _ _ _ (hP _ _ _ _ _ (hp j z e) hy fun b o _ e => k b o e) hy4 kD
    · rw [List.getElem?_append_right hj] at e
      have ej : j - ys.length = 0 := by
        have := (List.getElem?_eq_some_iff.mp e).1
        rw [List.length_singleton] at this
        omega
      rw [ej] at e
      have ez : v = z := by simpa using e
      have : j = i := by omega
      rw [this, ← ez]
      exact hP _ _ _ _ _ p4 hy4 kD
  · rintro H ⟨r, ys, hy, hl, hp⟩
    exact hd ys H hl hy r hp
/-- fits for _law_parts_right -/
def Fine (e : Ex) : Prop := e.Wf ∧ e.opens ≤ 20 ∧ e.m ≤ 3000
/-- one of its lot -/
def Lot (K : PySem.W.Frag) (D : Addr) (y : V) (H : Hp) : Prop := ∃ (t a1 a2 a3 : Addr) (e : Ex) (wd : Str) (es : List Ex) (xs : List V), y = .ref t ∧ H t = some (.tup [.ref a1, .ref a2, .ref a3]) ∧ Dp K H (.ref a1) e.data ∧ H a2 = some (.lst [.str wd]) ∧ H a3 = some (.lst xs) ∧ DpAll K H xs (es.map Ex.data) ∧ a2 ≠ D ∧ a3 ≠ D ∧
  e.Wf ∧ e.opens ≤ 30 ∧ e.m ≤ 20000 ∧ (∀ x ∈ es, Fine x) ∧ es.length ≤ 3 ∧ wd.length ≤ 10 ∧ Txt.join spc (wd :: es.map Ex.txt) = e.txt
theorem fine_all {es : List Ex} (h : ∀ x ∈ es, Fine x) : plainAll (es.map Ex.data) := by
  induction es with
  | nil => simp only [List.map_nil, plainAll]
  | cons a r ih => simp only [List.map_cons, plainAll]; exact ⟨data_plain a (h a List.mem_cons_self).1, ih fun x hx => h x (List.mem_cons_of_mem _ hx)⟩
theorem Lot.keep {K : PySem.W.Frag} {D : Addr} {y : V} {H H' : Hp} {ys : List V} (h : Lot K D y H) (hD : H D = some (.lst ys)) (k : ∀ b o, b ≠ D → H b = some o → H' b = some o) (kf : ∀ b o u, H b = some (.frz o u) → H' b = some (.frz o u) := fun b o u e => k b _ (fun z => by rw [z, hD] at e; cases e) e) : Lot K D y H' := by
  obtain ⟨t, a1, a2, a3, e, wd, es, xs, h1, h2, h3, h4, h5, h6, h7, h8, h9, ha, hb, hc, hd, he, hf⟩ := h
  have kt : ∀ b xs, H b = some (.tup xs) → H' b = some (.tup xs) := fun b xs e => k b _ (fun z => by rw [z, hD] at e; cases e) e
  have tk : Tk H H' := ⟨kt, kf⟩
  exact ⟨t, a1, a2, a3, e, wd, es, xs, h1, kt _ _ h2, Dp.tk tk _ _ (data_plain e h9) h3, k _ _ h7 h4, k _ _ h8 h5, Dp.tkAll tk _ _ (fine_all hc) h6, h7, h8, h9, ha, hb, hc, hd, he, hf⟩
theorem mkLot {K : PySem.W.Frag} {D : Addr} {H : Hp} {ys vs1 xs : List V} {ds : List PyData} {e : Ex} {wd : Str} {es : List Ex} (hD : H D = some (.lst ys)) (he : e.data = .tuple ds) (hd : DpAll K H vs1 ds) (hx : DpAll K H xs (es.map Ex.data))
    (hws : e.ws = wd :: es.flatMap Ex.ws) (hw : sp wd = [wd]) (hf : ∀ x ∈ es, Fine x) (hl : es.length ≤ 3) (hwl : wd.length ≤ 10) (hwf : e.Wf) (ho : e.opens ≤ 30) {a1 a2 a3 t : Addr} (n1 : H a1 = none) (n2 : (upd H a1 (.tup vs1)) a2 = none)
    (n3 : (upd (upd H a1 (.tup vs1)) a2 (.lst [.str wd])) a3 = none) (n4 : (upd (upd (upd H a1 (.tup vs1)) a2 (.lst [.str wd])) a3 (.lst xs)) t = none) :
    Lot K D (.ref t) (upd (upd (upd (upd H a1 (.tup vs1)) a2 (.lst [.str wd])) a3 (.lst xs)) t (.tup [.ref a1, .ref a2, .ref a3])) ∧ Same H (upd (upd (upd (upd H a1 (.tup vs1)) a2 (.lst [.str wd])) a3 (.lst xs)) t (.tup [.ref a1, .ref a2, .ref a3])) := by
  have s1 : Same H (upd H a1 (.tup vs1)) := same_new n1
  have s2 : Same (upd H a1 (.tup vs1)) (upd (upd H a1 (.tup vs1)) a2 (.lst [.str wd])) := same_new n2
  have s3 : Same (upd (upd H a1 (.tup vs1)) a2 (.lst [.str wd])) (upd (upd (upd H a1 (.tup vs1)) a2 (.lst [.str wd])) a3 (.lst xs)) := same_new n3
  have s4 : Same (upd (upd (upd H a1 (.tup vs1)) a2 (.lst [.str wd])) a3 (.lst xs)) (upd (upd (upd (upd H a1 (.tup vs1)) a2 (.lst [.str wd])) a3 (.lst xs)) t (.tup [.ref a1, .ref a2, .ref a3])) := same_new n4
  have sA := s1.trans (s2.trans (s3.trans s4))
  have d2 : a2 ≠ D := fun z => by rw [z, s1 _ _ hD] at n2; cases n2
  have d3 : a3 ≠ D := fun z => by rw [z, s2 _ _ (s1 _ _ hD)] at n3; cases n3
  have hm : e.m ≤ 20000 := by
    have : ∀ l : List Ex, (∀ x ∈ l, Fine x) → m1 (l.flatMap Ex.ws) ≤ 3000 * l.length := by
      intro l hl
      induction l with
      | nil => simp [m1]
      | cons a r ih =>
        have h1 := (hl a List.mem_cons_self).2.2
        have h2 := ih fun x hx => hl x (List.mem_cons_of_mem _ hx)
        have h1' : m1 a.ws ≤ 3000 := h1
        rw [List.flatMap_cons, m1_app, List.length_cons]
        omega
    have h1 := this es hf
    show m1 e.ws ≤ 20000
    rw [hws, m1_cons]
    have : 3000 * es.length ≤ 9000 := by omega
    omega
  refine ⟨⟨t, a1, a2, a3, e, wd, es, xs, rfl, upd_same, ?_, s4 _ _ (s3 _ _ upd_same), s4 _ _ upd_same, Dp.tkAll (tk_of sA) _ _ (fine_all hf) hx, d2, d3, hwf, ho, hm, hf, hl, hwl, parts_txt hws hw fun x hx => (hf x hx).1⟩, sA⟩
  rw [he]
  have hpl : plain (.tuple ds) := by rw [← he]; exact data_plain e hwf
  exact .tup (sq_t (s4 _ _ (s3 _ _ (s2 _ _ upd_same)))) (Dp.tkAll (tk_of sA) _ _ (by simpa only [plain] using hpl) hd)
theorem dpAll_len2 {K : PySem.W.Frag} {H : Hp} : ∀ {xs : List V} {ds : List PyData}, DpAll K H xs ds → xs.length = ds.length
  | [], _, h => by cases h; rfl
  | _ :: r, _, h => by cases h with | cons _ h2 => simp [dpAll_len2 h2]
theorem dpAll_at2 {K : PySem.W.Frag} {H : Hp} : ∀ {xs : List V} {ds : List PyData} {i : Nat} {x : V}, DpAll K H xs ds → xs[i]? = some x → ∃ d, ds[i]? = some d ∧ Dp K H x d
  | [], _, _, _, _, e => by simp at e
  | _ :: r, _, 0, _, h, e => by cases h with | cons h1 _ => simp at e; subst e; exact ⟨_, rfl, h1⟩
  | _ :: r, _, i + 1, _, h, e => by cases h with | cons _ h2 => exact dpAll_at2 (i := i) h2 (by simpa using e)
theorem lots4 {K : PySem.W.Frag} {D : Addr} {H1 G1 G2 G3 G4 : Hp} {ys : List V} {v1 v2 v3 : V} (hy : H1 D = some (.lst ys)) (h : ∀ y ∈ ys, Lot K D y H1) (k1 : Same H1 G1) (l1 : Lot K D v1 G1) (k2 : Same G1 G2) (l2 : Lot K D v2 G2) (k3 : Same G2 G3) (l3 : Lot K D v3 G3) (k4 : Same G3 G4) : ∀ y ∈ ys ++ [v1, v2, v3], Lot K D y G4 := by
  intro y hm
  have ky := k1.trans (k2.trans (k3.trans k4))
  rcases List.mem_append.mp hm with hm | hm
  · exact (h y hm).keep hy (fun b o _ e => ky b o e)
  · have hm' : y = v1 ∨ y = v2 ∨ y = v3 := by simpa using hm
    rcases hm' with rfl | rfl | rfl
    · exact l1.keep (k1 _ _ hy) (fun b o _ e => (k2.trans (k3.trans k4)) b o e)
    · exact l2.keep (k2 _ _ (k1 _ _ hy)) (fun b o _ e => (k3.trans k4) b o e)
    · exact l3.keep (k3 _ _ (k2 _ _ (k1 _ _ hy))) (fun b o _ e => k4 b o e)
theorem lots_mut {K : PySem.W.Frag} {D : Addr} {G : Hp} {ys zs L : List V} (hD : G D = some (.lst ys)) (h : ∀ y ∈ L, Lot K D y G) : ∀ y ∈ L, Lot K D y (upd G D (.lst zs)) := fun y hy => (h y hy).keep hD (fun b o hb e => by rw [upd_ne hb]; exact e)
def ops7 : List B2 := [.add, .sub, .mul, .least, .most, .lt, .eq]
theorem op_w (o : B2) : sp o.w = [o.w] ∧ o.w.length ≤ 10 := by cases o <;> exact ⟨by decide +kernel, by decide +kernel⟩
section
variable {P : Program} {w : World} {K : PySem.W.Frag} {mg : Str → Option Value} {base : Heap}
def spParts (K : PySem.W.Frag) : Sp := fun vs H Q _ => ∃ (xe xf xc xm : V) (e f c m : Ex), vs = [xe, xf, xc, xm] ∧ Dp K H xe e.data ∧ Dp K H xf f.data ∧ Dp K H xc c.data ∧ Dp K H xm m.data ∧ Fine e ∧ Fine f ∧ Fine c ∧ Fine m ∧ ∀ H', Same H H' → Q (.bl true) H'
def N66 : List Str := ["_law_e", "_law_f", "_law_c", "_law_m", "_law_lot", "_law_word", "_law_late", "_law_head", "_law_parts", "_law_part"]
theorem sc66 : FnScope N66 ["_law_e", "_law_f", "_law_c", "_law_m"] (defScope (top 66)) := ⟨rfl, rfl, rfl, by decide +kernel, rfl, by decide +kernel, by decide +kernel⟩
theorem parts_tail (T : Tx K mg) {f : Addr} {cdv : Value} {A : Around} {outer : List Env} {s : Shared} {H : Hp} {E : XK} (hr : Room 33 (A.deeper (envOfC "_law_parts_right" (defScope (top 66)) s.heap.objs.size f cdv))) :
    ∃ t, PSs (cxOf CX0 P w K mg base N66 "_law_parts_right" (defScope (top 66)) f cdv A outer s H E).nox ((defBody (top 66)).drop 3) t ∧ ∀ (D : L2.Ends) (L : Addr) (ys : List V) (H0 Hf : Hp) (z0 z1 z2 z3 z5 : Option V), Hf L = some (.lst ys) → ys.length ≤ 100 → H0 L = none → (∀ y ∈ ys, Lot K L y Hf) → Same H0 Hf →
      (∀ H', Same H0 H' → D.rt (.bl true) H') → t D [z0, z1, z2, z3, some (.ref L), z5, none, none, none, none] Hf := by
  have CT := cal_text (P := P) (w := w) (base := base) T
  refine ⟨_, (pss_cons (ps_for PassesOwn.never rfl (pi_list (pv 4)) (pg_tup rfl (pgs_cons (pg_name (i := 6) sc66.nd rfl (Or.inl rfl)) (pgs_cons (pg_name (i := 7) sc66.nd rfl (Or.inl rfl)) (pgs_cons (pg_name (i := 8) sc66.nd rfl (Or.inl rfl)) pgs_nil)))) (pss_one (ps_if (pt_cmpR op_ne (pe_cal CT hr rfl pass0 (pa_cons (pv 6) pa_nil)) (pe_join pe_str (pe_op op_cat (pv 7) (pe_lc (own := [("_law_part", 9)]) (g := (gName 9)) (tt := tYes) rfl sc66.nd (pi_list (pv 8)) (blkOk_by (N := ["_law_e", "_law_f", "_law_c", "_law_m", "_law_lot", "_law_word", "_law_late", "_law_head", "_law_parts", "_law_part"]) (sc := defScope (top 66)) (by decide +kernel)) (fun _ _ _ _ _ => (pg_name (i := 9) sc66.nd rfl (Or.inl rfl))) (fun _ _ _ _ _ => pts_nil) (fun _ _ _ _ _ => (pe_cal CT hr rfl pass0 (pa_cons (pv 9) pa_nil)))))) (nomark _)) (pss_one (ps_ret pe_bl)) pss_nil)))
      (pss_one (ps_ret pe_bl))), ?_⟩
  intro D L ys H0 Hf z0 z1 z2 z3 z5 hL hlen nL hlot s0 k
  refine ⟨_, rfl, L, rfl, ⟨_, sq_l hL⟩, for_it (walk_list (K := K) (a := L) (xs := ys)) (fun i σ H' => ∃ (x6 x7 x8 x9 : Option V), σ = [z0, z1, z2, z3, some (.ref L), z5, x6, x7, x8, x9] ∧ Same Hf H') ⟨none, none, none, none, rfl, Same.refl _⟩ (fun i σ H' _ ⟨_, _, _, _, _, sm⟩ => sq_l (sm _ _ hL)) ?_ ?_⟩
  · rintro i x σ H1 H1' hi ⟨x6, x7, x8, x9, rfl, s1⟩ ⟨rfl, hx⟩
    have hl := (hlot x (List.mem_of_getElem? hx)).keep hL (fun b o _ e => s1 b o e)
    obtain ⟨t, a1, a2, a3, e, wd, es, xs, rfl, h2, h3, h4, h5, h6, h7, h8, h9, ha, hb, hc, hd, he, hf⟩ := hl
    refine ⟨t, _, rfl, sq_t h2, rfl, _, _, rfl, _, _, rfl, _, _, rfl, rfl, ?_⟩
    have hxl : xs.length = es.length := by rw [dpAll_len2 h6, List.length_map]
    refine ⟨_, rfl, .ref a1, e, rfl, h3, h9, ha, by omega, fun H2 s2 => ⟨⟨spc, rfl⟩, _, rfl, _, rfl, a3, rfl, ⟨_, sq_l (s2 _ _ h5)⟩, fun D2 hD2 => ?_⟩⟩
    refine lc_map (walk_list (K := K) (a := a3) (xs := xs)) (by omega) (es.map fun x => V.str x.txt) (by rw [List.length_map, hxl]) hD2 (fun H3 s3 => sq_l (s3 _ _ (s2 _ _ h5))) ?_ ?_
    · rintro j x H3 H3' Q1 hj s3 ⟨rfl, hx⟩ kq
      obtain ⟨dd, hdd, dx⟩ := dpAll_at2 h6 hx
      obtain ⟨ex, hex, rfl⟩ : ∃ ex, es[j]? = some ex ∧ ex.data = dd := by
        rw [List.getElem?_map] at hdd
        cases q : es[j]? with
        | none => rw [q] at hdd; cases hdd
        | some v => rw [q] at hdd; exact ⟨v, rfl, Option.some.inj hdd⟩
      obtain ⟨g1, g2, g3⟩ := hc ex (List.mem_of_getElem? hex)
      refine ⟨rfl, _, rfl, x, ex, rfl, Dp.tk (tk_of (s2.trans s3)) _ _ (data_plain ex g1) dx, g1, by omega, by omega, fun H4 s4 => kq _ _ (by rw [List.getElem?_map, hex]; rfl) s4⟩
    · intro H3 hy s3
      refine ⟨a2, D2, _, _, rfl, rfl, s3 _ _ (s2 _ _ h4), hy, small100 (by simp; omega), fun p5 hp5 => ?_⟩
      have e5 : [V.str wd] ++ es.map (fun x => V.str x.txt) = (wd :: es.map Ex.txt).map V.str := by simp
      rw [e5]
      have hlen : m1 (wd :: es.map Ex.txt) ≤ 20000 := by
        have h1 := join_len1 spc spc_len (wd :: es.map Ex.txt) (by simp)
        rw [hf] at h1
        have h2 := txt_len e
        omega
      refine ⟨spc, p5, wd :: es.map Ex.txt, rfl, rfl, .inl (sq_l upd_same), by rw [show spc.length = 1 from by decide +kernel, m1_sum]; omega, rfl, _, rfl, iteD (fun h => absurd h (by rw [hf]; simp)) (fun _ => ?_)⟩
      exact ⟨_, _, _, _, rfl, s1.trans (s2.trans (s3.trans (same_new hp5)))⟩
  · rintro σ H1 ⟨x6, x7, x8, x9, rfl, s1⟩
    exact k _ (s0.trans s1)
theorem cal_parts_right (T : Tx K mg) : Cal P w K mg base CX0 34 "_law_parts_right" ["_law_e", "_law_f", "_law_c", "_law_m"] (spParts K) := by
  have CT := cal_text (P := P) (w := w) (base := base) T
  refine T.h66.cal sc66 (fun vs H Q E h => ?_) (fun _ _ _ _ _ _ us hl => match us, hl with | [_, _, _, _], _ => rfl) (fun f cdv A outer s H vs Q E hr h => ?_)
  · obtain ⟨xe, xf, xc, xm, e, f, c, m, rfl, _⟩ := h; rfl
  · obtain ⟨xe, xf, xc, xm, e, f', c, m, rfl, de, df, dc, dm, fe, ff, fc, fm, k⟩ := h
    obtain ⟨tz, htz, lz⟩ := parts_tail (P := P) (w := w) (base := base) (f := f) (cdv := cdv) (A := A) (outer := outer) (s := s) (H := H) (E := E) T hr
    refine ⟨_, (pss_cons (ps_setLc (i := 4) (own := [("_law_word", 5)]) (g := (gName 5)) (tt := tYes) rfl sc66.nd rfl rfl rfl (pi_tup (pe_tup (pa_cons pe_str (pa_cons pe_str (pa_cons pe_str (pa_cons pe_str (pa_cons pe_str (pa_cons pe_str (pa_cons pe_str pa_nil))))))))) (blkOk_by (N := ["_law_e", "_law_f", "_law_c", "_law_m", "_law_lot", "_law_word", "_law_late", "_law_head", "_law_parts", "_law_part"]) (sc := defScope (top 66)) (by decide +kernel)) (fun _ _ _ _ _ => (pg_name (i := 5) sc66.nd rfl (Or.inl rfl))) (fun _ _ _ _ _ => pts_nil) (fun _ _ _ _ _ => (pe_tup (pa_cons (pe_tup (pa_cons (pv 5) (pa_cons (pv 0) (pa_cons (pv 1) pa_nil)))) (pa_cons (pe_lst (pa_cons (pv 5) pa_nil)) (pa_cons (pe_lst (pa_cons (pv 0) (pa_cons (pv 1) pa_nil))) pa_nil))))))
      (pss_cons (ps_expr (pe_bm PySem.F.plainAttrs_list PySem.F.slot_list_extend PySem.F.type_list_extend mt_extend (pv 4) (pa_cons (pe_lst (pa_cons (pe_tup (pa_cons (pe_tup (pa_cons pe_str (pa_cons (pv 2) pa_nil))) (pa_cons (pe_lst (pa_cons pe_str pa_nil)) (pa_cons (pe_lst (pa_cons (pv 2) pa_nil)) pa_nil)))) (pa_cons (pe_tup (pa_cons (pe_tup (pa_cons pe_str (pa_cons (pv 2) (pa_cons (pv 2) pa_nil)))) (pa_cons (pe_lst (pa_cons pe_str pa_nil)) (pa_cons (pe_lst (pa_cons (pv 2) (pa_cons (pv 2) pa_nil))) pa_nil)))) (pa_cons (pe_tup (pa_cons (pe_tup (pa_cons pe_str (pa_cons (pv 2) (pa_cons (pv 0) (pa_cons (pv 1) pa_nil))))) (pa_cons (pe_lst (pa_cons pe_str pa_nil)) (pa_cons (pe_lst (pa_cons (pv 2) (pa_cons (pv 0) (pa_cons (pv 1) pa_nil)))) pa_nil)))) pa_nil)))) pa_nil)))
      (pss_cons (ps_expr (pe_bm PySem.F.plainAttrs_list PySem.F.slot_list_append PySem.F.type_list_append mt_append (pv 4) (pa_cons (pe_tup (pa_cons (pe_tup (pa_cons pe_str (pa_cons (pv 2) (pa_cons (pv 3) (pa_cons (pv 3) pa_nil))))) (pa_cons (pe_lst (pa_cons pe_str pa_nil)) (pa_cons (pe_lst (pa_cons (pv 2) (pa_cons (pv 3) (pa_cons (pv 3) pa_nil)))) pa_nil)))) pa_nil)))
      htz))), ?_⟩
    refine ⟨small100 (by simp), fun pt hpt => ⟨pt, rfl, ⟨_, sq_t upd_same⟩, fun D hD => ?_⟩⟩
    have sP : Same H (upd H pt (.tup (ops7.map fun o : B2 => V.str o.w))) := same_new hpt
    have hP : (upd H pt (.tup (ops7.map fun o : B2 => V.str o.w))) pt = some (.tup (ops7.map fun o : B2 => V.str o.w)) := upd_same
    have hD' : (upd H pt (.tup (ops7.map fun o : B2 => V.str o.w))) D = none := hD
    have nD : H D = none := sP.free hD'
    refine lc_keep (walk_tup (K := K) (a := pt) (xs := ops7.map fun o : B2 => V.str o.w)) (by decide) (fun H' => Same (upd H pt (.tup (ops7.map fun o : B2 => V.str o.w))) H') (fun _ y H' => Lot K D y H') (same_new hD') (fun H' sm => sq_t (sm _ _ hP)) (fun H' zs r _ => same_mut r hD') (fun _ _ _ _ _ p hDD kk => p.keep hDD kk) ?_ ?_
    · rintro i x H1 H1' Q1 hi r ⟨ys, hy, _⟩ ⟨rfl, hx⟩ kq
      obtain ⟨o, ho, rfl⟩ := List.mem_map.mp (List.mem_of_getElem? hx)
      have s0 := sP.trans r
      have de1 := Dp.tk (tk_of s0) _ _ (data_plain e fe.1) de
      have df1 := Dp.tk (tk_of s0) _ _ (data_plain f' ff.1) df
      refine ⟨rfl, _, rfl, _, rfl, _, rfl, small100 (by simp), fun a1 n1 => ⟨_, rfl, small100 (by simp), fun a2 n2 => ⟨_, rfl, _, rfl, small100 (by simp), fun a3 n3 => ⟨small100 (by simp), fun t n4 => ?_⟩⟩⟩⟩
      obtain ⟨l1, l2⟩ := mkLot (K := K) (e := .bin o e f') (wd := o.w) (es := [e, f']) hy rfl (.cons (.str _) (.cons de1 (.cons df1 .nil))) (.cons de1 (.cons df1 .nil)) (by simp [Ex.ws]) (op_w o).1 (by simp [fe, ff]) (by simp) (op_w o).2 ⟨fe.1, ff.1⟩ (by have := fe.2.1; have := ff.2.1; simp only [Ex.opens]; omega) n1 n2 n3 n4
      exact kq _ _ l2 (r.trans l2) l1
    · intro ys H1 hl hy r hp
      have sH : Same H H1 := sP.trans r
      have de' : ∀ H', Same H H' → Dp K H' xe e.data := fun H' sm => Dp.tk (tk_of sm) _ _ (data_plain e fe.1) de
      have df' : ∀ H', Same H H' → Dp K H' xf f'.data := fun H' sm => Dp.tk (tk_of sm) _ _ (data_plain f' ff.1) df
      have dc' : ∀ H', Same H H' → Dp K H' xc c.data := fun H' sm => Dp.tk (tk_of sm) _ _ (data_plain c fc.1) dc
      have dm' : ∀ H', Same H H' → Dp K H' xm m.data := fun H' sm => Dp.tk (tk_of sm) _ _ (data_plain m fm.1) dm
      refine ⟨_, rfl, .inl ⟨rfl, _, sq_l hy⟩, ?_⟩
      refine ⟨_, rfl, small100 (by simp), fun a11 n11 => ⟨small100 (by simp), fun a12 n12 => ⟨_, rfl, small100 (by simp), fun a13 n13 => ⟨small100 (by simp), fun t1 n14 => ?_⟩⟩⟩⟩
      obtain ⟨l1, k1⟩ := mkLot (K := K) (e := .not c) (wd := "not") (es := [c]) hy rfl (.cons (.str _) (.cons (dc' _ sH) .nil)) (.cons (dc' _ sH) .nil) (by simp [Ex.ws]) (by decide +kernel) (by simp [fe, ff, fc, fm]) (by simp) (by decide +kernel) (by simp [Ex.Wf, fe.1, ff.1, fc.1, fm.1]) (by have := fe.2.1; have := ff.2.1; have := fc.2.1; have := fm.2.1; simp only [Ex.opens]; omega) n11 n12 n13 n14
      refine ⟨_, rfl, _, rfl, small100 (by simp), fun a21 n21 => ⟨small100 (by simp), fun a22 n22 => ⟨_, rfl, _, rfl, small100 (by simp), fun a23 n23 => ⟨small100 (by simp), fun t2 n24 => ?_⟩⟩⟩⟩
      obtain ⟨l2, k2⟩ := mkLot (K := K) (e := .bin .and c c) (wd := "and") (es := [c, c]) (k1 _ _ hy) rfl (.cons (.str _) (.cons (dc' _ (sH.trans k1)) (.cons (dc' _ (sH.trans k1)) .nil))) (.cons (dc' _ (sH.trans k1)) (.cons (dc' _ (sH.trans k1)) .nil)) (by simp [Ex.ws, B2.w]) (by decide +kernel) (by simp [fe, ff, fc, fm]) (by simp) (by decide +kernel) (by simp [Ex.Wf, fe.1, ff.1, fc.1, fm.1]) (by have := fe.2.1; have := ff.2.1; have := fc.2.1; have := fm.2.1; simp only [Ex.opens]; omega) n21 n22 n23 n24
      refine ⟨_, rfl, _, rfl, _, rfl, small100 (by simp), fun a31 n31 => ⟨small100 (by simp), fun a32 n32 => ⟨_, rfl, _, rfl, _, rfl, small100 (by simp), fun a33 n33 => ⟨small100 (by simp), fun t3 n34 => ?_⟩⟩⟩⟩
      obtain ⟨l3, k3⟩ := mkLot (K := K) (e := .cond c e f') (wd := "if") (es := [c, e, f']) (k2 _ _ (k1 _ _ hy)) rfl (.cons (.str _) (.cons (dc' _ (sH.trans (k1.trans k2))) (.cons (de' _ (sH.trans (k1.trans k2))) (.cons (df' _ (sH.trans (k1.trans k2))) .nil)))) (.cons (dc' _ (sH.trans (k1.trans k2))) (.cons (de' _ (sH.trans (k1.trans k2))) (.cons (df' _ (sH.trans (k1.trans k2))) .nil))) (by simp [Ex.ws]) (by decide +kernel) (by simp [fe, ff, fc, fm]) (by simp) (by decide +kernel) (by simp [Ex.Wf, fe.1, ff.1, fc.1, fm.1]) (by have := fe.2.1; have := ff.2.1; have := fc.2.1; have := fm.2.1; simp only [Ex.opens]; omega) n31 n32 n33 n34
      refine ⟨small100 (by simp), fun lx nlx => ?_⟩
      have k4 := same_new (o := .lst [.ref t1, .ref t2, .ref t3]) nlx
      have kk := k1.trans (k2.trans (k3.trans k4))
      have hyx := kk _ _ hy
      have h7 : ys.length ≤ 10 := by rw [hl]; decide
      refine ⟨D, lx, ys, _, rfl, rfl, hyx, upd_same, small100 (by simp; omega), ?_⟩
      have s5 := same_mut (o := .lst (ys ++ [.ref t1, .ref t2, .ref t3])) (sH.trans kk) nD
      have lk := lots4 hy (fun y hm => by obtain ⟨i, hi⟩ := List.getElem?_of_mem hm; exact hp i y hi) k1 l1 k2 l2 k3 l3 k4
      have lm := lots_mut (zs := ys ++ [.ref t1, .ref t2, .ref t3]) hyx lk
      refine ⟨_, rfl, .inl ⟨rfl, _, sq_l upd_same⟩, ?_⟩
      refine ⟨_, rfl, _, rfl, _, rfl, small100 (by simp), fun a51 n51 => ⟨small100 (by simp), fun a52 n52 => ⟨_, rfl, _, rfl, _, rfl, small100 (by simp), fun a53 n53 => ⟨small100 (by simp), fun t5 n54 => ?_⟩⟩⟩⟩
      obtain ⟨l5, k5'⟩ := mkLot (K := K) (D := D) (e := .cond c m m) (wd := "if") (es := [c, m, m]) upd_same rfl (.cons (.str _) (.cons (dc' _ s5) (.cons (dm' _ s5) (.cons (dm' _ s5) .nil)))) (.cons (dc' _ s5) (.cons (dm' _ s5) (.cons (dm' _ s5) .nil))) (by simp [Ex.ws]) (by decide +kernel) (by simp [fe, ff, fc, fm]) (by simp) (by decide +kernel) (by simp [Ex.Wf, fe.1, ff.1, fc.1, fm.1]) (by have := fe.2.1; have := ff.2.1; have := fc.2.1; have := fm.2.1; simp only [Ex.opens]; omega) n51 n52 n53 n54
      have hD5 := k5' D _ upd_same
      refine ⟨D, _, .ref t5, rfl, rfl, hD5, small100' (by simp; omega), ?_⟩
      have lf : ∀ y ∈ (ys ++ [.ref t1, .ref t2, .ref t3]) ++ [.ref t5], Lot K D y _ := fun y hm => by
        rcases List.mem_append.mp hm with hm | hm
        · exact (lm y hm).keep upd_same (fun b o _ e => k5' b o e)
        · have e : y = .ref t5 := by simpa using hm
          rw [e]; exact l5
      exact lz _ D _ H _ _ _ _ _ _ upd_same (by simp; omega) nD (lots_mut hD5 lf) (same_mut (s5.trans k5') nD) k
end
end K12

set_option maxHeartbeats 4000000
/-! H6a: what repr asks of kinds and forms. -/
namespace K12
open PySem PySem.Spec PyProof.Rows L2 TL NumText
set_option autoImplicit false
theorem told_gen {d : PyData} (hp : plain d) (hd : d.depth ≤ 60) (hs : sz d ≤ 16000000) : (PyData.tuple [.str "told", d]).showable = true ∧ (PyData.tuple [.str "told", d]).hasDict = false ∧ (PyData.tuple [.str "told", d]).depth ≤ 100 ∧ (PyData.tuple [.str "told", d]).shown.length ≤ sizeLine := by
  have hp' := told_plain hp
  have h1 := sz_le _ hp'
  have h4 : sz (.str "told") ≤ 100 := by decide +kernel
  refine ⟨plain_show _ hp', plain_noDict _ hp', by simp only [PyData.depth, PyData.depthAll]; omega, ?_⟩
  rw [sizeLine_eq]
  refine Nat.le_trans h1 ?_
  simp only [sz, szAll] at h4 ⊢
  omega
theorem kd_sz {k : Kd} (h : k.Ok) : sz k.data ≤ 400 := by
  cases k with
  | cls n =>
    have := (isName_iff.mp h).2.1
    simp only [Kd.data, sz]; omega
  | rng a b =>
    have h1 := iw_len (k := 60) (by omega) h.1
    have h2 := iw_len (k := 60) (by omega) h.2.1
    simp only [Kd.data, sz, szAll]; omega
theorem kd_dep (k : Kd) : k.data.depth ≤ 1 := by cases k <;> simp [Kd.data, PyData.depth, PyData.depthAll]
theorem form_sz : ∀ {f : Form}, (∀ x ∈ f, isName x.1 = true ∧ x.2.Ok) → szAll (f.map fldD) ≤ 600 * f.length
  | [], _ => by simp [szAll]
  | a :: r, h => by
    have h1 := form_sz (f := r) fun x hx => h x (List.mem_cons_of_mem _ hx)
    obtain ⟨h2, h3⟩ := h a List.mem_cons_self
    have h4 := kd_sz h3
    have h5 := (isName_iff.mp h2).2.1
    rw [List.map_cons, List.length_cons]
    simp only [szAll, fldD, sz]
    omega
theorem form_dep : ∀ f : Form, PyData.depthAll (f.map fldD) ≤ 2
  | [] => by simp [PyData.depthAll]
  | a :: r => by
    have h1 := form_dep r
    have h2 := kd_dep a.2
    rw [List.map_cons]
    simp only [PyData.depthAll, fldD, PyData.depth]
    omega
theorem form_cnt {f : Form} {z : Str} (h : f.txt = z) : f.length ≤ z.length + 1 := by
  by_cases h0 : f = []
  · rw [h0]; simp
  · unfold Form.txt at h
    rw [if_neg h0] at h
    have h1 := join_len1 comma (by decide +kernel) (f.map fldW) (by simpa using h0)
    have h2 := m1_len (f.map fldW)
    rw [h] at h1
    rw [List.length_map] at h2
    omega
theorem kd_told {k : Kd} (h : k.Ok) : (PyData.tuple [.str "told", k.data]).showable = true ∧ (PyData.tuple [.str "told", k.data]).hasDict = false ∧ (PyData.tuple [.str "told", k.data]).depth ≤ 100 ∧ (PyData.tuple [.str "told", k.data]).shown.length ≤ sizeLine := told_gen (kd_plain h) (Nat.le_trans (kd_dep k) (by decide)) (Nat.le_trans (kd_sz h) (by decide))
theorem form_plain' {f : Form} (h : f.Ok) : plain f.data := by
  unfold Form.data
  simp only [plain]
  exact form_plain h.1
theorem form_told {f : Form} (h : f.Ok) (hl : f.length ≤ 20001) : (PyData.tuple [.str "told", f.data]).showable = true ∧ (PyData.tuple [.str "told", f.data]).hasDict = false ∧ (PyData.tuple [.str "told", f.data]).depth ≤ 100 ∧ (PyData.tuple [.str "told", f.data]).shown.length ≤ sizeLine := by
  have h1 := form_sz h.1
  have h2 := form_dep f
  refine told_gen (form_plain' h) ?_ ?_
  · unfold Form.data; simp only [PyData.depth]; omega
  · unfold Form.data; simp only [sz]; omega
end K12

set_option maxHeartbeats 4000000
/-! H6: _law_word_right. -/
namespace K12
open PySem PySem.Spec PyProof.Rows L2 TL NumText
set_option autoImplicit false
/-- a local name that holds a def: what is promised of that def -/
def tCallV (P : Program) (w : World) (K : PySem.W.Frag) (mg : Str → Option Value) (base : Heap) (k i : Nat) (t : TA) : TE := fun σ H Q => ∃ f sp, σ[i]? = some (some (.ref f)) ∧ Held P w K mg base k f sp ∧ t σ H fun vs H1 => sp vs H1 Q (fun _ _ _ => False)
theorem pe_callV {X : Cx} {k i : Nat} {x : Str} {p pos : Pos} {e : Expr} {es : List Expr} {t : TA} (hr : Room k X.A) (hN : X.N[i]? = some x) (hv : Vis X.env.scope x) (ha : PA X (e :: es) t)
    (hdb : (x == ("__debug__" : Str)) = false := by decide) (hcd : (x == ("__classdict__" : Str)) = false := by decide)
    (he : starEach (e :: es) X.env = (false, eval e X.env) :: starEach es X.env := by rfl) (hpl : (backTo pos (starEach es X.env)).any (·.1) = false := by rfl) : PE X (.Call (.Name x p) (e :: es) [] pos) (tCallV X.prog X.w X.K X.mg X.base k i t) := by
  refine ⟨fun pins s σ H Q I h => ?_⟩
  obtain ⟨f, sp, hs, hA, ht⟩ := h
  obtain ⟨fd, ps, F, hk, hb⟩ := hA.ex
  refine (pe_callL (i := i) (f := f) (sp := sp) (dvs := []) (E := fun _ _ _ => False) F hr hN hv hk hb .nil (fun _ _ _ _ _ _ _ z => z.elim) ha hdb hcd he hpl).run pins s σ H Q I ⟨hs, ?_⟩
  have e0 : (fun (vs : List V) (H1 : Hp) => sp (vs ++ []) H1 Q (fun _ _ _ => False)) = fun vs H1 => sp vs H1 Q (fun _ _ _ => False) := by
    funext vs H1
    rw [List.append_nil]
  show t σ H (fun vs H1 => sp (vs ++ []) H1 Q (fun _ _ _ => False))
  rw [e0]
  exact ht
theorem ext_mut {H H' : Hp} {D : Addr} {o : HO} (e : LamX.ExtN H H') (n : H D = none) : LamX.ExtN H (upd H' D o) := fun b u h hn => by rw [upd_ne (ne_of_none h n)]; exact e b u h hn
theorem tabs_mut {TT : List (Addr × Str)} {H : Hp} {D : Addr} {xs : List V} {o : HO} (T : LamX.Tabs TT H) (hD : H D = some (.lst xs)) : LamX.Tabs TT (upd H D o) := fun p hp => by
  obtain ⟨ps, h1, h2, h3⟩ := T p hp
  refine ⟨ps, by rw [upd_ne (fun z => by rw [z, hD] at h1; cases h1)]; exact h1, h2, fun pos cv hc => ?_⟩
  obtain ⟨c, e1, e2⟩ := h3 pos cv hc
  exact ⟨c, e1, by rw [upd_ne (fun z => by rw [z, hD] at e2; unfold LamX.CodeO at e2; cases e2)]; exact e2⟩
theorem ext_l {H H' : Hp} (e : LamX.ExtN H H') {b : Addr} {xs : List V} (h : H b = some (.lst xs)) : H' b = some (.lst xs) := e _ _ h (fun _ z => by cases z)
theorem ext_mut2 {H H1 H' : Hp} {D : Addr} {o : HO} (e1 : LamX.ExtN H H1) (n : H1 D = none) (e : LamX.ExtN H H') : LamX.ExtN H (upd H' D o) := fun b u h hn => by
  have hb : b ≠ D := fun z => by
    have q := e1 b u h hn
    rw [z, n] at q
    cases q
  rw [upd_ne hb]
  exact e b u h hn
theorem tk_ml {H : Hp} {D : Addr} {xs : List V} {o : HO} (hD : H D = some (.lst xs)) : Tk H (upd H D o) := tk_mut (Tk.refl _) hD (fun _ z => by cases z) (fun _ _ z => by cases z)
def toSum {α : Type} : Option α → α ⊕ Nat
  | some a => .inl a
  | none => .inr 0
theorem toSum_inl {α : Type} {o : Option α} {a : α} (h : toSum o = .inl a) : o = some a := by
  cases o with
  | none => cases h
  | some b => cases h; rfl
theorem Heard.ext {K : PySem.W.Frag} {ds : List PyData} {v : V} {H H' : Hp} (h : Heard K ds v H) (hp : plainAll ds) (e : LamX.ExtN H H') : Heard K ds v H' := by
  obtain ⟨t, xs, rfl, ht, hd⟩ := h
  exact ⟨t, xs, rfl, ext_t e ht, Dp.tkAll (ext_tk e) _ _ hp hd⟩
theorem Heard.tk {K : PySem.W.Frag} {ds : List PyData} {v : V} {H H' : Hp} (h : Heard K ds v H) (hp : plainAll ds) (e : Tk H H') : Heard K ds v H' := by
  obtain ⟨t, xs, rfl, ht, hd⟩ := h
  exact ⟨t, xs, rfl, e.1 _ _ ht, Dp.tkAll e _ _ hp hd⟩
theorem heardL_plain {α : Type} {dat : α → PyData} {o : Option α} {row fld : Int} (h : ∀ a, o = some a → plain (dat a)) (h1 : row.natAbs ≤ 1000) (h2 : fld.natAbs ≤ 1000) : plainAll (heardL dat row fld (toSum o)) := by
  cases o with
  | none =>
    simp only [toSum, heardL, plain, plainAll, and_true]
    exact ⟨by decide +kernel, okInt_mid (by omega), okInt_mid (by omega)⟩
  | some a =>
    simp only [toSum, heardL, plain, plainAll, and_true]
    exact ⟨by decide +kernel, h a rfl⟩
section
variable {P : Program} {w : World} {K : PySem.W.Frag} {mg : Str → Option Value} {base : Heap} {CI cL p1 p2 p3 q1 q2 q3 q4 r1 r2 r3 r4 r5 : Addr} {TT : List (Addr × Str)}
theorem Cal.held {k j : Nat} {x : Str} {ps : List Str} {sp : Sp} (C : Cal P w K mg base CX0 k x ps sp) (hkj : k ≤ j) : ∃ f, mg x = some (.ref f) ∧ Held P w K mg base j f sp := by
  obtain ⟨f, fd, F, m, hk, hb⟩ := C.ex
  exact ⟨f, m, fd, ps, F.mono hkj, hk, hb⟩
def spWord (TT : List (Addr × Str)) : Sp := fun vs H Q _ => ∃ z : Str, vs = [.str z] ∧ z.length ≤ 20000 ∧ LamX.Tabs TT H ∧ ∀ H', LamX.ExtN H H' → LamX.Tabs TT H' → Q (.bl true) H'
def N67 : List Str := ["_law_text_in", "_law_told", "_law_again", "_law_one", "_law_late", "_law_check", "_law_write"]
theorem sc67 : FnScope N67 ["_law_text_in"] (defScope (top 67)) := ⟨rfl, rfl, rfl, by decide +kernel, rfl, by decide +kernel, by decide +kernel⟩
theorem cal_word_right (T : Tx K mg) (KI : Kin K mg CI cL p1 p2 p3 q1 q2 q3 q4 r1 r2 r3 r4 r5) {c : Addr} (h67 : HsC K mg "_law_word_right" (top 67) c) (LB : Lams base mg TT "_law_word_right" c)
    (CK : CalK P w K mg base (L2.CX P w) 4 "read_kind" 1 ["text", "row", "field"] (spReadK K CI)) (CF : CalK P w K mg base (L2.CX P w) 4 "read_form" 1 ["text", "row", "field"] (spReadF K CI)) : CalG P w K mg base CX0 10 "_law_word_right" ["_law_text_in"] (spWord TT) := by
  obtain ⟨fk, mk, Hk⟩ := (cal_is_kind (P := P) (w := w) (base := base) T).held (j := 9) (by decide)
  obtain ⟨ff, mf, Hf⟩ := (cal_is_form (P := P) (w := w) (base := base) T).held (j := 9) (by decide)
  obtain ⟨gk, nk, Gk⟩ := (cal_kind_text (P := P) (w := w) (base := base) T).held (j := 9) (by decide)
  obtain ⟨gf, nf, Gf⟩ := (cal_form_text (P := P) (w := w) (base := base) T).held (j := 9) (by decide)
  obtain ⟨PT, TB, hm, hu⟩ := LB.ex
  refine h67.calG sc67 (fun vs H Q E h => ?_) (fun _ _ _ _ _ _ us hl => match us, hl with | [_], _ => rfl) (fun f A outer s H vs Q E hgd hr h => ?_)
  · obtain ⟨z, rfl, _⟩ := h; rfl
  · obtain ⟨z, rfl, hz, hT, k⟩ := h
    have hun : (A.deeper (envOfC "_law_word_right" (defScope (top 67)) s.heap.objs.size f (.ref c))).units + 200 < cLine := by have := hr.un; omega
    refine ⟨_, (pss_cons (ps_set (i := 1) sc67.nd rfl (Or.inl rfl) (pe_lst (pa_cons (pe_heard (k := 7) T KI hr (by rfl) TB rfl hm hu (LamX.lamS_by (sc := defScope (top 67)) (by decide +kernel)) rfl (fun _ _ _ _ _ => rfl) (fun A1 o1 s1 H1 E1 f1 c1 hr1 => pe_cal00 (E := E1) CK (hr1.mono (by decide)) rfl (passes_call (takes_of rfl rfl rfl rfl) (fun _ _ _ _ h => h)) (pa_cons (pv 0) pa_nil))) pa_nil)))
      (pss_cons (ps_expr (pe_bm PySem.F.plainAttrs_list PySem.F.slot_list_append PySem.F.type_list_append mt_append (pv 1) (pa_cons (pe_heard (k := 7) T KI hr (by rfl) TB rfl hm hu (LamX.lamS_by (sc := defScope (top 67)) (by decide +kernel)) rfl (fun _ _ _ _ _ => rfl) (fun A1 o1 s1 H1 E1 f1 c1 hr1 => pe_cal00 (E := E1) CF (hr1.mono (by decide)) rfl (passes_call (takes_of rfl rfl rfl rfl) (fun _ _ _ _ h => h)) (pa_cons (pv 0) pa_nil))) pa_nil)))
      (pss_cons (ps_set (i := 2) sc67.nd rfl (Or.inl rfl) (pe_lst (pa_cons (pe_heard (k := 7) T KI hr (by rfl) TB rfl hm hu (LamX.lamS_by (sc := defScope (top 67)) (by decide +kernel)) rfl (fun _ _ _ _ _ => rfl) (fun A1 o1 s1 H1 E1 f1 c1 hr1 => pe_calRF (E := E1) CK (hr1.mono (by decide)) rfl (passes_call (takes_of rfl rfl rfl rfl) (fun _ _ _ _ h => h)) (pa_cons (pv 0) pa_nil) (pk_cons pe_int (pk_cons pe_int pk_nil)))) pa_nil)))
      (pss_cons (ps_expr (pe_bm PySem.F.plainAttrs_list PySem.F.slot_list_append PySem.F.type_list_append mt_append (pv 2) (pa_cons (pe_heard (k := 7) T KI hr (by rfl) TB rfl hm hu (LamX.lamS_by (sc := defScope (top 67)) (by decide +kernel)) rfl (fun _ _ _ _ _ => rfl) (fun A1 o1 s1 H1 E1 f1 c1 hr1 => pe_calFR (E := E1) CF (hr1.mono (by decide)) rfl (passes_call (takes_of rfl rfl rfl rfl) (fun _ _ _ _ h => h)) (pa_cons (pv 0) pa_nil) (pk_cons pe_int (pk_cons pe_int pk_nil)))) pa_nil)))
      (pss_cons (ps_for PassesOwn.never rfl (pi_tup (pe_tup (pa_cons (pe_tup (pa_cons (pe_ixL K rfl (pv 1) pe_int (fun _ _ => rfl)) (pa_cons (pe_ixL K rfl (pv 2) pe_int (fun _ _ => rfl)) (pa_cons (pe_glob (v := .ref fk) (by rfl) mk rfl) (pa_cons (pe_glob (v := .ref gk) (by rfl) nk rfl) pa_nil))))) (pa_cons (pe_tup (pa_cons (pe_ixL K rfl (pv 1) pe_int (fun _ _ => rfl)) (pa_cons (pe_ixL K rfl (pv 2) pe_int (fun _ _ => rfl)) (pa_cons (pe_glob (v := .ref ff) (by rfl) mf rfl) (pa_cons (pe_glob (v := .ref gf) (by rfl) nf rfl) pa_nil))))) pa_nil)))) (pg_tup rfl (pgs_cons (pg_name (i := 3) sc67.nd rfl (Or.inl rfl)) (pgs_cons (pg_name (i := 4) sc67.nd rfl (Or.inl rfl)) (pgs_cons (pg_name (i := 5) sc67.nd rfl (Or.inl rfl)) (pgs_cons (pg_name (i := 6) sc67.nd rfl (Or.inl rfl)) pgs_nil))))) (pss_one (ps_if (pt_cmpR op_eq (pe_ixT K rfl (pv 3) pe_int (fun _ _ => rfl)) pe_str (nomark _)) (pss_one (ps_if (PW.pt (pw_or (pt_not (pt_val (pe_callV (i := 5) hr rfl (Or.inl rfl) (pa_cons (pe_ixT K rfl (pv 3) pe_int (fun _ _ => rfl)) pa_nil)))) (pw_or (pt_cmpR op_ne (pe_callV (i := 6) hr rfl (Or.inl rfl) (pa_cons (pe_ixT K rfl (pv 3) pe_int (fun _ _ => rfl)) pa_nil)) (pv 0) (nomark _)) (pw_or1 (pt_cmpR op_ne (pe_callB (call_repr hgd hun) (by rfl) T.b_repr (by decide +kernel) (pa_cons (pv 4) pa_nil)) (pe_callB (call_repr hgd hun) (by rfl) T.b_repr (by decide +kernel) (pa_cons (pv 3) pa_nil)) (nomark _)))))) (pss_one (ps_ret pe_bl)) pss_nil)) (pss_one (ps_if (PW.pt (pw_or (pt_cmpR (op_neD hr.units) (pv 3) (pe_tup (pa_cons pe_str (pa_cons pe_int (pa_cons pe_int pa_nil)))) (nomark _)) (pw_or1 (pt_cmpR (op_neD hr.units) (pv 4) (pe_tup (pa_cons pe_str (pa_cons pe_int (pa_cons pe_int pa_nil)))) (nomark _))))) (pss_one (ps_ret pe_bl)) pss_nil)))))
      (pss_one (ps_ret pe_bl))))))), ?_⟩
    refine hear (K := K) (dat := Kd.data) (rd := toSum (kindOf z)) (row := 0) (fld := 0) (fun e he => kd_plain (kindOf_some (toSum_inl he)).2) hT (fun E1 H1 Q1 _ a b => ⟨_, rfl, z, 0, 0, rfl, by omega, fun k hk => a k (by rw [hk]; rfl), fun hn d H' sm hd => b 0 (by rw [hn]; rfl) d H' sm (by simpa using hd)⟩) (fun v1 H1 e1 T1 h1 => ?_)
    refine ⟨small100 (by simp), fun L1 nL1 => ?_⟩
    have s1 := same_new (o := .lst [v1]) nL1
    refine ⟨_, rfl, .inl ⟨rfl, _, sq_l upd_same⟩, ?_⟩
    refine hear (K := K) (dat := Form.data) (rd := toSum (formOf z)) (row := 0) (fld := 0) (fun e he => form_plain' (formOf_some (toSum_inl he)).2) (T1.ext s1) (fun E1 H1 Q1 _ a b => ⟨_, rfl, z, 0, 0, rfl, by omega, fun k hk => a k (by rw [hk]; rfl), fun hn d H' sm hd => b 0 (by rw [hn]; rfl) d H' sm (by simpa using hd)⟩) (fun v2 H2 e2 T2 h2 => ?_)
    have c2 := ext_l e2 upd_same
    refine ⟨L1, _, v2, rfl, rfl, c2, small100' (by simp), ?_⟩
    have T2' := tabs_mut (o := .lst ([v1] ++ [v2])) T2 c2
    refine hear (K := K) (dat := Kd.data) (rd := toSum (kindOf z)) (row := 2) (fld := 7) (fun e he => kd_plain (kindOf_some (toSum_inl he)).2) T2' (fun E1 H1 Q1 _ a b => ⟨_, rfl, rfl, rfl, z, 2, 7, rfl, by omega, fun k hk => a k (by rw [hk]; rfl), fun hn d H' sm hd => b 0 (by rw [hn]; rfl) d H' sm (by simpa using hd)⟩) (fun v3 H3 e3 T3 h3 => ?_)
    refine ⟨small100 (by simp), fun L2 nL2 => ?_⟩
    have s3 := same_new (o := .lst [v3]) nL2
    refine ⟨_, rfl, .inl ⟨rfl, _, sq_l upd_same⟩, ?_⟩
    refine hear (K := K) (dat := Form.data) (rd := toSum (formOf z)) (row := 2) (fld := 7) (fun e he => form_plain' (formOf_some (toSum_inl he)).2) (T3.ext s3) (fun E1 H1 Q1 _ a b => ⟨_, rfl, rfl, rfl, z, 2, 7, rfl, by omega, fun k hk => a k (by rw [hk]; rfl), fun hn d H' sm hd => b 0 (by rw [hn]; rfl) d H' sm (by simpa using hd)⟩) (fun v4 H4 e4 T4 h4 => ?_)
    have c4 := ext_l e4 upd_same
    refine ⟨L2, _, v4, rfl, rfl, c4, small100' (by simp), ?_⟩
    have pK : ∀ k, kindOf z = some k → plain k.data := fun k hk => kd_plain (kindOf_some hk).2
    have pF : ∀ k, formOf z = some k → plain k.data := fun k hk => form_plain' (formOf_some hk).2
    have eC := (ext_mut2 (o := .lst ([v1] ++ [v2])) e1 nL1 ((e1.trans (ext_same s1)).trans e2)).trans e3
    have eE := ext_mut2 (o := .lst ([v3] ++ [v4])) eC nL2 ((eC.trans (ext_same s3)).trans e4)
    have T5 := tabs_mut (o := .lst ([v3] ++ [v4])) T4 c4
    have t2 := tk_ml (o := .lst ([v1] ++ [v2])) c2
    have t5 := tk_ml (o := .lst ([v3] ++ [v4])) c4
    have t3 := ext_tk (e3.trans ((ext_same s3).trans e4))
    have b1 := h1.tk (heardL_plain pK (by decide) (by decide)) ((tk_of s1).trans ((ext_tk e2).trans (t2.trans (t3.trans t5))))
    have b2 := h2.tk (heardL_plain pF (by decide) (by decide)) (t2.trans (t3.trans t5))
    have b3 := h3.tk (heardL_plain pK (by decide) (by decide)) ((tk_of s3).trans ((ext_tk e4).trans t5))
    have b4 := h4.tk (heardL_plain pF (by decide) (by decide)) t5
    have f1 := ext_l e3 upd_same
    have hne : L1 ≠ L2 := fun q => by rw [← q, f1] at nL2; cases nL2
    have g1 : (upd H4 L2 (.lst ([v3] ++ [v4]))) L1 = some (.lst [v1, v2]) := by rw [upd_ne hne]; exact ext_l e4 (s3 _ _ f1)
    have g2 : (upd H4 L2 (.lst ([v3] ++ [v4]))) L2 = some (.lst [v3, v4]) := upd_same
    generalize upd H4 L2 (.lst ([v3] ++ [v4])) = H5 at eE T5 b1 b2 b3 b4 g1 g2 ⊢
    refine ⟨_, rfl, L1, [v1, v2], 0, v1, rfl, rfl, sq_l g1, rfl, _, rfl, L2, [v3, v4], 0, v3, rfl, rfl, sq_l g2, rfl, small100 (by simp), fun pa na => ?_⟩
    have sa := same_new (o := .tup [v1, v3, .ref fk, .ref gk]) na
    refine ⟨_, rfl, L1, [v1, v2], 1, v2, rfl, rfl, sq_l (sa _ _ g1), rfl, _, rfl, L2, [v3, v4], 1, v4, rfl, rfl, sq_l (sa _ _ g2), rfl, small100 (by simp), fun pb nb => ⟨small100 (by simp), fun pt npt => ?_⟩⟩
    have sb := same_new (o := .tup [v2, v4, .ref ff, .ref gf]) nb
    have sc := same_new (o := .tup [.ref pa, .ref pb]) npt
    have qa := sc _ _ (sb _ _ (upd_same (H := H5) (a := pa) (o := .tup [v1, v3, .ref fk, .ref gk])))
    have qb := sc _ _ (upd_same (H := upd H5 pa (.tup [v1, v3, .ref fk, .ref gk])) (a := pb) (o := .tup [v2, v4, .ref ff, .ref gf]))
    have s8 := sa.trans (sb.trans sc)
    have qt : (upd (upd (upd H5 pa (.tup [v1, v3, .ref fk, .ref gk])) pb (.tup [v2, v4, .ref ff, .ref gf])) pt (.tup [.ref pa, .ref pb])) pt = some (.tup [.ref pa, .ref pb]) := upd_same
    generalize upd (upd (upd H5 pa (.tup [v1, v3, .ref fk, .ref gk])) pb (.tup [v2, v4, .ref ff, .ref gf])) pt (.tup [.ref pa, .ref pb]) = H8 at qa qb qt s8 ⊢
    refine ⟨pt, rfl, ⟨_, sq_t qt⟩, for_it (walk_tup (K := K) (a := pt) (xs := [.ref pa, .ref pb])) (fun i σ H' => ∃ (x3 x4 x5 x6 : Option V), σ = [some (.str z), some (.ref L1), some (.ref L2), x3, x4, x5, x6] ∧ Same H8 H') ⟨none, none, none, none, rfl, Same.refl _⟩ (fun i σ H' _ ⟨_, _, _, _, _, sm⟩ => sq_t (sm _ _ qt)) ?_ ?_⟩
    · rintro i x σ H9 H9' hi ⟨x3, x4, x5, x6, rfl, s9⟩ ⟨rfl, hx⟩
      have hi2 : i < 2 := hi
      rcases (show i = 0 ∨ i = 1 by omega) with rfl | rfl
      · obtain rfl : V.ref pa = x := by simpa using hx
        refine ⟨pa, _, rfl, sq_t (s9 _ _ qa), rfl, _, _, rfl, _, _, rfl, _, _, rfl, _, _, rfl, rfl, ?_⟩
        have c1 := b1.tk (heardL_plain pK (by decide) (by decide)) (tk_of (s8.trans s9))
        have c3 := b3.tk (heardL_plain pK (by decide) (by decide)) (tk_of (s8.trans s9))
        cases hk : kindOf z with
        | some kd =>
          rw [hk] at c1 c3
          obtain ⟨t1, y1, rfl, w1, d1⟩ := heard_told c1
          obtain ⟨t3', y3, rfl, w3, d3⟩ := heard_told c3
          obtain ⟨hz1, hz2⟩ := kindOf_some hk
          have hcn : kd.txt.length = z.length := by rw [hz1]
          obtain ⟨u1, u2, u3, u4⟩ := kd_told hz2
          have hpl := pK kd hk
          refine ⟨_, rfl, t1, _, 0, .str "told", rfl, rfl, sq_t w1, rfl, rfl, _, rfl, iteD (fun _ => ?_) (fun h => absurd rfl (of_decide_eq_false h))⟩
          refine ⟨fk, _, rfl, Hk, _, rfl, t1, _, 1, y1, rfl, rfl, sq_t w1, rfl, y1, kd, rfl, d1, hz2, fun H10 s10 => ⟨true, rfl, iteF ?_⟩⟩
          refine ⟨gk, _, rfl, Gk, _, rfl, t1, _, 1, y1, rfl, rfl, sq_t (s10 _ _ w1), rfl, y1, kd, rfl, Dp.tk (tk_of s10) _ _ hpl d1, hz2, fun H11 s11 => ⟨_, rfl, rfl, _, rfl, iteD (fun h => absurd h (by rw [hz1]; simp)) (fun _ => ?_)⟩⟩
          have sx := s10.trans s11
          refine ⟨_, rfl, t3', _, rfl, .tup (sq_t (sx _ _ w3)) (.cons (.str "told") (.cons (Dp.tk (tk_of sx) _ _ hpl d3) .nil)), u1, u2, u3, u4, _, rfl, t1, _, rfl, .tup (sq_t (sx _ _ w1)) (.cons (.str "told") (.cons (Dp.tk (tk_of sx) _ _ hpl d1) .nil)), u1, u2, u3, u4, rfl, _, rfl, iteD (fun h => absurd h (by simp)) (fun _ => ?_)⟩
          exact ⟨_, _, _, _, rfl, s9.trans sx⟩
        | none =>
          rw [hk] at c1 c3
          obtain ⟨t1, rfl, w1⟩ := heard_err c1
          obtain ⟨t3', rfl, w3⟩ := heard_err c3
          refine ⟨_, rfl, t1, _, 0, .str "text", rfl, rfl, sq_t w1, rfl, rfl, _, rfl, iteD (fun h => absurd (of_decide_eq_true h) (by decide +kernel)) (fun _ => ?_)⟩
          refine ⟨_, rfl, small100 (by simp), fun m1' n1' => ne_txt3 w1 n1' (by decide) (by decide) (by decide) ⟨_, rfl, iteF ⟨_, rfl, small100 (by simp), fun m2' n2' => ne_txt3 (same_new n1' _ _ w3) n2' (by decide) (by decide) (by decide) ⟨_, rfl, iteF ?_⟩⟩⟩⟩
          exact ⟨_, _, _, _, rfl, s9.trans ((same_new n1').trans (same_new n2'))⟩
      · obtain rfl : V.ref pb = x := by simpa using hx
        refine ⟨pb, _, rfl, sq_t (s9 _ _ qb), rfl, _, _, rfl, _, _, rfl, _, _, rfl, _, _, rfl, rfl, ?_⟩
        have c1 := b2.tk (heardL_plain pF (by decide) (by decide)) (tk_of (s8.trans s9))
        have c3 := b4.tk (heardL_plain pF (by decide) (by decide)) (tk_of (s8.trans s9))
        cases hk : formOf z with
        | some kd =>
          rw [hk] at c1 c3
          obtain ⟨t1, y1, rfl, w1, d1⟩ := heard_told c1
          obtain ⟨t3', y3, rfl, w3, d3⟩ := heard_told c3
          obtain ⟨hz1, hz2⟩ := formOf_some hk
          have hcn : kd.txt.length = z.length := by rw [hz1]
          obtain ⟨u1, u2, u3, u4⟩ := form_told hz2 (by have := form_cnt hz1; omega)
          have hpl := pF kd hk
          refine ⟨_, rfl, t1, _, 0, .str "told", rfl, rfl, sq_t w1, rfl, rfl, _, rfl, iteD (fun _ => ?_) (fun h => absurd rfl (of_decide_eq_false h))⟩
          refine ⟨ff, _, rfl, Hf, _, rfl, t1, _, 1, y1, rfl, rfl, sq_t w1, rfl, y1, kd, rfl, d1, hz2, (by have := form_cnt hz1; omega), fun H10 s10 => ⟨true, rfl, iteF ?_⟩⟩
          refine ⟨gf, _, rfl, Gf, _, rfl, t1, _, 1, y1, rfl, rfl, sq_t (s10 _ _ w1), rfl, y1, kd, rfl, Dp.tk (tk_of s10) _ _ hpl d1, hz2.1, (by have := form_cnt hz1; omega), fun H11 s11 => ⟨_, rfl, rfl, _, rfl, iteD (fun h => absurd h (by rw [hz1]; simp)) (fun _ => ?_)⟩⟩
          have sx := s10.trans s11
          refine ⟨_, rfl, t3', _, rfl, .tup (sq_t (sx _ _ w3)) (.cons (.str "told") (.cons (Dp.tk (tk_of sx) _ _ hpl d3) .nil)), u1, u2, u3, u4, _, rfl, t1, _, rfl, .tup (sq_t (sx _ _ w1)) (.cons (.str "told") (.cons (Dp.tk (tk_of sx) _ _ hpl d1) .nil)), u1, u2, u3, u4, rfl, _, rfl, iteD (fun h => absurd h (by simp)) (fun _ => ?_)⟩
          exact ⟨_, _, _, _, rfl, s9.trans sx⟩
        | none =>
          rw [hk] at c1 c3
          obtain ⟨t1, rfl, w1⟩ := heard_err c1
          obtain ⟨t3', rfl, w3⟩ := heard_err c3
          refine ⟨_, rfl, t1, _, 0, .str "text", rfl, rfl, sq_t w1, rfl, rfl, _, rfl, iteD (fun h => absurd (of_decide_eq_true h) (by decide +kernel)) (fun _ => ?_)⟩
          refine ⟨_, rfl, small100 (by simp), fun m1' n1' => ne_txt3 w1 n1' (by decide) (by decide) (by decide) ⟨_, rfl, iteF ⟨_, rfl, small100 (by simp), fun m2' n2' => ne_txt3 (same_new n1' _ _ w3) n2' (by decide) (by decide) (by decide) ⟨_, rfl, iteF ?_⟩⟩⟩⟩
          exact ⟨_, _, _, _, rfl, s9.trans ((same_new n1').trans (same_new n2'))⟩
    · rintro σ H9 ⟨x3, x4, x5, x6, rfl, s9⟩
      exact k _ (eE.trans (ext_same (s8.trans s9))) (T5.ext (s8.trans s9))
end
end K12

set_option maxHeartbeats 4000000
/-! H6b: slices of a form. -/
namespace K12
open PySem PySem.Spec PyProof.Rows L2 TL NumText
set_option autoImplicit false
theorem dpAll_cut {K : PySem.W.Frag} {H : Hp} : ∀ (n m : Nat) {xs : List V} {ds : List PyData}, DpAll K H xs ds → DpAll K H ((xs.drop n).take m) ((ds.drop n).take m)
  | 0, 0, _, _, _ => by simp only [List.take_zero]; exact .nil
  | 0, m + 1, [], _, h => by cases h; simp only [List.drop_nil, List.take_nil]; exact .nil
  | 0, m + 1, _ :: _, _, h => by
    cases h with
    | cons h1 h2 =>
      simp only [List.drop_zero, List.take_succ_cons]
      exact .cons h1 (by simpa using dpAll_cut 0 m h2)
  | n + 1, m, [], _, h => by cases h; simp only [List.drop_nil, List.take_nil]; exact .nil
  | n + 1, m, _ :: _, _, h => by
    cases h with
    | cons h1 h2 =>
      simp only [List.drop_succ_cons]
      exact dpAll_cut n m h2
theorem sl_form {K : PySem.W.Frag} {H : Hp} {a : Addr} {g : Form} {lo hi : Nat} {i j : Int} {Q : VK} (hd : Dp K H (.ref a) g.data) (hg : ∀ x ∈ g, isName x.1 = true ∧ x.2.Ok) (e1 : i = (lo : Int)) (e2 : j = (hi : Int)) (h1 : lo ≤ hi) (h2 : hi ≤ g.length)
    (k : ∀ v H', Same H H' → Dp K H' v (Form.data ((g.drop lo).take (hi - lo))) → Q v H') : rSlA K (.ref a) (some i) (some j) H Q := by
  subst e1 e2
  unfold Form.data at hd
  cases hd with
  | @tup _ xs _ hs ha =>
    have lx : xs.length = g.length := by rw [dpAll_len2 ha, List.length_map]
    have s1 : HT.sIx xs.length 0 (some (lo : Int)) = lo := by rw [HT.sIx_nat]; omega
    have s2 : HT.sIx xs.length xs.length (some (hi : Int)) = hi := by rw [HT.sIx_nat]; omega
    have ec : cutV xs (some (lo : Int)) (some (hi : Int)) = (xs.drop lo).take (hi - lo) := by unfold cutV; rw [s1, s2]
    have hp : DpAll K H ((xs.drop lo).take (hi - lo)) (((g.drop lo).take (hi - lo)).map fldD) := by
      rw [List.map_take, List.map_drop]; exact dpAll_cut lo (hi - lo) ha
    have hpl : plainAll (((g.drop lo).take (hi - lo)).map fldD) := form_plain fun x hx => hg x (List.mem_of_mem_drop (List.mem_of_mem_take hx))
    refine ⟨a, xs, rfl, hs, fun hw => k _ _ (Same.refl _) ?_, fun _ p hn => k _ _ (same_new hn) ?_⟩
    · rw [s1, s2] at hw
      have e3 : (g.drop lo).take (hi - lo) = g := by
        rw [hw.1, hw.2, List.drop_zero, Nat.sub_zero, lx, List.take_length]
      rw [e3]
      exact .tup hs ha
    · unfold Form.data
      rw [ec]
      exact .tup (sq_t upd_same) (Dp.tkAll (tk_of (same_new hn)) _ _ hpl hp)
end K12

set_option maxHeartbeats 4000000
/-! H7: _law_forms_right (under way). -/
namespace K12
open PySem PySem.Spec PyProof.Rows L2 TL NumText
set_option autoImplicit false
section
variable {P : Program} {w : World} {K : PySem.W.Frag} {mg : Str → Option Value} {base : Heap} {CI cL p1 p2 p3 q1 q2 q3 q4 r1 r2 r3 r4 r5 : Addr} {TT : List (Addr × Str)}
def spForms (K : PySem.W.Frag) (TT : List (Addr × Str)) : Sp := fun vs H Q _ => ∃ (x : V) (g : Form), vs = [x] ∧ Dp K H x g.data ∧ g.Ok ∧ g.length ≤ 4 ∧ LamX.Tabs TT H ∧ ∀ H', LamX.ExtN H H' → LamX.Tabs TT H' → Q (.bl true) H'
def N68 : List Str := ["_law_entries", "_law_text_in", "_law_words", "_law_slot", "_law_sort", "_law_k", "_law_turned"]
theorem sc68 : FnScope N68 ["_law_entries"] (defScope (top 68)) := ⟨rfl, rfl, rfl, by decide +kernel, rfl, by decide +kernel, by decide +kernel⟩
theorem form_shaped {g : Form} (h : g.Ok) : SeqAt.shaped g.data = true := by
  have h2 := form_dep g
  unfold SeqAt.shaped
  rw [plain_lay _ (form_plain' h)]
  have : g.data.depth ≤ 64 := by unfold Form.data; simp only [PyData.depth]; omega
  rw [decide_eq_true this]
  rfl
theorem one_txt (x : Str × Kd) : Form.txt [x] = fldW x := by
  unfold Form.txt
  rw [if_neg (by simp), join_eq]
  rfl
theorem forms_pairs (T : Tx K mg) (KI : Kin K mg CI cL p1 p2 p3 q1 q2 q3 q4 r1 r2 r3 r4 r5) {c : Addr} (LB : Lams base mg TT "_law_forms_right" c)
    (CK : CalK P w K mg base (L2.CX P w) 4 "read_kind" 1 ["text", "row", "field"] (spReadK K CI)) (CF : CalK P w K mg base (L2.CX P w) 4 "read_form" 1 ["text", "row", "field"] (spReadF K CI)) {f : Addr} {A : Around} {outer : List Env} {s : Shared} {H : Hp} {E : XK} (hgd : A.guards = some []) (hr : Room 9 (A.deeper (envOfC "_law_forms_right" (defScope (top 68)) s.heap.objs.size f (.ref c)))) :
    ∃ t, PSs (cxOf CX0 P w K mg base N68 "_law_forms_right" (defScope (top 68)) f (.ref c) A outer s H E).nox ((defBody (top 68)).drop 5) t ∧ ∀ (D : L2.Ends) (x : V) (g : Form) (H0 Hf : Hp) (z1 z2 z3 z4 : Option V), Dp K Hf x g.data → g.Ok → g.length ≤ 4 → LamX.ExtN H0 Hf → LamX.Tabs TT Hf →
      (∀ H', LamX.ExtN H0 H' → LamX.Tabs TT H' → D.rt (.bl true) H') → t D [some x, z1, z2, z3, z4, none, none] Hf := by
  have CT := cal_kind_text (P := P) (w := w) (base := base) T
  have CW := cal_form_text (P := P) (w := w) (base := base) T
  have hun : (A.deeper (envOfC "_law_forms_right" (defScope (top 68)) s.heap.objs.size f (.ref c))).units + 200 < cLine := by have := hr.un; omega
  obtain ⟨PT, TB, hm, hu⟩ := LB.ex
  refine ⟨_, (pss_cons (ps_for PassesOwn.never rfl (pi_range2 (by rfl) T.b_range (pa_cons pe_int (pa_cons (pe_callB call_len_seq (by rfl) T.b_len PySem.boot_len (pa_cons (pv 0) pa_nil)) pa_nil))) (pg_name (i := 5) sc68.nd rfl (Or.inl rfl)) (pss_cons (ps_set (i := 6) sc68.nd rfl (Or.inr rfl) (pe_join pe_str (pe_lst (pa_cons (pe_cal CW (hr.mono (by decide)) rfl pass0 (pa_cons (pe_slice sl_tupA (pv 0) (po_some (pv 5)) (po_some (pe_op op_add (pv 5) pe_int))) pa_nil)) (pa_cons (pe_cal CW (hr.mono (by decide)) rfl pass0 (pa_cons (pe_slice sl_tupA (pv 0) (po_some (pe_op op_sub (pv 5) pe_int)) (po_some (pv 5))) pa_nil)) pa_nil)))))
(pss_cons (ps_if (pt_cmpR (op_neD hr.units) (pe_cal00 (E := fun _ _ _ => False) CF (hr.mono (by decide)) rfl passF (pa_cons (pe_cal (CW.mono (by decide)) hr rfl pass0 (pa_cons (pe_slice sl_tupA (pv 0) (po_some (pe_op op_sub (pv 5) pe_int)) (po_some (pe_op op_add (pv 5) pe_int))) pa_nil)) pa_nil)) (pe_slice sl_tupA (pv 0) (po_some (pe_op op_sub (pv 5) pe_int)) (po_some (pe_op op_add (pv 5) pe_int))) (nomark _)) (pss_one (ps_ret pe_bl)) pss_nil)
(pss_one (ps_if (pt_cmpR (op_neD hr.units) (pe_heard (k := 7) T KI hr (by rfl) TB rfl hm hu (LamX.lamS_by (sc := defScope (top 68)) (by decide +kernel)) rfl (fun _ _ _ _ _ => rfl) (fun A1 o1 s1 H1 E1 f1 c1 hr1 => pe_cal00 (E := E1) CF (hr1.mono (by decide)) rfl (passes_call (takes_of rfl rfl rfl rfl) (fun _ _ _ _ h => h)) (pa_cons (pv 6) pa_nil))) (pe_tup (pa_cons pe_str (pa_cons pe_int (pa_cons pe_int pa_nil)))) (nomark _)) (pss_one (ps_ret pe_bl)) pss_nil)))))
      (pss_one (ps_ret pe_bl))), ?_⟩
  intro D x g H0 Hf z1 z2 z3 z4 dx hg hl e0 T0 k
  obtain ⟨a, rfl⟩ : ∃ a, x = .ref a := by unfold Form.data at dx; cases dx; exact ⟨_, rfl⟩
  obtain ⟨xs, hsq, lx⟩ : ∃ xs, SqT K Hf a xs ∧ xs.length = g.length := by
    unfold Form.data at dx
    cases dx with
    | tup h1 h2 => exact ⟨_, h1, by rw [dpAll_len2 h2, List.length_map]⟩
  refine ⟨_, rfl, a, xs, rfl, .inr hsq, 1, _, rfl, ⟨by decide, by decide, by omega, by omega⟩, for_it walk_range (fun i σ H' => ∃ (x5 x6 : Option V), σ = [some (.ref a), z1, z2, z3, z4, x5, x6] ∧ LamX.ExtN Hf H' ∧ LamX.Tabs TT H') ⟨none, none, rfl, LamX.ExtN.refl _, T0⟩ (fun _ _ _ _ _ => True.intro) ?_ ?_⟩
  · rintro i y σ H1 H1' hi ⟨x5, x6, rfl, e1, T1⟩ ⟨rfl, rfl⟩
    have hi' : i + 1 < g.length := by omega
    obtain ⟨p, q, hpq⟩ : ∃ p q, g.drop i = p :: q :: g.drop (i + 2) := ⟨g[i], g[i + 1], by rw [List.drop_eq_getElem_cons (by omega), List.drop_eq_getElem_cons (by omega)]⟩
    have d1 : (g.drop i).take 1 = [p] := by rw [hpq]; rfl
    have d3 : (g.drop i).take 2 = [p, q] := by rw [hpq]; rfl
    have d2 : (g.drop (i + 1)).take 1 = [q] := by rw [← List.drop_drop, hpq]; rfl
    have hdec : g = g.take i ++ (p :: q :: g.drop (i + 2)) := by rw [← hpq, List.take_append_drop]
    obtain ⟨o1, o2⟩ := form_pair (l := g.take i) (x := p) (y := q) (r := g.drop (i + 2)) (by rw [← hdec]; exact hg)
    have gp : ∀ y ∈ [p], isName y.1 = true ∧ y.2.Ok := fun y hy => o1.1 y (by simp at hy; simp [hy])
    have gq : ∀ y ∈ [q], isName y.1 = true ∧ y.2.Ok := fun y hy => o1.1 y (by simp at hy; simp [hy])
    have dx1 := Dp.tk (ext_tk e1) _ _ (form_plain' hg) dx
    refine ⟨⟨comma, rfl⟩, _, rfl, _, rfl, _, rfl, _, rfl, _, _, rfl, rfl, _, rfl, sl_form (lo := i + 1) (hi := i + 2) dx1 hg.1 (by omega) (by omega) (by omega) (by omega) (fun v2 H2 s2 dv2 => ?_)⟩
    rw [show i + 2 - (i + 1) = 1 by omega, d2] at dv2
    refine ⟨v2, [q], rfl, dv2, gq, by simp, fun H3 s3 => ?_⟩
    have s13 := s2.trans s3
    refine ⟨_, rfl, _, rfl, _, _, rfl, rfl, _, rfl, _, rfl, _, rfl, sl_form (lo := i) (hi := i + 1) (Dp.tk (tk_of s13) _ _ (form_plain' hg) dx1) hg.1 (by omega) (by omega) (by omega) (by omega) (fun v4 H4 s4 dv4 => ?_)⟩
    rw [show i + 1 - i = 1 by omega, d1] at dv4
    refine ⟨v4, [p], rfl, dv4, gp, by simp, fun H5 s5 => ⟨small100 (by simp), fun pl npl => ?_⟩⟩
    have s15 := s13.trans (s4.trans s5)
    have s6 := same_new (o := .lst [.str (Form.txt [q]), .str (Form.txt [p])]) npl
    have lq := fld_len (gq q (by simp)).1 (gq q (by simp)).2
    have lp := fld_len (gp p (by simp)).1 (gp p (by simp)).2
    have hm1 : m1 [Form.txt [q], Form.txt [p]] ≤ 300 := by rw [one_txt, one_txt, m1_cons, m1_cons, m1_nil]; omega
    refine ⟨comma, pl, [Form.txt [q], Form.txt [p]], rfl, rfl, .inl (sq_l upd_same), by rw [show comma.length = 1 from by decide +kernel, m1_sum]; omega, ?_⟩
    have hjl := join_len1 comma (by decide +kernel) [Form.txt [q], Form.txt [p]] (by simp)
    have s16 := s15.trans s6
    generalize upd H5 pl (.lst [.str (Form.txt [q]), .str (Form.txt [p])]) = H6 at s16 ⊢
    have dx6 := Dp.tk (tk_of s16) _ _ (form_plain' hg) dx1
    have l2 : (Form.txt [p, q]).length ≤ 80000 := by
      have h1 := fld_len (o1.1 p (by simp)).1 (o1.1 p (by simp)).2
      have h2 := fld_len (o1.1 q (by simp)).1 (o1.1 q (by simp)).2
      have h3 := join_len1 comma (by decide +kernel) [fldW p, fldW q] (by simp)
      unfold Form.txt
      rw [if_neg (by simp)]
      simp only [List.map_cons, List.map_nil]
      rw [m1_cons, m1_cons, m1_nil] at h3
      omega
    refine ⟨_, rfl, _, rfl, _, _, rfl, rfl, _, rfl, _, rfl, _, _, rfl, rfl, _, rfl, sl_form (lo := i) (hi := i + 2) dx6 hg.1 (by omega) (by omega) (by omega) (by omega) (fun v7 H7 s7 dv7 => ?_)⟩
    rw [show i + 2 - i = 2 by omega, d3] at dv7
    refine ⟨v7, [p, q], rfl, dv7, o1.1, by simp, fun H8 s8 => ⟨_, 0, 0, rfl, l2, fun fm hfm v H9 s9 dv9 => ?_, fun hn => by rw [formOf_txt o1] at hn; cases hn⟩⟩
    obtain rfl : [p, q] = fm := by rw [formOf_txt o1] at hfm; exact Option.some.inj hfm
    have s79 := s7.trans (s8.trans s9)
    refine ⟨_, rfl, _, rfl, _, _, rfl, rfl, _, rfl, _, rfl, _, _, rfl, rfl, _, rfl, sl_form (lo := i) (hi := i + 2) (Dp.tk (tk_of s79) _ _ (form_plain' hg) dx6) hg.1 (by omega) (by omega) (by omega) (by omega) (fun v10 H10 s10 dv10 => ?_)⟩
    rw [show i + 2 - i = 2 by omega, d3] at dv10
    refine ⟨_, _, Dp.tk (tk_of s10) _ _ (form_plain' o1) dv9, dv10, form_shaped o1, form_shaped o1, ?_⟩
    rw [(eqv_plain _ _ (form_plain' o1) (form_plain' o1)).mpr rfl]
    refine ⟨_, rfl, iteF ?_⟩
    have sA := s16.trans (s79.trans s10)
    have TA := T1.ext sA
    refine hear (K := K) (dat := Form.data) (rd := .inr 0) (row := 0) (fld := 0) (fun e he => by cases he) TA (fun E1 H2 Q1 _ a b => ⟨_, rfl, _, 0, 0, rfl, (by rw [m1_cons, m1_cons, m1_nil] at hjl hm1; omega), fun k hk => (by rw [o2] at hk; cases hk), fun hn d H' sm hd => b 0 rfl d H' sm (by simpa using hd)⟩) (fun v11 H11 e11 T11 h11 => ?_)
    obtain ⟨t1, rfl, w1⟩ := heard_err h11
    refine ⟨small100 (by simp), fun m1' n1' => ne_txt3 w1 n1' (by decide) (by decide) (by decide) ⟨_, rfl, iteF ?_⟩⟩
    exact ⟨_, _, rfl, e1.trans ((ext_same sA).trans (e11.trans (ext_new n1'))), T11.ext (same_new n1')⟩
  · rintro σ H1 ⟨x5, x6, rfl, e1, T1⟩
    exact k _ (e0.trans e1) T1
end
end K12

set_option maxHeartbeats 4000000
/-! H7q: _law_forms_right, the loop over the fields. -/
namespace K12
open PySem PySem.Spec PyProof.Rows L2 TL NumText
set_option autoImplicit false
section
variable {P : Program} {w : World} {K : PySem.W.Frag} {mg : Str → Option Value} {base : Heap} {CI cL p1 p2 p3 q1 q2 q3 q4 r1 r2 r3 r4 r5 : Addr} {TT : List (Addr × Str)}
theorem forms_fields (T : Tx K mg) (KI : Kin K mg CI cL p1 p2 p3 q1 q2 q3 q4 r1 r2 r3 r4 r5) {c : Addr} (LB : Lams base mg TT "_law_forms_right" c)
    (CK : CalK P w K mg base (L2.CX P w) 4 "read_kind" 1 ["text", "row", "field"] (spReadK K CI)) (CF : CalK P w K mg base (L2.CX P w) 4 "read_form" 1 ["text", "row", "field"] (spReadF K CI)) {f : Addr} {A : Around} {outer : List Env} {s : Shared} {H : Hp} {E : XK} (hgd : A.guards = some []) (hr : Room 9 (A.deeper (envOfC "_law_forms_right" (defScope (top 68)) s.heap.objs.size f (.ref c)))) :
    ∃ t, PSs (cxOf CX0 P w K mg base N68 "_law_forms_right" (defScope (top 68)) f (.ref c) A outer s H E).nox ((defBody (top 68)).drop 4) t ∧ ∀ (D : L2.Ends) (x : V) (g : Form) (H0 Hf : Hp) (z1 z2 : Option V), Dp K Hf x g.data → g.Ok → g.length ≤ 4 → LamX.ExtN H0 Hf → LamX.Tabs TT Hf →
      (∀ H', LamX.ExtN H0 H' → LamX.Tabs TT H' → D.rt (.bl true) H') → t D [some x, z1, z2, none, none, none, none] Hf := by
  obtain ⟨tz, htz, lz⟩ := forms_pairs (P := P) (w := w) (outer := outer) (H := H) (E := E) T KI LB CK CF hgd hr
  have CT := cal_kind_text (P := P) (w := w) (base := base) T
  have CW := cal_form_text (P := P) (w := w) (base := base) T
  have hun : (A.deeper (envOfC "_law_forms_right" (defScope (top 68)) s.heap.objs.size f (.ref c))).units + 200 < cLine := by have := hr.un; omega
  obtain ⟨PT, TB, hm, hu⟩ := LB.ex
  refine ⟨_, (pss_cons (ps_for PassesOwn.never rfl (pi_tup (pv 0)) (pg_tup rfl (pgs_cons (pg_name (i := 3) sc68.nd rfl (Or.inl rfl)) (pgs_cons (pg_name (i := 4) sc68.nd rfl (Or.inl rfl)) pgs_nil))) (pss_one (ps_if (PW.pt (pw_or (pt_cmpR op_ne (pe_callB (call_repr2 hgd hun) (by rfl) T.b_repr (by decide +kernel) (pa_cons (pe_cal00 (E := fun _ _ _ => False) CK (hr.mono (by decide)) rfl passF (pa_cons (pe_cal (CT.mono (by decide)) hr rfl pass0 (pa_cons (pv 4) pa_nil)) pa_nil)) pa_nil)) (pe_callB (call_repr2 hgd hun) (by rfl) T.b_repr (by decide +kernel) (pa_cons (pv 4) pa_nil)) (nomark _)) (pw_or1 (pt_cmpR (op_neD hr.units) (pe_cal00 (E := fun _ _ _ => False) CF (hr.mono (by decide)) rfl passF (pa_cons (pe_op op_add_str (pe_op op_add_str (pv 3) pe_str) (pe_cal (CT.mono (by decide)) hr rfl pass0 (pa_cons (pv 4) pa_nil))) pa_nil)) (pe_tup (pa_cons (pe_tup (pa_cons (pv 3) (pa_cons (pv 4) pa_nil))) pa_nil)) (nomark _))))) (pss_one (ps_ret pe_bl)) pss_nil)))
      htz), ?_⟩
  intro D x g H0 Hf z1 z2 dx hg hl e0 T0 k
  obtain ⟨a, xs, rfl, hsq, ha⟩ : ∃ a xs, x = .ref a ∧ SqT K Hf a xs ∧ DpAll K Hf xs (g.map fldD) := by
    unfold Form.data at dx
    cases dx with
    | tup h1 h2 => exact ⟨_, _, rfl, h1, h2⟩
  refine ⟨_, rfl, a, rfl, ⟨_, hsq⟩, for_it (walk_tup (K := K) (a := a) (xs := xs)) (fun i σ H' => ∃ (x3 x4 : Option V), σ = [some (.ref a), z1, z2, x3, x4, none, none] ∧ Same Hf H') ⟨none, none, rfl, Same.refl _⟩ (fun i σ H' _ ⟨_, _, _, sm⟩ => tk_t (tk_of sm) hsq) ?_ ?_⟩
  · rintro i y σ H1 H1' hi ⟨x3, x4, rfl, s1⟩ ⟨rfl, hx⟩
    obtain ⟨dd, hdd, dy⟩ := dpAll_at2 ha hx
    obtain ⟨⟨n, kd⟩, hn, rfl⟩ : ∃ q, g[i]? = some q ∧ fldD q = dd := by
      rw [List.getElem?_map] at hdd
      cases q : g[i]? with
      | none => rw [q] at hdd; cases hdd
      | some v => rw [q] at hdd; exact ⟨v, rfl, Option.some.inj hdd⟩
    obtain ⟨n1, k1⟩ := hg.1 _ (List.mem_of_getElem? hn)
    have n1 : isName n = true := n1
    have k1 : kd.Ok := k1
    obtain ⟨b, v, rfl, hb, hv⟩ := fld_cases (Dp.tk (tk_of s1) _ _ (fld_plain n1 k1) dy)
    refine ⟨b, _, rfl, hb, rfl, _, _, rfl, _, _, rfl, rfl, ?_⟩
    have hkl := kd_len k1
    have hkp := kd_plain k1
    have hksz := sz_le _ hkp
    have hks := kd_sz k1
    have hkd := kd_dep kd
    have u1 := plain_show _ hkp
    have u2 := plain_noDict _ hkp
    have u3 : kd.data.depth ≤ 100 := by omega
    have u4 : kd.data.shown.length ≤ sizeLine := small100 (by omega)
    have hfo : formOf (n ++ colon ++ kd.txt) = some [(n, kd)] := form_one (x := (n, kd)) ⟨n1, k1⟩
    have hnl := (isName_iff.mp n1).2.1
    have hcl : colon.length = 1 := by decide +kernel
    have o1 : Form.Ok [(n, kd)] := (formOf_some hfo).2
    refine ⟨_, rfl, v, kd, rfl, hv, k1, fun H2 s2 => ⟨kd.txt, 0, 0, rfl, by omega, fun k' hk' v' H3 s3 dv => ?_, fun hn => by rw [kindOf_txt k1] at hn; cases hn⟩⟩
    obtain rfl : kd = k' := by rw [kindOf_txt k1] at hk'; exact Option.some.inj hk'
    have s13 := s2.trans s3
    refine ⟨v', kd.data, rfl, dv, hkp, u1, u2, u3, u4, _, rfl, v, kd.data, rfl, Dp.tk (tk_of s13) _ _ hkp hv, hkp, u1, u2, u3, u4, rfl, _, rfl, iteD (fun h => absurd h (by simp)) (fun _ => ?_)⟩
    refine ⟨_, rfl, n, colon, rfl, rfl, small100 (by omega), _, rfl, v, kd, rfl, Dp.tk (tk_of s13) _ _ hkp hv, k1, fun H4 s4 => ⟨n ++ colon, kd.txt, rfl, rfl, small100 (by rw [len_append]; omega), n ++ colon ++ kd.txt, 0, 0, rfl, by rw [len_append, len_append]; omega, fun fm hfm v5 H5 s5 d5 => ?_, fun hn => by rw [hfo] at hn; cases hn⟩⟩
    obtain rfl : [(n, kd)] = fm := by rw [hfo] at hfm; exact Option.some.inj hfm
    refine ⟨_, rfl, _, rfl, small100 (by simp), fun p1' np1 => ⟨small100 (by simp), fun p2' np2 => ?_⟩⟩
    have s6 := (same_new (o := .tup [.str n, v]) np1).trans (same_new (o := .tup [.ref p1']) np2)
    have s15 := s13.trans (s4.trans s5)
    refine ⟨_, .tuple [fldD (n, kd)], Dp.tk (tk_of s6) _ _ (form_plain' o1) d5, .tup (sq_t upd_same) (.cons (.tup (sq_t (same_new np2 _ _ upd_same)) (.cons (.str _) (.cons (Dp.tk (tk_of (s15.trans s6)) _ _ hkp hv) .nil))) .nil), form_shaped o1, form_shaped o1, ?_⟩
    rw [show PyData.eqv (Form.data [(n, kd)]) (.tuple [fldD (n, kd)]) = true from (eqv_plain _ _ (form_plain' o1) (form_plain' o1)).mpr rfl]
    exact ⟨_, rfl, iteF ⟨_, _, rfl, s1.trans (s15.trans s6)⟩⟩
  · rintro σ H1 ⟨x3, x4, rfl, s1⟩
    exact lz D _ g H0 H1 _ _ _ _ (Dp.tk (tk_of s1) _ _ (form_plain' hg) dx) hg hl (e0.trans (ext_same s1)) (T0.ext s1) k
end
end K12

set_option maxHeartbeats 4000000
/-! H7: _law_forms_right . -/
namespace K12
open PySem PySem.Spec PyProof.Rows L2 TL NumText
set_option autoImplicit false
section
variable {P : Program} {w : World} {K : PySem.W.Frag} {mg : Str → Option Value} {base : Heap} {CI cL p1 p2 p3 q1 q2 q3 q4 r1 r2 r3 r4 r5 : Addr} {TT : List (Addr × Str)}
theorem form_short {g : Form} (h : ∀ x ∈ g, isName x.1 = true ∧ x.2.Ok) (hl : g.length ≤ 4) : g.txt.length ≤ 1000 ∧ m1 (g.map fldW) ≤ 600 := by
  have bd : ∀ l : List (Str × Kd), (∀ y ∈ l, isName y.1 = true ∧ y.2.Ok) → m1 (l.map fldW) ≤ 134 * l.length := by
    intro l
    induction l with
    | nil => intro _; exact Nat.le_refl _
    | cons a r ih =>
      intro h
      have h1 := fld_len (h a (by simp)).1 (h a (by simp)).2
      have h2 := ih fun y hy => h y (List.mem_cons_of_mem _ hy)
      rw [List.map_cons, m1_cons, List.length_cons]
      omega
  have hb := bd g h
  refine ⟨?_, by omega⟩
  unfold Form.txt
  by_cases h0 : g = []
  · rw [if_pos h0]; decide +kernel
  · rw [if_neg h0]
    have h1 := join_len1 comma (by decide +kernel) (g.map fldW) (by simpa using h0)
    omega
theorem cal_forms_right (T : Tx K mg) (KI : Kin K mg CI cL p1 p2 p3 q1 q2 q3 q4 r1 r2 r3 r4 r5) {c : Addr} (h68 : HsC K mg "_law_forms_right" (top 68) c) (LB : Lams base mg TT "_law_forms_right" c)
    (CK : CalK P w K mg base (L2.CX P w) 4 "read_kind" 1 ["text", "row", "field"] (spReadK K CI)) (CF : CalK P w K mg base (L2.CX P w) 4 "read_form" 1 ["text", "row", "field"] (spReadF K CI)) : CalG P w K mg base CX0 10 "_law_forms_right" ["_law_entries"] (spForms K TT) := by
  have CT := cal_kind_text (P := P) (w := w) (base := base) T
  have CW := cal_form_text (P := P) (w := w) (base := base) T
  have LB0 := LB
  obtain ⟨PT, TB, hm, hu⟩ := LB.ex
  refine h68.calG sc68 (fun vs H Q E h => ?_) (fun _ _ _ _ _ _ us hl => match us, hl with | [_], _ => rfl) (fun f A outer s H vs Q E hgd hr h => ?_)
  · obtain ⟨x, g, rfl, _⟩ := h; rfl
  · obtain ⟨x, g, rfl, dx, hg, hl, hT, k⟩ := h
    obtain ⟨tz, htz, lz⟩ := forms_fields (P := P) (w := w) (outer := outer) (H := H) (E := E) T KI LB0 CK CF hgd hr
    have hun : (A.deeper (envOfC "_law_forms_right" (defScope (top 68)) s.heap.objs.size f (.ref c))).units + 200 < cLine := by have := hr.un; omega
    refine ⟨_, (pss_cons (ps_set (i := 1) sc68.nd rfl (Or.inl rfl) (pe_cal CW (hr.mono (by decide)) rfl pass0 (pa_cons (pv 0) pa_nil)))
      (pss_cons (ps_if (pt_cmpR op_ne (pe_callB (call_repr2 hgd hun) (by rfl) T.b_repr (by decide +kernel) (pa_cons (pe_cal00 (E := fun _ _ _ => False) CF (hr.mono (by decide)) rfl passF (pa_cons (pv 1) pa_nil)) pa_nil)) (pe_callB (call_repr2 hgd hun) (by rfl) T.b_repr (by decide +kernel) (pa_cons (pv 0) pa_nil)) (nomark _)) (pss_one (ps_ret pe_bl)) pss_nil)
      (pss_cons (ps_setLc (i := 2) (own := [("_law_slot", 3), ("_law_sort", 4)]) (g := (gTup K 2 (gCons (gName 3) (gCons (gName 4) gNil)))) (tt := tYes) rfl sc68.nd rfl rfl rfl (pi_tup (pv 0)) (blkOk_by (N := ["_law_entries", "_law_text_in", "_law_words", "_law_slot", "_law_sort", "_law_k", "_law_turned"]) (sc := defScope (top 68)) (by decide +kernel)) (fun _ _ _ _ _ => (pg_tup rfl (pgs_cons (pg_name (i := 3) sc68.nd rfl (Or.inl rfl)) (pgs_cons (pg_name (i := 4) sc68.nd rfl (Or.inl rfl)) pgs_nil)))) (fun _ _ _ _ _ => pts_nil) (fun _ _ _ _ _ => (pe_op op_add_str (pe_op op_add_str (pv 3) pe_str) (pe_cal CT (hr.mono (by decide)) rfl pass0 (pa_cons (pv 4) pa_nil)))))
      (pss_cons (ps_if (pt_cmpR op_ne (pv 1) (pe_ifExp (pt_cmpR (op_neD hr.units) (pv 2) (pe_lst pa_nil) (nomark _)) (pe_join pe_str (pv 2)) pe_str) (nomark _)) (pss_one (ps_ret pe_bl)) pss_nil)
      htz)))), ?_⟩
    obtain ⟨a, xs, rfl, hsq, ha⟩ : ∃ a xs, x = .ref a ∧ SqT K H a xs ∧ DpAll K H xs (g.map fldD) := by
      unfold Form.data at dx
      cases dx with
      | tup h1 h2 => exact ⟨_, _, rfl, h1, h2⟩
    obtain ⟨ht1, ht2⟩ := form_short hg.1 hl
    have hpl := form_plain' hg
    have hfd := form_dep g
    have hfs := form_sz hg.1
    have hsz := sz_le _ hpl
    have u1 := plain_show _ hpl
    have u2 := plain_noDict _ hpl
    have u3 : g.data.depth ≤ 100 := by unfold Form.data; simp only [PyData.depth]; omega
    have u4 : g.data.shown.length ≤ sizeLine := by
      refine small100 (Nat.le_trans hsz ?_)
      unfold Form.data; simp only [sz]; omega
    refine ⟨_, rfl, .ref a, g, rfl, dx, hg.1, by omega, fun H1 s1 => ?_⟩
    refine ⟨_, rfl, g.txt, 0, 0, rfl, by omega, fun fm hfm v H2 s2 dv => ?_, fun hn => by rw [formOf_txt hg] at hn; cases hn⟩
    obtain rfl : g = fm := by rw [formOf_txt hg] at hfm; exact Option.some.inj hfm
    have s12 := s1.trans s2
    refine ⟨v, g.data, rfl, dv, hpl, u1, u2, u3, u4, _, rfl, .ref a, g.data, rfl, Dp.tk (tk_of s12) _ _ hpl dx, hpl, u1, u2, u3, u4, rfl, _, rfl, iteD (fun h => absurd h (by simp)) (fun _ => ?_)⟩
    have lx : xs.length = g.length := by rw [dpAll_len2 ha, List.length_map]
    refine ⟨_, rfl, a, rfl, ⟨_, tk_t (tk_of s12) hsq⟩, fun D hD => lc_map (walk_tup (K := K) (a := a) (xs := xs)) (by omega) ((g.map fldW).map V.str) (by simp [lx]) hD (fun H3 s3 => tk_t (tk_of (s12.trans s3)) hsq) ?_ ?_⟩
    · rintro i y H3 H3' Q1 hi s3 ⟨rfl, hx⟩ kq
      obtain ⟨dd, hdd, dy⟩ := dpAll_at2 ha hx
      obtain ⟨⟨n, kd⟩, hn, rfl⟩ : ∃ q, g[i]? = some q ∧ fldD q = dd := by
        rw [List.getElem?_map] at hdd
        cases q : g[i]? with
        | none => rw [q] at hdd; cases hdd
        | some v => rw [q] at hdd; exact ⟨v, rfl, Option.some.inj hdd⟩
      obtain ⟨n1, k1⟩ := hg.1 _ (List.mem_of_getElem? hn)
      have n1 : isName n = true := n1
      have k1 : kd.Ok := k1
      have hkl := kd_len k1
      have hnl := (isName_iff.mp n1).2.1
      have hcl : colon.length = 1 := by decide +kernel
      obtain ⟨b, v', rfl, hb, hv⟩ := fld_cases (Dp.tk (tk_of (s12.trans s3)) _ _ (fld_plain n1 k1) dy)
      refine ⟨b, _, rfl, hb, rfl, _, _, rfl, _, _, rfl, rfl, rfl, _, rfl, n, colon, rfl, rfl, small100 (by omega), _, rfl, v', kd, rfl, hv, k1, fun H4 s4 => ⟨n ++ colon, kd.txt, rfl, rfl, small100 (by rw [len_append]; omega), kq _ _ ?_ s4⟩⟩
      rw [List.getElem?_map, List.getElem?_map, hn]
      rfl
    · intro H3 hy s3
      have cd : ∀ w ∈ g.map fldW, ∀ c ∈ tl w, c < 1114112 := fun w hw => by
        obtain ⟨x, hx, rfl⟩ := List.mem_map.mp hw
        exact fld_code (hg.1 x hx).1 (hg.1 x hx).2
      refine ⟨_, rfl, _, rfl, small100 (by simp), fun p hp => ?_⟩
      have sp1 : Same H3 (upd H3 p (.lst [])) := same_new hp
      have hy1 := sp1 D _ hy
      have sF := s12.trans (s3.trans sp1)
      refine ⟨_, _, dp_strl (sq_l hy1), dp_strl (ws := []) (sq_l upd_same), shaped_strs cd, shaped_strs (by simp), ?_⟩
      have ev : PyData.eqv (.list ((g.map fldW).map PyData.str)) (.list (([] : List Str).map PyData.str)) = decide (g = []) := by
        rw [List.map_nil, eqv_strs_nil]
        cases g <;> simp
      rw [ev]
      have fin := lz { nx := fun _ H' => Q .non H', rt := Q } (.ref a) g H (upd H3 p (.lst [])) (some (.str g.txt)) (some (.ref D)) (Dp.tk (tk_of sF) _ _ hpl dx) hg hl (ext_same sF) (hT.ext sF) k
      by_cases h0 : g = []
      · rw [decide_eq_true h0]
        have et : g.txt = dash := by unfold Form.txt; rw [if_pos h0]
        refine ⟨false, rfl, iteF ⟨rfl, _, rfl, iteD (fun h => absurd h (by rw [et]; simp [dash])) (fun _ => fin)⟩⟩
      · rw [decide_eq_false h0]
        have et : g.txt = Txt.join comma (g.map fldW) := by unfold Form.txt; rw [if_neg h0]
        refine ⟨true, rfl, iteT ⟨⟨comma, rfl⟩, _, rfl, comma, D, g.map fldW, rfl, rfl, .inl (sq_l hy1), by rw [show comma.length = 1 from by decide +kernel, m1_sum]; omega, rfl, _, rfl, iteD (fun h => absurd h (by rw [et]; simp)) (fun _ => fin)⟩⟩
end
end K12

set_option maxHeartbeats 4000000
/-! J1: law, the loop over the texts. -/
namespace K12
open PySem PySem.Spec PyProof.Rows L2 TL NumText
set_option autoImplicit false
def N69 : List Str := ["_law_script", "_law_feed_here", "_law_turn", "_law_way", "_law_e", "_law_goal", "_law_other_e", "_law_f", "_law_c", "_law_scheme", "_law_title", "_law_entries", "_law_late", "_law_k"]
theorem sc69 : FnScope N69 ["_law_script"] (defScope (top 69)) := ⟨rfl, rfl, rfl, by decide +kernel, rfl, by decide +kernel, by decide +kernel⟩
/-- the suite of law's loop -/
def turnBody : List Stmt := match defBody (top 69) with
  | [_, .For _ _ b _ _, _] => b
  | _ => []
theorem Tabs.kp {TT : List (Addr × Str)} {H H' : Hp} (T : LamX.Tabs TT H) (k : Kp H H') : LamX.Tabs TT H' := fun p hp => by
  obtain ⟨ps, h1, h2, h3⟩ := T p hp
  refine ⟨ps, k _ _ h1 rfl, h2, fun pos cv hc => ?_⟩
  obtain ⟨c, e1, e2⟩ := h3 pos cv hc
  exact ⟨c, e1, k _ _ e2 rfl⟩
theorem FeedOk.ext {F c : Addr} {H H' : Hp} (h : FeedOk F c H) (e : LamX.ExtN H H') : FeedOk F c H' := by
  obtain ⟨ns, a, l, n, h1, h2, h3⟩ := h
  exact ⟨ns, a, l, n, e _ _ h1 (fun _ z => by cases z), e _ _ h2 (fun _ z => by cases z), h3⟩
def dueL : List Str := ["number", "condition", "link"]
theorem due_get {i : Nat} {z : Str} (h : dueL[i]? = some z) : ∃ d : Due, z = d.s := by
  match i with
  | 0 => exact ⟨.num, by cases h; rfl⟩
  | 1 => exact ⟨.con, by cases h; rfl⟩
  | 2 => exact ⟨.lnk, by cases h; rfl⟩
  | n + 3 => cases h
/-- how long a text may be after j spoilings -/
def lim : Nat → Nat
  | 0 => 600
  | n + 1 => 3 * lim n + 100
theorem lim_le {j : Nat} (h : j < 4) : lim j ≤ 20000 := by
  match j, h with
  | 0, _ => decide
  | 1, _ => decide
  | 2, _ => decide
  | 3, _ => decide
theorem ix_back {α : Type} {xs : List α} {i : Int} {x : α} (h : atI xs i = some x) : ∃ j : Nat, xs[j]? = some x := by
  unfold atI at h
  cases e : ixN xs.length i with
  | none => rw [e] at h; cases h
  | some j => rw [e] at h; exact ⟨j, h⟩
theorem at_first {α : Type} {xs : List α} (h : xs ≠ []) : ∃ x, atI xs 0 = some x ∧ ∃ j : Nat, xs[j]? = some x := by
  match xs, h with
  | x :: r, _ =>
    have e : atI (x :: r) 0 = some x := by unfold atI ixN; simp
    exact ⟨x, e, ix_back e⟩
theorem at_last {α : Type} {xs : List α} (h : xs ≠ []) : ∃ x, atI xs (-1) = some x ∧ ∃ j : Nat, xs[j]? = some x := by
  have hl : 0 < xs.length := List.length_pos_iff.mpr h
  have e : atI xs (-1) = some (xs[xs.length - 1]'(by omega)) := by
    have e1 : ixN xs.length (-1) = some (xs.length - 1) := by
      unfold ixN
      rw [if_neg (by decide)]
      have : ((-1 : Int) + (xs.length : Int)).toNat = xs.length - 1 := by omega
      first
        | (rw [if_pos (by omega)]; rw [this])
        | (split <;> first | (rw [this]) | omega)
    unfold atI
    rw [e1]
    exact List.getElem?_eq_getElem (by omega)
  exact ⟨_, e, ix_back e⟩
theorem sch_plain {gs : List (Str × Form)} (h : SchOk gs) : plain (.tuple (gs.map schD)) := by
  show plainAll (gs.map schD)
  refine all_plain gs fun g hg => ?_
  obtain ⟨h1, h2, _⟩ := h.2.2 g hg
  unfold schD
  simp only [plain, plainAll, and_true]
  refine ⟨by simpa only [plain] using name_plain h1, ?_⟩
  show plain (Form.data g.2)
  exact form_plain' h2
theorem sch_item {K : PySem.W.Frag} {H : Hp} {gs : List (Str × Form)} {vs : List V} {x : V} (h : SchOk gs) (hd : DpAll K H vs (gs.map schD)) (hx : ∃ j : Nat, vs[j]? = some x) : ∃ (b : Addr) (t : Str) (v : V) (g : Form), x = .ref b ∧ SqT K H b [.str t, v] ∧ Dp K H v g.data ∧ g.Ok ∧ g.length ≤ 4 := by
  obtain ⟨j, hj⟩ := hx
  obtain ⟨dd, hdd, dy⟩ := dpAll_at2 hd hj
  obtain ⟨g, hn, rfl⟩ : ∃ g, gs[j]? = some g ∧ schD g = dd := by
    rw [List.getElem?_map] at hdd
    cases q : gs[j]? with
    | none => rw [q] at hdd; cases hdd
    | some v => rw [q] at hdd; exact ⟨v, rfl, Option.some.inj hdd⟩
  obtain ⟨_, h2, h3⟩ := h.2.2 g (List.mem_of_getElem? hn)
  unfold schD at dy
  cases dy with
  | tup s1 a1 =>
    cases a1 with
    | cons c1 c2 =>
      cases c1
      cases c2 with
      | cons c3 c4 => cases c4; exact ⟨_, _, _, g.2, rfl, s1, c3, h2, h3⟩
theorem form_len {g : Form} (h : ∀ x ∈ g, isName x.1 = true ∧ x.2.Ok) (hl : g.length ≤ 4) : g.txt.length ≤ 600 := by
  obtain ⟨_, h2⟩ := form_short h hl
  unfold Form.txt
  by_cases h0 : g = []
  · rw [if_pos h0]; decide +kernel
  · rw [if_neg h0]
    have h1 := join_len1 comma (by decide +kernel) (g.map fldW) (by simpa using h0)
    omega
theorem ne_empty {K : PySem.W.Frag} {H : Hp} {D p : Addr} {Q : VK} (hD : H D = some (.lst [])) (hp : H p = none) (q : Q (.bl false) (upd H p (.lst []))) : rNeD K (.ref D) (.ref p) (upd H p (.lst [])) Q :=
  ⟨_, _, dp_strl (ws := []) (sq_l (same_new hp _ _ hD)), dp_strl (ws := []) (sq_l upd_same), shaped_strs (by simp), shaped_strs (by simp), by
    rw [List.map_nil, show PyData.eqv (.list []) (.list []) = true by decide +kernel]
    exact q⟩
section
variable {P : Program} {w : World} {K : PySem.W.Frag} {mg : Str → Option Value} {base : Heap} {CI cL p1 p2 p3 q1 q2 q3 q4 r1 r2 r3 r4 r5 : Addr} {TT : List (Addr × Str)}
theorem law_lates (T : Tx K mg) {c : Addr} (CA : CalG P w K mg base CX0 34 "_law_any_right" ["_law_text_in", "_law_goal"] (spAnyR TT)) (CD : CalG P w K mg base CX0 10 "_law_word_right" ["_law_text_in"] (spWord TT))
    {f : Addr} {A : Around} {outer : List Env} {s : Shared} {H : Hp} {E : XK} (hgd : A.guards = some []) (hr : Room 35 (A.deeper (envOfC "law" (defScope (top 69)) s.heap.objs.size f (.ref c)))) :
    ∃ t, PSs (cxOf CX0 P w K mg base N69 "law" (defScope (top 69)) f (.ref c) A outer s H E).nox (turnBody.drop 9) t ∧ ∀ (D : L2.Ends) (F cf : Addr) (e : Ex) (xe xs : V) (gs : List (Str × Form)) (z0 z2 z3 z5 z6 z7 z8 z12 z13 : Option V) (H0 : Hp), FeedOk F cf H0 → LamX.Tabs TT H0 →
      Dp K H0 xe e.data → e.Wf → e.opens ≤ 3 → e.m ≤ 400 → Dp K H0 xs (.tuple (gs.map schD)) → SchOk gs →
      (∀ z12 z13 H', FeedOk F cf H' → LamX.Tabs TT H' → D.nx [z0, some (.ref F), z2, z3, some xe, z5, z6, z7, z8, some xs, none, none, z12, z13] H') → t D [z0, some (.ref F), z2, z3, some xe, z5, z6, z7, z8, some xs, none, none, z12, z13] H0 := by
  have CT := cal_text (P := P) (w := w) (base := base) T
  have CW := cal_form_text (P := P) (w := w) (base := base) T
  have CS := cal_spoilt (P := P) (w := w) (base := base) T
  refine ⟨_, (pss_one (ps_for PassesOwn.never rfl (pi_tup (pe_tup (pa_cons (pe_cal CT (hr.mono (by decide)) rfl pass0 (pa_cons (pv 4) pa_nil)) (pa_cons (pe_cal CW (hr.mono (by decide)) rfl pass0 (pa_cons (pe_ixT K rfl (pe_ixT K rfl (pv 9) pe_int (fun _ _ => rfl)) pe_int (fun _ _ => rfl)) pa_nil)) (pa_cons (pe_cal CW (hr.mono (by decide)) rfl pass0 (pa_cons (pe_ixT K rfl (pe_ixT K rfl (pv 9) (pe_un un_neg pe_int) (fun _ _ => rfl)) pe_int (fun _ _ => rfl)) pa_nil)) pa_nil))))) (pg_name (i := 12) sc69.nd rfl (Or.inr rfl)) (pss_one (ps_for PassesOwn.never rfl (pi_range1 (by rfl) T.b_range (pa_cons pe_int pa_nil)) (pg_name (i := 13) sc69.nd rfl (Or.inl rfl)) (pss_cons (ps_if (pt_cmpR (op_neD hr.units) (pe_lc (own := [("_law_goal", 5)]) (g := (gName 5)) (tt := _) rfl sc69.nd (pi_tup (pe_tup (pa_cons pe_str (pa_cons pe_str (pa_cons pe_str pa_nil))))) (blkOk_by (N := ["_law_script", "_law_feed_here", "_law_turn", "_law_way", "_law_e", "_law_goal", "_law_other_e", "_law_f", "_law_c", "_law_scheme", "_law_title", "_law_entries", "_law_late", "_law_k"]) (sc := defScope (top 69)) (by decide +kernel)) (fun _ _ _ _ _ => (pg_name (i := 5) sc69.nd rfl (Or.inl rfl))) (fun _ _ _ _ _ => (pts_one (pt_not (pt_val (pe_calG CA hgd (hr.mono (by decide)) rfl pass0 (pa_cons (pv 12) (pa_cons (pv 5) pa_nil))))))) (fun _ _ _ _ _ => (pv 5))) (pe_lst pa_nil) (nomark _)) (pss_one (ps_ret pe_bl)) pss_nil)
(pss_cons (ps_if (pt_not (pt_val (pe_calG CD hgd (hr.mono (by decide)) rfl pass0 (pa_cons (pv 12) pa_nil)))) (pss_one (ps_ret pe_bl)) pss_nil)
(pss_one (ps_set (i := 12) sc69.nd rfl (Or.inr rfl) (pe_cal CS (hr.mono (by decide)) rfl pass0 (pa_cons (pv 1) (pa_cons (pv 12) pa_nil))))))))))), ?_⟩
  intro D F cf e xe xs gs z0 z2 z3 z5 z6 z7 z8 z12 z13 H0 hF hT de hw ho hm ds hs k
  have hpl := sch_plain hs
  obtain ⟨a, vs, rfl, hvs, hda⟩ : ∃ a vs, xs = .ref a ∧ SqT K H0 a vs ∧ DpAll K H0 vs (gs.map schD) := by
    cases ds with
    | tup h1 h2 => exact ⟨_, _, rfl, h1, h2⟩
  have hne : vs ≠ [] := fun e0 => hs.1 (by
    have := dpAll_len2 hda
    rw [e0, List.length_map] at this
    exact List.length_eq_zero_iff.mp this.symm)
  have hz1 : e.txt.length ≤ 600 := by have := txt_len e; omega
  obtain ⟨x1, i1, f1⟩ := at_first hne
  obtain ⟨x2, i2, f2⟩ := at_last hne
  obtain ⟨b1, t1, v1, g1, rfl, sq1, d1, o1, l1⟩ := sch_item hs hda f1
  obtain ⟨b2, t2, v2, g2, rfl, sq2, d2, o2, l2⟩ := sch_item hs hda f2
  refine ⟨_, rfl, xe, e, rfl, de, hw, by omega, by omega, fun H1 s1 => ?_⟩
  refine ⟨_, rfl, a, vs, 0, .ref b1, rfl, rfl, tk_t (tk_of s1) hvs, i1, b1, _, 1, v1, rfl, rfl, tk_t (tk_of s1) sq1, rfl, v1, g1, rfl, Dp.tk (tk_of s1) _ _ (form_plain' o1) d1, o1.1, by omega, fun H2 s2 => ?_⟩
  have s12 := s1.trans s2
  refine ⟨_, rfl, _, rfl, a, vs, -1, .ref b2, rfl, rfl, tk_t (tk_of s12) hvs, i2, b2, _, 1, v2, rfl, rfl, tk_t (tk_of s12) sq2, rfl, v2, g2, rfl, Dp.tk (tk_of s12) _ _ (form_plain' o2) d2, o2.1, by omega, fun H3 s3 => ⟨small100 (by simp), fun p hp => ?_⟩⟩
  have s4 := (s12.trans s3).trans (same_new (o := .tup [.str e.txt, .str g1.txt, .str g2.txt]) hp)
  have hz2 := form_len o1.1 l1
  have hz3 := form_len o2.1 l2
  have hp4 : (upd H3 p (.tup [.str e.txt, .str g1.txt, .str g2.txt])) p = some (.tup [.str e.txt, .str g1.txt, .str g2.txt]) := upd_same
  have hF4 := hF.same s4
  have hT4 := hT.ext s4
  generalize upd H3 p (.tup [.str e.txt, .str g1.txt, .str g2.txt]) = H4 at s4 hp4 hF4 hT4 ⊢
  have get3 : ∀ {i : Nat} {x : V}, [V.str e.txt, V.str g1.txt, V.str g2.txt][i]? = some x → ∃ z : Str, x = .str z ∧ z.length ≤ 600 := fun {i x} h => by
    match i, h with
    | 0, h => cases h; exact ⟨_, rfl, hz1⟩
    | 1, h => cases h; exact ⟨_, rfl, hz2⟩
    | 2, h => cases h; exact ⟨_, rfl, hz3⟩
    | n + 3, h => cases h
  generalize hw3 : [V.str e.txt, V.str g1.txt, V.str g2.txt] = W3 at hp4 get3 ⊢
  refine ⟨p, rfl, ⟨_, sq_t hp4⟩, for_it (walk_tup (K := K) (a := p) (xs := W3)) (fun i σ H' => ∃ (y12 y13 : Option V), σ = [z0, some (.ref F), z2, z3, some xe, z5, z6, z7, z8, some (.ref a), none, none, y12, y13] ∧ FeedOk F cf H' ∧ LamX.Tabs TT H' ∧ H' p = some (.tup W3)) ⟨_, _, rfl, hF4, hT4, hp4⟩ (fun i σ H' _ ⟨_, _, _, _, _, h⟩ => sq_t h) ?_ ?_⟩
  · rintro i x σ H5 H5' hi ⟨y12, y13, rfl, hF5, hT5, hp5⟩ ⟨rfl, hx⟩
    obtain ⟨z, rfl, hz⟩ := get3 hx
    refine ⟨4, rfl, by decide, by decide, for_it walk_range (fun j σ H' => ∃ (y13 : Option V) (z : Str), σ = [z0, some (.ref F), z2, z3, some xe, z5, z6, z7, z8, some (.ref a), none, none, some (.str z), y13] ∧ FeedOk F cf H' ∧ LamX.Tabs TT H' ∧ H' p = some (.tup W3) ∧ z.length ≤ lim j) ⟨_, z, rfl, hF5, hT5, hp5, hz⟩ (fun _ _ _ _ _ => True.intro) ?_ ?_⟩
    · rintro j y σ H6 H6' hj ⟨y13, z, rfl, hF6, hT6, hp6, hz⟩ ⟨rfl, rfl⟩
      have hj4 : j < 4 := hj
      have hlj : lim j ≤ 20000 := lim_le hj4
      refine ⟨small100 (by simp), fun q hq => ?_⟩
      have n6 := same_new (o := .tup [.str "number", .str "condition", .str "link"]) hq
      have hF7 := hF6.same n6
      have hT7 := hT6.ext n6
      have hp7 := n6 _ _ hp6
      have hq7 : (upd H6' q (.tup [.str "number", .str "condition", .str "link"])) q = some (.tup (dueL.map V.str)) := upd_same
      generalize upd H6' q (.tup [.str "number", .str "condition", .str "link"]) = H7 at hF7 hT7 hp7 hq7 ⊢
      refine ⟨q, rfl, ⟨_, sq_t hq7⟩, fun Dl hDl => lc_it (walk_tup (K := K) (a := q) (xs := dueL.map V.str)) (fun i H' => FeedOk F cf H' ∧ LamX.Tabs TT H' ∧ H' p = some (.tup W3) ∧ H' q = some (.tup (dueL.map V.str)) ∧ H' Dl = some (.lst [])) ⟨hF7.new hDl, hT7.ext (same_new hDl), same_new hDl _ _ hp7, same_new hDl _ _ hq7, upd_same⟩ (fun _ _ _ h => sq_t h.2.2.2.1) ?_ ?_⟩
      · rintro i x H8 H8' hi ⟨hF8, hT8, hp8, hq8, hD8⟩ ⟨rfl, hx⟩
        obtain ⟨d, rfl⟩ : ∃ d : Due, x = .str d.s := by
          rw [List.getElem?_map] at hx
          cases q : dueL[i]? with
          | none => rw [q] at hx; cases hx
          | some v => rw [q] at hx; obtain ⟨d, rfl⟩ := due_get q; exact ⟨d, (Option.some.inj hx).symm⟩
        exact ⟨rfl, _, rfl, _, rfl, z, d, rfl, by omega, hT8, fun H9 e9 T9 => ⟨true, rfl, iteF ⟨hF8.ext e9, T9, ext_t e9 hp8, ext_t e9 hq8, ext_l e9 hD8⟩⟩⟩
      · rintro H8 ⟨hF8, hT8, hp8, hq8, hD8⟩
        refine ⟨small100 (by simp), fun m hm => ne_empty hD8 hm ⟨false, rfl, iteF ?_⟩⟩
        have n8 := same_new (o := .lst []) hm
        refine ⟨_, rfl, z, rfl, by omega, hT8.ext n8, fun H9 e9 T9 => ⟨true, rfl, iteF ?_⟩⟩
        refine ⟨_, rfl, _, rfl, F, cf, z, rfl, (hF8.same n8).ext e9, by omega, fun z' H10 k10 hF10 hl10 => ?_⟩
        exact ⟨_, z', rfl, hF10, Tabs.kp T9 k10, k10 _ _ (ext_t e9 (n8 _ _ hp8)) rfl, Nat.le_trans hl10 (by show 3 * z.length + 100 ≤ 3 * lim j + 100; omega)⟩
    · rintro σ H6 ⟨y13, z, rfl, hF6, hT6, hp6, hz⟩
      exact ⟨_, _, rfl, hF6, hT6, hp6⟩
  · rintro σ H5 ⟨y12, y13, rfl, hF5, hT5, hp5⟩
    exact k _ _ _ hF5 hT5
end
end K12

set_option maxHeartbeats 4000000
/-! J2: law, the parts and the forms. -/
namespace K12
open PySem PySem.Spec PyProof.Rows L2 TL NumText
set_option autoImplicit false
section
variable {P : Program} {w : World} {K : PySem.W.Frag} {mg : Str → Option Value} {base : Heap} {CI cL p1 p2 p3 q1 q2 q3 q4 r1 r2 r3 r4 r5 : Addr} {TT : List (Addr × Str)}
theorem law_forms (T : Tx K mg) {c : Addr} (CA : CalG P w K mg base CX0 34 "_law_any_right" ["_law_text_in", "_law_goal"] (spAnyR TT)) (CD : CalG P w K mg base CX0 10 "_law_word_right" ["_law_text_in"] (spWord TT)) (CF : CalG P w K mg base CX0 10 "_law_forms_right" ["_law_entries"] (spForms K TT))
    {f : Addr} {A : Around} {outer : List Env} {s : Shared} {H : Hp} {E : XK} (hgd : A.guards = some []) (hr : Room 35 (A.deeper (envOfC "law" (defScope (top 69)) s.heap.objs.size f (.ref c)))) :
    ∃ t, PSs (cxOf CX0 P w K mg base N69 "law" (defScope (top 69)) f (.ref c) A outer s H E).nox (turnBody.drop 5) t ∧ ∀ (D : L2.Ends) (F cf : Addr) (e : Ex) (xe : V) (z0 z2 z3 z5 z6 z7 z8 z9 z12 z13 : Option V) (H0 : Hp), FeedOk F cf H0 → LamX.Tabs TT H0 →
      Dp K H0 xe e.data → e.Wf → e.opens ≤ 3 → e.m ≤ 400 →
      (∀ z7 z8 z9 z12 z13 H', FeedOk F cf H' → LamX.Tabs TT H' → D.nx [z0, some (.ref F), z2, z3, some xe, z5, z6, z7, z8, z9, none, none, z12, z13] H') → t D [z0, some (.ref F), z2, z3, some xe, z5, z6, z7, z8, z9, none, none, z12, z13] H0 := by
  obtain ⟨tz, htz, lz⟩ := law_lates (P := P) (w := w) (base := base) (f := f) (outer := outer) (H := H) (E := E) T CA CD hgd hr
  have CL := cal_leaf (P := P) (w := w) (base := base) T
  have CC := cal_cond0 (P := P) (w := w) (base := base) T
  have CM := cal_num1 (P := P) (w := w) (base := base) T
  have CP := cal_parts_right (P := P) (w := w) (base := base) T
  have CH := cal_schema (P := P) (w := w) (base := base) T
  refine ⟨_, (pss_cons (ps_par (i := 7) (j := 8) rfl sc69.nd rfl rfl (by decide) rfl rfl (pa_cons (pe_cal CL (hr.mono (by decide)) rfl pass0 (pa_cons (pv 1) pa_nil)) (pa_cons (pe_cal CC (hr.mono (by decide)) rfl pass0 (pa_cons (pv 1) (pa_cons pe_int pa_nil))) pa_nil)) (by rfl))
      (pss_cons (ps_if (pt_not (pt_val (pe_cal CP (hr.mono (by decide)) rfl pass0 (pa_cons (pe_cal CM (hr.mono (by decide)) rfl pass0 (pa_cons (pv 1) (pa_cons pe_int pa_nil))) (pa_cons (pv 7) (pa_cons (pv 8) (pa_cons (pe_tup (pa_cons pe_str pa_nil)) pa_nil))))))) (pss_one (ps_ret pe_bl)) pss_nil)
      (pss_cons (ps_set (i := 9) sc69.nd rfl (Or.inl rfl) (pe_cal CH (hr.mono (by decide)) rfl pass0 (pa_cons (pv 1) pa_nil)))
      (pss_cons (ps_if (pt_cmpR (op_neD hr.units) (pe_lc (own := [("_law_title", 10), ("_law_entries", 11)]) (g := (gTup K 2 (gCons (gName 10) (gCons (gName 11) gNil)))) (tt := _) rfl sc69.nd (pi_tup (pv 9)) (blkOk_by (N := ["_law_script", "_law_feed_here", "_law_turn", "_law_way", "_law_e", "_law_goal", "_law_other_e", "_law_f", "_law_c", "_law_scheme", "_law_title", "_law_entries", "_law_late", "_law_k"]) (sc := defScope (top 69)) (by decide +kernel)) (fun _ _ _ _ _ => (pg_tup rfl (pgs_cons (pg_name (i := 10) sc69.nd rfl (Or.inl rfl)) (pgs_cons (pg_name (i := 11) sc69.nd rfl (Or.inl rfl)) pgs_nil)))) (fun _ _ _ _ _ => (pts_one (pt_not (pt_val (pe_calG CF hgd (hr.mono (by decide)) rfl pass0 (pa_cons (pv 11) pa_nil)))))) (fun _ _ _ _ _ => (pv 11))) (pe_lst pa_nil) (nomark _)) (pss_one (ps_ret pe_bl)) pss_nil)
      htz)))), ?_⟩
  intro D F cf e xe z0 z2 z3 z5 z6 z7 z8 z9 z12 z13 H0 hF hT de hw ho hm k
  have hp := data_plain e hw
  refine ⟨_, rfl, F, cf, rfl, hF, fun v1 e1 H1 k1 hF1 ft1 w1 o1 m1 d1 => ?_⟩
  refine ⟨_, rfl, F, cf, rfl, hF1, fun v2 e2 H2 k2 hF2 ft2 w2 o2 m2 d2 => ⟨_, _, rfl, ?_⟩⟩
  refine ⟨_, rfl, F, cf, rfl, hF2, fun v3 e3 H3 k3 hF3 ft3 w3 o3 m3 d3 => ?_⟩
  have k23 := k2.trans k3
  have k13 := k1.trans k23
  refine ⟨_, rfl, _, rfl, small100 (by simp), fun p hp' => ?_⟩
  have n3 := same_new (o := .tup [.str "self"]) hp'
  refine ⟨v3, v1, v2, .ref p, e3, e1, e2, .self, rfl, Dp.tk (tk_of n3) _ _ (data_plain e3 w3) d3, Dp.tk (k23.tk.trans (tk_of n3)) _ _ (data_plain e1 w1) d1, Dp.tk (k3.tk.trans (tk_of n3)) _ _ (data_plain e2 w2) d2, .tup (sq_t upd_same) (.cons (.str _) .nil), ⟨w3, by omega, by omega⟩, ⟨w1, by omega, by omega⟩, ⟨w2, by omega, by omega⟩, ⟨True.intro, by decide +kernel, by decide +kernel⟩, fun H4 s4 => ⟨true, rfl, iteF ?_⟩⟩
  have n34 := n3.trans s4
  have hF4 := hF3.same n34
  have k04 := k13.trans (kp_of n34)
  refine ⟨_, rfl, F, cf, rfl, hF4, fun x gs H5 k5 hF5 hs ds => ?_⟩
  have k05 := k04.trans k5
  have hpl := sch_plain hs
  have ds0 := ds
  obtain ⟨a, vs, rfl, hvs, hda⟩ : ∃ a vs, x = .ref a ∧ SqT K H5 a vs ∧ DpAll K H5 vs (gs.map schD) := by
    cases ds with
    | tup h1 h2 => exact ⟨_, _, rfl, h1, h2⟩
  have hT5 := Tabs.kp hT k05
  refine ⟨_, rfl, a, rfl, ⟨_, hvs⟩, fun Dl hDl => lc_it (walk_tup (K := K) (a := a) (xs := vs)) (fun i H' => FeedOk F cf H' ∧ LamX.Tabs TT H' ∧ LamX.ExtN H5 H' ∧ H' Dl = some (.lst [])) ⟨hF5.new hDl, hT5.ext (same_new hDl), ext_new hDl, upd_same⟩ (fun _ _ _ h => tk_t (ext_tk h.2.2.1) hvs) ?_ ?_⟩
  · rintro i y H6 H6' hi ⟨hF6, hT6, e6, hD6⟩ ⟨rfl, hx⟩
    obtain ⟨b, ti, v, g, rfl, sb, dv, og, lg⟩ := sch_item hs hda ⟨i, hx⟩
    refine ⟨b, _, rfl, tk_t (ext_tk e6) sb, rfl, _, _, rfl, _, _, rfl, rfl, rfl, ?_⟩
    refine ⟨_, rfl, v, g, rfl, Dp.tk (ext_tk e6) _ _ (form_plain' og) dv, og, lg, hT6, fun H7 e7 T7 => ⟨true, rfl, iteF ⟨hF6.ext e7, T7, e6.trans e7, ext_l e7 hD6⟩⟩⟩
  · rintro H6 ⟨hF6, hT6, e6, hD6⟩
    refine ⟨small100 (by simp), fun m hm' => ne_empty hD6 hm' ⟨false, rfl, iteF ?_⟩⟩
    have n6 := same_new (o := .lst []) hm'
    have e06 := e6.trans (ext_same n6)
    exact lz D F cf e xe _ gs z0 z2 z3 z5 z6 _ _ _ _ _ (hF6.same n6) (hT6.ext n6) (Dp.tk (k05.tk.trans (ext_tk e06)) _ _ hp de) hw ho hm (Dp.tk (ext_tk e06) _ _ hpl ds0) hs (fun z12 z13 H' a b => k _ _ _ _ _ H' a b)
end
end K12

set_option maxHeartbeats 4000000
/-! J3: law. -/
namespace K12
open PySem PySem.Spec PyProof.Rows L2 TL NumText
set_option autoImplicit false
theorem way_at {m : Int} (h : m = 0 ∨ m = 1 ∨ m = 2) : atI [V.str "number", V.str "condition", V.str "link"] m = some (.str (wayD m).s) := by
  rcases h with rfl | rfl | rfl <;> rfl
section
variable {P : Program} {w : World} {K : PySem.W.Frag} {mg : Str → Option Value} {base : Heap} {CI cL p1 p2 p3 q1 q2 q3 q4 r1 r2 r3 r4 r5 : Addr} {TT : List (Addr × Str)}
def spLaw (K : PySem.W.Frag) (TT : List (Addr × Str)) : Sp := fun vs H Q _ => ∃ (a : Addr) (ns : List Int), vs = [.ref a] ∧ SqL K H a (ns.map V.int) ∧ ns.length ≤ 63 ∧ LamX.Tabs TT H ∧ ∀ H', Q (.bl true) H'
theorem cal_law (T : Tx K mg) {c : Addr} (h69 : HsC K mg "law" (top 69) c) (CR : CalG P w K mg base CX0 34 "_law_written_right" ["_law_e", "_law_goal"] (spWritten K TT)) (CA : CalG P w K mg base CX0 34 "_law_any_right" ["_law_text_in", "_law_goal"] (spAnyR TT)) (CD : CalG P w K mg base CX0 10 "_law_word_right" ["_law_text_in"] (spWord TT)) (CF : CalG P w K mg base CX0 10 "_law_forms_right" ["_law_entries"] (spForms K TT)) :
    CalG P w K mg base CX0 36 "law" ["_law_script"] (spLaw K TT) := by
  have CE := cal_feed (P := P) (w := w) (base := base) T
  have CN := cal_any (P := P) (w := w) (base := base) T
  have CT := cal_text (P := P) (w := w) (base := base) T
  refine h69.calG sc69 (fun vs H Q E h => ?_) (fun _ _ _ _ _ _ us hl => match us, hl with | [_], _ => rfl) (fun f A outer s H vs Q E hgd hr h => ?_)
  · obtain ⟨a, ns, rfl, _⟩ := h; rfl
  · obtain ⟨a, ns, rfl, hsq, hl, hT, k⟩ := h
    obtain ⟨tz, htz, lz⟩ := law_forms (P := P) (w := w) (base := base) (f := f) (outer := outer) (H := H) (E := E) T CA CD CF hgd hr
    have hun : (A.deeper (envOfC "law" (defScope (top 69)) s.heap.objs.size f (.ref c))).units + 200 < cLine := by have := hr.un; omega
    refine ⟨_, (pss_cons (ps_set (i := 1) sc69.nd rfl (Or.inl rfl) (pe_cal CE (hr.mono (by decide)) rfl pass0 (pa_cons (pv 0) pa_nil))) (pss_cons (ps_for PassesOwn.never rfl (pi_range1 (by rfl) T.b_range (pa_cons pe_int pa_nil)) (pg_name (i := 2) sc69.nd rfl (Or.inl rfl))
      (pss_cons (ps_set (i := 3) sc69.nd rfl (Or.inl rfl) (pe_op op_mod (pe_callTy call_int1 (by rfl) T.b_int boot_int (pa_cons (pv 2) pa_nil)) pe_int))
      (pss_cons (ps_par (i := 4) (j := 5) rfl sc69.nd rfl rfl (by decide) rfl rfl (pa_cons (pe_cal CN (hr.mono (by decide)) rfl pass0 (pa_cons (pv 1) (pa_cons (pv 3) pa_nil))) (pa_cons (pe_ixL K rfl (pe_lst (pa_cons pe_str (pa_cons pe_str (pa_cons pe_str pa_nil)))) (pv 3) (fun _ _ => rfl)) pa_nil)) (by rfl))
      (pss_cons (ps_set (i := 6) sc69.nd rfl (Or.inl rfl) (pe_cal CN (hr.mono (by decide)) rfl pass0 (pa_cons (pv 1) (pa_cons (pv 3) pa_nil))))
      (pss_cons (ps_if (PW.pt (pw_or (pt_not (pt_val (pe_calG CR hgd (hr.mono (by decide)) rfl pass0 (pa_cons (pv 4) (pa_cons (pv 5) pa_nil))))) (pw_or1 (pt_not (pt_val (pe_calG CR hgd (hr.mono (by decide)) rfl pass0 (pa_cons (pv 6) (pa_cons (pv 5) pa_nil)))))))) (pss_one (ps_ret pe_bl)) pss_nil)
      (pss_cons (ps_if (pt_cmpR op_ne (pe_cmpR op_eq (pe_cal CT (hr.mono (by decide)) rfl pass0 (pa_cons (pv 4) pa_nil)) (pe_cal CT (hr.mono (by decide)) rfl pass0 (pa_cons (pv 6) pa_nil)) (nomark _)) (pe_cmpR op_eq (pe_callB (call_repr2 hgd hun) (by rfl) T.b_repr (by decide +kernel) (pa_cons (pv 4) pa_nil)) (pe_callB (call_repr2 hgd hun) (by rfl) T.b_repr (by decide +kernel) (pa_cons (pv 6) pa_nil)) (nomark _)) (nomark _)) (pss_one (ps_ret pe_bl)) pss_nil)
      htz)))))) (pss_one (ps_ret pe_bl)))), ?_⟩
    refine ⟨_, rfl, a, ns, rfl, hsq, hl, fun F cf H1 s1 hF1 => ?_⟩
    have hT1 := hT.ext s1
    refine ⟨3, rfl, by decide, by decide, for_it walk_range (fun i σ H' => ∃ (y2 y3 y4 y5 y6 y7 y8 y9 y12 y13 : Option V), σ = [some (.ref a), some (.ref F), y2, y3, y4, y5, y6, y7, y8, y9, none, none, y12, y13] ∧ FeedOk F cf H' ∧ LamX.Tabs TT H') ⟨_, _, _, _, _, _, _, _, _, _, rfl, hF1, hT1⟩ (fun _ _ _ _ _ => True.intro) ?_ ?_⟩
    · rintro i x σ H2 H2' hi ⟨y2, y3, y4, y5, y6, y7, y8, y9, y12, y13, rfl, hF2, hT2⟩ ⟨rfl, rfl⟩
      have hi3 : i < 3 := hi
      have hm3 : (0 + (i : Int)) % 3 = 0 ∨ (0 + (i : Int)) % 3 = 1 ∨ (0 + (i : Int)) % 3 = 2 := by omega
      refine ⟨_, rfl, .inl ⟨_, rfl, _, _, rfl, rfl, (by show (0 : Int) < 3; decide), ?_⟩⟩
      have hb : ∀ j : Int, (fun (i j : Int) => V.int (i % j)) j 3 = V.int (j % 3) := fun _ => rfl
      simp only [hb]
      generalize (0 + (i : Int)) % 3 = m at hm3 ⊢
      refine ⟨_, rfl, _, rfl, F, cf, m, rfl, hF2, fun v1 e1 H3 k3 hF3 ft1 w1 o1 m1 d1 => ⟨small100 (by simp), fun q hq => ?_⟩⟩
      have n3 := same_new (o := .lst [.str "number", .str "condition", .str "link"]) hq
      refine ⟨_, rfl, q, _, m, _, rfl, rfl, sq_l upd_same, way_at hm3, _, _, rfl, ?_⟩
      refine ⟨_, rfl, _, rfl, F, cf, m, rfl, hF3.same n3, fun v2 e2 H4 k4 hF4 ft2 w2 o2 m2 d2 => ?_⟩
      have k34 := (kp_of n3).trans k4
      have hT4 := Tabs.kp hT2 (k3.trans k34)
      have p1 := data_plain e1 w1
      have p2 := data_plain e2 w2
      have d1' := Dp.tk k34.tk _ _ p1 d1
      have g1 : Good (wayD m) e1 := ⟨ft1, w1, by omega⟩
      have g2 : Good (wayD m) e2 := ⟨ft2, w2, by omega⟩
      obtain ⟨a1, a2, a3, a4⟩ := ex_repr w1 (by omega) (show e1.m ≤ 100000 by omega)
      obtain ⟨b1, b2, b3, b4⟩ := ex_repr w2 (by omega) (show e2.m ≤ 100000 by omega)
      refine ⟨_, rfl, _, rfl, v1, wayD m, e1, rfl, d1', g1, by omega, hT4, fun H5 e5 T5 => ⟨true, rfl, iteF ?_⟩⟩
      have d2' := Dp.tk (ext_tk e5) _ _ p2 d2
      refine ⟨_, rfl, _, rfl, v2, wayD m, e2, rfl, d2', g2, by omega, T5, fun H6 e6 T6 => ⟨true, rfl, iteF ?_⟩⟩
      have d1'' := Dp.tk (ext_tk (e5.trans e6)) _ _ p1 d1'
      have d2'' := Dp.tk (ext_tk e6) _ _ p2 d2'
      have hF6 := hF4.ext (e5.trans e6)
      refine ⟨_, rfl, v1, e1, rfl, d1'', w1, by omega, by omega, fun H7 s7 => ⟨_, rfl, v2, e2, rfl, Dp.tk (tk_of s7) _ _ p2 d2'', w2, by omega, by omega, fun H8 s8 => ⟨rfl, ?_⟩⟩⟩
      have s78 := s7.trans s8
      have d1f := Dp.tk (tk_of s78) _ _ p1 d1''
      have d2f := Dp.tk (tk_of s78) _ _ p2 d2''
      refine ⟨_, rfl, v1, e1.data, rfl, d1f, p1, a1, a2, a3, a4, _, rfl, v2, e2.data, rfl, d2f, p2, b1, b2, b3, b4, rfl, ?_⟩
      have key : decide (V.str e1.txt = V.str e2.txt) = decide (V.str e1.data.shown = V.str e2.data.shown) := by
        have := txt_shown g1 g2
        by_cases h : e1.txt = e2.txt
        · rw [decide_eq_true (by rw [h]), decide_eq_true (by rw [this.mp h])]
        · rw [decide_eq_false (fun z => h (V.str.inj z)), decide_eq_false (fun z => h (this.mpr (V.str.inj z)))]
      rw [key]
      refine ⟨rfl, false, by simp, iteF ?_⟩
      exact lz _ F cf e1 v1 _ _ _ _ _ _ _ _ _ _ _ (hF6.same s78) (T6.ext s78) d1f w1 o1 m1 (fun z7 z8 z9 z12 z13 H' x y => ⟨_, _, _, _, _, _, _, _, _, _, rfl, x, y⟩)
    · rintro σ H2 ⟨y2, y3, y4, y5, y6, y7, y8, y9, y12, y13, rfl, hF2, hT2⟩
      exact k _
end
end K12

set_option maxHeartbeats 4000000
/-! J4: the end: from law's promise to the walk of the row. -/
namespace K12
open PySem PySem.Spec PyProof.Rows L2 TL NumText
set_option autoImplicit false
abbrev tab0 : Obj := { cls := .none, data := .fields #[] }
abbrev listO (vs : List Value) : Obj := { cls := .type "list", data := .seq vs.toArray }
/-- what is tracked at the start: the tables (empty), and the script where K does not know it -/
def startH (ts : List Addr) (K : PySem.W.Frag) (a : Addr) (u : HO) : Hp := fun b =>
  if b ∈ ts then some (.tbl #[]) else if b = a ∧ (K.lookup a).isNone = true then some u else none
section
variable {ts : List Addr} {K : PySem.W.Frag} {a b : Addr} {u v : HO}
theorem startH_tab (h : b ∈ ts) : startH ts K a u b = some (.tbl #[]) := by
  unfold startH; rw [if_pos h]
theorem startH_is (h : startH ts K a u b = some v) : (b ∈ ts ∧ v = .tbl #[]) ∨ (b = a ∧ K.lookup a = none ∧ v = u) := by
  unfold startH at h
  by_cases h1 : b ∈ ts
  · rw [if_pos h1] at h
    exact .inl ⟨h1, (Option.some.inj h).symm⟩
  · rw [if_neg h1] at h
    by_cases h2 : b = a ∧ (K.lookup a).isNone = true
    · rw [if_pos h2] at h
      exact .inr ⟨h2.1, Option.isNone_iff_eq_none.mp h2.2, (Option.some.inj h).symm⟩
    · rw [if_neg h2] at h
      cases h
theorem startH_no (h1 : b ∉ ts) (h2 : b = a → ∃ o, K.lookup a = some o) : startH ts K a u b = none := by
  cases e : startH ts K a u b with
  | none => rfl
  | some v =>
    rcases startH_is e with ⟨h, _⟩ | ⟨h, h', _⟩
    · exact absurd h h1
    · obtain ⟨o, ho⟩ := h2 h
      rw [ho] at h'
      cases h'
theorem startH_scr (h1 : a ∉ ts) (h2 : K.lookup a = none) : startH ts K a u a = some u := by
  unfold startH
  rw [if_neg h1, if_pos ⟨rfl, by rw [h2]; rfl⟩]
end
/-- what the head has to tell of law, which stands at fa -/
structure LawFacts (l : PySem.W.OpenLaw) (w : World) (K : PySem.W.Frag) (mg : Str → Option Value) (fa : Addr) (h : Heap) where
  cs : List (Addr × Addr)
  TT : List (Addr × Str)
  kin : K.In h
  tabs : ∀ P ∈ cs.map (·.2), h.get? P = some tab0
  away : ∀ P ∈ cs.map (·.2), K.lookup P = none
  heads : ∀ p ∈ cs, PySem.W.codeHdIn K p.1 p.2 = true
  inT : ∀ q ∈ TT, q.1 ∈ cs.map (·.2)
  nm : mg "law" = some (.ref fa)
  body : ∀ base : Heap, K.In base → base.Ns mainGlobals mg → (∀ p ∈ cs, LamX.TabB base mg p.1 p.2) → CalG l.prog w K mg base CX0 36 "law" ["_law_script"] (spLaw K TT)
theorem law_walk {l : PySem.W.OpenLaw} {q : Program} {loose : List Str} {XP : (Str → Option Value) → Heap → Prop} {YP : World → Heap → Prop} {d : DefRec} (hn : l.most = some 63) (hdf : d.params.defaults = [])
    (F : ∀ (w : World) (mg : Str → Option Value) (fa : Addr) (h : Heap), YP w h → h.Ns mainGlobals mg → mg d.name = some (.ref fa) → ∃ K : PySem.W.Frag, Nonempty (LawFacts l w K mg fa h)) :
    PySem.W.WalkO q loose XP YP l.row.toRowW d [] (fun f vs => PySem.call f vs) := by
  refine Att.attach_callB hn hdf fun w s0 s1 mg mb fa o pm cd doc a vs ns G Y ho hd hcd hmg hobj hints hlen hbits hgen => ?_
  obtain ⟨K, ⟨L⟩⟩ := F w mg fa _ Y G.T.g hmg
  have T := G.T
  have rv := vals_ints hints
  have hvl := hints.length
  -- the tables and the script stand apart
  have nin : a ∉ L.cs.map (·.2) := fun z => by
    have e := L.tabs a z
    rw [hobj] at e
    exact absurd (congrArg Obj.data (Option.some.inj e)) (fun z => nomatch z)
  obtain ⟨H, hH⟩ : ∃ H, H = startH (L.cs.map (·.2)) K a (.frz (listO vs) (.lst (ns.map V.int))) := ⟨_, rfl⟩
  have shut : ∀ {b : Addr} {ob : Obj}, s1.heap.get? b = some ob → ob ≠ tab0 → (b = a → ∃ o', K.lookup a = some o') → H b = none := fun {b ob} e n1 n2 => by
    rw [hH]
    exact startH_no (fun z => n1 (Option.some.inj (e.symm.trans (L.tabs b z)))) n2
  have shutD : ∀ {b : Addr} {ob : Obj}, s1.heap.get? b = some ob → (ob.data = .plain ∨ ∃ es ep, ob.data = .dict es ep) → H b = none := fun {b ob} e n => shut e (fun z => by
    rw [z] at n
    rcases n with n | ⟨es, ep, n⟩ <;> cases n) (fun z => by
    rw [z, hobj] at e
    rw [← Option.some.inj e] at n
    rcases n with n | ⟨es, ep, n⟩ <;> cases n)
  have shutK : ∀ {b : Addr} {ob : Obj}, K.lookup b = some ob → H b = none := fun {b ob} e => by
    rw [hH]
    exact startH_no (fun z => by rw [L.away b z] at e; cases e) (fun z => by rw [← z]; exact ⟨_, e⟩)
  have ok : HOk l.prog w H s1.heap := fun b v e => by
    rw [hH] at e
    rcases startH_is e with ⟨hb, rfl⟩ | ⟨rfl, _, rfl⟩
    · exact L.tabs b hb
    · exact ⟨hobj, Nat.le_trans (by rw [List.length_map]; exact hlen) (show 63 ≤ sizeLine by decide), vs, _, rv, hobj⟩
  have toNs : ∀ {b : Addr} {m : Str → Option Value}, s1.heap.Ns b m → (hidT s1.heap H).Ns b m := fun {b m} h => by
    obtain ⟨ob, es, ep, e, de, rest⟩ := h
    exact ⟨ob, es, ep, hidT_get e (shutD e (.inr ⟨es, ep, de⟩)), de, rest⟩
  have baseK : K.In (hidT s1.heap H) := fun b ob e => hidT_get (L.kin b ob e) (shutK e)
  have md : L2.Mod K mg (hidT s1.heap H) := by
    refine ⟨baseK, toNs T.g, ⟨mb, toNs T.b, T.builtins⟩, ?_⟩
    obtain ⟨mc, h1, h2⟩ := T.nolimit
    exact ⟨mc, toNs h1, h2⟩
  have tabB : ∀ p ∈ L.cs, LamX.TabB (hidT s1.heap H) mg p.1 p.2 := fun p hp => by
    have hP := L.tabs p.2 (List.mem_map_of_mem hp)
    have glob : mainGlobals ≠ p.2 := fun z => by
      obtain ⟨ob, es, ep, e, de, _⟩ := T.g
      rw [z, hP] at e
      rw [← Option.some.inj e] at de
      cases de
    refine NdefX.tabB_of_K baseK (L.heads p hp) ?_ glob
    obtain ⟨bm, ob, b1, b2, b3, b4, b5, b6⟩ := T.bmain
    refine ⟨bm, ob, b1, b2, fun z => ?_, fun z => ?_, hidT_get b3 (shutD b3 (.inl b6)), b4, b5, b6⟩
    · obtain ⟨og, es, ep, e, de, _⟩ := T.g
      rw [z, e] at b3
      rw [Option.some.inj b3, b6] at de
      cases de
    · rw [z, hP] at b3
      rw [← Option.some.inj b3] at b6
      cases b6
  have env : Env0 l.prog w K mg (hidT s1.heap H) callerA [] s1 H := ⟨rfl, md, fun b ob e => of_hidT e, Nat.le_of_eq (hidT_size _ _), True.intro, fun b hb => (nomatch (show b ∈ ([] : List Addr) from hb)), ok, .of_eq hgen⟩
  have scr : SqL K H a (ns.map V.int) := by
    cases e : K.lookup a with
    | none => exact .inl (.inr ⟨_, by rw [hH]; exact startH_scr nin e⟩)
    | some ob =>
      have e2 := Option.some.inj ((L.kin a ob e).symm.trans hobj)
      exact .inr ⟨ob, vs.toArray, _, e, by rw [e2], by rw [e2], by rw [e2], by rw [List.size_toArray, hvl]; exact Nat.le_trans hlen (by decide), by simpa using rv⟩
  have tts : LamX.Tabs L.TT H := fun q hq => LamX.TabS.nil (by rw [hH]; exact startH_tab (L.inT q hq))
  obtain ⟨f1, fd, FG, m1, kp, bnd⟩ := (L.body _ baseK (toNs T.g) tabB).ex
  have ef : f1 = fa := by
    have z := m1.symm.trans L.nm
    cases z
    rfl
  subst ef
  have bnd1 := bnd s1 [.ref a] L.kin rfl
  have run := FG.run callerA [] s1 H ⟨[.ref a], []⟩ [.ref a] [.ref a] (fun v _ => v = .bl true) (fun _ _ _ => False) rfl ⟨rfl, by decide, by decide⟩ env bnd1 (.cons rfl .nil) ⟨a, ns, rfl, scr, hlen, tts, fun _ => rfl⟩
  refine codeAny_mono run fun r s2 h => ?_
  match r, h with
  | .error e, h => exact (show False from h).elim
  | .ok .next, h => exact (show False from h).elim
  | .ok .brk, h => exact (show False from h).elim
  | .ok .cont, h => exact (show False from h).elim
  | .ok (.ret x), h =>
    obtain ⟨v, H2, os, bare, un, ok2, rel, hv⟩ := h
    have hv : v = .bl true := hv
    rw [hv] at rel
    obtain rfl : x = Value.bool true := rel
    have none0 : ∀ b : Addr, b ∉ ([] : List Addr) := fun b z => nomatch z
    -- each old object
    have each : ∀ b ob, s1.heap.get? b = some ob → asItWas s1.heap s2.heap b ob ∧ ∃ ob', s2.heap.get? b = some ob' := fun b ob e => by
      cases hb : H b with
      | none =>
        have z := un.keep b ob e hb (none0 b) (none0 b)
        exact ⟨.inl z, _, z⟩
      | some v =>
        have hb' := hb
        rw [hH] at hb'
        rcases startH_is hb' with ⟨h1, rfl⟩ | ⟨rfl, _, rfl⟩
        · obtain ⟨p, hp, rfl⟩ := List.mem_map.mp h1
          obtain ⟨more, z⟩ := un.tbls _ _ hb
          have g : s2.heap.get? p.2 = some { cls := .none, data := .fields (#[] ++ more) } := ok2 _ _ z
          have hP := L.tabs p.2 h1
          rw [hP] at e
          have eo := Option.some.inj e
          have ct : s1.heap.TableAt p.1 p.2 #[] := (PySem.W.codeHd_of_K L.kin (L.heads p hp)).tab hP
          rw [← eo]
          exact ⟨.inr (.inl ⟨ct.isCodeTable, rfl, #[], more, rfl, g⟩), _, g⟩
        · have z := ok2 _ _ (un.frzs _ _ _ hb)
          rw [hobj] at e
          rw [← Option.some.inj e]
          exact ⟨.inl z.1, _, z.1⟩
    exact ⟨rfl, ⟨fun b ob e => (each b ob e).1, fun b ob e => (each b ob e).2⟩, os, bare⟩
end K12

set_option maxHeartbeats 4000000
/-! J5: what is asked of the head's part K; all facts of law from it (printed by gen_facts.py). -/
namespace K12
section
open PySem PySem.W PySem.Calls PyProof.Rows PySem.HandSPX
set_option autoImplicit false
/-- InvalidText's class object -/
def itCls (K : Frag) (C : Addr) : Bool := match K.lookup C with
  | some ⟨.type t, _, .cls d, sl⟩ => decide (t = "type") && (d.hasDict && (!d.hasDel && ((match d.mro with
    | .ref D :: bm => decide (D = C) && refsVE bm
    | _ => false) && (match sl.toList with
    | [_, _, _, _, some (.builtin n), _] => decide (n = "ValueError.__new__")
    | _ => false))))
  | _ => false
theorem itCls_ok {K : Frag} {C : Addr} (e : itCls K C = true) : ∃ nm q N bs bm sn sub ab col dd k0 k1 k2 k3 k5, K.lookup C = some (excClassObj nm q C N bs bm true sn sub ab col dd k0 k1 k2 k3 k5 "ValueError.__new__") ∧ refsVE bm = true := by
  unfold itCls at e
  split at e
  case h_2 => cases e
  case h_1 t dd d sl lk =>
  simp only [Bool.and_eq_true, decide_eq_true_eq, Bool.not_eq_true'] at e
  obtain ⟨rfl, e1, e2, e3, e4⟩ := e
  obtain ⟨nm, bs, mro, ns, qn, hd, sn, sub, ab, col, del⟩ := d
  dsimp only at e1 e2 e3
  subst e1 e2
  split at e3
  case h_2 => cases e3
  case h_1 m D bm =>
  simp only [Bool.and_eq_true, decide_eq_true_eq] at e3
  obtain ⟨rfl, e3⟩ := e3
  split at e4
  case h_2 => cases e4
  case h_1 y k0 k1 k2 k3 n k5 hs =>
  obtain rfl := of_decide_eq_true e4
  obtain ⟨ls⟩ := sl
  have hs : ls = _ := hs
  subst hs
  exact ⟨_, _, _, _, _, _, _, _, _, _, _, _, _, _, _, lk, e3⟩
/-- the cell of its __init__ -/
def ccOf (K : Frag) (f : Addr) : Addr := match K.lookup f with
  | some ⟨_, _, .func fd, _⟩ => (match fd.closure with
    | (_, c) :: _ => c
    | _ => 0)
  | _ => 0
/-- its __init__, as the text has it -/
def IniOk (K : Frag) : Prop := He.fnW K ("InvalidText", some "__init__") = some (("__init__" : Str), ("InvalidText.__init__" : Str), iA, FuncBody.stmts iB, iS, mainGlobals, [(("__class__" : Str), ccOf K (He.fAd K ("InvalidText", some "__init__")))], builtinsNs)
def isNone : Value → Bool
  | .none => true
  | _ => false
theorem isNone_ok {v : Value} (e : isNone v = true) : v = .none := by
  cases v with
  | none => rfl
  | _ => cases e
def itFile (P : Program) (K : Frag) (c : Addr) : Bool := match K.lookup c with
  | some ⟨_, _, .fields vs, _⟩ => (match (vs[2]? : Option Value) with
    | some (.str file _) => (P.main.file : Str) == file
    | _ => false)
  | _ => false
def itCell (K : Frag) (C c : Addr) : Bool := match K.lookup c with
  | some ⟨_, _, .cell (some (.ref D)), _⟩ => decide (D = C)
  | _ => false
def itCode (P : Program) (K : Frag) (v : Value) : Bool := match v with
  | .ref c => codeIn K (.ref c) "InvalidText.__init__" && itFile P K c
  | _ => false
def itFn (P : Program) (K : Frag) (C f : Addr) : Bool := match K.lookup f with
  | some ⟨_, _, .func fd, _⟩ => isNone fd.defaults && (isNone fd.kwdefaults && (itCode P K fd.code && itCell K C (ccOf K f)))
  | _ => false
theorem itFn_ok {P : Program} {K : Frag} {C : Addr} (i : IniOk K) (e : itFn P K C (He.fAd K ("InvalidText", some "__init__")) = true) :
    ∃ (oc : Value) (od : Option Addr) (doc pm : Value) (an : Option Addr) (cda : Addr) (ct : Value) (cc : Addr) (osl : Array (Option Value)) (ccl : Value) (cdd : Option Addr) (vs : Array Value) (ccs : Array (Option Value)) (file : Str) (tf : Tok) (cl : Value) (cld : Option Addr) (csl : Array (Option Value)),
      K.lookup (He.fAd K ("InvalidText", some "__init__")) = some ⟨oc, od, .func (ksFn "__init__" "InvalidText.__init__" iA iB iS .none .none doc pm an (.ref cda) ct cc), osl⟩ ∧ codeIn K (.ref cda) "InvalidText.__init__" = true ∧
      K.lookup cda = some ⟨ccl, cdd, .fields vs, ccs⟩ ∧ vs[2]? = some (.str file tf) ∧ ((P.main.file : Str) == file) = true ∧ K.lookup cc = some ⟨cl, cld, .cell (some (.ref C)), csl⟩ := by
  unfold IniOk He.fnW at i
  generalize hf : He.fAd K ("InvalidText", some "__init__") = f at i e ⊢
  generalize hcc : ccOf K f = cc at i
  unfold itFn at e
  cases lk : K.lookup f with
  | none => rw [lk] at e; cases e
  | some o =>
    obtain ⟨oc, od, dt, osl⟩ := o
    rw [lk] at e i
    cases dt with
    | func fd =>
      obtain ⟨n1, n2, n3, n4, n5, n6, n7, n8, n9, n10, n11, n12, n13, n14, n15⟩ := fd
      simp only [Option.some.injEq, Prod.mk.injEq] at i
      obtain ⟨h1, h2, h3, h4, h5, h6, h7, h8⟩ := i
      subst h1 h2 h3 h4 h5 h6 h7 h8
      simp only [Bool.and_eq_true] at e
      obtain ⟨e1, e2, e3, e4⟩ := e
      obtain rfl := isNone_ok e1
      obtain rfl := isNone_ok e2
      rw [hcc] at e4
      unfold itCode at e3
      split at e3
      case h_2 => cases e3
      case h_1 v c =>
      obtain ⟨e5, e6⟩ := Bool.and_eq_true_iff.mp e3
      unfold itFile at e6
      split at e6
      case h_2 => cases e6
      case h_1 ccl cdd vs ccs lc =>
      split at e6
      case h_2 => cases e6
      case h_1 file tf hv =>
      unfold itCell at e4
      split at e4
      case h_2 => cases e4
      case h_1 cl cld D csl lcc =>
      obtain rfl := of_decide_eq_true e4
      exact ⟨_, _, _, _, _, _, _, _, _, _, _, _, _, _, _, _, _, _, rfl, e5, lc, hv, e6, lcc⟩
    | _ => cases e
end
open PySem PySem.Spec PyProof.Rows L2 TL NumText
set_option autoImplicit false
/-! ### defs by the hook's facts -/
def plainD (x : Str) (i : Nat) : He.DefD := ⟨(x, none), x, x, defArgs (top i), defBody (top i), defScope (top i), [], []⟩
def methD (m : Str) (j : Nat) : He.DefD := ⟨("PartReader", some m), m, ("PartReader." : Str) ++ m, defArgs (inClass (top 46) j), defBody (inClass (top 46) j), defScope (inClass (top 46) j), [], []⟩
section
variable {K : PySem.W.Frag} {mg : Str → Option Value} {x qual : Str} {st : Stmt} {f : Addr} {fd : FuncData} {i : Nat}
theorem fun_ex (h : ∃ fd, FunD K x qual (defArgs st) (defBody st) (defScope st) [] [] f fd) : ∃ fd, Fun K x qual st f fd := by
  obtain ⟨fd, F⟩ := h
  obtain ⟨oc, od, dV, kV, doc, pm, an, cdv, ct, osl, e, lk, cd, dv, _⟩ := F.ex
  rcases dv with ⟨_, rfl⟩ | ⟨z, _⟩
  · exact ⟨fd, ⟨oc, od, kV, doc, pm, an, cdv, ct, osl, e, lk, cd⟩, F.kp⟩
  · exact absurd rfl z
theorem hs_of (h : ∃ fd, FunD K x x (defArgs (top i)) (defBody (top i)) (defScope (top i)) [] [] f fd) (m : mg x = some (.ref f)) : Hs K mg x (top i) := by
  obtain ⟨fd, F⟩ := fun_ex h
  exact ⟨f, fd, F, m⟩
theorem hsd_of (h : ∃ fd, FunD K x x (defArgs (top i)) (defBody (top i)) (defScope (top i)) [] [("row", .int 0), ("field", .int 0)] f fd) (m : mg x = some (.ref f)) : HsD K mg x (top i) := by
  obtain ⟨fd, F⟩ := h
  exact ⟨f, fd, F, m⟩
theorem hsc_of (h : ∃ fd, FunD K x x (defArgs (top i)) (defBody (top i)) (defScope (top i)) [] [] (He.fAd K (x, none)) fd) (m : mg x = some (.ref (He.ga K x))) : HsC K mg x (top i) (He.codeOf K (x, none)) := by
  obtain ⟨fd, F⟩ := fun_ex h
  obtain ⟨oc, od, kV, doc, pm, an, cdv, ct, osl, e, lk, cd⟩ := F.ex
  obtain ⟨c, rfl⟩ := He.codeIn_ref cd
  have ec : He.codeOf K (x, none) = c := He.codeOf_eq lk (by rw [e])
  rw [ec]
  subst e
  exact ⟨_, oc, od, kV, doc, pm, an, ct, osl, lk, cd, F.kp, m⟩
theorem hsm_of {C : Addr} {m : Str} (h : ∃ fd, Fun K m qual st f fd) (M : Meth K C m f) : HsM K C m qual st := by
  obtain ⟨fd, F⟩ := h
  exact ⟨f, fd, F, M⟩
theorem mk_of {C : Addr} {m : Str} (h : ∃ fd, Fun K m qual st f fd) (M : Mk K C f) : ∃ f fd, Fun K m qual st f fd ∧ Mk K C f := by
  obtain ⟨fd, F⟩ := h
  exact ⟨f, fd, F, M⟩
end
/-! ### the tables of operations -/
def dAt (K : PySem.W.Frag) (D : Addr) (k : Str) : Addr := match PySem.W.nsIn K D k with
  | some (some (.ref a)) => a
  | _ => 0
def prsB : List DictEntry → List (Str × Addr) → Bool
  | [], [] => true
  | e :: r, (x, a) :: q => (match e.key with
    | .str y _ => decide (y = x)
    | _ => false) && ((match e.val with
    | .ref b => decide (b = a)
    | _ => false) && prsB r q)
  | _, _ => false
theorem prs_ok : ∀ {es : List DictEntry} {l : List (Str × Addr)}, prsB es l = true → PairsL es l
  | [], [], _ => True.intro
  | [], _ :: _, h => by cases h
  | _ :: _, [], h => by cases h
  | e :: r, (x, a) :: q, h => by
    obtain ⟨h1, h2⟩ := He.ba (show ((match e.key with
    | .str y _ => decide (y = x)
    | _ => false) && ((match e.val with
    | .ref b => decide (b = a)
    | _ => false) && prsB r q)) = true from h)
    obtain ⟨h3, h4⟩ := He.ba h2
    refine ⟨?_, ?_, prs_ok h4⟩
    · split at h1
      case h_2 => cases h1
      case h_1 y t hk => exact ⟨t, by rw [hk, of_decide_eq_true h1]⟩
    · split at h3
      case h_2 => cases h3
      case h_1 b hv => rw [hv, of_decide_eq_true h3]
def dicP (K : PySem.W.Frag) (D : Addr) (l : List (Str × Addr)) : Bool := match K.lookup D with
  | some ⟨_, _, .dict es _, _⟩ => prsB es.toList l
  | _ => false
theorem opD_of {K : PySem.W.Frag} {w : World} {D : Addr} {l : List (Str × Addr)} (h : ∃ es n, KDict K w D es n) (e : dicP K D l = true) (nd : (l.map (·.1)).Nodup) : OpD K w D l := by
  obtain ⟨es, n, h⟩ := h
  refine ⟨⟨es, n, h.at_, h.lit, ?_⟩, h.low, nd⟩
  unfold dicP at e
  rw [h.at_] at e
  exact prs_ok e
def tupP (K : PySem.W.Frag) (a : Addr) (zs : List Str) : Bool := match K.lookup a with
  | some ⟨.type c, _, .seq its _, _⟩ => decide (c = "tuple") && (decide (its.size ≤ sizeLine) && He.relAll (zs.map V.str) its.toList)
  | _ => false
theorem tupP_ok {K : PySem.W.Frag} {a : Addr} {zs : List Str} (e : tupP K a zs = true) : TupK K a zs := by
  intro H
  unfold tupP at e
  split at e
  case h_2 => cases e
  case h_1 c dd its n sl lk =>
  obtain ⟨e1, e2⟩ := He.ba e
  obtain ⟨e3, e4⟩ := He.ba e2
  exact .inr ⟨_, its, n, lk, congrArg Value.type (of_decide_eq_true e1), rfl, of_decide_eq_true e3, He.relAll_ok e4⟩

def kwD (x : Str) (i : Nat) : He.DefD := ⟨(x, none), x, x, defArgs (top i), defBody (top i), defScope (top i), [], [("row", .int 0), ("field", .int 0)]⟩
def tfL : List He.Defn := [("_law_any_right", none), ("_law_written_right", none), ("_law_word_right", none), ("_law_forms_right", none)]
def tsL : List He.Tab := [(fun K => He.ga K "NUMBER_OPERATIONS", ["+", "-", "*", "least", "most", "if"]), (fun K => He.ga K "CONDITION_OPERATIONS", ["<", "=", "not", "and"]), (fun K => He.ga K "LINK_OPERATIONS", ["if"])]
def faL0 : List He.Fa := [.free "isinstance", .free "len", .free "all", .free "zip", .free "str", .free "int", .free "bool", .free "tuple", .free "list", .free "dict", .free "sorted", .free "range", .free "repr", .str "LETTERS" "abcdefghijklmnopqrstuvwxyz", .str "NONE_WORD" "-", .str "DIGITS" "0123456789", .int "LONGEST" 8, .int "MOST_DIGITS" 60, .int "MOST_OPEN" 30, .glo "is_integer", .glo "is_name", .glo "is_pair", .glo "is_range", .glo "is_kind", .glo "rises", .glo "is_named_rows", .glo "is_form", .glo "path_word", .glo "expression_words", .glo "expression_text", .glo "kind_text", .glo "form_text", .glo "operations_for", .glo "small_words", .glo "number_or_none", .glo "integer_or_none", .glo "name_or_none", .glo "path_or_none", .glo "kind_or_none", .glo "_law_feed"]
def faL1 : List He.Fa := [.glo "_law_draw", .glo "_law_schema", .glo "_law_ordered", .glo "_law_heard", .glo "_law_free_path", .glo "_law_free_leaf", .glo "_law_free_condition", .glo "_law_free_number", .glo "_law_free_link", .glo "_law_free_any", .glo "_law_spoilt", .glo "_law_any_right", .glo "_law_written_right", .glo "_law_parts_right", .glo "_law_word_right", .glo "_law_forms_right", .glo "law", .glo "read_expression", .glo "read_kind", .glo "read_form", .glo "PartReader", .cls "PartReader", .noat "PartReader" "words", .noat "PartReader" "at", .noat "PartReader" "text_row", .noat "PartReader" "first_field", .mkr "PartReader", .meth "PartReader" "require", .meth "PartReader" "present", .meth "PartReader" "take", .meth "PartReader" "small_part", .meth "PartReader" "part", .glo "LateError", .glo "PaperError", .glo "StoreError", .glo "TextError", .glo "InvalidPaper", .glo "UnknownObject", .glo "UnfitExpression", .glo "InvalidText"]
def faL2 : List He.Fa := [.glo "InvalidStep", .glo "GoneCell", .glo "NothingToUndo", .glo "InvalidPace", .glo "InvalidCommand", .glo "NUMBER_OPERATIONS", .glo "CONDITION_OPERATIONS", .glo "LINK_OPERATIONS", .glo "TWO_NUMBERS", .free "super"]
def faL : List He.Fa := faL0 ++ faL1 ++ faL2
def fnL0 : List He.DefD := [plainD "is_integer" 17, plainD "is_name" 18, plainD "is_pair" 19, plainD "is_range" 20, plainD "is_kind" 21, plainD "rises" 22, plainD "is_named_rows" 23, plainD "is_form" 24, plainD "path_word" 27, plainD "expression_words" 28, plainD "expression_text" 29, plainD "kind_text" 30, plainD "form_text" 31, plainD "operations_for" 40, plainD "small_words" 41, plainD "number_or_none" 42, plainD "integer_or_none" 43, plainD "name_or_none" 44, plainD "path_or_none" 45, plainD "kind_or_none" 48, plainD "_law_feed" 52, plainD "_law_draw" 53, plainD "_law_schema" 54, plainD "_law_ordered" 55, plainD "_law_heard" 56, plainD "_law_free_path" 57, plainD "_law_free_leaf" 58, plainD "_law_free_condition" 59, plainD "_law_free_number" 60, plainD "_law_free_link" 61, plainD "_law_free_any" 62, plainD "_law_spoilt" 63, plainD "_law_any_right" 64, plainD "_law_written_right" 65, plainD "_law_parts_right" 66, plainD "_law_word_right" 67, plainD "_law_forms_right" 68, plainD "law" 69, kwD "read_expression" 47, kwD "read_kind" 49]
def fnL1 : List He.DefD := [kwD "read_form" 50, methD "__init__" 0, methD "require" 1, methD "present" 2, methD "take" 3, methD "small_part" 4, methD "part" 5]
def fnL : List He.DefD := fnL0 ++ fnL1
/-- two tables are one only if the defs are one -/
def apartB (K : PySem.W.Frag) : Bool := tfL.all fun p => tfL.all fun r => !decide ((He.cT K p).2 = (He.cT K r).2) || decide (p.1 = r.1)
structure ExT (P : Program) (K : PySem.W.Frag) : Prop where
  sa : (decide (PySem.W.findIn K (.ref (He.ga K "InvalidText")) "__setattr__" = some (some (.builtin "object.__setattr__")))) = true
  noR : (decide (PySem.W.findIn K (.ref (He.ga K "InvalidText")) "row" = some none)) = true
  noF : (decide (PySem.W.findIn K (.ref (He.ga K "InvalidText")) "field" = some none)) = true
  nw : (decide (PySem.W.findIn K (.ref (He.ga K "InvalidText")) "word" = some none)) = true
  na : (decide (PySem.W.findIn K (.ref (He.ga K "InvalidText")) "at" = some none)) = true
  nn : (decide (PySem.W.findIn K (.ref (He.ga K "InvalidText")) "number" = some none)) = true
  np : (decide (PySem.W.findIn K (.ref (He.ga K "InvalidText")) "path" = some none)) = true
  hk : (decide (PySem.W.findIn K (.ref (He.ga K "InvalidText")) "__getattr__" = some none)) = true
  iC : (decide (PySem.W.findIn K (.ref (He.ga K "InvalidText")) "__init__" = some (some (.ref (He.fAd K ("InvalidText", some "__init__")))))) = true
  hg : (decide (PySem.W.findIn K (.ref (He.ga K "InvalidText")) "__getattribute__" = some (some (.builtin "BaseException.__getattribute__")))) = true
  ha : (decide (PySem.W.findIn K (.ref (He.ga K "InvalidText")) "__class__" = some (some (.builtin "object.__class__")))) = true
  tI : (decide (PySem.W.typeIn K (.ref (He.fAd K ("InvalidText", some "__init__"))) = some (.type "function"))) = true
  tyC : (decide (PySem.W.typeIn K (.ref (He.ga K "InvalidText")) = some (.type "type"))) = true
  kC : (PySem.W.keepIn K (.ref (He.ga K "InvalidText"))) = true
  exC : (decide (PySem.W.subIn K (.ref (He.ga K "InvalidText")) (.type "BaseException") = some true)) = true
  veC : (decide (PySem.W.subIn K (.ref (He.ga K "InvalidText")) (.type "ValueError") = some true)) = true
  su : (decide (PySem.W.ks_superIn K (He.ga K "InvalidText") (He.ga K "InvalidText") "__init__" = some (some (.builtin "ValueError.__init__")))) = true
  mro : (decide (PySem.W.mroIn K (He.ga K "InvalidText") (.ref (He.ga K "InvalidText")) = some true)) = true
  hm : (decide (PySem.W.mroIn K (He.ga K "InvalidText") (.type "object") = some true)) = true
  any : (decide (PySem.W.nsIn K cStatics "thirdparty.any" = some none)) = true
  hn : (decide (PySem.W.specialIn K (.builtin "object.__class__") "__get__" = some (some (.builtin "getset_descriptor.__get__")))) = true
  ht : (decide (PySem.W.takesIn K (.builtin "object.__class__") = some true)) = true
  hd : (PySem.W.hasDictIn K (He.ga K "InvalidText")) = true
  clo : (itCls K (He.ga K "InvalidText")) = true
  fno : (itFn P K (He.ga K "InvalidText") (He.fAd K ("InvalidText", some "__init__"))) = true
  k1 : (decide (PySem.W.kitOne K (.ref (He.ga K "InvalidText")) (.ref (He.ga K "PaperError")) = some false)) = true
  k2 : (decide (PySem.W.kitOne K (.ref (He.ga K "InvalidText")) (.ref (He.ga K "StoreError")) = some false)) = true
  k3 : (decide (PySem.W.kitOne K (.ref (He.ga K "InvalidText")) (.ref (He.ga K "TextError")) = some true)) = true
  k4 : (decide (PySem.W.kitOne K (.ref (He.ga K "InvalidText")) (.ref (He.ga K "InvalidPaper")) = some false)) = true
  k5 : (decide (PySem.W.kitOne K (.ref (He.ga K "InvalidText")) (.ref (He.ga K "UnknownObject")) = some false)) = true
  k6 : (decide (PySem.W.kitOne K (.ref (He.ga K "InvalidText")) (.ref (He.ga K "UnfitExpression")) = some false)) = true
  k7 : (decide (PySem.W.kitOne K (.ref (He.ga K "InvalidText")) (.ref (He.ga K "InvalidText")) = some true)) = true
  lateX : (decide (PySem.W.exmOne K (.ref (He.ga K "InvalidText")) (.ref (He.ga K "LateError")) = some true)) = true
  oK : (decide (PySem.W.kitAny K (.ref (He.ga K "InvalidText")) [.ref (He.ga K "InvalidStep"), .ref (He.ga K "GoneCell"), .ref (He.ga K "NothingToUndo"), .ref (He.ga K "InvalidPace"), .ref (He.ga K "InvalidCommand")] = some false)) = true
  p1 : (dicP K (He.ga K "NUMBER_OPERATIONS") [("+", (He.ga K "TWO_NUMBERS")), ("-", (He.ga K "TWO_NUMBERS")), ("*", (He.ga K "TWO_NUMBERS")), ("least", (He.ga K "TWO_NUMBERS")), ("most", (He.ga K "TWO_NUMBERS")), ("if", (dAt K (He.ga K "NUMBER_OPERATIONS") "if"))]) = true
  p2 : (dicP K (He.ga K "CONDITION_OPERATIONS") [("<", (He.ga K "TWO_NUMBERS")), ("=", (He.ga K "TWO_NUMBERS")), ("not", (dAt K (He.ga K "CONDITION_OPERATIONS") "not")), ("and", (dAt K (He.ga K "CONDITION_OPERATIONS") "and"))]) = true
  p3 : (dicP K (He.ga K "LINK_OPERATIONS") [("if", (dAt K (He.ga K "LINK_OPERATIONS") "if"))]) = true
  s2 : (tupP K (He.ga K "TWO_NUMBERS") (dueS [.num, .num])) = true
  s3 : (tupP K (dAt K (He.ga K "NUMBER_OPERATIONS") "if") (dueS [.con, .num, .num])) = true
  s1 : (tupP K (dAt K (He.ga K "CONDITION_OPERATIONS") "not") (dueS [.con])) = true
  s4 : (tupP K (dAt K (He.ga K "CONDITION_OPERATIONS") "and") (dueS [.con, .con])) = true
  s5 : (tupP K (dAt K (He.ga K "LINK_OPERATIONS") "if") (dueS [.con, .lnk, .lnk])) = true
  apart : (apartB K) = true
def exB (P : Program) (K : PySem.W.Frag) : Bool := (decide (PySem.W.findIn K (.ref (He.ga K "InvalidText")) "__setattr__" = some (some (.builtin "object.__setattr__")))) && ((decide (PySem.W.findIn K (.ref (He.ga K "InvalidText")) "row" = some none)) && ((decide (PySem.W.findIn K (.ref (He.ga K "InvalidText")) "field" = some none)) && ((decide (PySem.W.findIn K (.ref (He.ga K "InvalidText")) "word" = some none)) && ((decide (PySem.W.findIn K (.ref (He.ga K "InvalidText")) "at" = some none)) && ((decide (PySem.W.findIn K (.ref (He.ga K "InvalidText")) "number" = some none)) && ((decide (PySem.W.findIn K (.ref (He.ga K "InvalidText")) "path" = some none)) && ((decide (PySem.W.findIn K (.ref (He.ga K "InvalidText")) "__getattr__" = some none)) && ((decide (PySem.W.findIn K (.ref (He.ga K "InvalidText")) "__init__" = some (some (.ref (He.fAd K ("InvalidText", some "__init__")))))) && ((decide (PySem.W.findIn K (.ref (He.ga K "InvalidText")) "__getattribute__" = some (some (.builtin "BaseException.__getattribute__")))) && ((decide (PySem.W.findIn K (.ref (He.ga K "InvalidText")) "__class__" = some (some (.builtin "object.__class__")))) && ((decide (PySem.W.typeIn K (.ref (He.fAd K ("InvalidText", some "__init__"))) = some (.type "function"))) && ((decide (PySem.W.typeIn K (.ref (He.ga K "InvalidText")) = some (.type "type"))) && ((PySem.W.keepIn K (.ref (He.ga K "InvalidText"))) && ((decide (PySem.W.subIn K (.ref (He.ga K "InvalidText")) (.type "BaseException") = some true)) && ((decide (PySem.W.subIn K (.ref (He.ga K "InvalidText")) (.type "ValueError") = some true)) && ((decide (PySem.W.ks_superIn K (He.ga K "InvalidText") (He.ga K "InvalidText") "__init__" = some (some (.builtin "ValueError.__init__")))) && ((decide (PySem.W.mroIn K (He.ga K "InvalidText") (.ref (He.ga K "InvalidText")) = some true)) && ((decide (PySem.W.mroIn K (He.ga K "InvalidText") (.type "object") = some true)) && ((decide (PySem.W.nsIn K cStatics "thirdparty.any" = some none)) && ((decide (PySem.W.specialIn K (.builtin "object.__class__") "__get__" = some (some (.builtin "getset_descriptor.__get__")))) && ((decide (PySem.W.takesIn K (.builtin "object.__class__") = some true)) && ((PySem.W.hasDictIn K (He.ga K "InvalidText")) && ((itCls K (He.ga K "InvalidText")) && ((itFn P K (He.ga K "InvalidText") (He.fAd K ("InvalidText", some "__init__"))) && ((decide (PySem.W.kitOne K (.ref (He.ga K "InvalidText")) (.ref (He.ga K "PaperError")) = some false)) && ((decide (PySem.W.kitOne K (.ref (He.ga K "InvalidText")) (.ref (He.ga K "StoreError")) = some false)) && ((decide (PySem.W.kitOne K (.ref (He.ga K "InvalidText")) (.ref (He.ga K "TextError")) = some true)) && ((decide (PySem.W.kitOne K (.ref (He.ga K "InvalidText")) (.ref (He.ga K "InvalidPaper")) = some false)) && ((decide (PySem.W.kitOne K (.ref (He.ga K "InvalidText")) (.ref (He.ga K "UnknownObject")) = some false)) && ((decide (PySem.W.kitOne K (.ref (He.ga K "InvalidText")) (.ref (He.ga K "UnfitExpression")) = some false)) && ((decide (PySem.W.kitOne K (.ref (He.ga K "InvalidText")) (.ref (He.ga K "InvalidText")) = some true)) && ((decide (PySem.W.exmOne K (.ref (He.ga K "InvalidText")) (.ref (He.ga K "LateError")) = some true)) && ((decide (PySem.W.kitAny K (.ref (He.ga K "InvalidText")) [.ref (He.ga K "InvalidStep"), .ref (He.ga K "GoneCell"), .ref (He.ga K "NothingToUndo"), .ref (He.ga K "InvalidPace"), .ref (He.ga K "InvalidCommand")] = some false)) && ((dicP K (He.ga K "NUMBER_OPERATIONS") [("+", (He.ga K "TWO_NUMBERS")), ("-", (He.ga K "TWO_NUMBERS")), ("*", (He.ga K "TWO_NUMBERS")), ("least", (He.ga K "TWO_NUMBERS")), ("most", (He.ga K "TWO_NUMBERS")), ("if", (dAt K (He.ga K "NUMBER_OPERATIONS") "if"))]) && ((dicP K (He.ga K "CONDITION_OPERATIONS") [("<", (He.ga K "TWO_NUMBERS")), ("=", (He.ga K "TWO_NUMBERS")), ("not", (dAt K (He.ga K "CONDITION_OPERATIONS") "not")), ("and", (dAt K (He.ga K "CONDITION_OPERATIONS") "and"))]) && ((dicP K (He.ga K "LINK_OPERATIONS") [("if", (dAt K (He.ga K "LINK_OPERATIONS") "if"))]) && ((tupP K (He.ga K "TWO_NUMBERS") (dueS [.num, .num])) && ((tupP K (dAt K (He.ga K "NUMBER_OPERATIONS") "if") (dueS [.con, .num, .num])) && ((tupP K (dAt K (He.ga K "CONDITION_OPERATIONS") "not") (dueS [.con])) && ((tupP K (dAt K (He.ga K "CONDITION_OPERATIONS") "and") (dueS [.con, .con])) && ((tupP K (dAt K (He.ga K "LINK_OPERATIONS") "if") (dueS [.con, .lnk, .lnk])) && ((apartB K)))))))))))))))))))))))))))))))))))))))))))
theorem exT_of {P : Program} {K : PySem.W.Frag} (h : exB P K = true) : ExT P K := by
  obtain ⟨a_sa, h⟩ := He.ba h
  obtain ⟨a_noR, h⟩ := He.ba h
  obtain ⟨a_noF, h⟩ := He.ba h
  obtain ⟨a_nw, h⟩ := He.ba h
  obtain ⟨a_na, h⟩ := He.ba h
  obtain ⟨a_nn, h⟩ := He.ba h
  obtain ⟨a_np, h⟩ := He.ba h
  obtain ⟨a_hk, h⟩ := He.ba h
  obtain ⟨a_iC, h⟩ := He.ba h
  obtain ⟨a_hg, h⟩ := He.ba h
  obtain ⟨a_ha, h⟩ := He.ba h
  obtain ⟨a_tI, h⟩ := He.ba h
  obtain ⟨a_tyC, h⟩ := He.ba h
  obtain ⟨a_kC, h⟩ := He.ba h
  obtain ⟨a_exC, h⟩ := He.ba h
  obtain ⟨a_veC, h⟩ := He.ba h
  obtain ⟨a_su, h⟩ := He.ba h
  obtain ⟨a_mro, h⟩ := He.ba h
  obtain ⟨a_hm, h⟩ := He.ba h
  obtain ⟨a_any, h⟩ := He.ba h
  obtain ⟨a_hn, h⟩ := He.ba h
  obtain ⟨a_ht, h⟩ := He.ba h
  obtain ⟨a_hd, h⟩ := He.ba h
  obtain ⟨a_clo, h⟩ := He.ba h
  obtain ⟨a_fno, h⟩ := He.ba h
  obtain ⟨a_k1, h⟩ := He.ba h
  obtain ⟨a_k2, h⟩ := He.ba h
  obtain ⟨a_k3, h⟩ := He.ba h
  obtain ⟨a_k4, h⟩ := He.ba h
  obtain ⟨a_k5, h⟩ := He.ba h
  obtain ⟨a_k6, h⟩ := He.ba h
  obtain ⟨a_k7, h⟩ := He.ba h
  obtain ⟨a_lateX, h⟩ := He.ba h
  obtain ⟨a_oK, h⟩ := He.ba h
  obtain ⟨a_p1, h⟩ := He.ba h
  obtain ⟨a_p2, h⟩ := He.ba h
  obtain ⟨a_p3, h⟩ := He.ba h
  obtain ⟨a_s2, h⟩ := He.ba h
  obtain ⟨a_s3, h⟩ := He.ba h
  obtain ⟨a_s1, h⟩ := He.ba h
  obtain ⟨a_s4, h⟩ := He.ba h
  obtain ⟨a_s5, h⟩ := He.ba h
  exact ⟨a_sa, a_noR, a_noF, a_nw, a_na, a_nn, a_np, a_hk, a_iC, a_hg, a_ha, a_tI, a_tyC, a_kC, a_exC, a_veC, a_su, a_mro, a_hm, a_any, a_hn, a_ht, a_hd, a_clo, a_fno, a_k1, a_k2, a_k3, a_k4, a_k5, a_k6, a_k7, a_lateX, a_oK, a_p1, a_p2, a_p3, a_s2, a_s3, a_s1, a_s4, a_s5, h⟩
section
variable {P : Program} {w : World} {K : PySem.W.Frag} {mg : Str → Option Value} {h : Heap}
theorem tx_of (X : K.In h) (G : h.Ns mainGlobals mg) (c : He.SaysD faL fnL K) : Tx K mg where
  b_isinstance := (He.free_ok X G (c.fact 0 (f := .free "isinstance") rfl))
  b_len := (He.free_ok X G (c.fact 1 (f := .free "len") rfl))
  b_all := (He.free_ok X G (c.fact 2 (f := .free "all") rfl))
  b_zip := (He.free_ok X G (c.fact 3 (f := .free "zip") rfl))
  b_str := (He.free_ok X G (c.fact 4 (f := .free "str") rfl))
  b_int := (He.free_ok X G (c.fact 5 (f := .free "int") rfl))
  b_bool := (He.free_ok X G (c.fact 6 (f := .free "bool") rfl))
  b_tuple := (He.free_ok X G (c.fact 7 (f := .free "tuple") rfl))
  b_list := (He.free_ok X G (c.fact 8 (f := .free "list") rfl))
  b_dict := (He.free_ok X G (c.fact 9 (f := .free "dict") rfl))
  b_sorted := (He.free_ok X G (c.fact 10 (f := .free "sorted") rfl))
  b_range := (He.free_ok X G (c.fact 11 (f := .free "range") rfl))
  b_repr := (He.free_ok X G (c.fact 12 (f := .free "repr") rfl))
  c_LETTERS := He.str_ok X G (c.fact 13 (f := .str "LETTERS" "abcdefghijklmnopqrstuvwxyz") rfl)
  c_NONE := He.str_ok X G (c.fact 14 (f := .str "NONE_WORD" "-") rfl)
  c_DIGITS := He.str_ok X G (c.fact 15 (f := .str "DIGITS" "0123456789") rfl)
  c_LONGEST := He.int_ok X G (c.fact 16 (f := .int "LONGEST" 8) rfl)
  c_MOSTD := He.int_ok X G (c.fact 17 (f := .int "MOST_DIGITS" 60) rfl)
  c_MOSTO := He.int_ok X G (c.fact 18 (f := .int "MOST_OPEN" 30) rfl)
  h17 := hs_of (i := 17) (c.def_ 0 (d := plainD "is_integer" 17) rfl) (He.glo_ok X G (c.fact 19 (f := .glo "is_integer") rfl))
  h18 := hs_of (i := 18) (c.def_ 1 (d := plainD "is_name" 18) rfl) (He.glo_ok X G (c.fact 20 (f := .glo "is_name") rfl))
  h19 := hs_of (i := 19) (c.def_ 2 (d := plainD "is_pair" 19) rfl) (He.glo_ok X G (c.fact 21 (f := .glo "is_pair") rfl))
  h20 := hs_of (i := 20) (c.def_ 3 (d := plainD "is_range" 20) rfl) (He.glo_ok X G (c.fact 22 (f := .glo "is_range") rfl))
  h21 := hs_of (i := 21) (c.def_ 4 (d := plainD "is_kind" 21) rfl) (He.glo_ok X G (c.fact 23 (f := .glo "is_kind") rfl))
  h22 := hs_of (i := 22) (c.def_ 5 (d := plainD "rises" 22) rfl) (He.glo_ok X G (c.fact 24 (f := .glo "rises") rfl))
  h23 := hs_of (i := 23) (c.def_ 6 (d := plainD "is_named_rows" 23) rfl) (He.glo_ok X G (c.fact 25 (f := .glo "is_named_rows") rfl))
  h24 := hs_of (i := 24) (c.def_ 7 (d := plainD "is_form" 24) rfl) (He.glo_ok X G (c.fact 26 (f := .glo "is_form") rfl))
  h27 := hs_of (i := 27) (c.def_ 8 (d := plainD "path_word" 27) rfl) (He.glo_ok X G (c.fact 27 (f := .glo "path_word") rfl))
  h28 := hs_of (i := 28) (c.def_ 9 (d := plainD "expression_words" 28) rfl) (He.glo_ok X G (c.fact 28 (f := .glo "expression_words") rfl))
  h29 := hs_of (i := 29) (c.def_ 10 (d := plainD "expression_text" 29) rfl) (He.glo_ok X G (c.fact 29 (f := .glo "expression_text") rfl))
  h30 := hs_of (i := 30) (c.def_ 11 (d := plainD "kind_text" 30) rfl) (He.glo_ok X G (c.fact 30 (f := .glo "kind_text") rfl))
  h31 := hs_of (i := 31) (c.def_ 12 (d := plainD "form_text" 31) rfl) (He.glo_ok X G (c.fact 31 (f := .glo "form_text") rfl))
  h40 := hs_of (i := 40) (c.def_ 13 (d := plainD "operations_for" 40) rfl) (He.glo_ok X G (c.fact 32 (f := .glo "operations_for") rfl))
  h41 := hs_of (i := 41) (c.def_ 14 (d := plainD "small_words" 41) rfl) (He.glo_ok X G (c.fact 33 (f := .glo "small_words") rfl))
  h42 := hs_of (i := 42) (c.def_ 15 (d := plainD "number_or_none" 42) rfl) (He.glo_ok X G (c.fact 34 (f := .glo "number_or_none") rfl))
  h43 := hs_of (i := 43) (c.def_ 16 (d := plainD "integer_or_none" 43) rfl) (He.glo_ok X G (c.fact 35 (f := .glo "integer_or_none") rfl))
  h44 := hs_of (i := 44) (c.def_ 17 (d := plainD "name_or_none" 44) rfl) (He.glo_ok X G (c.fact 36 (f := .glo "name_or_none") rfl))
  h45 := hs_of (i := 45) (c.def_ 18 (d := plainD "path_or_none" 45) rfl) (He.glo_ok X G (c.fact 37 (f := .glo "path_or_none") rfl))
  h48 := hs_of (i := 48) (c.def_ 19 (d := plainD "kind_or_none" 48) rfl) (He.glo_ok X G (c.fact 38 (f := .glo "kind_or_none") rfl))
  h52 := hs_of (i := 52) (c.def_ 20 (d := plainD "_law_feed" 52) rfl) (He.glo_ok X G (c.fact 39 (f := .glo "_law_feed") rfl))
  h53 := hs_of (i := 53) (c.def_ 21 (d := plainD "_law_draw" 53) rfl) (He.glo_ok X G (c.fact 40 (f := .glo "_law_draw") rfl))
  h54 := hs_of (i := 54) (c.def_ 22 (d := plainD "_law_schema" 54) rfl) (He.glo_ok X G (c.fact 41 (f := .glo "_law_schema") rfl))
  h55 := hs_of (i := 55) (c.def_ 23 (d := plainD "_law_ordered" 55) rfl) (He.glo_ok X G (c.fact 42 (f := .glo "_law_ordered") rfl))
  h56 := hs_of (i := 56) (c.def_ 24 (d := plainD "_law_heard" 56) rfl) (He.glo_ok X G (c.fact 43 (f := .glo "_law_heard") rfl))
  h57 := hs_of (i := 57) (c.def_ 25 (d := plainD "_law_free_path" 57) rfl) (He.glo_ok X G (c.fact 44 (f := .glo "_law_free_path") rfl))
  h58 := hs_of (i := 58) (c.def_ 26 (d := plainD "_law_free_leaf" 58) rfl) (He.glo_ok X G (c.fact 45 (f := .glo "_law_free_leaf") rfl))
  h59 := hs_of (i := 59) (c.def_ 27 (d := plainD "_law_free_condition" 59) rfl) (He.glo_ok X G (c.fact 46 (f := .glo "_law_free_condition") rfl))
  h60 := hs_of (i := 60) (c.def_ 28 (d := plainD "_law_free_number" 60) rfl) (He.glo_ok X G (c.fact 47 (f := .glo "_law_free_number") rfl))
  h61 := hs_of (i := 61) (c.def_ 29 (d := plainD "_law_free_link" 61) rfl) (He.glo_ok X G (c.fact 48 (f := .glo "_law_free_link") rfl))
  h62 := hs_of (i := 62) (c.def_ 30 (d := plainD "_law_free_any" 62) rfl) (He.glo_ok X G (c.fact 49 (f := .glo "_law_free_any") rfl))
  h63 := hs_of (i := 63) (c.def_ 31 (d := plainD "_law_spoilt" 63) rfl) (He.glo_ok X G (c.fact 50 (f := .glo "_law_spoilt") rfl))
  h64 := hs_of (i := 64) (c.def_ 32 (d := plainD "_law_any_right" 64) rfl) (He.glo_ok X G (c.fact 51 (f := .glo "_law_any_right") rfl))
  h65 := hs_of (i := 65) (c.def_ 33 (d := plainD "_law_written_right" 65) rfl) (He.glo_ok X G (c.fact 52 (f := .glo "_law_written_right") rfl))
  h66 := hs_of (i := 66) (c.def_ 34 (d := plainD "_law_parts_right" 66) rfl) (He.glo_ok X G (c.fact 53 (f := .glo "_law_parts_right") rfl))
  h67 := hs_of (i := 67) (c.def_ 35 (d := plainD "_law_word_right" 67) rfl) (He.glo_ok X G (c.fact 54 (f := .glo "_law_word_right") rfl))
  h68 := hs_of (i := 68) (c.def_ 36 (d := plainD "_law_forms_right" 68) rfl) (He.glo_ok X G (c.fact 55 (f := .glo "_law_forms_right") rfl))
  h69 := hs_of (i := 69) (c.def_ 37 (d := plainD "law" 69) rfl) (He.glo_ok X G (c.fact 56 (f := .glo "law") rfl))
theorem it_of (X : K.In h) (G : h.Ns mainGlobals mg) (c : He.SaysD faL fnL K) (e : ExT P K) (i : IniOk K) (top0 : (P.main.scope.names.lookup ("super" : Str)).isSome = false) : ItTxt P K mg (He.ga K "InvalidText") (He.fAd K ("InvalidText", some "__init__")) where
  gC := (He.glo_ok X G (c.fact 79 (f := .glo "InvalidText") rfl))
  gS := (He.free_ok X G (c.fact 89 (f := .free "super") rfl))
  cls := itCls_ok e.clo
  fn := itFn_ok i e.fno
  top := top0
  kC := e.kC
  sa := of_decide_eq_true e.sa
  noR := of_decide_eq_true e.noR
  noF := of_decide_eq_true e.noF
  iC := of_decide_eq_true e.iC
  tI := of_decide_eq_true e.tI
  exC := of_decide_eq_true e.exC
  veC := of_decide_eq_true e.veC
  tyC := of_decide_eq_true e.tyC
  su := of_decide_eq_true e.su
  mro := of_decide_eq_true e.mro
  any := of_decide_eq_true e.any
theorem rt_of (X : K.In h) (G : h.Ns mainGlobals mg) (c : He.SaysD faL fnL K) (it : ItTxt P K mg (He.ga K "InvalidText") (He.fAd K ("InvalidText", some "__init__"))) : Rt P K mg (He.ga K "PartReader") (He.ga K "InvalidText") (He.fAd K ("InvalidText", some "__init__")) where
  it := it
  gP := (He.glo_ok X G (c.fact 60 (f := .glo "PartReader") rfl))
  cl := He.cls_ok (c.fact 61 (f := .cls "PartReader") rfl)
  nW := He.noat_ok (c.fact 62 (f := .noat "PartReader" "words") rfl)
  nA := He.noat_ok (c.fact 63 (f := .noat "PartReader" "at") rfl)
  nR := He.noat_ok (c.fact 64 (f := .noat "PartReader" "text_row") rfl)
  nF := He.noat_ok (c.fact 65 (f := .noat "PartReader" "first_field") rfl)
  mI := mk_of (fun_ex (c.def_ 41 (d := methD "__init__" 0) rfl)) (He.mkr_ok (c.fact 66 (f := .mkr "PartReader") rfl))
  m1 := hsm_of (fun_ex (c.def_ 42 (d := methD "require" 1) rfl)) (He.meth_ok (c.fact 67 (f := .meth "PartReader" "require") rfl))
  m2 := hsm_of (fun_ex (c.def_ 43 (d := methD "present" 2) rfl)) (He.meth_ok (c.fact 68 (f := .meth "PartReader" "present") rfl))
  m3 := hsm_of (fun_ex (c.def_ 44 (d := methD "take" 3) rfl)) (He.meth_ok (c.fact 69 (f := .meth "PartReader" "take") rfl))
  m4 := hsm_of (fun_ex (c.def_ 45 (d := methD "small_part" 4) rfl)) (He.meth_ok (c.fact 70 (f := .meth "PartReader" "small_part") rfl))
  m5 := hsm_of (fun_ex (c.def_ 46 (d := methD "part" 5) rfl)) (He.meth_ok (c.fact 71 (f := .meth "PartReader" "part") rfl))
theorem ops_of (X : K.In h) (G : h.Ns mainGlobals mg) (c : He.SaysT faL fnL tsL w K) (e : ExT P K) : Ops K w mg (He.ga K "NUMBER_OPERATIONS") (He.ga K "CONDITION_OPERATIONS") (He.ga K "LINK_OPERATIONS") (He.ga K "TWO_NUMBERS") (dAt K (He.ga K "NUMBER_OPERATIONS") "if") (dAt K (He.ga K "CONDITION_OPERATIONS") "not") (dAt K (He.ga K "CONDITION_OPERATIONS") "and") (dAt K (He.ga K "LINK_OPERATIONS") "if") := by
  have ct := c
  have c := c.d
  exact ⟨(He.glo_ok X G (c.fact 85 (f := .glo "NUMBER_OPERATIONS") rfl)), (He.glo_ok X G (c.fact 86 (f := .glo "CONDITION_OPERATIONS") rfl)), (He.glo_ok X G (c.fact 87 (f := .glo "LINK_OPERATIONS") rfl)), opD_of (ct.tab 0 (t := _) rfl) e.p1 (by show List.Nodup [("+" : Str), "-", "*", "least", "most", "if"]; decide +kernel), opD_of (ct.tab 1 (t := _) rfl) e.p2 (by show List.Nodup [("<" : Str), "=", "not", "and"]; decide +kernel), opD_of (ct.tab 2 (t := _) rfl) e.p3 (by show List.Nodup [("if" : Str)]; decide +kernel), tupP_ok e.s2, tupP_ok e.s3, tupP_ok e.s1, tupP_ok e.s4, tupP_ok e.s5⟩
theorem kin_of (X : K.In h) (G : h.Ns mainGlobals mg) (c : He.SaysD faL fnL K) (e : ExT P K) : Kin K mg (He.ga K "InvalidText") (He.ga K "LateError") (He.ga K "PaperError") (He.ga K "StoreError") (He.ga K "TextError") (He.ga K "InvalidPaper") (He.ga K "UnknownObject") (He.ga K "UnfitExpression") (He.ga K "InvalidText") (He.ga K "InvalidStep") (He.ga K "GoneCell") (He.ga K "NothingToUndo") (He.ga K "InvalidPace") (He.ga K "InvalidCommand") where
  late := (He.glo_ok X G (c.fact 72 (f := .glo "LateError") rfl))
  g1 := (He.glo_ok X G (c.fact 73 (f := .glo "PaperError") rfl))
  g2 := (He.glo_ok X G (c.fact 74 (f := .glo "StoreError") rfl))
  g3 := (He.glo_ok X G (c.fact 75 (f := .glo "TextError") rfl))
  g4 := (He.glo_ok X G (c.fact 76 (f := .glo "InvalidPaper") rfl))
  g5 := (He.glo_ok X G (c.fact 77 (f := .glo "UnknownObject") rfl))
  g6 := (He.glo_ok X G (c.fact 78 (f := .glo "UnfitExpression") rfl))
  g7 := (He.glo_ok X G (c.fact 79 (f := .glo "InvalidText") rfl))
  o1 := (He.glo_ok X G (c.fact 80 (f := .glo "InvalidStep") rfl))
  o2 := (He.glo_ok X G (c.fact 81 (f := .glo "GoneCell") rfl))
  o3 := (He.glo_ok X G (c.fact 82 (f := .glo "NothingToUndo") rfl))
  o4 := (He.glo_ok X G (c.fact 83 (f := .glo "InvalidPace") rfl))
  o5 := (He.glo_ok X G (c.fact 84 (f := .glo "InvalidCommand") rfl))
  lateX := of_decide_eq_true e.lateX
  k1 := of_decide_eq_true e.k1
  k2 := of_decide_eq_true e.k2
  k3 := of_decide_eq_true e.k3
  k4 := of_decide_eq_true e.k4
  k5 := of_decide_eq_true e.k5
  k6 := of_decide_eq_true e.k6
  k7 := of_decide_eq_true e.k7
  oK := of_decide_eq_true e.oK
  ex := ⟨of_decide_eq_true e.hg, of_decide_eq_true e.hk, of_decide_eq_true e.exC, e.hd, of_decide_eq_true e.ha, of_decide_eq_true e.hn, of_decide_eq_true e.ht, of_decide_eq_true e.hm⟩
  xf := ⟨of_decide_eq_true e.hg, of_decide_eq_true e.hk, of_decide_eq_true e.exC, e.hd⟩
  nw := of_decide_eq_true e.nw
  na := of_decide_eq_true e.na
  nn := of_decide_eq_true e.nn
  np := of_decide_eq_true e.np
  nr := of_decide_eq_true e.noR
  nf := of_decide_eq_true e.noF
/-- all that is asked of K -/
structure Says (P : Program) (w : World) (h : Heap) (K : PySem.W.Frag) : Prop where
  x : He.SaysX faL fnL tsL tfL (exB P) w h K
  i : IniOk K
abbrev ttOf (K : PySem.W.Frag) : List (Addr × Str) := tfL.map fun p => ((He.cT K p).2, (p.1 ++ (".<locals>." : Str)) ++ "<lambda>")
theorem lams_of {base : Heap} (tb : ∀ p ∈ tfL.map (He.cT K), LamX.TabB base mg p.1 p.2) (ap : apartB K = true) {x : Str} (hx : (x, none) ∈ tfL) : Lams base mg (ttOf K) x (He.codeOf K (x, none)) := by
  refine ⟨(He.cT K (x, none)).2, tb _ (List.mem_map_of_mem hx), List.mem_map_of_mem (f := fun p : He.Defn => ((He.cT K p).2, (p.1 ++ (".<locals>." : Str)) ++ "<lambda>")) hx, fun r hr e => ?_⟩
  obtain ⟨p, hp, rfl⟩ := List.mem_map.mp hr
  have a := List.all_eq_true.mp (List.all_eq_true.mp ap p hp) (x, none) hx
  have e : (He.cT K p).2 = (He.cT K (x, none)).2 := e
  rw [decide_eq_true e] at a
  have e1 : p.1 = x := of_decide_eq_true (by simpa using a)
  show (p.1 ++ (".<locals>." : Str)) ++ "<lambda>" = _
  rw [e1]
theorem law_facts {l : PySem.W.OpenLaw} (X : K.In h) (G : h.Ns mainGlobals mg) (s : Says l.prog w h K) (top0 : (l.prog.main.scope.names.lookup ("super" : Str)).isSome = false) : Nonempty (LawFacts l w K mg (He.ga K "law") h) := by
  have ct := s.x.t
  have c := ct.d
  have e := exT_of s.x.more
  have T := tx_of X G c
  have it := it_of X G c e s.i top0
  have rt := rt_of X G c it
  have op := ops_of X G ct e
  have ki := kin_of X G c e
  have h47 := hsd_of (i := 47) (c.def_ 38 (d := kwD "read_expression" 47) rfl) (He.glo_ok X G (c.fact 57 (f := .glo "read_expression") rfl))
  have h49 := hsd_of (i := 49) (c.def_ 39 (d := kwD "read_kind" 49) rfl) (He.glo_ok X G (c.fact 58 (f := .glo "read_kind") rfl))
  have h50 := hsd_of (i := 50) (c.def_ 40 (d := kwD "read_form" 50) rfl) (He.glo_ok X G (c.fact 59 (f := .glo "read_form") rfl))
  have h64 := hsc_of (i := 64) (c.def_ 32 (d := plainD "_law_any_right" 64) rfl) (He.glo_ok X G (c.fact 51 (f := .glo "_law_any_right") rfl))
  have h65 := hsc_of (i := 65) (c.def_ 33 (d := plainD "_law_written_right" 65) rfl) (He.glo_ok X G (c.fact 52 (f := .glo "_law_written_right") rfl))
  have h67 := hsc_of (i := 67) (c.def_ 35 (d := plainD "_law_word_right" 67) rfl) (He.glo_ok X G (c.fact 54 (f := .glo "_law_word_right") rfl))
  have h68 := hsc_of (i := 68) (c.def_ 36 (d := plainD "_law_forms_right" 68) rfl) (He.glo_ok X G (c.fact 55 (f := .glo "_law_forms_right") rfl))
  have h69 := hsc_of (i := 69) (c.def_ 37 (d := plainD "law" 69) rfl) (He.glo_ok X G (c.fact 56 (f := .glo "law") rfl))
  have nm := (He.glo_ok X G (c.fact 56 (f := .glo "law") rfl))
  refine ⟨⟨tfL.map (He.cT K), ttOf K, X, fun b hb => ?_, fun b hb => ?_, fun p hp => ?_, fun r hr => ?_, nm, fun base X2 G2 tb => ?_⟩⟩
  · obtain ⟨p, hp, rfl⟩ := List.mem_map.mp hb
    obtain ⟨r, hr, rfl⟩ := List.mem_map.mp hp
    exact s.x.empty r hr
  · obtain ⟨p, hp, rfl⟩ := List.mem_map.mp hb
    obtain ⟨r, hr, rfl⟩ := List.mem_map.mp hp
    exact s.x.out r hr
  · obtain ⟨r, hr, rfl⟩ := List.mem_map.mp hp
    exact s.x.hd r hr
  · obtain ⟨p, hp, rfl⟩ := List.mem_map.mp hr
    exact List.mem_map_of_mem (List.mem_map_of_mem hp)
  · have CRE := cal_read_e (w := w) (base := base) T rt op h47
    have CK := cal_read_k (w := w) (base := base) T it h49
    have CF := cal_read_f (w := w) (base := base) T it h50
    exact cal_law T h69 (cal_written_right T ki h65 (lams_of tb e.apart (by simp [tfL])) CRE) (cal_any_right T ki h64 (lams_of tb e.apart (by simp [tfL])) CRE) (cal_word_right T ki h67 (lams_of tb e.apart (by simp [tfL])) CK CF) (cal_forms_right T ki h68 (lams_of tb e.apart (by simp [tfL])) CK CF)
theorem head_ok {l : PySem.W.OpenLaw} {fa : Addr} {ts : List Addr} (X : K.In h) (T : ∀ b ∈ ts, h.get? b = some tab0) (G : h.Ns mainGlobals mg) (hfa : mg "law" = some (.ref fa)) (a1 : He.obsT faL fnL tsL K = He.valT fnL tsL w) (a2 : exB l.prog K = true)
    (a3 : (tfL.all fun p => PySem.W.codeHdIn K (He.cT K p).1 (He.cT K p).2) = true) (a4 : (tfL.all fun p => (K.lookup (He.cT K p).2).isNone) = true) (a5 : (tfL.all fun p => ts.contains (He.cT K p).2) = true)
    (a6 : He.fnW K ("InvalidText", some "__init__") = some (("__init__" : Str), ("InvalidText.__init__" : Str), iA, FuncBody.stmts iB, iS, mainGlobals, [(("__class__" : Str), ccOf K (He.fAd K ("InvalidText", some "__init__")))], builtinsNs))
    (a7 : (l.prog.main.scope.names.lookup ("super" : Str)).isSome = false) : ∃ K : PySem.W.Frag, Nonempty (LawFacts l w K mg fa h) := by
  have s : Says l.prog w h K := ⟨⟨a1, a2, fun p hp => List.all_eq_true.mp a3 p hp, fun p hp => Option.isNone_iff_eq_none.mp (List.all_eq_true.mp a4 p hp), fun p hp => T _ (List.contains_iff_mem.mp (List.all_eq_true.mp a5 p hp))⟩, a6⟩
  obtain ⟨L⟩ := law_facts (l := l) X G s a7
  have e : He.ga K "law" = fa := by
    have z := L.nm.symm.trans hfa
    cases z
    rfl
  rw [← e]
  exact ⟨K, ⟨L⟩⟩
end
end K12

open PySem PySem.W PyProof.Rows
set_option maxRecDepth 100000 in
set_option maxHeartbeats 0 in
theorem PySem.Challenge.cw_lateforms_k12_whole_texts_there_and_back_holds : PySem.Challenge.rw_lateforms_k12_whole_texts_there_and_back.Holds := by
  w_on; o_law; k_head; (case hw => w_witness2)
  k_fill
  refine K12.law_walk (l := PySem.Challenge.rw_lateforms_k12_whole_texts_there_and_back) rfl rfl (fun w mg fa h Y G hmg => ?_)
  refine K12.head_ok (km_in_of Y) (km_tabs_of Y) G hmg ?a1 ?a2 ?a3 ?a4 ?a5 ?a6 ?a7
  case a1 => kernel_rfl
  case a2 => kernel_rfl
  case a3 => kernel_rfl
  case a4 => kernel_rfl
  case a5 => kernel_rfl
  case a6 => kernel_rfl
  case a7 => kernel_rfl

