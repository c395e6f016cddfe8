import PyProof.Rows.All
import Wide.All
import OpenK.AllK
import Wide.FinOn
import PySem.Challenge.RW_qz0010_01
open PySem PySem.W PyProof.Rows
set_option Elab.async false
set_option compiler.extract_closed false
set_option maxRecDepth 100000
set_option maxHeartbeats 8000000
set_option linter.unusedVariables false
set_option linter.unusedSimpArgs false
namespace Mine
/-- the text without the four statements that name its modules -/
noncomputable abbrev cut (P : Program) {c0 c1 c2 c3 c4 c5 c6 c7 c8 c9 c10 c11 c12 c13 c14 c15 c16 c17 c18 c19 c20 c21 c22 c23 c24 c25 c26 c27 c28 c29 c30 c31 c32 c33 c34 c35 c36 c37 c38 c39 c40 : Stmt} (_ : P.main.body = [c0, c1, c2, c3, c4, c5, c6, c7, c8, c9, c10, c11, c12, c13, c14, c15, c16, c17, c18, c19, c20, c21, c22, c23, c24, c25, c26, c27, c28, c29, c30, c31, c32, c33, c34, c35, c36, c37, c38, c39, c40]) : Program := { P with main := { P.main with body := [c0, c2, c3, c5, c6, c7, c9, c10, c11, c12, c13, c14, c15, c16, c17, c18, c19, c20, c21, c22, c23, c24, c25, c26, c28, c29, c30, c31, c32, c33, c34, c35, c36, c37, c38, c39, c40] } }
noncomputable def vw : Program := cut PySem.Challenge.pw_qz0010_01 rfl
noncomputable abbrev LV : List (Str × WData) := [(Str.ofString "SIMPLE", WData.str (Str.ofString "abcdefghijklmnopqrstuvwxyzABCDEFGHIJKLMNOPQRSTUVWXYZ0123456789~!@$%^&*_-+=<>.?/"))]
local macro_rules | `(tactic| w_on) => `(tactic| skip)
local macro_rules | `(tactic| o_law) => `(tactic| (refine holds_law (by rw [PySem.W.Fast.te9446332074065402090]; decide +kernel) (fun said => ?_)))
local macro_rules | `(tactic| o_head $H) => `(tactic| (refine holds_open (q := vw) (loose := [Str.ofString "SIMPLE"]) (Xt := fun s => xlAt vw LV s && recOk (RowW.records PySem.Challenge.rw_qz0010_01.row.toRowW) s) (XP := XL vw LV) (Yf := Hook.obs $H) (Ya := Hook.val $H) (YP := Hook.says $H) (N := 4260) ?hl (Hook.of $H) (Hook.keeps $H) (fun s e => xl_of s (Bool.and_eq_true_iff.mp e).1) XL.keeps (by rfl) (by rfl) (by rfl) (fun s e => recFacts_of (Bool.and_eq_true_iff.mp e).2) (by rfl) (by first | assumption | decide +kernel) (by decide +kernel) ⟨rfl, rfl, rfl, rfl, rfl, by decide +kernel⟩ ?hw ?hc; (case hl => (intro w; unfold PySem.W.openEnds PySem.W.fencedOpening PySem.W.topFrom; rw [PySem.W.Fast.te14082659384304107361, PySem.W.Fast.te8920871248978507458, PySem.W.Fast.te5923862056798008813, PySem.W.Fast.te10274390034422433532, PySem.W.Fast.te1435165496053646825, PySem.W.Fast.te14289696077712309145, PySem.W.Fast.te14364793385576792824, PySem.W.Fast.te4187177175401517315]; kernel_rfl))))
open_top hd for PySem.Challenge.rw_qz0010_01
end Mine
open PySem PySem.W PyProof.Rows PySem.Spec PySem.Calls
namespace Mine
local macro_rules | `(tactic| walk_at $s:str) => `(tactic| k_extra $s)
local macro_rules | `(tactic| k_all) => `(tactic| assumption)
/-! QPure -/
/-- the signs from place p on -/
noncomputable def sfx (T : Str) (p : Nat) : List Nat := T.cps.toList.drop p
noncomputable def inS (S : Str) (c : Nat) : Bool := S.cps.toList.contains c
noncomputable def runEnd (T S : Str) (p : Nat) : Nat := p + ((sfx T p).takeWhile (inS S)).length
noncomputable def runStr (T S : Str) (p : Nat) : Str := ⟨((sfx T p).takeWhile (inS S)).toArray⟩
theorem sfx_cons {T : Str} {p : Nat} (h : p < T.length) : ∃ c, sfx T p = c :: sfx T (p + 1) ∧ T.cps.toList[p]? = some c := by
  have h' : p < T.cps.toList.length := by simpa [Str.length] using h
  exact ⟨T.cps.toList[p], List.drop_eq_getElem_cons h', List.getElem?_eq_getElem h'⟩
theorem sfx_nil {T : Str} {p : Nat} (h : T.length ≤ p) : sfx T p = [] := List.drop_eq_nil_of_le (by simpa [Str.length] using h)
theorem sfx_len (T : Str) (p : Nat) : (sfx T p).length = T.length - p := by simp [sfx, Str.length]
theorem item_at {T : Str} {p : Nat} {c : Nat} (h : T.cps.toList[p]? = some c) : Txt.item T (p : Int) = ⟨#[c]⟩ := by
  have hlt : p < T.cps.size := by
    obtain ⟨h, _⟩ := List.getElem?_eq_some_iff.mp h
    simpa using h
  unfold Txt.item Txt.charAt
  rw [StrLaws.at_nonneg (n := c) (by omega) (by simpa using h)]
  rfl
theorem in_item {S : Str} {c : Nat} : (Builtin.Str.occurrences S ⟨#[c]⟩ 0 S.length 1).isEmpty = !inS S c := by
  have := StrLaws.found_one S c
  cases h : (Builtin.Str.occurrences S ⟨#[c]⟩ 0 S.length 1).isEmpty <;> simp_all [inS]
theorem run_stop {T S : Str} {p : Nat} (h : T.length ≤ p) : runEnd T S p = p := by simp [runEnd, sfx_nil h]
theorem run_out {T S : Str} {p : Nat} (h : p < T.length) (hn : (Builtin.Str.occurrences S (Txt.item T (p : Int)) 0 S.length 1).isEmpty = true) : runEnd T S p = p := by
  obtain ⟨c, h1, h2⟩ := sfx_cons h
  rw [item_at h2, in_item] at hn
  simp only [Bool.not_eq_true'] at hn
  simp [runEnd, h1, hn]
theorem run_in {T S : Str} {p : Nat} (h : p < T.length) (hn : (Builtin.Str.occurrences S (Txt.item T (p : Int)) 0 S.length 1).isEmpty = false) : runEnd T S (p + 1) = runEnd T S p := by
  obtain ⟨c, h1, h2⟩ := sfx_cons h
  rw [item_at h2, in_item] at hn
  simp only [Bool.not_eq_false'] at hn
  simp [runEnd, h1, hn]; omega
theorem run_le (T S : Str) (p : Nat) (h : p ≤ T.length) : runEnd T S p ≤ T.length := by
  have := (List.takeWhile_sublist (inS S) (l := sfx T p)).length_le
  rw [sfx_len] at this
  unfold runEnd; omega
theorem slice_nat (x : Str) {a b : Nat} (hab : a ≤ b) (hb : b ≤ x.length) : Txt.slice x (some (a : Int)) (some (b : Int)) = ⟨((sfx x a).take (b - a)).toArray⟩ := StrLaws.sliceText_nat x hab hb
theorem slice_run (T S : Str) (p : Nat) (h : p ≤ T.length) : Txt.slice T (some (p : Int)) (some (runEnd T S p : Int)) = runStr T S p := by
  rw [slice_nat T (by unfold runEnd; omega) (run_le T S p h)]
  unfold runStr runEnd
  congr 2
  rw [Nat.add_sub_cancel_left]
  have : ∀ l : List Nat, l.take (l.takeWhile (inS S)).length = l.takeWhile (inS S) := by
    intro l
    induction l with
    | nil => rfl
    | cons a l ih =>
      rw [List.takeWhile_cons]
      split
      · simp [ih]
      · simp
  exact this _
theorem run_len (T S : Str) (p : Nat) : (runStr T S p).length = runEnd T S p - p := by simp [runStr, runEnd, Str.length]
noncomputable def signAt (T : Str) (p : Int) : Str := if p < T.length then Txt.item T p else Str.ofString ""
noncomputable abbrev SIMP : Str := Str.ofString "abcdefghijklmnopqrstuvwxyzABCDEFGHIJKLMNOPQRSTUVWXYZ0123456789~!@$%^&*_-+=<>.?/"
noncomputable abbrev DIGI : Str := Str.ofString "0123456789"
noncomputable abbrev HEXD : Str := Str.ofString "0123456789abcdefABCDEF"
theorem sign_some {T : Str} {p c : Nat} (h : T.cps.toList[p]? = some c) : signAt T (p : Int) = ⟨#[c]⟩ := by
  have hlt : p < T.length := by
    obtain ⟨h, _⟩ := List.getElem?_eq_some_iff.mp h
    simpa [Str.length] using h
  rw [signAt, if_pos (by omega), item_at h]
theorem sign_none {T : Str} {p : Nat} (h : T.length ≤ p) : signAt T (p : Int) = ⟨#[]⟩ := by
  rw [signAt, if_neg (by omega)]
  decide +kernel
theorem sign_cases (T : Str) (p : Nat) : (T.length ≤ p ∧ T.cps.toList[p]? = none ∧ signAt T (p : Int) = ⟨#[]⟩) ∨ ∃ c, p < T.length ∧ T.cps.toList[p]? = some c ∧ signAt T (p : Int) = ⟨#[c]⟩ := by
  by_cases h : p < T.length
  · obtain ⟨c, _, h2⟩ := sfx_cons h
    exact .inr ⟨c, h, h2, sign_some h2⟩
  · refine .inl ⟨by omega, ?_, sign_none (by omega)⟩
    exact List.getElem?_eq_none (by simp [Str.length] at h ⊢; omega)
noncomputable def free (T : Str) (p : Nat) : Prop := ∀ c, T.cps.toList[p]? = some c → inS SIMP c = false
theorem free_no {T : Str} {p : Nat} (h : free T p) (h1 : (signAt T (p : Int) != Str.ofString "") = true) (h2 : (Builtin.Str.occurrences SIMP (signAt T (p : Int)) 0 SIMP.length 1).isEmpty = false) : False := by
  rcases sign_cases T p with ⟨_, _, e⟩ | ⟨c, _, e, e'⟩
  · rw [e] at h1
    exact absurd h1 (by decide +kernel)
  · rw [e', in_item, h c e] at h2
    cases h2
theorem sfx_of {T : Str} {p c : Nat} (h : T.cps.toList[p]? = some c) : sfx T p = c :: sfx T (p + 1) := by
  obtain ⟨hlt, e⟩ := List.getElem?_eq_some_iff.mp h
  have := List.drop_eq_getElem_cons hlt
  rw [e] at this
  exact this
theorem run_ge {T S : Str} {p c : Nat} (h : T.cps.toList[p]? = some c) (hc : inS S c = true) : p + 1 ≤ runEnd T S p := by
  unfold runEnd
  rw [sfx_of h, List.takeWhile_cons, if_pos hc, List.length_cons]; omega
theorem run_first {T S : Str} {p c : Nat} (h : T.cps.toList[p]? = some c) (hc : inS S c = true) : Txt.item (runStr T S p) 0 = ⟨#[c]⟩ := by
  have e : runStr T S p = ⟨(c :: (sfx T (p + 1)).takeWhile (inS S)).toArray⟩ := by
    unfold runStr
    rw [sfx_of h, List.takeWhile_cons, if_pos hc]
  rw [e]
  exact item_at (p := 0) (c := c) (by simp)
theorem eq_empty {x : Str} (h : (x == Str.ofString "") = true) : x.length = 0 := by
  have : x = Str.ofString "" := by simpa using h
  rw [this]; decide +kernel
theorem allLt_all {d : Addr} : ∀ {l : List (Addr × Obj)}, AllLt d l → ∀ x ∈ l, x.1 < d
  | [], _, _, h => nomatch h
  | _ :: _, ⟨h, _⟩, _, .head _ => h
  | _ :: _, ⟨_, r⟩, _, .tail _ m => allLt_all r _ m
theorem not_true_of {b : Bool} (h : b = false) : ¬ b = true := by rw [h]; exact Bool.false_ne_true
noncomputable abbrev RES : List Str := [Str.ofString "!", Str.ofString "_", Str.ofString "as", Str.ofString "BINARY", Str.ofString "DECIMAL", Str.ofString "exists", Str.ofString "forall", Str.ofString "HEXADECIMAL", Str.ofString "let", Str.ofString "match", Str.ofString "NUMERAL", Str.ofString "par", Str.ofString "STRING"]
noncomputable def resQ (N : Str) : Str := if N ∈ RES then Str.ofString "|" ++ N ++ Str.ofString "|" else N
noncomputable def digV (c : Int) : Int := Txt.find HEXD ⟨#[c.toNat]⟩
noncomputable def valF (base : Int) (l : List Int) : Int := l.foldl (fun a c => a * base + digV c) 0
theorem valF_snoc (base : Int) (l : List Int) (c : Int) : valF base (l ++ [c]) = valF base l * base + digV c := by simp [valF]
theorem cast1 (a : Nat) : (a : Int) + 1 = ((a + 1 : Nat) : Int) := rfl
theorem cast2 (a : Nat) : (a : Int) + 2 = ((a + 2 : Nat) : Int) := rfl
/-- every double quote twice -/
noncomputable def dbl : List Nat → List Nat
  | [] => []
  | c :: r => if c = 34 then 34 :: 34 :: dbl r else c :: dbl r
noncomputable abbrev QUO : Str := Str.ofString "\""
theorem dbl_free {u : List Nat} (h : 34 ∉ u) (r : List Nat) : dbl (u ++ r) = u ++ dbl r := by
  induction u with
  | nil => rfl
  | cons a u ih =>
    have h1 : a ≠ 34 := fun e => h (e ▸ .head _)
    have h2 : 34 ∉ u := fun e => h (.tail _ e)
    show (if a = 34 then _ else a :: dbl (u ++ r)) = _
    rw [if_neg h1, ih h2]; rfl
theorem split34 (r : List Nat) : 34 ∉ r ∨ ∃ u r', 34 ∉ u ∧ r = u ++ 34 :: r' := by
  induction r with
  | nil => exact .inl (by simp)
  | cons a r ih =>
    by_cases h : a = 34
    · exact .inr ⟨[], r, by simp, by rw [h]; rfl⟩
    · rcases ih with h' | ⟨u, r', h1, h2⟩
      · exact .inl (by simp [Ne.symm h, h'])
      · exact .inr ⟨a :: u, r', by simp [Ne.symm h, h1], by rw [h2]; rfl⟩
/-- the first place of a sign from a place on -/
theorem find3_at {T : Str} {c q : Nat} {u B : List Nat} (h : sfx T q = u ++ c :: B) (hu : c ∉ u) : Txt.find3 T ⟨#[c]⟩ (q : Int) = ((q + u.length : Nat) : Int) := by
  have hat : ∀ k, T.cps.toList[q + k]? = (u ++ c :: B)[k]? := fun k => by rw [← h]; simp [sfx, List.getElem?_drop]
  have hlen : T.length = q + (u.length + 1 + B.length) := by
    have := sfx_len T q
    rw [h] at this
    simp at this
    by_cases hq : q ≤ T.length
    · omega
    · omega
  have hget : ∀ k, k < u.length → ∀ x, T.cps.toList[q + k]? = some x → x ≠ c := fun k hk x hx e => by
    rw [hat k, List.getElem?_append_left hk] at hx
    exact hu (e ▸ List.mem_of_getElem? hx)
  have hfrom : PySem.fromIndex T.length (q : Int) = q := by
    unfold PySem.fromIndex; omega
  have hD : ∀ v, v < T.length → T.cps.toList[v]? = some (T.cps.getD v 0) := fun v hv => by
    have : v < T.cps.size := hv
    simp [Array.getD, this]
  rcases StrLaws.find3_spec T c (q : Int) with ⟨_, hn⟩ | ⟨k, e, h1, h2, h3, h4⟩
  · rw [hfrom] at hn
    have hlt : q + u.length < T.length := by omega
    refine absurd ?_ (hn (q + u.length) (by omega) hlt)
    have := hD _ hlt
    rw [hat, List.getElem?_append_right (Nat.le_refl _)] at this
    simpa using this.symm
  · rw [hfrom] at h1 h4
    rw [e]
    have a1 : ¬ k < q + u.length := fun hk => by
      have := hD k h2
      rw [h3] at this
      have e2 : q + (k - q) = k := by omega
      rw [← e2] at this
      exact hget (k - q) (by omega) c this rfl
    have a2 : ¬ q + u.length < k := fun hk => by
      refine h4 (q + u.length) (by omega) hk ?_
      have := hD (q + u.length) (by omega)
      rw [hat, List.getElem?_append_right (Nat.le_refl _)] at this
      simpa using this.symm
    omega
theorem sfx_add (T : Str) (q k : Nat) : sfx T (q + k) = (sfx T q).drop k := by simp [sfx, List.drop_drop]
theorem at_sfx {T : Str} {q c : Nat} {B : List Nat} (h : sfx T q = c :: B) : T.cps.toList[q]? = some c := by
  have : (sfx T q)[0]? = some c := by rw [h]; rfl
  simpa [sfx, List.getElem?_drop] using this
theorem join_flat (ys : List Str) : Txt.join (Str.ofString "") ys = ⟨(ys.flatMap (·.cps.toList)).toArray⟩ := by
  have e0 : Str.ofString "" = Str.empty := by decide +kernel
  have key : ∀ (l : List Str) (a : Array Nat), l.foldl (fun acc p => acc ++ (Str.ofString "").cps ++ p.cps) a = a ++ (l.flatMap (·.cps.toList)).toArray := by
    intro l
    induction l with
    | nil => intro a; simp
    | cons x l ih =>
      intro a
      rw [List.foldl_cons, ih, e0]
      apply Array.ext'
      simp [Str.empty]
  unfold Txt.join Builtin.Str.glued
  cases ys with
  | nil => rfl
  | cons x l =>
    rw [List.drop_one, List.tail_cons, key]
    apply Str.ext'
    apply Array.ext'
    simp
theorem dbl_len : ∀ l : List Nat, l.length ≤ (dbl l).length
  | [] => Nat.le_refl _
  | c :: r => by
    have := dbl_len r
    show _ ≤ (if c = 34 then 34 :: 34 :: dbl r else c :: dbl r).length
    split <;> simp <;> omega
theorem run_1000 {T S : Str} {p : Nat} (h : T.length ≤ 1000) : (runStr T S p).length ≤ 1000 := by
  refine Nat.le_trans ?_ h
  show (List.toArray _).size ≤ _
  rw [List.size_toArray]
  refine Nat.le_trans (List.takeWhile_sublist _).length_le ?_
  rw [sfx_len]
  exact Nat.sub_le _ _
theorem dig_at {c : Nat} (h : inS DIGI c = true) : 48 ≤ c ∧ c ≤ 57 := by
  have H : ∀ x ∈ DIGI.cps.toList, 48 ≤ x ∧ x ≤ 57 := by decide +kernel
  exact H c (List.contains_iff_mem.mp h)
theorem sim_at {c : Nat} (h : inS SIMP c = true) : c ≠ 34 ∧ c ≠ 124 ∧ c ≠ 58 ∧ c ≠ 35 := by
  refine ⟨?_, ?_, ?_, ?_⟩ <;> (intro e; subst e; revert h; decide +kernel)
theorem sg_ne {c : Nat} {x : Str} (h : x.length ≠ 1 := by decide +kernel) : ((⟨#[c]⟩ : Str) == x) = false := by
  rw [beq_eq_false_iff_ne]
  intro e
  exact h (by rw [← e]; rfl)
theorem sg_ne2 {c c' : Nat} {x : Str} (h : x = ⟨#[c']⟩) (hn : c ≠ c') : ((⟨#[c]⟩ : Str) == x) = false := by
  rw [h, beq_eq_false_iff_ne]
  intro e
  exact hn (by injection e with e; simpa using e)
/-! QLs1 -/
/-- what may stand behind an item -/
noncomputable def stopB (b : List Nat) : Bool := match b with | [] => true | c :: _ => !inS SIMP c && c != 34
theorem stop_simp {b : List Nat} (h : stopB b = true) : ∀ c, b.head? = some c → inS SIMP c = false := by
  intro c hc
  cases b with
  | nil => cases hc
  | cons d r =>
    cases hc
    simp [stopB] at h
    exact h.1
theorem stop_quo {b : List Nat} (h : stopB b = true) : b.head? ≠ some 34 := by
  intro hc
  cases b with
  | nil => cases hc
  | cons d r =>
    cases hc
    simp [stopB] at h
theorem tw_stop {f : Nat → Bool} : ∀ {s b : List Nat}, (∀ c ∈ s, f c = true) → (∀ c, b.head? = some c → f c = false) → (s ++ b).takeWhile f = s
  | [], [], _, _ => rfl
  | [], c :: b, _, h => by
    show List.takeWhile f (c :: b) = []
    rw [List.takeWhile_cons, h c rfl]; rfl
  | c :: s, b, h, hb => by
    show List.takeWhile f (c :: (s ++ b)) = c :: s
    rw [List.takeWhile_cons, if_pos (h c (.head _)), tw_stop (fun d hd => h d (.tail _ hd)) hb]
theorem run_cat {T S : Str} {p : Nat} {s b : List Nat} (h : sfx T p = s ++ b) (hs : ∀ c ∈ s, inS S c = true) (hb : ∀ c, b.head? = some c → inS S c = false) : runStr T S p = ⟨s.toArray⟩ ∧ runEnd T S p = p + s.length := by
  unfold runStr runEnd
  rw [h, tw_stop hs hb]
  exact ⟨rfl, rfl⟩
theorem sfx_tl {T : Str} {p c : Nat} {l : List Nat} (h : sfx T p = c :: l) : sfx T (p + 1) = l := by rw [sfx_add, h]; rfl
theorem sfx_dr {T : Str} {p : Nat} {s b : List Nat} (h : sfx T p = s ++ b) : sfx T (p + s.length) = b := by
  rw [sfx_add, h, List.drop_left]
theorem at_head {T : Str} {q : Nat} : T.cps.toList[q]? = (sfx T q).head? := by
  rw [sfx, List.head?_drop]
theorem free_of {T : Str} {q : Nat} {b : List Nat} (h : sfx T q = b) (hb : stopB b = true) : free T q := by
  intro c hc
  rw [at_head, h] at hc
  exact stop_simp hb c hc
theorem sub_hex {c : Nat} (h : inS HEXD c = true) : inS SIMP c = true := by
  have : ∀ c ∈ HEXD.cps.toList, inS SIMP c = true := by decide +kernel
  exact this c (by simpa [inS] using h)
theorem sub_dig {c : Nat} (h : inS DIGI c = true) : inS SIMP c = true := by
  have : ∀ c ∈ DIGI.cps.toList, inS SIMP c = true := by decide +kernel
  exact this c (by simpa [inS] using h)
theorem sub_bin {c : Nat} (h : inS (Str.ofString "01") c = true) : inS SIMP c = true := by
  have : ∀ c ∈ (Str.ofString "01").cps.toList, inS SIMP c = true := by decide +kernel
  exact this c (by simpa [inS] using h)
theorem stop_of {b : List Nat} {S : Str} (hb : stopB b = true) (hS : ∀ c, inS S c = true → inS SIMP c = true) : ∀ c, b.head? = some c → inS S c = false := by
  intro c hc
  have := stop_simp hb c hc
  cases h : inS S c with
  | false => rfl
  | true => rw [hS c h] at this; cases this
theorem sfx_cat (F S B : Str) : sfx (F ++ S ++ B) F.length = S.cps.toList ++ B.cps.toList := by
  have : (F ++ S ++ B).cps.toList = F.cps.toList ++ (S.cps.toList ++ B.cps.toList) := by
    show (F.cps ++ S.cps ++ B.cps).toList = _
    simp
  rw [sfx, this]
  have h : F.length = F.cps.toList.length := by simp [Str.length]
  rw [h, List.drop_left]
theorem sfx_zero (W : Str) : sfx W 0 = W.cps.toList ++ [] := by simp [sfx]
theorem sfx_le {T : Str} {p : Nat} {l : List Nat} (h : sfx T p = l) (hl : l ≠ []) : p + l.length = T.length := by
  have := sfx_len T p
  rw [h] at this
  by_cases hp : T.length ≤ p
  · rw [sfx_nil hp] at h; exact absurd h.symm hl
  · omega
theorem find_no {N : Str} {c : Nat} (h : c ∉ N.cps.toList) : Txt.find N ⟨#[c]⟩ = -1 := by
  have := StrLaws.found_one N c
  rw [decide_eq_false h] at this
  unfold Txt.find
  cases e : Builtin.Str.occurrences N ⟨#[c]⟩ 0 N.length 1 with
  | nil => rfl
  | cons i l => rw [e] at this; cases this
theorem find3_no {T : Str} {q c : Nat} {l : List Nat} (h : sfx T q = l) (hc : c ∉ l) : Txt.find3 T ⟨#[c]⟩ (q : Int) = -1 := by
  rcases StrLaws.find3_spec T c (q : Int) with ⟨e, _⟩ | ⟨k, e, h1, h2, h3, h4⟩
  · exact e
  · exfalso
    have hk : T.cps.toList[k]? = some c := by
      have : k < T.cps.size := h2
      simp [Array.getD, this] at h3
      simp [this, h3]
    by_cases hq : q ≤ k
    · have : l[k - q]? = some c := by
        rw [← h, sfx, List.getElem?_drop, show q + (k - q) = k by omega]; exact hk
      exact hc (List.mem_of_getElem? this)
    · unfold PySem.fromIndex at h1
      omega
/-! QBase -/
noncomputable abbrev RW := PySem.Challenge.rw_qz0010_01
noncomputable abbrev PR := PySem.Challenge.rw_qz0010_01.row.prog
noncomputable abbrev LS : List Str := looseW vw [Str.ofString "SIMPLE"]
/-- what every call of a def of the text may lean on -/
structure At (w : World) (mean : ExcName → Option Value) (mg mb : Str → Option Value) (cs : Scope) (outer : List Env) (A₀ : Around) (base h₀ : Heap) : Prop where
  B : Below A₀ base outer h₀
  X : (hd.heap_1 w.params).In h₀
  T : Top vw LS mean mg mb h₀
  hk : cs.kind = .function
/-- a call of the def at f with these values, over this ledger, at a depth of at most D and U, hands back what Post says and leaves the ledger that Post says -/
noncomputable def Says (w : World) (D U : Nat) (f : Addr) (vs : List Value) (news : List (Addr × Obj)) (Post : Value → List (Addr × Obj) → Prop) : Prop :=
  ∀ (mean : ExcName → Option Value) (mg mb : Str → Option Value) (gd : Option (List Code)) (cn : Str) (cs : Scope) (a : Addr) (ccd : Value) (cl : List (Str × Addr)) (outer : List Env) (A₀ : Around) (base h₀ : Heap) (L : Addr) (m : Str → Option Value) (hS : Heap) (gS : Array GenState) (dS : PySem.Drawn) (oS : OsState) (tS : Nat) (Q E : Value → Shared → Prop),
    At w mean mg mb cs outer A₀ base h₀ → Fr h₀ L hS m → News h₀ L hS news →
    (∀ r news' h' tk', Fr h₀ L h' m → News h₀ L h' news' → Post r news' → Q r ⟨h', gS, dS, tk', oS⟩) →
    wpAny (model PR w) (ktrTop D U gd cn cs L a ccd cl outer) (call (.ref f) vs) Q E ⟨hS, gS, dS, tS, oS⟩
theorem shallower {α : Type} {M : Model} {D U dp un : Nat} {gd : Option (List Code)} {cn : Str} {cs : Scope} {L a : Addr} {ccd : Value} {cl : List (Str × Addr)} {outer : List Env} {t : Sem α} {Q : α → Shared → Prop} {E : Value → Shared → Prop} {s : Shared}
    (h : wpAny M (ktrTop D U gd cn cs L a ccd cl outer) t Q E s) (hd : dp ≤ D) (hu : un ≤ U) : wpAny M (ktrTop dp un gd cn cs L a ccd cl outer) t Q E s :=
  fun Γ p hΓ => h Γ p ⟨hΓ.1, Nat.le_trans hΓ.2.1 hd, hΓ.2.2.1, hΓ.2.2.2.1, Nat.le_trans hΓ.2.2.2.2 hu⟩
theorem anyTok {α : Type} {M : Model} {A : Around} {t : Sem α} {Q : α → Shared → Prop} {E : Value → Shared → Prop} {hS : Heap} {gS : Array GenState} {dS : PySem.Drawn} {oS : OsState} {k n : Nat} (H : ∀ k, wpAny M A t Q E ⟨hS, gS, dS, k, oS⟩) : wpAny M A t Q E ⟨hS, gS, dS, k + n, oS⟩ := H _
noncomputable def Stuck (P : Prop) : Prop := P
theorem add_le {prog : Program} {w : World} {A : Around} {E : Value → Shared → Prop} {s : Shared} {x y : Str} {t u : Tok} {Q : Value → Shared → Prop} {K L : Nat} (hx : x.length ≤ K) (hy : y.length ≤ L) (hs : K + L ≤ 16777216) (h : ∀ t' k, (x ++ y).length ≤ K + L → Q (.str (x ++ y) t') { s with toks := k }) :
    wpAny (model prog w) A (binaryOp .Add (.str x t) (.str y u)) Q E s := KXadd.add hx hy hs fun t' k f => h t' k (Nat.le_trans f.2 (Nat.add_le_add hx hy))
theorem dot_le : (Str.ofString ".").length ≤ 1 := by decide
theorem stuck {P : Prop} (h : Stuck P) : P := h
section
variable {w : World} {D U : Nat} {f : Addr} {vs : List Value} {news : List (Addr × Obj)} {Post : Value → List (Addr × Obj) → Prop}
theorem says_use {dp un : Nat} {mean : ExcName → Option Value} {mg mb : Str → Option Value} {gd : Option (List Code)} {cn : Str} {cs : Scope} {a : Addr} {ccd : Value} {cl : List (Str × Addr)} {outer : List Env} {A₀ : Around} {base h₀ : Heap} {L : Addr} {m : Str → Option Value} {hS : Heap} {gS : Array GenState} {dS : PySem.Drawn} {oS : OsState} {tS : Nat} {Q E : Value → Shared → Prop}
    (F : Fr h₀ L hS m) (N : News h₀ L hS news) (HS : Says w D U f vs news Post) (B : Below A₀ base outer h₀) (X : (hd.heap_1 w.params).In h₀) (T : Top vw LS mean mg mb h₀) (hk : cs.kind = .function) (hd : dp ≤ D) (hu : un ≤ U)
    (ret : ∀ r news' h' tk', Fr h₀ L h' m → News h₀ L h' news' → Post r news' → Q r ⟨h', gS, dS, tk', oS⟩) :
    wpAny (model PR w) (ktrTop dp un gd cn cs L a ccd cl outer) (call (.ref f) vs) Q E ⟨hS, gS, dS, tS, oS⟩ :=
  shallower (HS mean mg mb gd cn cs a ccd cl outer A₀ base h₀ L m hS gS dS oS tS Q E ⟨B, X, T, hk⟩ F N ret) hd hu
end
theorem says_go {K : (Value → List (Addr × Obj) → Prop) → Prop} {w : World} {D U : Nat} {f : Addr} {vs : List Value} {news : List (Addr × Obj)} {Post : Value → List (Addr × Obj) → Prop} {dp un : Nat} {mean : ExcName → Option Value} {mg mb : Str → Option Value} {gd : Option (List Code)} {cn : Str} {cs : Scope} {a : Addr} {ccd : Value} {cl : List (Str × Addr)} {outer : List Env} {A₀ : Around} {base h₀ : Heap} {L : Addr} {m : Str → Option Value} {hS : Heap} {gS : Array GenState} {dS : PySem.Drawn} {oS : OsState} {tS : Nat} {Q E : Value → Shared → Prop}
    (F : Fr h₀ L hS m) (N : News h₀ L hS news) (HS : Says w D U f vs news Post) (el : ∀ P : Value → List (Addr × Obj) → Prop, K P → ∀ r n, Post r n → P r n) (B : Below A₀ base outer h₀) (X : (hd.heap_1 w.params).In h₀) (T : Top vw LS mean mg mb h₀) (hk : cs.kind = .function) (hd : dp ≤ D) (hu : un ≤ U)
    (ret : K fun r n => ∀ h' tk', Fr h₀ L h' m → News h₀ L h' n → Q r ⟨h', gS, dS, tk', oS⟩) :
    wpAny (model PR w) (ktrTop dp un gd cn cs L a ccd cl outer) (call (.ref f) vs) Q E ⟨hS, gS, dS, tS, oS⟩ :=
  says_use F N HS B X T hk hd hu fun r n h' tk' f g p => el (fun r n => ∀ h' tk', Fr h₀ L h' m → News h₀ L h' n → Q r ⟨h', gS, dS, tk', oS⟩) ret r n p h' tk' f g
theorem el0 {V : Value} {NN : List (Addr × Obj)} (P : Value → List (Addr × Obj) → Prop) (k : P V NN) (r : Value) (n : List (Addr × Obj)) (h : r = V ∧ n = NN) : P r n := h.1 ▸ h.2 ▸ k
theorem el1 {V : Tok → Value} {NN : List (Addr × Obj)} (P : Value → List (Addr × Obj) → Prop) (k : ∀ t, P (V t) NN) (r : Value) (n : List (Addr × Obj)) (h : ∃ t, r = V t ∧ n = NN) : P r n :=
  let ⟨t, h1, h2⟩ := h
  h1 ▸ h2 ▸ k t
theorem el2 {V : Tok → Value} {NN : Tok → List (Addr × Obj)} {A B C : Prop} (P : Value → List (Addr × Obj) → Prop) (k : ∀ t u, A → B → C → P (V t) (NN u)) (r : Value) (n : List (Addr × Obj)) (h : ∃ t u, r = V t ∧ A ∧ B ∧ C ∧ n = NN u) : P r n :=
  let ⟨t, u, h1, a, b, c, h2⟩ := h
  h1 ▸ h2 ▸ k t u a b c
theorem elD {A B : Int → Prop} {C : Obj → Prop} {NN : Obj → List (Addr × Obj)} (P : Value → List (Addr × Obj) → Prop) (k : ∀ d t o, A d → B d → C o → P (.int d t) (NN o)) (r : Value) (n : List (Addr × Obj)) (h : ∃ d t o, r = .int d t ∧ A d ∧ B d ∧ C o ∧ n = NN o) : P r n :=
  let ⟨d, t, o, h1, a, b, c, h2⟩ := h
  h1 ▸ h2 ▸ k d t o a b c
theorem elT {A : Addr → Prop} {NN : Addr → Tok → Tok → List (Addr × Obj)} (P : Value → List (Addr × Obj) → Prop) (k : ∀ q t u, A q → P (.ref q) (NN q t u)) (r : Value) (n : List (Addr × Obj)) (h : ∃ q t u, r = .ref q ∧ A q ∧ n = NN q t u) : P r n :=
  let ⟨q, t, u, h1, a, h2⟩ := h
  h1 ▸ h2 ▸ k q t u a
theorem says_less {w : World} {D U D' U' : Nat} {f : Addr} {vs : List Value} {news : List (Addr × Obj)} {Post : Value → List (Addr × Obj) → Prop} (H : Says w D U f vs news Post) (hd : D' ≤ D) (hu : U' ≤ U) : Says w D' U' f vs news Post :=
  fun _ _ _ _ _ _ _ _ _ _ _ _ _ _ _ _ _ _ _ _ _ _ ha hf hn hr => shallower (H _ _ _ _ _ _ _ _ _ _ _ _ _ _ _ _ _ _ _ _ _ _ ha hf hn hr) hd hu
/-- a scanner on the ledger -/
noncomputable abbrev scanD (w : World) (da : Addr) (T : Str) (t k1 k2 : Tok) (p : Int) (tp : Tok) : Addr × Obj :=
  (da, dictOf [{ hash := PyData.keyHash w.params (Str.ofString "text"), key := Value.str (Str.ofString "text") k1, val := Value.str T t }, { hash := PyData.keyHash w.params (Str.ofString "spot"), key := Value.str (Str.ofString "spot") k2, val := Value.int p tp }] 2)
theorem fill_done {P : Prop} (_ : P) : True := trivial
theorem fr_eq {h₀ h : Heap} {L : Addr} {m m' : Str → Option Value} (F : Fr h₀ L h m) (e : ∀ z, m' z = m z) : Fr h₀ L h m' := by
  have : m' = m := funext e
  exact this ▸ F
/-- an item that is no list -/
inductive Item where
  | sym (x : Str)
  | str (x : Str)
  | key (x : Str)
  | bits (n w : Int)
  | num (n : Int)
  | dec (a b : Int)
noncomputable abbrev tupO (vs : List Value) : Obj := { cls := .type "tuple", data := .seq vs.toArray }
/-- how an item lies as objects of its own -/
noncomputable def itemL : Item → Addr → List (Addr × Obj) → Prop
  | .sym x, q, own => ∃ t1 t2, own = [(q, tupO [.str (Str.ofString "sym") t1, .str x t2])]
  | .str x, q, own => ∃ t1 t2, own = [(q, tupO [.str (Str.ofString "str") t1, .str x t2])]
  | .key x, q, own => ∃ t1 t2, own = [(q, tupO [.str (Str.ofString "key") t1, .str x t2])]
  | .bits n w, q, own => ∃ t1 t2 t3, own = [(q, tupO [.str (Str.ofString "bits") t1, .int n t2, .int w t3])]
  | .num n, q, own => ∃ t1 t2, own = [(q, tupO [.str (Str.ofString "num") t1, .int n t2])]
  | .dec a b, q, own => ∃ q' t1 t2 t3, q' < q ∧ own = [(q, tupO [.str (Str.ofString "dec") t1, .ref q']), (q', tupO [.int a t2, .int b t3])]
noncomputable def Made (it : Item) (base : List (Addr × Obj)) (r : Value) (news' : List (Addr × Obj)) : Prop :=
  ∃ q own, r = .ref q ∧ itemL it q own ∧ (∀ x ∈ own, ∀ y ∈ base, y.1 < x.1) ∧ news' = own ++ base
theorem elM {it : Item} {base : Tok → List (Addr × Obj)} (P : Value → List (Addr × Obj) → Prop) (k : ∀ u q own, itemL it q own → (∀ x ∈ own, ∀ y ∈ base u, y.1 < x.1) → P (.ref q) (own ++ base u)) (r : Value) (n : List (Addr × Obj)) (h : ∃ u, Made it (base u) r n) : P r n :=
  let ⟨u, q, own, h1, a, b, h2⟩ := h
  h1 ▸ h2 ▸ k u q own a b
theorem made_one {it : Item} {base : List (Addr × Obj)} {q : Addr} {o : Obj} (hi : itemL it q [(q, o)]) (h : ∀ y ∈ base, y.1 < q) : Made it base (.ref q) ((q, o) :: base) :=
  ⟨q, _, rfl, hi, fun x hx => by simp only [List.mem_cons, List.not_mem_nil, or_false] at hx; subst hx; exact h, rfl⟩
theorem in_tup {prog : Program} {w : World} {A : Around} {E : Value → Shared → Prop} {s : Shared} {t : Addr} {l : List Value} {ys : List Str} {x : Str} {u : Tok} {Q : Value → Shared → Prop} (ht : IsTup s.heap t l.toArray) (hi : StrsAre l ys)
    (h : Q (.bool (ys.any (· == x))) s) : wpAny (model prog w) A (compareOp .In (.str x u) (.ref t)) Q E s := in_tuple_strs ht hi h
theorem res_in {N : Str} (h : (RES.any fun x => x == N) = true) : resQ N = Str.ofString "|" ++ N ++ Str.ofString "|" := by
  have : N ∈ RES := by
    obtain ⟨x, hx, e⟩ := List.any_eq_true.mp h
    rw [← show x = N by simpa using e]; exact hx
  rw [resQ, if_pos this]
theorem res_out {N : Str} (h : (RES.any fun x => x == N) = false) : resQ N = N := by
  have : ¬ N ∈ RES := fun hm => by
    have := List.any_eq_false.mp h N hm
    simp at this
  rw [resQ, if_neg this]
theorem news_drop {h₀ h : Heap} {L : Addr} {x : Addr × Obj} {l : List (Addr × Obj)} (N : News h₀ L h (x :: l)) : News h₀ L h l := fun p hp => N p (.tail _ hp)
theorem news_rot {h₀ h : Heap} {L : Addr} {x a b : Addr × Obj} {l : List (Addr × Obj)} (N : News h₀ L h (x :: a :: b :: l)) : News h₀ L h (a :: b :: x :: l) := fun p hp => N p (by
  simp only [List.mem_cons] at hp ⊢
  rcases hp with hp | hp | hp | hp <;> simp [hp])
theorem news_out3 {h₀ h : Heap} {L : Addr} {x a b y : Addr × Obj} {l : List (Addr × Obj)} (N : News h₀ L h (x :: a :: b :: y :: l)) : News h₀ L h (x :: a :: b :: l) := fun p hp => N p (by
  simp only [List.mem_cons] at hp ⊢
  rcases hp with hp | hp | hp | hp <;> simp [hp])
theorem news_back {h₀ h : Heap} {L : Addr} {x a b : Addr × Obj} {l : List (Addr × Obj)} (N : News h₀ L h (a :: b :: x :: l)) : News h₀ L h (x :: a :: b :: l) := fun p hp => N p (by
  simp only [List.mem_cons] at hp ⊢
  rcases hp with hp | hp | hp | hp <;> simp [hp])
theorem news_out1 {h₀ h : Heap} {L : Addr} {x y : Addr × Obj} {l : List (Addr × Obj)} (N : News h₀ L h (x :: y :: l)) : News h₀ L h (x :: l) := fun p hp => N p (by
  simp only [List.mem_cons] at hp ⊢
  rcases hp with hp | hp <;> simp [hp])
theorem news_in {h₀ h : Heap} {L : Addr} {a b : Addr × Obj} {own l : List (Addr × Obj)} (N : News h₀ L h (own ++ a :: b :: l)) : News h₀ L h (a :: b :: (own ++ l)) := fun p hp => N p (by
  simp only [List.mem_cons, List.mem_append] at hp ⊢
  rcases hp with hp | hp | hp | hp <;> simp [hp])
theorem news_out2 {h₀ h : Heap} {L : Addr} {x a b : Addr × Obj} {l : List (Addr × Obj)} (N : News h₀ L h (x :: a :: b :: l)) : News h₀ L h (x :: l) := news_out1 (news_out1 N)
theorem news_rot2 {h₀ h : Heap} {L : Addr} {x y a b : Addr × Obj} {l : List (Addr × Obj)} (N : News h₀ L h (x :: y :: a :: b :: l)) : News h₀ L h (a :: b :: x :: y :: l) := fun p hp => N p (by
  simp only [List.mem_cons] at hp ⊢
  rcases hp with hp | hp | hp | hp | hp <;> simp [hp])
theorem news_rot3 {h₀ h : Heap} {L : Addr} {x y z a b : Addr × Obj} {l : List (Addr × Obj)} (N : News h₀ L h (x :: y :: z :: a :: b :: l)) : News h₀ L h (a :: b :: x :: y :: z :: l) := fun p hp => N p (by
  simp only [List.mem_cons] at hp ⊢
  rcases hp with hp | hp | hp | hp | hp | hp <;> simp [hp])
theorem getD_len {l : List Str} {i : Nat} {d N : Str} (h : l.getD i d = N) (hl : ((d :: l).all fun x => decide (x.length ≤ 8)) = true) : N.length ≤ 8 := by
  have : N ∈ d :: l := by
    rw [← h, List.getD_eq_getElem?_getD]
    cases q : l[i]? with
    | none => exact .head _
    | some x => exact .tail _ (List.mem_of_getElem? q)
  simpa using List.all_eq_true.mp hl N this
theorem of_lt3 {d : Int} (h0 : 0 ≤ d) (h1 : d < 3) : d = 0 ∨ d = 1 ∨ d = 2 := by omega
theorem allLt_up {d : Addr} {l : List (Addr × Obj)} (h : AllLt d l) : (∀ p ∈ l, p.1 ≠ d + 1) ∧ (∀ p ∈ l, p.1 ≠ d + 1 + 1) ∧ (∀ p ∈ l, p.1 ≠ d + 1 + 1 + 1) :=
  ⟨fun p hp => Nat.ne_of_lt (Nat.lt_of_lt_of_le (allLt_all h p hp) (Nat.le_add_right _ 1)), fun p hp => Nat.ne_of_lt (Nat.lt_of_lt_of_le (allLt_all h p hp) (Nat.le_add_right _ 2)), fun p hp => Nat.ne_of_lt (Nat.lt_of_lt_of_le (allLt_all h p hp) (Nat.le_add_right _ 3))⟩
/-! QSign -/
theorem setSign : True := by
  k_with_none
  (k_with "execs cons" => first | (k_here; k_made; walk_at "execs cons") | (k_here; (with_reducible refine wpAny_execs_cons ?_); (try dsimp only); (try (with_reducible refine anyTok ?_); intro tk9); (try k_fold)))
  (k_with "enter" => ((rename At _ _ _ _ _ _ _ _ _ => HA9); (have B9 := HA9.B); (have X9 := HA9.X); (have T9 := HA9.T); (have hk9 := HA9.hk); clear HA9; (refine wpAny_call ?_); (k_dflt ktr_enter)))
  (k_with "ite" => (k_here; first
    | refine ite_pos (by first | omega | ((simp only [decide_eq_true_eq, beq_iff_eq, bne_iff_ne, ne_eq, Bool.not_eq_true', decide_eq_false_iff_not]); omega)) ?_
    | refine ite_neg (by first | omega | ((simp only [decide_eq_true_eq, beq_iff_eq, bne_iff_ne, ne_eq, Bool.not_eq_true', decide_eq_false_iff_not]); omega)) ?_))
  (k_with "binaryOp FloorDiv int int" => (k_here; refine floordiv_int (by omega) ?_))
  (k_with "last subscriptTail" => (k_here; (with_reducible show wpAny _ _ (subscriptTail _ _ (Value.str _ _) (Value.int _ _)) _ _ _); k_dflt (refine' item_str (by (unfold fitsSsize; simp; omega)) (by omega) (by omega) ?_; k_whole); intro _))
  trivial
theorem sign_says (w : World) (sa da : Addr) (T : Str) (t k1 k2 tp : Tok) (pI : Int) (p : Nat) (rest : List (Addr × Obj)) (hpI : pI = (p : Int)) (hp1 : p ≤ T.length) (hT : T.length ≤ 1000) :
    Says w 900 900 135 [.ref sa] ((sa, instObj 201 da) :: scanD w da T t k1 k2 pI tp :: rest)
      (fun r news' => ∃ t', r = .str (signAt T p) t' ∧ news' = (sa, instObj 201 da) :: scanD w da T t k1 k2 pI tp :: rest) := by
  subst hpI
  intro mean mg mb gd cn cs a ccd cl outer A₀ base h₀ L m hS gS dS oS tS Q E HA F N hret
  walk_at "enter"
  k_steps
  · have e : Txt.item T (p : Int) = signAt T (p : Int) := by rw [signAt, if_pos (by omega)]
    exact hret _ _ _ _ (by k_asm) (by k_asm) ⟨_, congrArg (fun x => Value.str x _) e, rfl⟩
  · have e : Str.ofString "" = signAt T (p : Int) := by rw [signAt, if_neg (by omega)]
    exact hret _ _ _ _ (by k_asm) (by k_asm) ⟨_, congrArg (fun x => Value.str x _) e, rfl⟩
/-! QRun -/
theorem setRun : True := by
  k_with_none
  (k_with "execs cons" => first | (k_here; k_made; walk_at "execs cons") | (k_here; (with_reducible refine wpAny_execs_cons ?_); (try dsimp only); (try (with_reducible refine anyTok ?_); intro tk9); (try k_fold)))
  (k_with "enter" => ((rename At _ _ _ _ _ _ _ _ _ => HA9); (have B9 := HA9.B); (have X9 := HA9.X); (have T9 := HA9.T); (have hk9 := HA9.hk); clear HA9; (refine wpAny_call ?_); (k_dflt ktr_enter)))
  (k_with "ite" => (k_here; first
    | refine ite_pos (by first | omega | ((simp only [decide_eq_true_eq, beq_iff_eq, bne_iff_ne, ne_eq, Bool.not_eq_true', decide_eq_false_iff_not]); omega)) ?_
    | refine ite_neg (by first | omega | ((simp only [decide_eq_true_eq, beq_iff_eq, bne_iff_ne, ne_eq, Bool.not_eq_true', decide_eq_false_iff_not]); omega)) ?_))
  (k_with "binaryOp FloorDiv int int" => (k_here; refine floordiv_int (by omega) ?_))
  (k_with "last subscriptTail" => (k_here; (with_reducible show wpAny _ _ (subscriptTail _ _ (Value.str _ _) (Value.int _ _)) _ _ _); k_dflt (refine' item_str (by (unfold fitsSsize; simp; omega)) (by omega) (by omega) ?_; k_whole); intro _))
  (k_with "exec While BoolOp" => (refine stuck ?_))
  (k_with "exec While BoolOp cons nil" => (refine stuck ?_))
  trivial
theorem run_says (w : World) (sa da : Addr) (T S : Str) (t k1 k2 tp ts : Tok) (pI : Int) (p : Nat) (rest : List (Addr × Obj)) (hpI : pI = (p : Int)) (hp1 : p ≤ T.length) (hT : T.length ≤ 1000)
  (hr1 : ∀ q ∈ rest, q.1 ≠ sa) (hr2 : ∀ q ∈ rest, q.1 ≠ da) (hsd : @Ne Nat sa da) :
    Says w 900 900 149 [.ref sa, .str S ts] ((sa, instObj 201 da) :: scanD w da T t k1 k2 pI tp :: rest)
      (fun r news' => ∃ t' tp', r = .str (runStr T S p) t' ∧ p ≤ runEnd T S p ∧ runEnd T S p ≤ T.length ∧ (runStr T S p).length = runEnd T S p - p ∧ news' = (sa, instObj 201 da) :: scanD w da T t k1 k2 (runEnd T S p) tp' :: rest) := by
  subst hpI
  intro mean mg mb gd cn cs a ccd cl outer A₀ base h₀ L m hS gS dS oS tS Q E HA F N hret
  walk_at "enter"
  k_steps
  (rename Fr _ _ _ _ => F9)
  (rename News _ _ _ _ => N9)
  (with_unfolding_all refine' While_inv2 (fun n m₁ nx => m₁ = _ ∧ ∃ (q : Nat) (tq : Tok), q ≤ T.length ∧ n = T.length - q ∧ runEnd T S q = runEnd T S p ∧ nx = (sa, instObj 201 da) :: scanD w da T t k1 k2 q tq :: rest) F9 N9 ⟨rfl, p, tp, hp1, rfl, rfl, rfl⟩ ?turn)
  case turn =>
    clear F9 N9
    rintro n m₁ nx h₁ tk₁ F1 N1 ⟨rfl, q, tq, hq1, rfl, hq2, rfl⟩
    (try dsimp only)
    k_steps
    · have e : runEnd T S q = q := run_out (by omega) (by assumption)
      have e2 : runEnd T S p = q := hq2.symm.trans e
      have e3 := slice_run T S p hp1
      rw [e2] at e3
      exact hret _ _ _ _ (by k_asm) (by k_asm) ⟨_, tq, congrArg (fun x => Value.str x _) e3, by unfold runEnd; omega, run_le T S p hp1, run_len T S p, by rw [e2]⟩
    · refine ⟨_, _, _, _, T.length - (q + 1), rfl, by k_asm, by k_asm, by omega, rfl, q + 1, _, by omega, rfl, ?_, rfl⟩
      rw [run_in (by omega) (by assumption), hq2]
    · have e : runEnd T S q = q := run_stop (by omega)
      have e2 : runEnd T S p = q := hq2.symm.trans e
      have e3 := slice_run T S p hp1
      rw [e2] at e3
      exact hret _ _ _ _ (by k_asm) (by k_asm) ⟨_, tq, congrArg (fun x => Value.str x _) e3, by unfold runEnd; omega, run_le T S p hp1, run_len T S p, by rw [e2]⟩
/-! QEnds -/
theorem setEnds : True := by
  k_with_none
  (k_with "execs cons" => first | (k_here; k_made; walk_at "execs cons") | (k_here; (with_reducible refine wpAny_execs_cons ?_); (try dsimp only); (try (with_reducible refine anyTok ?_); intro tk9); (try k_fold)))
  (k_with "enter" => ((rename At _ _ _ _ _ _ _ _ _ => HA9); (have B9 := HA9.B); (have X9 := HA9.X); (have T9 := HA9.T); (have hk9 := HA9.hk); clear HA9; (refine wpAny_call ?_); (k_dflt ktr_enter)))
  (k_with "ite" => (k_here; first
    | refine ite_pos (by first | omega | ((simp only [decide_eq_true_eq, beq_iff_eq, bne_iff_ne, ne_eq, Bool.not_eq_true', decide_eq_false_iff_not]); omega)) ?_
    | refine ite_neg (by first | omega | ((simp only [decide_eq_true_eq, beq_iff_eq, bne_iff_ne, ne_eq, Bool.not_eq_true', decide_eq_false_iff_not]); omega)) ?_))
  (k_with "binaryOp FloorDiv int int" => (k_here; refine floordiv_int (by omega) ?_))
  (k_with "call ref" => (k_here; (with_reducible show wpAny _ _ (call (Value.ref 149) _) _ _ _); k_dflt (refine' says_go (by k_asm) (by k_asm) (run_says _ _ _ _ _ _ _ _ _ _ _ _ _ (by exact rfl) (by first | assumption | omega) (by assumption) (by assumption) (by assumption) (by assumption)) el2 (by k_asm) (by k_asm) (by k_asm) (by first | rfl | assumption) (Nat.le_of_ble_eq_true rfl) (Nat.le_of_ble_eq_true rfl) ?_); intro t9 tp9 l9 l8 l7 h9 tk9 F9 N9; (try k_sweep)))
  (k_with "call ref" => (k_here; (with_reducible show wpAny _ _ (call (Value.ref 135) _) _ _ _); k_dflt (refine' says_go (by k_asm) (by k_asm) (sign_says _ _ _ _ _ _ _ _ _ _ _ (by exact rfl) (by first | assumption | omega) (by assumption)) el1 (by k_asm) (by k_asm) (by k_asm) (by first | rfl | assumption) (Nat.le_of_ble_eq_true rfl) (Nat.le_of_ble_eq_true rfl) ?_); intro t9 h9 tk9 F9 N9; (try k_sweep)))
  (k_with "exec Raise some none" => (refine stuck ?_))
  trivial
theorem ends_says (w : World) (sa da : Addr) (T : Str) (t k1 k2 tp tw tb : Tok) (what : Str) (bI : Int) (pI : Int) (p : Nat) (rest : List (Addr × Obj)) (hpI : pI = (p : Int)) (hp1 : p ≤ T.length) (hT : T.length ≤ 1000)
    (hs : free T p) :
    Says w 800 800 156 [.ref sa, .str what tw, .int bI tb] ((sa, instObj 201 da) :: scanD w da T t k1 k2 pI tp :: rest)
      (fun r news' => r = .none ∧ news' = (sa, instObj 201 da) :: scanD w da T t k1 k2 pI tp :: rest) := by
  subst hpI
  intro mean mg mb gd cn cs a ccd cl outer A₀ base h₀ L m hS gS dS oS tS Q E HA F N hret
  walk_at "enter"
  k_steps
  · exact hret _ _ _ _ (by k_asm) (by k_asm) ⟨rfl, rfl⟩
  · exact (free_no hs (by assumption) (by assumption)).elim
  · exact hret _ _ _ _ (by k_asm) (by k_asm) ⟨rfl, rfl⟩
/-! QStr -/
theorem setStr : True := by
  k_with_none
  (k_with "execs cons" => first | (k_here; k_made; walk_at "execs cons") | (k_here; (with_reducible refine wpAny_execs_cons ?_); (try dsimp only); (try (with_reducible refine anyTok ?_); intro tk9)))
  (k_with "enter" => ((rename At _ _ _ _ _ _ _ _ _ => HA9); (have B9 := HA9.B); (have X9 := HA9.X); (have T9 := HA9.T); (have hk9 := HA9.hk); clear HA9; (refine wpAny_call ?_); (k_dflt ktr_enter)))
  (k_with "ite" => (k_here; first
    | refine ite_pos (by with_reducible assumption) ?_
    | refine ite_neg (not_true_of (by with_reducible assumption)) ?_
    | refine ite_pos (by first | omega | ((simp only [decide_eq_true_eq, beq_iff_eq, bne_iff_ne, ne_eq, Bool.not_eq_true', decide_eq_false_iff_not]); omega)) ?_
    | refine ite_neg (by first | omega | ((simp only [decide_eq_true_eq, beq_iff_eq, bne_iff_ne, ne_eq, Bool.not_eq_true', decide_eq_false_iff_not]); omega)) ?_))
  (k_with "binaryOp FloorDiv int int" => (k_here; refine floordiv_int (by omega) ?_))
  (k_with "compareOp In str ref" => (k_here; k_dflt (refine' in_tup (ys := RES) (tupK (Frag.In.keeps (by k_asm) (Fr.keep (by k_asm))) (by k_is)) (by repeat (first | exact StrsAre.nil | refine StrsAre.cons _ _ ?_)) ?_)))
  (k_with "call ref" => (k_here; (with_reducible show wpAny _ _ (call (Value.ref 149) _) _ _ _); k_dflt (refine' says_go (by k_asm) (by first | k_asm | exact news_drop (by k_asm) | exact news_drop (news_drop (by k_asm))) (run_says _ _ _ _ _ _ _ _ _ _ _ _ _ (by first | exact cast1 _ | exact cast2 _ | exact rfl) (by first | assumption | omega) (by assumption) (by assumption) (by assumption) (by assumption)) el2 (by k_asm) (by k_asm) (by k_asm) (by first | rfl | assumption) (Nat.le_of_ble_eq_true rfl) (Nat.le_of_ble_eq_true rfl) ?_); intro t9 tp9 l9 l8 l7 h9 tk9 F9 N9; (try k_sweep)))
  (k_with "call ref" => (k_here; (with_reducible show wpAny _ _ (call (Value.ref 135) _) _ _ _); k_dflt (refine' says_go (by k_asm) (by first | k_asm | exact news_rot (by k_asm)) (sign_says _ _ _ _ _ _ _ _ _ _ _ (by first | exact cast1 _ | exact cast2 _ | exact rfl) (by first | assumption | omega) (by assumption)) el1 (by k_asm) (by k_asm) (by k_asm) (by first | rfl | assumption) (Nat.le_of_ble_eq_true rfl) (Nat.le_of_ble_eq_true rfl) ?_); intro t9 h9 tk9 F9 N9; (try (replace N9 := news_back N9)); (try k_sweep)))
  (k_with "call ref" => (k_here; (with_reducible show wpAny _ _ (call (Value.ref 156) _) _ _ _); k_dflt (refine' says_go (by k_asm) (by first | k_asm | exact news_drop (by k_asm) | exact news_drop (news_drop (by k_asm))) (ends_says _ _ _ _ _ _ _ _ _ _ _ _ _ _ _ (by first | exact cast1 _ | exact cast2 _ | exact rfl) (by first | assumption | omega) (by assumption) (by assumption)) el0 (by k_asm) (by k_asm) (by k_asm) (by first | rfl | assumption) (Nat.le_of_ble_eq_true rfl) (Nat.le_of_ble_eq_true rfl) ?_); intro h9 tk9 F9 N9; (try k_sweep)))
  (k_with "exec Raise some none" => (refine stuck ?_))
  (k_with "exec While Constant cons nil" => (refine stuck ?_))
  (k_with "call builtin:list.append" => (k_here; (with_reducible show wpAny _ _ (call (Value.builtin _) [Value.ref _, _]) _ _ _); k_dflt (refine' append_K (by k_asm) (by k_asm) (by k_upd) ?_ (by (simp only [Array.size_push, List.size_toArray]; rw [sizeLine_eq]; omega)); k_whole); intro h' F' N'; (try k_sweep)))
  trivial
theorem strsAre_len {vs : List Value} {ys : List Str} (h : StrsAre vs ys) : vs.length = ys.length := by
  induction h with
  | nil => rfl
  | cons y t _ ih => rw [List.length_cons, List.length_cons, ih]
structure SS where
  vs : List Value
  ys : List Str
  nn : Nat
  q : Nat
  tq : Tok
  r : List Nat
theorem setStrb : True := by
  (k_with "storeName" => ((rename Txt.find3 _ _ _ = _ => hf9); rw [hf9]))
  trivial
theorem string_says (w : World) (sa da : Addr) (T : Str) (t k1 k2 tp : Tok) (pI : Int) (p : Nat) (rest : List (Addr × Obj)) (hpI : pI = (p : Int)) (hp1 : p < T.length) (hT : T.length ≤ 1000)
  (hr1 : ∀ q ∈ rest, q.1 ≠ sa) (hr2 : ∀ q ∈ rest, q.1 ≠ da) (hsd : @Ne Nat sa da)
    (X : Str) (B : List Nat) (hX : sfx T (p + 1) = dbl X.cps.toList ++ 34 :: B) (hB : B.head? ≠ some 34) :
    Says w 700 700 163 [.ref sa] ((sa, instObj 201 da) :: scanD w da T t k1 k2 pI tp :: rest)
      (fun r news' => ∃ tp', Made (.str X) ((sa, instObj 201 da) :: scanD w da T t k1 k2 ((T.length - B.length : Nat) : Int) tp' :: rest) r news') := by
  subst hpI
  intro mean mg mb gd cn cs a ccd cl outer A₀ base h₀ L m hS gS dS oS tS Q E HA F N hret
  walk_at "enter"
  k_steps
  unfold Stuck
  (rename Fr _ _ _ _ => F9)
  (rename News _ _ _ _ => N9)
  (rename (_ ∧ _ ∧ AllLt _ _) => hl9)
  rename_i la _ _ _ _
  have hr3 : ∀ x ∈ rest, x.1 ≠ la := fun x hx => Nat.ne_of_lt (allLt_all hl9.2.2 x hx)
  have hr4 : @Ne Nat sa la := Nat.ne_of_lt hl9.1
  have hr5 : @Ne Nat da la := Nat.ne_of_lt hl9.2.1
  k_dflt (refine' ksw_while (fun c : SS => (la, W.listOf c.vs.toArray c.nn) :: (sa, instObj 201 da) :: scanD w da T t k1 k2 (c.q : Int) c.tq :: rest) (fun _ => []) (fun c => StrsAre c.vs c.ys ∧ (c.ys.map (·.length)).sum + c.r.length ≤ 1000 ∧ c.ys.length + 2 * c.r.length ≤ 3000) [Str.ofString "quote"] (fun c => c.q ≤ T.length ∧ sfx T c.q = dbl c.r ++ 34 :: B ∧ c.ys.flatMap (·.cps.toList) ++ c.r = X.cps.toList) (fun c => c.r.length) ⟨[], [], 0, p + 1, _, X.cps.toList⟩ F9 N9 ?hf ?hk ?hp ?turn)
  case hf => exact ⟨.nil, by have := sfx_len T (p + 1); rw [hX] at this; have h2 := dbl_len X.cps.toList; simp at this h2 ⊢; omega, by have := sfx_len T (p + 1); rw [hX] at this; have h2 := dbl_len X.cps.toList; simp at this h2 ⊢; omega⟩
  case hk => intro p hp; cases hp
  case hp => exact ⟨by show p + 1 ≤ T.length; omega, hX, by simp⟩
  case turn =>
    clear F9 N9
    rintro ⟨vs, ys, nn, q, tq, r⟩ u h tk ⟨hf1, hf2, hf3⟩ ⟨hq1, hq2, hq3⟩ F1 N1
    (try dsimp only at F1 N1 hf1 hf2 hf3 hq1 hq2 hq3 ⊢)
    have hvs : vs.length ≤ 3000 := by rw [strsAre_len hf1]; omega
    rcases split34 r with h34 | ⟨u, r', h34, rfl⟩
    · have e1 := dbl_free h34 []
      rw [List.append_nil] at e1
      rw [e1, show dbl [] = [] from rfl, List.append_nil] at hq2
      have e2 : Txt.find3 T QUO (q : Int) = ((q + r.length : Nat) : Int) := find3_at hq2 h34
      have hlen := sfx_len T q
      rw [hq2] at hlen
      simp only [List.length_append, List.length_cons] at hlen
      have e3 : (signAt T ((q + r.length + 1 : Nat) : Int) != QUO) = true := by
        have hB' : sfx T (q + r.length + 1) = B := by
          rw [Nat.add_assoc, sfx_add, hq2, ← List.drop_drop, List.drop_left']
          · rfl
          · rfl
        rcases sign_cases T (q + r.length + 1) with ⟨_, _, e⟩ | ⟨c, _, hc, e⟩
        · rw [e]; decide +kernel
        · rw [e]
          have hc' := sfx_of hc
          rw [hB'] at hc'
          have hne : c ≠ 34 := fun h => hB (by rw [hc', h]; rfl)
          have hq : QUO = ⟨#[34]⟩ := by decide +kernel
          rw [hq]
          simp [bne_iff_ne, hne]
      have e4 : Txt.slice T (some (q : Int)) (some ((q + r.length : Nat) : Int)) = ⟨r.toArray⟩ := by
        rw [slice_nat T (by omega) (by omega), hq2, Nat.add_sub_cancel_left, List.take_left']
        rfl
      k_steps
      k_dflt (refine' join_list (ys := ys ++ [⟨r.toArray⟩]) (News.isList (by k_asm) (by k_mem)) ?hi ?hok ?_)
      case hi =>
        show StrsAre (vs.toArray.push (Value.str (Txt.slice T (some (q : Int)) (some ((q + r.length : Nat) : Int))) _)).toList _
        rw [e4]
        simpa using hf1.append' (.cons _ _ .nil)
      case hok =>
        rw [show (Str.ofString "").length = 0 by decide +kernel]
        simp [Str.length] at hf2 ⊢
        omega
      intro t9 k9
      rw [join_flat]
      k_steps
      (rename (_ < _ ∧ _ ∧ _ ∧ AllLt _ _) => hl)
      (rename News _ _ _ _ => N9)
      have e5 : (⟨((ys ++ [(⟨r.toArray⟩ : Str)]).flatMap (·.cps.toList)).toArray⟩ : Str) = X := by
        apply Str.ext'
        apply Array.ext'
        rw [← hq3]
        simp
      have e6 : ((q + r.length : Nat) : Int) + 1 = ((T.length - B.length : Nat) : Int) := by omega
      rw [e5, e6] at N9
      exact hret _ _ _ _ (by k_asm) (news_out1 N9) ⟨_, made_one ⟨_, _, rfl⟩ (allLt_all (l := (sa, _) :: (da, _) :: rest) hl.2)⟩
    · rw [dbl_free h34 (34 :: r'), show dbl (34 :: r') = 34 :: 34 :: dbl r' from rfl, List.append_assoc] at hq2
      have e2 : Txt.find3 T QUO (q : Int) = ((q + u.length : Nat) : Int) := find3_at hq2 h34
      have hlen := sfx_len T q
      rw [hq2] at hlen
      simp only [List.length_append, List.length_cons, List.cons_append] at hlen
      have hB' : sfx T (q + u.length + 1) = 34 :: (dbl r' ++ 34 :: B) := by
        rw [Nat.add_assoc, sfx_add, hq2, ← List.drop_drop, List.drop_left']
        · rfl
        · rfl
      have e3 : (signAt T ((q + u.length + 1 : Nat) : Int) != QUO) = false := by
        rw [sign_some (at_sfx hB')]; decide +kernel
      have e4 : Txt.slice T (some (q : Int)) (some ((q + u.length : Nat) : Int)) = ⟨u.toArray⟩ := by
        rw [slice_nat T (by omega) (by omega), hq2, Nat.add_sub_cancel_left, List.take_left']
        rfl
      k_steps
      (rename News _ _ _ _ => N9)
      have e7 : ∀ a b : Value, (vs.toArray.push a).push b = (vs ++ [a, b]).toArray := by simp
      rw [e4, e7] at N9
      refine ksw_end ⟨vs ++ [.str ⟨u.toArray⟩ _, .str QUO _], ys ++ [⟨u.toArray⟩, QUO], nn + 1 + 1, q + u.length + 2, _, r'⟩ (by k_asm) N9 (fun p hp => hp) ?hf ?hk ?hr ?hp ?hm
      case hf =>
        refine ⟨hf1.append' (.cons _ _ (.cons _ _ .nil)), ?_, ?_⟩
        · rw [show QUO = ⟨#[34]⟩ by decide +kernel]
          simp [Str.length] at hf2 ⊢
          omega
        · simp at hf3 ⊢
          omega
      case hk => intro p hp; cases hp
      case hr =>
        intro z _ h3
        simp only [List.contains_cons, List.contains_nil, Bool.or_false, beq_eq_false_iff_ne, ne_eq] at h3
        simp [h3, kstB]
      case hp =>
        refine ⟨by show q + u.length + 2 ≤ _; omega, ?_, ?_⟩
        · show sfx T (q + u.length + 2) = _
          rw [show q + u.length + 2 = (q + u.length + 1) + 1 from rfl, sfx_add, hB']
          rfl
        · rw [← hq3, show QUO = ⟨#[34]⟩ by decide +kernel]
          simp
      case hm => show r'.length < (u ++ 34 :: r').length; simp; omega
/-! QQuo -/
theorem setQuo : True := by
  k_with_none
  (k_with "execs cons" => first | (k_here; k_made; walk_at "execs cons") | (k_here; (with_reducible refine wpAny_execs_cons ?_); (try dsimp only); (try (with_reducible refine anyTok ?_); intro tk9); (try k_fold)))
  (k_with "enter" => ((rename At _ _ _ _ _ _ _ _ _ => HA9); (have B9 := HA9.B); (have X9 := HA9.X); (have T9 := HA9.T); (have hk9 := HA9.hk); clear HA9; (refine wpAny_call ?_); (k_dflt ktr_enter)))
  (k_with "ite" => (k_here; first
    | refine ite_pos (by with_reducible assumption) ?_
    | refine ite_neg (not_true_of (by with_reducible assumption)) ?_
    | refine ite_pos (by first | omega | ((simp only [decide_eq_true_eq, beq_iff_eq, bne_iff_ne, ne_eq, Bool.not_eq_true', decide_eq_false_iff_not]); omega)) ?_
    | refine ite_neg (by first | omega | ((simp only [decide_eq_true_eq, beq_iff_eq, bne_iff_ne, ne_eq, Bool.not_eq_true', decide_eq_false_iff_not]); omega)) ?_))
  (k_with "binaryOp FloorDiv int int" => (k_here; refine floordiv_int (by omega) ?_))
  (k_with "compareOp In str ref" => (k_here; k_dflt (refine' in_tup (ys := RES) (tupK (Frag.In.keeps (by k_asm) (Fr.keep (by k_asm))) (by k_is)) (by repeat (first | exact StrsAre.nil | refine StrsAre.cons _ _ ?_)) ?_)))
  (k_with "call ref" => (k_here; (with_reducible show wpAny _ _ (call (Value.ref 149) _) _ _ _); k_dflt (refine' says_go (by k_asm) (by k_asm) (run_says _ _ _ _ _ _ _ _ _ _ _ _ _ (by exact rfl) (by first | assumption | omega) (by assumption) (by assumption) (by assumption) (by assumption)) el2 (by k_asm) (by k_asm) (by k_asm) (by first | rfl | assumption) (Nat.le_of_ble_eq_true rfl) (Nat.le_of_ble_eq_true rfl) ?_); intro t9 tp9 l9 l8 l7 h9 tk9 F9 N9; (try k_sweep)))
  (k_with "call ref" => (k_here; (with_reducible show wpAny _ _ (call (Value.ref 135) _) _ _ _); k_dflt (refine' says_go (by k_asm) (by k_asm) (sign_says _ _ _ _ _ _ _ _ _ _ _ (by exact rfl) (by first | assumption | omega) (by assumption)) el1 (by k_asm) (by k_asm) (by k_asm) (by first | rfl | assumption) (Nat.le_of_ble_eq_true rfl) (Nat.le_of_ble_eq_true rfl) ?_); intro t9 h9 tk9 F9 N9; (try k_sweep)))
  (k_with "call ref" => (k_here; (with_reducible show wpAny _ _ (call (Value.ref 156) _) _ _ _); k_dflt (refine' says_go (by k_asm) (by k_asm) (ends_says _ _ _ _ _ _ _ _ _ _ _ _ _ _ _ (by exact rfl) (by first | assumption | omega) (by assumption) (by assumption)) el0 (by k_asm) (by k_asm) (by k_asm) (by first | rfl | assumption) (Nat.le_of_ble_eq_true rfl) (Nat.le_of_ble_eq_true rfl) ?_); intro h9 tk9 F9 N9; (try k_sweep)))
  (k_with "exec Raise some none" => (refine stuck ?_))
  trivial
theorem quoted_says (w : World) (sa da : Addr) (T : Str) (t k1 k2 tp : Tok) (pI : Int) (p : Nat) (rest : List (Addr × Obj)) (hpI : pI = (p : Int)) (hp1 : p < T.length) (hT : T.length ≤ 1000)
  (hr1 : ∀ q ∈ rest, q.1 ≠ sa) (hr2 : ∀ q ∈ rest, q.1 ≠ da) (hsd : @Ne Nat sa da)
    (e : Nat) (N : Str) (he : Txt.find3 T (Str.ofString "|") ((p : Int) + 1) = (e : Int)) (hpe : p + 1 ≤ e) (heT : e < T.length) (hN : Txt.slice T (some ((p : Int) + 1)) (some (e : Int)) = N) (hb : Txt.find N (Str.ofString "\\") = -1) :
    Says w 700 700 170 [.ref sa] ((sa, instObj 201 da) :: scanD w da T t k1 k2 pI tp :: rest)
      (fun r news' => ∃ tp', Made (.sym (resQ N)) ((sa, instObj 201 da) :: scanD w da T t k1 k2 ((e + 1 : Nat) : Int) tp' :: rest) r news') := by
  subst hpI
  intro mean mg mb gd cn cs a ccd cl outer A₀ base h₀ L m hS gS dS oS tS Q E HA F N' hret
  walk_at "enter"
  k_steps
  all_goals (try (rename (_ ∧ _ ∧ AllLt _ _) => hl))
  · (rename (0 : Int) ≤ _ => h9)
    rw [he, hN, hb] at h9
    exact absurd h9 (by decide)
  · (rename _ = true => hq)
    (rename News _ _ _ _ => N9)
    rw [he, hN] at hq N9
    rw [← res_in hq] at N9
    exact hret _ _ _ _ (by k_asm) N9 ⟨_, made_one ⟨_, _, rfl⟩ (allLt_all (l := (sa, _) :: (da, _) :: rest) hl)⟩
  · (rename _ = false => hq)
    (rename News _ _ _ _ => N9)
    rw [he, hN] at hq N9
    rw [← res_out hq] at N9
    exact hret _ _ _ _ (by k_asm) N9 ⟨_, made_one ⟨_, _, rfl⟩ (allLt_all (l := (sa, _) :: (da, _) :: rest) hl)⟩
/-! QKey -/
theorem setKey : True := by
  k_with_none
  (k_with "execs cons" => first | (k_here; k_made; walk_at "execs cons") | (k_here; (with_reducible refine wpAny_execs_cons ?_); (try dsimp only); (try (with_reducible refine anyTok ?_); intro tk9); (try k_fold)))
  (k_with "enter" => ((rename At _ _ _ _ _ _ _ _ _ => HA9); (have B9 := HA9.B); (have X9 := HA9.X); (have T9 := HA9.T); (have hk9 := HA9.hk); clear HA9; (refine wpAny_call ?_); (k_dflt ktr_enter)))
  (k_with "ite" => (k_here; first
    | refine ite_pos (by first | omega | ((simp only [decide_eq_true_eq, beq_iff_eq, bne_iff_ne, ne_eq, Bool.not_eq_true', decide_eq_false_iff_not]); omega)) ?_
    | refine ite_neg (by first | omega | ((simp only [decide_eq_true_eq, beq_iff_eq, bne_iff_ne, ne_eq, Bool.not_eq_true', decide_eq_false_iff_not]); omega)) ?_))
  (k_with "binaryOp FloorDiv int int" => (k_here; refine floordiv_int (by omega) ?_))
  (k_with "call ref" => (k_here; (with_reducible show wpAny _ _ (call (Value.ref 149) _) _ _ _); k_dflt (refine' says_go (by k_asm) (by k_asm) (run_says _ _ _ _ _ _ _ _ _ _ _ _ _ (by exact rfl) (by first | assumption | omega) (by assumption) (by assumption) (by assumption) (by assumption)) el2 (by k_asm) (by k_asm) (by k_asm) (by first | rfl | assumption) (Nat.le_of_ble_eq_true rfl) (Nat.le_of_ble_eq_true rfl) ?_); intro t9 tp9 l9 l8 l7 h9 tk9 F9 N9; (try k_sweep)))
  (k_with "call ref" => (k_here; (with_reducible show wpAny _ _ (call (Value.ref 135) _) _ _ _); k_dflt (refine' says_go (by k_asm) (by k_asm) (sign_says _ _ _ _ _ _ _ _ _ _ _ (by exact rfl) (by first | assumption | omega) (by assumption)) el1 (by k_asm) (by k_asm) (by k_asm) (by first | rfl | assumption) (Nat.le_of_ble_eq_true rfl) (Nat.le_of_ble_eq_true rfl) ?_); intro t9 h9 tk9 F9 N9; (try k_sweep)))
  (k_with "call ref" => (k_here; (with_reducible show wpAny _ _ (call (Value.ref 156) _) _ _ _); k_dflt (refine' says_go (by k_asm) (by k_asm) (ends_says _ _ _ _ _ _ _ _ _ _ _ _ _ _ _ (by exact rfl) (by first | assumption | omega) (by assumption) (by assumption)) el0 (by k_asm) (by k_asm) (by k_asm) (by first | rfl | assumption) (Nat.le_of_ble_eq_true rfl) (Nat.le_of_ble_eq_true rfl) ?_); intro h9 tk9 F9 N9; (try k_sweep)))
  (k_with "exec Raise some none" => (refine stuck ?_))
  trivial
theorem key_says (w : World) (sa da : Addr) (T : Str) (t k1 k2 tp : Tok) (pI : Int) (p : Nat) (rest : List (Addr × Obj)) (hpI : pI = (p : Int)) (hp1 : p < T.length) (hT : T.length ≤ 1000)
  (hr1 : ∀ q ∈ rest, q.1 ≠ sa) (hr2 : ∀ q ∈ rest, q.1 ≠ da) (hsd : @Ne Nat sa da)
    (c : Nat) (hc : T.cps.toList[p + 1]? = some c) (hc1 : inS SIMP c = true) (hc2 : inS DIGI c = false) :
    Says w 700 700 177 [.ref sa] ((sa, instObj 201 da) :: scanD w da T t k1 k2 pI tp :: rest)
      (fun r news' => ∃ tp', Made (.key (runStr T SIMP (p + 1))) ((sa, instObj 201 da) :: scanD w da T t k1 k2 ((runEnd T SIMP (p + 1) : Nat) : Int) tp' :: rest) r news') := by
  subst hpI
  intro mean mg mb gd cn cs a ccd cl outer A₀ base h₀ L m hS gS dS oS tS Q E HA F N hret
  walk_at "enter"
  k_steps
  · have h1 := run_ge hc hc1
    have h2 : (runStr T SIMP (p + 1)).length = 0 := eq_empty (by assumption)
    rw [run_len] at h2
    omega
  · (rename _ ∧ _ ∧ AllLt _ _ => hl)
    exact hret _ _ _ _ (by k_asm) (by k_asm) ⟨_, made_one ⟨_, _, rfl⟩ (allLt_all (show AllLt _ (_ :: _ :: _) from hl))⟩
  · (rename _ = false => hb)
    rw [run_first hc hc1, in_item, hc2] at hb
    cases hb
/-! QV -/
theorem setV : True := by
  k_with_none
  (k_with "execs cons" => first | (k_here; k_made; walk_at "execs cons") | (k_here; (with_reducible refine wpAny_execs_cons ?_); (try dsimp only); (try (with_reducible refine anyTok ?_); intro tk9); (try k_fold)))
  (k_with "enter" => ((rename At _ _ _ _ _ _ _ _ _ => HA9); (have B9 := HA9.B); (have X9 := HA9.X); (have T9 := HA9.T); (have hk9 := HA9.hk); clear HA9; (refine wpAny_call ?_); (k_dflt ktr_enter)))
  (k_with "ite" => (k_here; first
    | refine ite_pos (by with_reducible assumption) ?_
    | refine ite_neg (not_true_of (by with_reducible assumption)) ?_
    | refine ite_pos (by first | omega | ((simp only [decide_eq_true_eq, beq_iff_eq, bne_iff_ne, ne_eq, Bool.not_eq_true', decide_eq_false_iff_not]); omega)) ?_
    | refine ite_neg (by first | omega | ((simp only [decide_eq_true_eq, beq_iff_eq, bne_iff_ne, ne_eq, Bool.not_eq_true', decide_eq_false_iff_not]); omega)) ?_))
  (k_with "binaryOp FloorDiv int int" => (k_here; refine floordiv_int (by omega) ?_))
  (k_with "compareOp In str ref" => (k_here; k_dflt (refine' in_tup (ys := RES) (tupK (Frag.In.keeps (by k_asm) (Fr.keep (by k_asm))) (by k_is)) (by repeat (first | exact StrsAre.nil | refine StrsAre.cons _ _ ?_)) ?_)))
  (k_with "pyIter str" => (refine stuck ?_))
  trivial
theorem value_says (w : World) (D : Str) (tx ts : Tok) (base : Int) (rest : List (Addr × Obj)) (hD : D.length ≤ 1000) (hb : base = 2 ∨ base = 16) :
    Says w 900 900 114 [.str D tx, .int base ts] rest (fun r news' => ∃ t, r = .int (valF base (KStt.codes (Txt.lower D))) t ∧ news' = rest) := by
  have hb0 : 0 ≤ base := by omega
  have hb1 : base ≤ 16 := by omega
  intro mean mg mb gd cn cs a ccd cl outer A₀ base₀ h₀ L m hS gS dS oS tS Q E HA F N hret
  walk_at "enter"
  k_steps
  unfold Stuck
  (rename Fr _ _ _ _ => F9)
  (rename News _ _ _ _ => N9)
  k_dflt (refine' KStt.kst_text (fun (_ : Int × Tok) => rest) (fun c => [(Str.ofString "found", .int c.1 c.2)]) (fun _ => True) [] (fun pre c => c.1 = valF base pre) (0, _) rfl F9 N9 trivial ?hk rfl ?turn ?done)
  case hk => intro p hp; simp only [List.mem_cons, List.not_mem_nil, or_false] at hp; subst hp; rfl
  case turn =>
    clear F9 N9
    rintro ⟨v, tv⟩ pre post n tn u h tk own he hoff _ hv F1 N1
    (try dsimp only at F1 N1 hv ⊢)
    k_steps
    refine' kst_end (v * base + digV (n : Int), ?t) ?F ?N ?hn ?ho rfl trivial ?hk ?hr ?hp
    case F => k_asm
    case hk => intro p hp; simp only [List.mem_cons, List.not_mem_nil, or_false] at hp; subst hp; exact rfl
    case N => k_asm
    case hn => intro p hp; simp [hp]
    case ho => intro p hp; simp [hp]
    case hr =>
      intro z hz h1 _
      simp only [List.mem_cons, List.not_mem_nil, or_false, forall_eq_or_imp, forall_eq] at h1
      simp [hz, h1, kstB]
    case hp => show v * base + digV n = _; rw [valF_snoc, hv]
  case done =>
    clear F9 N9
    rintro ⟨v, tv⟩ u h tk _ hv F1 N1
    (try dsimp only at F1 N1 hv ⊢)
    k_steps
    exact hret _ _ _ _ (by k_asm) (by k_asm) ⟨tv, by rw [hv], rfl⟩
/-! QBitB -/
theorem setBitB : True := by
  k_with_none
  (k_with "execs cons" => first | (k_here; k_made; walk_at "execs cons") | (k_here; (with_reducible refine wpAny_execs_cons ?_); (try dsimp only); (try (with_reducible refine anyTok ?_); intro tk9); (try k_fold)))
  (k_with "enter" => ((rename At _ _ _ _ _ _ _ _ _ => HA9); (have B9 := HA9.B); (have X9 := HA9.X); (have T9 := HA9.T); (have hk9 := HA9.hk); clear HA9; (refine wpAny_call ?_); (k_dflt ktr_enter)))
  (k_with "ite" => (k_here; first
    | refine ite_pos (by with_reducible assumption) ?_
    | refine ite_neg (not_true_of (by with_reducible assumption)) ?_
    | refine ite_pos (by first | omega | ((simp only [decide_eq_true_eq, beq_iff_eq, bne_iff_ne, ne_eq, Bool.not_eq_true', decide_eq_false_iff_not]); omega)) ?_
    | refine ite_neg (by first | omega | ((simp only [decide_eq_true_eq, beq_iff_eq, bne_iff_ne, ne_eq, Bool.not_eq_true', decide_eq_false_iff_not]); omega)) ?_))
  (k_with "binaryOp FloorDiv int int" => (k_here; refine floordiv_int (by omega) ?_))
  (k_with "compareOp In str ref" => (k_here; k_dflt (refine' in_tup (ys := RES) (tupK (Frag.In.keeps (by k_asm) (Fr.keep (by k_asm))) (by k_is)) (by repeat (first | exact StrsAre.nil | refine StrsAre.cons _ _ ?_)) ?_)))
  (k_with "call ref" => (k_here; (with_reducible show wpAny _ _ (call (Value.ref 149) _) _ _ _); k_dflt (refine' says_go (by k_asm) (by first | k_asm | exact news_drop (by k_asm) | exact news_drop (news_drop (by k_asm))) (run_says _ _ _ _ _ _ _ _ _ _ _ _ _ (by first | exact cast1 _ | exact cast2 _ | exact rfl) (by first | assumption | omega) (by assumption) (by assumption) (by assumption) (by assumption)) el2 (by k_asm) (by k_asm) (by k_asm) (by first | rfl | assumption) (Nat.le_of_ble_eq_true rfl) (Nat.le_of_ble_eq_true rfl) ?_); intro t9 tp9 l9 l8 l7 h9 tk9 F9 N9; (try k_sweep)))
  (k_with "call ref" => (k_here; (with_reducible show wpAny _ _ (call (Value.ref 135) _) _ _ _); k_dflt (refine' says_go (by k_asm) (by first | k_asm | exact news_drop (by k_asm) | exact news_drop (news_drop (by k_asm))) (sign_says _ _ _ _ _ _ _ _ _ _ _ (by first | exact cast1 _ | exact cast2 _ | exact rfl) (by first | assumption | omega) (by assumption)) el1 (by k_asm) (by k_asm) (by k_asm) (by first | rfl | assumption) (Nat.le_of_ble_eq_true rfl) (Nat.le_of_ble_eq_true rfl) ?_); intro t9 h9 tk9 F9 N9; (try k_sweep)))
  (k_with "call ref" => (k_here; (with_reducible show wpAny _ _ (call (Value.ref 156) _) _ _ _); k_dflt (refine' says_go (by k_asm) (by first | k_asm | exact news_drop (by k_asm) | exact news_drop (news_drop (by k_asm))) (ends_says _ _ _ _ _ _ _ _ _ _ _ _ _ _ _ (by first | exact cast1 _ | exact cast2 _ | exact rfl) (by first | assumption | omega) (by assumption) (by assumption)) el0 (by k_asm) (by k_asm) (by k_asm) (by first | rfl | assumption) (Nat.le_of_ble_eq_true rfl) (Nat.le_of_ble_eq_true rfl) ?_); intro h9 tk9 F9 N9; (try k_sweep)))
  (k_with "exec Raise some none" => (refine stuck ?_))
  (k_with "call ref" => ((with_reducible show wpAny _ _ (call (Value.ref 114) _) _ _ _); (refine stuck ?_)))
  (k_with "storeName" => ((rename Txt.slice _ _ _ = _ => hsl9); rw [hsl9]))
  trivial
noncomputable abbrev BINA : Str := Str.ofString "01"
theorem bitb_says (w : World) (sa da : Addr) (T : Str) (t k1 k2 tp : Tok) (pI : Int) (p : Nat) (rest : List (Addr × Obj)) (hpI : pI = (p : Int)) (hp1 : p < T.length) (hT : T.length ≤ 1000)
  (hr1 : ∀ q ∈ rest, q.1 ≠ sa) (hr2 : ∀ q ∈ rest, q.1 ≠ da) (hsd : @Ne Nat sa da)
    (hc : T.cps.toList[p + 1]? = some 98) (hd : (runStr T BINA (p + 2) == Str.ofString "") = false) (hf : free T (runEnd T BINA (p + 2))) :
    Says w 700 700 184 [.ref sa] ((sa, instObj 201 da) :: scanD w da T t k1 k2 pI tp :: rest)
      (fun r news' => ∃ tp', Made (.bits (valF 2 (KStt.codes (Txt.lower (runStr T BINA (p + 2))))) (((runStr T BINA (p + 2)).length : Int))) ((sa, instObj 201 da) :: scanD w da T t k1 k2 ((runEnd T BINA (p + 2) : Nat) : Int) tp' :: rest) r news') := by
  subst hpI
  have hlt : p + 1 < T.length := by
    obtain ⟨h, _⟩ := List.getElem?_eq_some_iff.mp hc
    simpa [Str.length] using h
  have hsl : Txt.slice T (some ((p : Int) + 1)) (some ((p : Int) + 2)) = Str.ofString "b" := by
    have := slice_nat T (a := p + 1) (b := p + 2) (by omega) (by omega)
    rw [sfx_of hc] at this
    rw [show (p : Int) + 1 = ((p + 1 : Nat) : Int) by omega, show (p : Int) + 2 = ((p + 2 : Nat) : Int) by omega, this, show p + 2 - (p + 1) = 1 by omega]
    exact (show (⟨(List.take 1 (98 :: sfx T (p + 1 + 1))).toArray⟩ : Str) = ⟨#[98]⟩ from rfl).trans (by decide +kernel)
  intro mean mg mb gd cn cs a ccd cl outer A₀ base h₀ L m hS gS dS oS tS Q E HA F N hret
  walk_at "enter"
  k_steps
  all_goals
    unfold Stuck
    k_dflt (refine' says_go (by k_asm) ?kN (value_says w _ _ _ 2 _ ?q1 ?q2) el1 (by k_asm) (by k_asm) (by k_asm) (by first | rfl | assumption) (Nat.le_of_ble_eq_true rfl) (Nat.le_of_ble_eq_true rfl) ?_)
    case kN => k_asm
    case q1 => omega
    case q2 => omega
    intro t9 h9 tk9 F9 N9
    k_steps
  (rename (_ ∧ _ ∧ AllLt _ _) => hl)
  exact hret _ _ _ _ (by k_asm) (by k_asm) ⟨_, made_one ⟨_, _, _, rfl⟩ (allLt_all (l := (sa, _) :: (da, _) :: rest) hl)⟩
/-! QBitX -/
theorem setBitX : True := by
  k_with_none
  (k_with "execs cons" => first | (k_here; k_made; walk_at "execs cons") | (k_here; (with_reducible refine wpAny_execs_cons ?_); (try dsimp only); (try (with_reducible refine anyTok ?_); intro tk9); (try k_fold)))
  (k_with "enter" => ((rename At _ _ _ _ _ _ _ _ _ => HA9); (have B9 := HA9.B); (have X9 := HA9.X); (have T9 := HA9.T); (have hk9 := HA9.hk); clear HA9; (refine wpAny_call ?_); (k_dflt ktr_enter)))
  (k_with "ite" => (k_here; first
    | refine ite_pos (by with_reducible assumption) ?_
    | refine ite_neg (not_true_of (by with_reducible assumption)) ?_
    | refine ite_pos (by first | omega | ((simp only [decide_eq_true_eq, beq_iff_eq, bne_iff_ne, ne_eq, Bool.not_eq_true', decide_eq_false_iff_not]); omega)) ?_
    | refine ite_neg (by first | omega | ((simp only [decide_eq_true_eq, beq_iff_eq, bne_iff_ne, ne_eq, Bool.not_eq_true', decide_eq_false_iff_not]); omega)) ?_))
  (k_with "binaryOp FloorDiv int int" => (k_here; refine floordiv_int (by omega) ?_))
  (k_with "compareOp In str ref" => (k_here; k_dflt (refine' in_tup (ys := RES) (tupK (Frag.In.keeps (by k_asm) (Fr.keep (by k_asm))) (by k_is)) (by repeat (first | exact StrsAre.nil | refine StrsAre.cons _ _ ?_)) ?_)))
  (k_with "call ref" => (k_here; (with_reducible show wpAny _ _ (call (Value.ref 149) _) _ _ _); k_dflt (refine' says_go (by k_asm) (by first | k_asm | exact news_drop (by k_asm) | exact news_drop (news_drop (by k_asm))) (run_says _ _ _ _ _ _ _ _ _ _ _ _ _ (by first | exact cast1 _ | exact cast2 _ | exact rfl) (by first | assumption | omega) (by assumption) (by assumption) (by assumption) (by assumption)) el2 (by k_asm) (by k_asm) (by k_asm) (by first | rfl | assumption) (Nat.le_of_ble_eq_true rfl) (Nat.le_of_ble_eq_true rfl) ?_); intro t9 tp9 l9 l8 l7 h9 tk9 F9 N9; (try k_sweep)))
  (k_with "call ref" => (k_here; (with_reducible show wpAny _ _ (call (Value.ref 135) _) _ _ _); k_dflt (refine' says_go (by k_asm) (by first | k_asm | exact news_drop (by k_asm) | exact news_drop (news_drop (by k_asm))) (sign_says _ _ _ _ _ _ _ _ _ _ _ (by first | exact cast1 _ | exact cast2 _ | exact rfl) (by first | assumption | omega) (by assumption)) el1 (by k_asm) (by k_asm) (by k_asm) (by first | rfl | assumption) (Nat.le_of_ble_eq_true rfl) (Nat.le_of_ble_eq_true rfl) ?_); intro t9 h9 tk9 F9 N9; (try k_sweep)))
  (k_with "call ref" => (k_here; (with_reducible show wpAny _ _ (call (Value.ref 156) _) _ _ _); k_dflt (refine' says_go (by k_asm) (by first | k_asm | exact news_drop (by k_asm) | exact news_drop (news_drop (by k_asm))) (ends_says _ _ _ _ _ _ _ _ _ _ _ _ _ _ _ (by first | exact cast1 _ | exact cast2 _ | exact rfl) (by first | assumption | omega) (by assumption) (by assumption)) el0 (by k_asm) (by k_asm) (by k_asm) (by first | rfl | assumption) (Nat.le_of_ble_eq_true rfl) (Nat.le_of_ble_eq_true rfl) ?_); intro h9 tk9 F9 N9; (try k_sweep)))
  (k_with "exec Raise some none" => (refine stuck ?_))
  (k_with "call ref" => ((with_reducible show wpAny _ _ (call (Value.ref 114) _) _ _ _); (refine stuck ?_)))
  (k_with "storeName" => ((rename Txt.slice _ _ _ = _ => hsl9); rw [hsl9]))
  trivial
theorem bitx_says (w : World) (sa da : Addr) (T : Str) (t k1 k2 tp : Tok) (pI : Int) (p : Nat) (rest : List (Addr × Obj)) (hpI : pI = (p : Int)) (hp1 : p < T.length) (hT : T.length ≤ 1000)
  (hr1 : ∀ q ∈ rest, q.1 ≠ sa) (hr2 : ∀ q ∈ rest, q.1 ≠ da) (hsd : @Ne Nat sa da)
    (hc : T.cps.toList[p + 1]? = some 120) (hd : (runStr T HEXD (p + 2) == Str.ofString "") = false) (hf : free T (runEnd T HEXD (p + 2))) :
    Says w 700 700 184 [.ref sa] ((sa, instObj 201 da) :: scanD w da T t k1 k2 pI tp :: rest)
      (fun r news' => ∃ tp', Made (.bits (valF 16 (KStt.codes (Txt.lower (runStr T HEXD (p + 2))))) (4 * ((runStr T HEXD (p + 2)).length : Int))) ((sa, instObj 201 da) :: scanD w da T t k1 k2 ((runEnd T HEXD (p + 2) : Nat) : Int) tp' :: rest) r news') := by
  subst hpI
  have hlt : p + 1 < T.length := by
    obtain ⟨h, _⟩ := List.getElem?_eq_some_iff.mp hc
    simpa [Str.length] using h
  have hsl : Txt.slice T (some ((p : Int) + 1)) (some ((p : Int) + 2)) = Str.ofString "x" := by
    have := slice_nat T (a := p + 1) (b := p + 2) (by omega) (by omega)
    rw [sfx_of hc] at this
    rw [show (p : Int) + 1 = ((p + 1 : Nat) : Int) by omega, show (p : Int) + 2 = ((p + 2 : Nat) : Int) by omega, this, show p + 2 - (p + 1) = 1 by omega]
    exact (show (⟨(List.take 1 (120 :: sfx T (p + 1 + 1))).toArray⟩ : Str) = ⟨#[120]⟩ from rfl).trans (by decide +kernel)
  intro mean mg mb gd cn cs a ccd cl outer A₀ base h₀ L m hS gS dS oS tS Q E HA F N hret
  walk_at "enter"
  k_steps
  all_goals
    unfold Stuck
    k_dflt (refine' says_go (by k_asm) ?kN (value_says w _ _ _ 16 _ ?q1 ?q2) el1 (by k_asm) (by k_asm) (by k_asm) (by first | rfl | assumption) (Nat.le_of_ble_eq_true rfl) (Nat.le_of_ble_eq_true rfl) ?_)
    case kN => k_asm
    case q1 => omega
    case q2 => omega
    intro t9 h9 tk9 F9 N9
    k_steps
  (rename (_ ∧ _ ∧ AllLt _ _) => hl)
  exact hret _ _ _ _ (by k_asm) (by k_asm) ⟨_, made_one ⟨_, _, _, rfl⟩ (allLt_all (l := (sa, _) :: (da, _) :: rest) hl)⟩
/-! QC -/
theorem setC : True := by
  k_with_none
  (k_with "execs cons" => first | (k_here; k_made; walk_at "execs cons") | (k_here; (with_reducible refine wpAny_execs_cons ?_); (try dsimp only); (try (with_reducible refine anyTok ?_); intro tk9); (try k_fold)))
  (k_with "enter" => ((rename At _ _ _ _ _ _ _ _ _ => HA9); (have B9 := HA9.B); (have X9 := HA9.X); (have T9 := HA9.T); (have hk9 := HA9.hk); clear HA9; (refine wpAny_call ?_); (k_dflt ktr_enter)))
  trivial
theorem few_says (w : World) (x : Str) (tx ts : Tok) (p : Int) (rest : List (Addr × Obj)) (hx : x.length ≤ 1000) :
    Says w 900 900 107 [.str x tx, .int p ts] rest (fun r news' => r = .none ∧ news' = rest) := by
  intro mean mg mb gd cn cs a ccd cl outer A₀ base h₀ L m hS gS dS oS tS Q E HA F N hret
  walk_at "enter"
  k_steps
  exact hret _ _ _ _ (by k_asm) (by k_asm) ⟨rfl, rfl⟩
/-! QG -/
theorem setG : True := by
  k_with_none
  (k_with "execs cons" => first | (k_here; k_made; walk_at "execs cons") | (k_here; (with_reducible refine wpAny_execs_cons ?_); (try dsimp only); (try (with_reducible refine anyTok ?_); intro tk9); (try k_fold)))
  (k_with "enter" => ((rename At _ _ _ _ _ _ _ _ _ => HA9); (have B9 := HA9.B); (have X9 := HA9.X); (have T9 := HA9.T); (have hk9 := HA9.hk); clear HA9; (refine wpAny_call ?_); (k_dflt ktr_enter)))
  (k_with "ite" => (k_here; first
    | refine ite_pos (by first | omega | ((simp only [decide_eq_true_eq, beq_iff_eq, bne_iff_ne, ne_eq, Bool.not_eq_true', decide_eq_false_iff_not]); omega)) ?_
    | refine ite_neg (by first | omega | ((simp only [decide_eq_true_eq, beq_iff_eq, bne_iff_ne, ne_eq, Bool.not_eq_true', decide_eq_false_iff_not]); omega)) ?_))
  (k_with "binaryOp FloorDiv int int" => (k_here; refine floordiv_int (by omega) ?_))
  (k_with "exec While Compare" => (refine stuck ?_))
  (k_with "exec While Compare cons nil" => (refine stuck ?_))
  trivial
theorem gcd_says (w : World) (x y : Nat) (tx ty : Tok) (rest : List (Addr × Obj)) (hx : x ≤ 1000000000) (hy : y ≤ 1000000000) :
    Says w 900 900 85 [.int x tx, .int y ty] rest (fun r news' => ∃ t, r = .int (Nat.gcd x y) t ∧ news' = rest) := by
  intro mean mg mb gd cn cs a ccd cl outer A₀ base h₀ L m hS gS dS oS tS Q E HA F N hret
  walk_at "enter"
  k_steps
  (rename Fr _ _ _ _ => F9)
  (rename News _ _ _ _ => N9)
  have ex : (if (x:Int) < 0 then -(x:Int) else x) = x := if_neg (by omega)
  have ey : (if (y:Int) < 0 then -(y:Int) else y) = y := if_neg (by omega)
  rw [ex, ey] at F9
  have N8 := fun p (hp : p ∈ rest) => N9 p (by simp [hp])
  clear N9
  (with_unfolding_all refine' ksw_while (fun (_ : Nat × Nat × Tok × Tok) => rest) (fun c => [(Str.ofString "a", .int c.1 c.2.2.1), (Str.ofString "b", .int c.2.1 c.2.2.2)]) (fun _ => True) [] (fun c => Nat.gcd c.1 c.2.1 = Nat.gcd x y ∧ c.1 ≤ 1000000000 ∧ c.2.1 ≤ 1000000000) (fun c => c.2.1) (x, y, _, _) F9 N8 trivial ?hk ⟨rfl, hx, hy⟩ ?turn)
  case hk => intro p hp; simp only [List.mem_cons, List.not_mem_nil, or_false] at hp; rcases hp with rfl | rfl <;> rfl
  case turn =>
    clear F9 N8
    rintro ⟨u, v, tu, tv⟩ um h tk _ ⟨hg, hu, hv⟩ F1 N1
    (try dsimp only at F1 N1 hg hu hv ⊢)
    k_steps
    · have e : Int.fmod (u : Int) (v : Int) = ((u % v : Nat) : Int) := by rw [Int.fmod_eq_emod_of_nonneg _ (by omega)]; rfl
      have hv0 : 0 < v := by omega
      refine' ksw_end (v, u % v, ?t1, ?t2) ?F ?N ?n trivial ?hk ?hr ?P ?m
      case F => k_asm
      case hk =>
        intro p hp; simp only [List.mem_cons, List.not_mem_nil, or_false] at hp
        rcases hp with rfl | rfl
        · exact rfl
        · exact Eq.trans (b := some (Value.int (Int.fmod (u : Int) (v : Int)) _)) rfl (by rw [e])
      case N => k_asm
      case n => exact fun p hp => by simp [hp]
      case hr =>
        intro z h1 _
        simp only [List.mem_cons, List.not_mem_nil, or_false, forall_eq_or_imp, forall_eq] at h1
        simp [h1, kstB]
      case P => exact ⟨by show Nat.gcd v (u % v) = _; rw [← hg, Nat.gcd_comm u v, Nat.gcd_rec v u, Nat.gcd_comm], hv, Nat.le_trans (Nat.mod_le _ _) hu⟩
      case m => exact Nat.mod_lt _ hv0
    · have hv0 : v = 0 := by omega
      subst hv0
      exact hret _ _ _ _ (by k_asm) (by k_asm) ⟨tu, by rw [← hg, Nat.gcd_zero_right], rfl⟩
theorem setGb : True := by
  (k_with "call ref" => (k_here; (with_reducible show wpAny _ _ (call (Value.ref 85) _) _ _ _); k_dflt (refine' says_go (by k_asm) (by k_asm) (gcd_says _ _ _ _ _ _ (by omega) (by omega)) el1 (by k_asm) (by k_asm) (by k_asm) (by first | rfl | assumption) (Nat.le_of_ble_eq_true rfl) (Nat.le_of_ble_eq_true rfl) ?_); intro t9 h9 tk9 F9 N9))
  trivial
theorem ratio_says (w : World) (x y : Nat) (tx ty : Tok) (rest : List (Addr × Obj)) (hx : x ≤ 1000000000) (hy : y ≤ 1000000000) (hy0 : 0 < y) :
    Says w 800 700 92 [.int x tx, .int y ty] rest (fun r news' => ∃ q t1 t2, r = .ref q ∧ (∀ p ∈ rest, p.1 < q) ∧ news' = (q, { cls := .type "tuple", data := .seq #[.int ((x / Nat.gcd x y : Nat) : Int) t1, .int ((y / Nat.gcd x y : Nat) : Int) t2] }) :: rest) := by
  have hy1 : (0 : Int) < (y : Int) := by omega
  have hg1 : (0 : Int) < ((Nat.gcd x y : Nat) : Int) := by have := Nat.gcd_pos_of_pos_right x hy0; omega
  intro mean mg mb gd cn cs a ccd cl outer A₀ base h₀ L m hS gS dS oS tS Q E HA F N hret
  walk_at "enter"
  k_steps
  (rename Fr _ _ _ _ => F9)
  (rename News _ _ _ _ => N9)
  have e1 : Int.fdiv (x : Int) ((Nat.gcd x y : Nat) : Int) = ((x / Nat.gcd x y : Nat) : Int) := by rw [Int.fdiv_eq_ediv_of_nonneg _ (by omega)]; rfl
  have e2 : Int.fdiv (y : Int) ((Nat.gcd x y : Nat) : Int) = ((y / Nat.gcd x y : Nat) : Int) := by rw [Int.fdiv_eq_ediv_of_nonneg _ (by omega)]; rfl
  rw [e1, e2] at N9
  exact hret _ _ _ _ F9 N9 ⟨_, _, _, rfl, by assumption, rfl⟩
/-! QR -/
theorem setR : True := by
  k_with_none
  (k_with "execs cons" => first | (k_here; k_made; walk_at "execs cons") | (k_here; (with_reducible refine wpAny_execs_cons ?_); (try dsimp only); (try (with_reducible refine anyTok ?_); intro tk9); (try k_fold)))
  (k_with "enter" => ((rename At _ _ _ _ _ _ _ _ _ => HA9); (have B9 := HA9.B); (have X9 := HA9.X); (have T9 := HA9.T); (have hk9 := HA9.hk); clear HA9; (refine wpAny_call ?_); (k_dflt ktr_enter)))
  (k_with "ite" => (k_here; first
    | refine ite_pos (by first | omega | ((simp only [decide_eq_true_eq, beq_iff_eq, bne_iff_ne, ne_eq, Bool.not_eq_true', decide_eq_false_iff_not]); omega)) ?_
    | refine ite_neg (by first | omega | ((simp only [decide_eq_true_eq, beq_iff_eq, bne_iff_ne, ne_eq, Bool.not_eq_true', decide_eq_false_iff_not]); omega)) ?_))
  (k_with "binaryOp FloorDiv int int" => (k_here; refine floordiv_int (by omega) ?_))
  (k_with "call ref" => ((with_reducible show wpAny _ _ (call (Value.ref 92) _) _ _ _); (refine stuck ?_)))
  trivial
theorem ratdec_says (w : World) (A B : Str) (x y : Nat) (tx ty : Tok) (rest : List (Addr × Obj)) (hA : PySem.intText? A = some (x : Int)) (hB : PySem.intText? B = some (y : Int)) (hx : x ≤ 1000) (hy : y ≤ 100000) (hlA : A.length ≤ 640) (hlB : B.length ≤ 5) :
    Says w 700 500 99 [.str A tx, .str B ty] rest (fun r news' => ∃ q t1 t2, r = .ref q ∧ (∀ p ∈ rest, p.1 < q) ∧ news' = (q, { cls := .type "tuple", data := .seq #[.int (((x * 10 ^ B.length + y) / Nat.gcd (x * 10 ^ B.length + y) (10 ^ B.length) : Nat) : Int) t1, .int (((10 ^ B.length) / Nat.gcd (x * 10 ^ B.length + y) (10 ^ B.length) : Nat) : Int) t2] }) :: rest) := by
  have hp : 10 ^ B.length ≤ 10 ^ 5 := Nat.pow_le_pow_right (by omega) hlB
  have hp0 : 0 < 10 ^ B.length := Nat.pow_pos (by omega)
  have hm : x * 10 ^ B.length ≤ 1000 * 10 ^ 5 := Nat.mul_le_mul hx hp
  intro mean mg mb gd cn cs a ccd cl outer A₀ base h₀ L m hS gS dS oS tS Q E HA F N hret
  walk_at "enter"
  k_steps
  have e1 : ((x : Int) * 10 ^ ((B.length : Int)).toNat + (y : Int)) = ((x * 10 ^ B.length + y : Nat) : Int) := by push_cast; rfl
  have e2 : ((10 : Int) ^ ((B.length : Int)).toNat) = ((10 ^ B.length : Nat) : Int) := by push_cast; rfl
  rw [e1, e2]
  unfold Stuck
  k_dflt (refine' says_go (by k_asm) ?kN (ratio_says w (x * 10 ^ B.length + y) (10 ^ B.length) _ _ rest ?p1 ?p2 ?p3) elT (by k_asm) (by k_asm) (by k_asm) (by first | rfl | assumption) (Nat.le_of_ble_eq_true rfl) (Nat.le_of_ble_eq_true rfl) ?_)
  case p1 => omega
  case p2 => omega
  case p3 => omega
  case kN => k_asm
  intro q t1 t2 hq h9 tk9 F9 N9
  k_steps
  exact hret _ _ _ _ (by k_asm) (by k_asm) ⟨q, t1, t2, rfl, hq, rfl⟩
/-! QNum -/
theorem setNum : True := by
  k_with_none
  (k_with "execs cons" => first | (k_here; k_made; walk_at "execs cons") | (k_here; (with_reducible refine wpAny_execs_cons ?_); (try dsimp only); (try (with_reducible refine anyTok ?_); intro tk9); (try k_fold)))
  (k_with "enter" => ((rename At _ _ _ _ _ _ _ _ _ => HA9); (have B9 := HA9.B); (have X9 := HA9.X); (have T9 := HA9.T); (have hk9 := HA9.hk); clear HA9; (refine wpAny_call ?_); (k_dflt ktr_enter)))
  (k_with "ite" => (k_here; first
    | refine ite_pos (by first | omega | ((simp only [decide_eq_true_eq, beq_iff_eq, bne_iff_ne, ne_eq, Bool.not_eq_true', decide_eq_false_iff_not]); omega)) ?_
    | refine ite_neg (by first | omega | ((simp only [decide_eq_true_eq, beq_iff_eq, bne_iff_ne, ne_eq, Bool.not_eq_true', decide_eq_false_iff_not]); omega)) ?_))
  (k_with "binaryOp FloorDiv int int" => (k_here; refine floordiv_int (by omega) ?_))
  (k_with "call ref" => (k_here; (with_reducible show wpAny _ _ (call (Value.ref 149) _) _ _ _); k_dflt (refine' says_go (by k_asm) (by k_asm) (run_says _ _ _ _ _ _ _ _ _ _ _ _ _ (by exact rfl) (by first | assumption | omega) (by assumption) (by assumption) (by assumption) (by assumption)) el2 (by k_asm) (by k_asm) (by k_asm) (by first | rfl | assumption) (Nat.le_of_ble_eq_true rfl) (Nat.le_of_ble_eq_true rfl) ?_); intro t9 tp9 l9 l8 l7 h9 tk9 F9 N9; (try k_sweep)))
  (k_with "call ref" => (k_here; (with_reducible show wpAny _ _ (call (Value.ref 135) _) _ _ _); k_dflt (refine' says_go (by k_asm) (by k_asm) (sign_says _ _ _ _ _ _ _ _ _ _ _ (by exact rfl) (by first | assumption | omega) (by assumption)) el1 (by k_asm) (by k_asm) (by k_asm) (by first | rfl | assumption) (Nat.le_of_ble_eq_true rfl) (Nat.le_of_ble_eq_true rfl) ?_); intro t9 h9 tk9 F9 N9; (try k_sweep)))
  (k_with "call ref" => (k_here; (with_reducible show wpAny _ _ (call (Value.ref 156) _) _ _ _); k_dflt (refine' says_go (by k_asm) (by k_asm) (ends_says _ _ _ _ _ _ _ _ _ _ _ _ _ _ _ (by exact rfl) (by first | assumption | omega) (by assumption) (by assumption)) el0 (by k_asm) (by k_asm) (by k_asm) (by first | rfl | assumption) (Nat.le_of_ble_eq_true rfl) (Nat.le_of_ble_eq_true rfl) ?_); intro h9 tk9 F9 N9; (try k_sweep)))
  (k_with "exec Raise some none" => (refine stuck ?_))
  trivial
theorem num_says (w : World) (sa da : Addr) (T : Str) (t k1 k2 tp : Tok) (pI : Int) (p : Nat) (rest : List (Addr × Obj)) (hpI : pI = (p : Int)) (hp1 : p < T.length) (hT : T.length ≤ 1000)
  (hr1 : ∀ q ∈ rest, q.1 ≠ sa) (hr2 : ∀ q ∈ rest, q.1 ≠ da) (hsd : @Ne Nat sa da)
    (n : Nat) (hn : PySem.intText? (runStr T DIGI p) = some (n : Int)) (h0 : (runStr T DIGI p).length ≤ 1 ∨ (Txt.item (runStr T DIGI p) 0 == Str.ofString "0") = false) (hpt : signAt T (runEnd T DIGI p : Nat) ≠ Str.ofString ".") (hf : free T (runEnd T DIGI p)) (hl : (runStr T DIGI p).length ≤ 640) :
    Says w 600 400 191 [.ref sa] ((sa, instObj 201 da) :: scanD w da T t k1 k2 pI tp :: rest)
      (fun r news' => ∃ tp', Made (.num n) ((sa, instObj 201 da) :: scanD w da T t k1 k2 ((runEnd T DIGI p : Nat) : Int) tp' :: rest) r news') := by
  subst hpI
  intro mean mg mb gd cn cs a ccd cl outer A₀ base h₀ L m hS gS dS oS tS Q E HA F N hret
  walk_at "enter"
  k_steps
  · (rename (_ == _) = true => hb)
    (rename 1 < _ => hc)
    rcases h0 with h0 | h0
    · have : (1 : Int) < ((runStr T DIGI p).length : Int) := hc
      omega
    · have : (Txt.item (runStr T DIGI p) 0 == Str.ofString "0") = true := hb
      rw [h0] at this; cases this
  · (rename _ ∧ _ ∧ AllLt _ _ => hl)
    exact hret _ _ _ _ (by k_asm) (by k_asm) ⟨_, made_one ⟨_, _, rfl⟩ (allLt_all (show AllLt _ (_ :: _ :: _) from hl))⟩
  · (rename _ ∧ _ ∧ AllLt _ _ => hl)
    exact hret _ _ _ _ (by k_asm) (by k_asm) ⟨_, made_one ⟨_, _, rfl⟩ (allLt_all (show AllLt _ (_ :: _ :: _) from hl))⟩
/-! QDec -/
theorem setDec : True := by
  k_with_none
  (k_with "execs cons" => first | (k_here; k_made; walk_at "execs cons") | (k_here; (with_reducible refine wpAny_execs_cons ?_); (try dsimp only); (try (with_reducible refine anyTok ?_); intro tk9); (try k_fold)))
  (k_with "enter" => ((rename At _ _ _ _ _ _ _ _ _ => HA9); (have B9 := HA9.B); (have X9 := HA9.X); (have T9 := HA9.T); (have hk9 := HA9.hk); clear HA9; (refine wpAny_call ?_); (k_dflt ktr_enter)))
  (k_with "ite" => (k_here; first
    | refine ite_pos (by with_reducible assumption) ?_
    | refine ite_neg (not_true_of (by with_reducible assumption)) ?_
    | refine ite_pos (by first | omega | ((simp only [decide_eq_true_eq, beq_iff_eq, bne_iff_ne, ne_eq, Bool.not_eq_true', decide_eq_false_iff_not]); omega)) ?_
    | refine ite_neg (by first | omega | ((simp only [decide_eq_true_eq, beq_iff_eq, bne_iff_ne, ne_eq, Bool.not_eq_true', decide_eq_false_iff_not]); omega)) ?_))
  (k_with "binaryOp FloorDiv int int" => (k_here; refine floordiv_int (by omega) ?_))
  (k_with "call ref" => (k_here; (with_reducible show wpAny _ _ (call (Value.ref 149) _) _ _ _); k_dflt (refine' says_go (by k_asm) (by k_asm) (run_says _ _ _ _ _ _ _ _ _ _ _ _ _ (by exact rfl) (by first | assumption | omega) (by assumption) (by assumption) (by assumption) (by assumption)) el2 (by k_asm) (by k_asm) (by k_asm) (by first | rfl | assumption) (Nat.le_of_ble_eq_true rfl) (Nat.le_of_ble_eq_true rfl) ?_); intro t9 tp9 l9 l8 l7 h9 tk9 F9 N9; (try k_sweep)))
  (k_with "call ref" => (k_here; (with_reducible show wpAny _ _ (call (Value.ref 135) _) _ _ _); k_dflt (refine' says_go (by k_asm) (by k_asm) (sign_says _ _ _ _ _ _ _ _ _ _ _ (by exact rfl) (by first | assumption | omega) (by assumption)) el1 (by k_asm) (by k_asm) (by k_asm) (by first | rfl | assumption) (Nat.le_of_ble_eq_true rfl) (Nat.le_of_ble_eq_true rfl) ?_); intro t9 h9 tk9 F9 N9; (try k_sweep)))
  (k_with "call ref" => (k_here; (with_reducible show wpAny _ _ (call (Value.ref 156) _) _ _ _); k_dflt (refine' says_go (by k_asm) (by k_asm) (ends_says _ _ _ _ _ _ _ _ _ _ _ _ _ _ _ (by exact rfl) (by first | assumption | omega) (by assumption) (by assumption)) el0 (by k_asm) (by k_asm) (by k_asm) (by first | rfl | assumption) (Nat.le_of_ble_eq_true rfl) (Nat.le_of_ble_eq_true rfl) ?_); intro h9 tk9 F9 N9; (try k_sweep)))
  (k_with "exec Raise some none" => (refine stuck ?_))
  (k_with "call ref" => (k_here; (with_reducible show wpAny _ _ (call (Value.ref 107) _) _ _ _); k_dflt (refine' says_go (by k_asm) (by k_asm) (few_says _ _ _ _ _ _ (Nat.le_trans (by assumption) (Nat.le_of_ble_eq_true rfl))) el0 (by k_asm) (by k_asm) (by k_asm) (by first | rfl | assumption) (Nat.le_of_ble_eq_true rfl) (Nat.le_of_ble_eq_true rfl) ?_); intro h9 tk9 F9 N9; (try k_sweep)))
  (k_with "call ref" => ((with_reducible show wpAny _ _ (call (Value.ref 99) _) _ _ _); (refine stuck ?_)))
  (k_with "len" => first | exact dot_le | exact Nat.le_trans (by assumption) (by assumption) | assumption | exact run_1000 (by assumption))
  (k_with "binaryOp Add str str" => (k_here; (with_reducible show wpAny _ _ (binaryOp Operator.Add (Value.str _ _) (Value.str _ _)) _ _ _); (refine add_le (by walk_at "len") (by walk_at "len") (Nat.le_of_ble_eq_true rfl) ?_); intro _ _ _))
  trivial
theorem dec_says (w : World) (sa da : Addr) (T : Str) (t k1 k2 tp : Tok) (pI : Int) (p : Nat) (rest : List (Addr × Obj)) (hpI : pI = (p : Int)) (hp1 : p < T.length) (hT : T.length ≤ 1000)
  (hr1 : ∀ q ∈ rest, q.1 ≠ sa) (hr2 : ∀ q ∈ rest, q.1 ≠ da) (hsd : @Ne Nat sa da)
    (e x y : Nat) (B : Str) (he : runEnd T DIGI p = e) (hdot : T.cps.toList[e]? = some 46) (hB : runStr T DIGI (e + 1) = B)
    (hx : PySem.intText? (runStr T DIGI p) = some (x : Int)) (hy : PySem.intText? B = some (y : Int)) (hx1 : x ≤ 1000) (hy1 : y ≤ 100000) (hlA : (runStr T DIGI p).length ≤ 640) (hlB : B.length ≤ 5)
    (h0 : (runStr T DIGI p).length ≤ 1 ∨ (Txt.item (runStr T DIGI p) 0 == Str.ofString "0") = false) (hB0 : (B == Str.ofString "") = false) (hf : free T (runEnd T DIGI (e + 1))) :
    Says w 600 400 191 [.ref sa] ((sa, instObj 201 da) :: scanD w da T t k1 k2 pI tp :: rest)
      (fun r news' => ∃ tp', Made (.dec (((x * 10 ^ B.length + y) / Nat.gcd (x * 10 ^ B.length + y) (10 ^ B.length) : Nat) : Int) (((10 ^ B.length) / Nat.gcd (x * 10 ^ B.length + y) (10 ^ B.length) : Nat) : Int)) ((sa, instObj 201 da) :: scanD w da T t k1 k2 ((runEnd T DIGI (e + 1) : Nat) : Int) tp' :: rest) r news') := by
  subst hpI
  subst he
  subst hB
  have hd1 : (signAt T ((runEnd T DIGI p : Nat) : Int) != Str.ofString ".") = false := by rw [sign_some hdot]; decide +kernel
  have hd2 : runEnd T DIGI p < T.length := by
    obtain ⟨h, _⟩ := List.getElem?_eq_some_iff.mp hdot
    simpa [Str.length] using h
  intro mean mg mb gd cn cs a ccd cl outer A₀ base h₀ L m hS gS dS oS tS Q E HA F N hret
  walk_at "enter"
  k_steps
  · (rename (_ == _) = true => hb)
    (rename 1 < _ => hc)
    rcases h0 with h0 | h0
    · have : (1 : Int) < ((runStr T DIGI p).length : Int) := hc
      omega
    · have : (Txt.item (runStr T DIGI p) 0 == Str.ofString "0") = true := hb
      rw [h0] at this; cases this
  all_goals
    unfold Stuck
    k_dflt (refine' says_go (by k_asm) ?kN (ratdec_says w _ _ x y _ _ _ hx hy hx1 hy1 hlA hlB) elT (by k_asm) (by k_asm) (by k_asm) (by first | rfl | assumption) (Nat.le_of_ble_eq_true rfl) (Nat.le_of_ble_eq_true rfl) ?_)
    case kN => k_asm
    intro q9 t9 t8 hq9 h9 tk9 F9 N9
    k_steps
    (rename _ ∧ _ ∧ _ ∧ AllLt _ _ => hl)
    refine hret _ _ _ _ (by k_asm) (by k_asm) ⟨_, _, _, rfl, ⟨q9, _, _, _, hl.1, rfl⟩, ?_, rfl⟩
    intro z hz y' hy'
    simp only [List.mem_cons, List.not_mem_nil, or_false] at hz
    rcases hz with rfl | rfl
    · exact allLt_all (l := (sa, _) :: (da, _) :: rest) hl.2 y' hy'
    · exact hq9 y' hy'
/-! QWord -/
theorem setWord : True := by
  k_with_none
  (k_with "execs cons" => first | (k_here; k_made; walk_at "execs cons") | (k_here; (with_reducible refine wpAny_execs_cons ?_); (try dsimp only); (try (with_reducible refine anyTok ?_); intro tk9); (try k_fold)))
  (k_with "enter" => ((rename At _ _ _ _ _ _ _ _ _ => HA9); (have B9 := HA9.B); (have X9 := HA9.X); (have T9 := HA9.T); (have hk9 := HA9.hk); clear HA9; (refine wpAny_call ?_); (k_dflt ktr_enter)))
  (k_with "ite" => (k_here; first
    | refine ite_pos (by with_reducible assumption) ?_
    | refine ite_neg (not_true_of (by with_reducible assumption)) ?_
    | refine ite_pos (by first | omega | ((simp only [decide_eq_true_eq, beq_iff_eq, bne_iff_ne, ne_eq, Bool.not_eq_true', decide_eq_false_iff_not]); omega)) ?_
    | refine ite_neg (by first | omega | ((simp only [decide_eq_true_eq, beq_iff_eq, bne_iff_ne, ne_eq, Bool.not_eq_true', decide_eq_false_iff_not]); omega)) ?_))
  (k_with "binaryOp FloorDiv int int" => (k_here; refine floordiv_int (by omega) ?_))
  (k_with "compareOp In str ref" => (k_here; k_dflt (refine' in_tup (ys := RES) (tupK (Frag.In.keeps (by k_asm) (Fr.keep (by k_asm))) (by k_is)) (by repeat (first | exact StrsAre.nil | refine StrsAre.cons _ _ ?_)) ?_)))
  (k_with "call ref" => (k_here; (with_reducible show wpAny _ _ (call (Value.ref 149) _) _ _ _); k_dflt (refine' says_go (by k_asm) (by first | k_asm | exact news_drop (by k_asm) | exact news_drop (news_drop (by k_asm))) (run_says _ _ _ _ _ _ _ _ _ _ _ _ _ (by first | exact cast1 _ | exact cast2 _ | exact rfl) (by first | assumption | omega) (by assumption) (by assumption) (by assumption) (by assumption)) el2 (by k_asm) (by k_asm) (by k_asm) (by first | rfl | assumption) (Nat.le_of_ble_eq_true rfl) (Nat.le_of_ble_eq_true rfl) ?_); intro t9 tp9 l9 l8 l7 h9 tk9 F9 N9; (try k_sweep)))
  (k_with "call ref" => (k_here; (with_reducible show wpAny _ _ (call (Value.ref 135) _) _ _ _); k_dflt (refine' says_go (by k_asm) (by first | k_asm | exact news_rot (by k_asm)) (sign_says _ _ _ _ _ _ _ _ _ _ _ (by first | exact cast1 _ | exact cast2 _ | exact rfl) (by first | assumption | omega) (by assumption)) el1 (by k_asm) (by k_asm) (by k_asm) (by first | rfl | assumption) (Nat.le_of_ble_eq_true rfl) (Nat.le_of_ble_eq_true rfl) ?_); intro t9 h9 tk9 F9 N9; (try k_sweep)))
  (k_with "call ref" => (k_here; (with_reducible show wpAny _ _ (call (Value.ref 156) _) _ _ _); k_dflt (refine' says_go (by k_asm) (by first | k_asm | exact news_drop (by k_asm) | exact news_drop (news_drop (by k_asm))) (ends_says _ _ _ _ _ _ _ _ _ _ _ _ _ _ _ (by first | exact cast1 _ | exact cast2 _ | exact rfl) (by first | assumption | omega) (by assumption) (by assumption)) el0 (by k_asm) (by k_asm) (by k_asm) (by first | rfl | assumption) (Nat.le_of_ble_eq_true rfl) (Nat.le_of_ble_eq_true rfl) ?_); intro h9 tk9 F9 N9; (try k_sweep)))
  (k_with "exec Raise some none" => (refine stuck ?_))
  (k_with "call ref" => ((with_reducible show wpAny _ _ (call (Value.ref 163) _) _ _ _); (refine stuck ?_)))
  (k_with "call ref" => ((with_reducible show wpAny _ _ (call (Value.ref 170) _) _ _ _); (refine stuck ?_)))
  (k_with "call ref" => ((with_reducible show wpAny _ _ (call (Value.ref 177) _) _ _ _); (refine stuck ?_)))
  (k_with "call ref" => ((with_reducible show wpAny _ _ (call (Value.ref 184) _) _ _ _); (refine stuck ?_)))
  (k_with "call ref" => ((with_reducible show wpAny _ _ (call (Value.ref 191) _) _ _ _); (refine stuck ?_)))
  (k_with "storeName" => ((rename signAt _ _ = _ => hs9); rw [hs9]))
  trivial
/-- what stands in T from place p on, and where it ends -/
inductive Reads (T : Str) (p : Nat) : Item → Nat → Prop
  | str (X : Str) (B : List Nat) : T.cps.toList[p]? = some 34 → sfx T (p + 1) = dbl X.cps.toList ++ 34 :: B → B.head? ≠ some 34 → Reads T p (.str X) (T.length - B.length)
  | quo (N : Str) (e : Nat) : T.cps.toList[p]? = some 124 → Txt.find3 T (Str.ofString "|") ((p : Int) + 1) = (e : Int) → p + 1 ≤ e → e < T.length → Txt.slice T (some ((p : Int) + 1)) (some (e : Int)) = N → Txt.find N (Str.ofString "\\") = -1 → Reads T p (.sym (resQ N)) (e + 1)
  | key (c : Nat) : T.cps.toList[p]? = some 58 → T.cps.toList[p + 1]? = some c → inS SIMP c = true → inS DIGI c = false → Reads T p (.key (runStr T SIMP (p + 1))) (runEnd T SIMP (p + 1))
  | bitb : T.cps.toList[p]? = some 35 → T.cps.toList[p + 1]? = some 98 → (runStr T BINA (p + 2) == Str.ofString "") = false → free T (runEnd T BINA (p + 2)) → Reads T p (.bits (valF 2 (KStt.codes (Txt.lower (runStr T BINA (p + 2))))) ((runStr T BINA (p + 2)).length : Int)) (runEnd T BINA (p + 2))
  | bitx : T.cps.toList[p]? = some 35 → T.cps.toList[p + 1]? = some 120 → (runStr T HEXD (p + 2) == Str.ofString "") = false → free T (runEnd T HEXD (p + 2)) → Reads T p (.bits (valF 16 (KStt.codes (Txt.lower (runStr T HEXD (p + 2))))) (4 * ((runStr T HEXD (p + 2)).length : Int))) (runEnd T HEXD (p + 2))
  | num (c n : Nat) : T.cps.toList[p]? = some c → inS DIGI c = true → PySem.intText? (runStr T DIGI p) = some (n : Int) → ((runStr T DIGI p).length ≤ 1 ∨ (Txt.item (runStr T DIGI p) 0 == Str.ofString "0") = false) → signAt T (runEnd T DIGI p : Nat) ≠ Str.ofString "." → free T (runEnd T DIGI p) → (runStr T DIGI p).length ≤ 640 → Reads T p (.num n) (runEnd T DIGI p)
  | dec (c e x y : Nat) (B : Str) : T.cps.toList[p]? = some c → inS DIGI c = true → runEnd T DIGI p = e → T.cps.toList[e]? = some 46 → runStr T DIGI (e + 1) = B → PySem.intText? (runStr T DIGI p) = some (x : Int) → PySem.intText? B = some (y : Int) → x ≤ 1000 → y ≤ 100000 → (runStr T DIGI p).length ≤ 640 → B.length ≤ 5 → ((runStr T DIGI p).length ≤ 1 ∨ (Txt.item (runStr T DIGI p) 0 == Str.ofString "0") = false) → (B == Str.ofString "") = false → free T (runEnd T DIGI (e + 1)) →
      Reads T p (.dec (((x * 10 ^ B.length + y) / Nat.gcd (x * 10 ^ B.length + y) (10 ^ B.length) : Nat) : Int) (((10 ^ B.length) / Nat.gcd (x * 10 ^ B.length + y) (10 ^ B.length) : Nat) : Int)) (runEnd T DIGI (e + 1))
  | sym (c : Nat) : T.cps.toList[p]? = some c → inS SIMP c = true → inS DIGI c = false → Reads T p (.sym (runStr T SIMP p)) (runEnd T SIMP p)
theorem at_lt {T : Str} {p c : Nat} (h : T.cps.toList[p]? = some c) : p < T.length := by
  obtain ⟨h, _⟩ := List.getElem?_eq_some_iff.mp h
  simpa [Str.length] using h
theorem word_str (w : World) (sa da : Addr) (T : Str) (t k1 k2 tp : Tok) (pI : Int) (p : Nat) (rest : List (Addr × Obj)) (hpI : pI = (p : Int)) (hT : T.length ≤ 1000)
  (hr1 : ∀ q ∈ rest, q.1 ≠ sa) (hr2 : ∀ q ∈ rest, q.1 ≠ da) (hsd : @Ne Nat sa da)
    (X : Str) (B : List Nat) (hc : T.cps.toList[p]? = some 34) (hX : sfx T (p + 1) = dbl X.cps.toList ++ 34 :: B) (hB : B.head? ≠ some 34) :
    Says w 500 300 198 [.ref sa] ((sa, instObj 201 da) :: scanD w da T t k1 k2 pI tp :: rest) (fun r news' => ∃ tp', Made (.str X) ((sa, instObj 201 da) :: scanD w da T t k1 k2 ((T.length - B.length : Nat) : Int) tp' :: rest) r news') := by
  subst hpI
  have hp1 := at_lt hc
  have hp2 : p ≤ T.length := Nat.le_of_lt hp1
  have hs := sign_some hc
  intro mean mg mb gd cn cs a ccd cl outer A₀ base h₀ L m hS gS dS oS tS Q E HA F N hret
  walk_at "enter"
  k_steps
  unfold Stuck
  k_dflt (refine' says_use (by k_asm) ?kN (string_says w sa da T _ _ _ _ _ p rest rfl hp1 hT hr1 hr2 hsd X B hX hB) (by k_asm) (by k_asm) (by k_asm) (by first | rfl | assumption) (Nat.le_of_ble_eq_true rfl) (Nat.le_of_ble_eq_true rfl) ?_)
  case kN => k_asm
  intro r9 n9 h9 tk9 F9 N9 P9
  k_steps
  exact hret _ _ _ _ (by k_asm) (by k_asm) P9
theorem word_quo (w : World) (sa da : Addr) (T : Str) (t k1 k2 tp : Tok) (pI : Int) (p : Nat) (rest : List (Addr × Obj)) (hpI : pI = (p : Int)) (hT : T.length ≤ 1000)
  (hr1 : ∀ q ∈ rest, q.1 ≠ sa) (hr2 : ∀ q ∈ rest, q.1 ≠ da) (hsd : @Ne Nat sa da)
    (N : Str) (e : Nat) (hc : T.cps.toList[p]? = some 124) (he : Txt.find3 T (Str.ofString "|") ((p : Int) + 1) = (e : Int)) (hpe : p + 1 ≤ e) (heT : e < T.length) (hN : Txt.slice T (some ((p : Int) + 1)) (some (e : Int)) = N) (hb : Txt.find N (Str.ofString "\\") = -1) :
    Says w 500 300 198 [.ref sa] ((sa, instObj 201 da) :: scanD w da T t k1 k2 pI tp :: rest) (fun r news' => ∃ tp', Made (.sym (resQ N)) ((sa, instObj 201 da) :: scanD w da T t k1 k2 ((e + 1 : Nat) : Int) tp' :: rest) r news') := by
  subst hpI
  have hp1 := at_lt hc
  have hp2 : p ≤ T.length := Nat.le_of_lt hp1
  have hs := sign_some hc
  intro mean mg mb gd cn cs a ccd cl outer A₀ base h₀ L m hS gS dS oS tS Q E HA F N9 hret
  walk_at "enter"
  k_steps
  unfold Stuck
  k_dflt (refine' says_use (by k_asm) ?kN (quoted_says w sa da T _ _ _ _ _ p rest rfl hp1 hT hr1 hr2 hsd e N he hpe heT hN hb) (by k_asm) (by k_asm) (by k_asm) (by first | rfl | assumption) (Nat.le_of_ble_eq_true rfl) (Nat.le_of_ble_eq_true rfl) ?_)
  case kN => k_asm
  intro r9 n9 h9 tk9 F9 N9 P9
  k_steps
  exact hret _ _ _ _ (by k_asm) (by k_asm) P9
theorem word_key (w : World) (sa da : Addr) (T : Str) (t k1 k2 tp : Tok) (pI : Int) (p : Nat) (rest : List (Addr × Obj)) (hpI : pI = (p : Int)) (hT : T.length ≤ 1000)
  (hr1 : ∀ q ∈ rest, q.1 ≠ sa) (hr2 : ∀ q ∈ rest, q.1 ≠ da) (hsd : @Ne Nat sa da)
    (c : Nat) (hc : T.cps.toList[p]? = some 58) (hc' : T.cps.toList[p + 1]? = some c) (hc1 : inS SIMP c = true) (hc2 : inS DIGI c = false) :
    Says w 500 300 198 [.ref sa] ((sa, instObj 201 da) :: scanD w da T t k1 k2 pI tp :: rest) (fun r news' => ∃ tp', Made (.key (runStr T SIMP (p + 1))) ((sa, instObj 201 da) :: scanD w da T t k1 k2 ((runEnd T SIMP (p + 1) : Nat) : Int) tp' :: rest) r news') := by
  subst hpI
  have hp1 := at_lt hc
  have hp2 : p ≤ T.length := Nat.le_of_lt hp1
  have hs := sign_some hc
  intro mean mg mb gd cn cs a ccd cl outer A₀ base h₀ L m hS gS dS oS tS Q E HA F N hret
  walk_at "enter"
  k_steps
  unfold Stuck
  k_dflt (refine' says_use (by k_asm) ?kN (key_says w sa da T _ _ _ _ _ p rest rfl hp1 hT hr1 hr2 hsd c hc' hc1 hc2) (by k_asm) (by k_asm) (by k_asm) (by first | rfl | assumption) (Nat.le_of_ble_eq_true rfl) (Nat.le_of_ble_eq_true rfl) ?_)
  case kN => k_asm
  intro r9 n9 h9 tk9 F9 N9 P9
  k_steps
  exact hret _ _ _ _ (by k_asm) (by k_asm) P9
theorem word_bitb (w : World) (sa da : Addr) (T : Str) (t k1 k2 tp : Tok) (pI : Int) (p : Nat) (rest : List (Addr × Obj)) (hpI : pI = (p : Int)) (hT : T.length ≤ 1000)
  (hr1 : ∀ q ∈ rest, q.1 ≠ sa) (hr2 : ∀ q ∈ rest, q.1 ≠ da) (hsd : @Ne Nat sa da)
    (hc : T.cps.toList[p]? = some 35) (hc' : T.cps.toList[p + 1]? = some 98) (hd : (runStr T BINA (p + 2) == Str.ofString "") = false) (hf : free T (runEnd T BINA (p + 2))) :
    Says w 500 300 198 [.ref sa] ((sa, instObj 201 da) :: scanD w da T t k1 k2 pI tp :: rest) (fun r news' => ∃ tp', Made (.bits (valF 2 (KStt.codes (Txt.lower (runStr T BINA (p + 2))))) (((runStr T BINA (p + 2)).length : Int))) ((sa, instObj 201 da) :: scanD w da T t k1 k2 ((runEnd T BINA (p + 2) : Nat) : Int) tp' :: rest) r news') := by
  subst hpI
  have hp1 := at_lt hc
  have hp2 : p ≤ T.length := Nat.le_of_lt hp1
  have hs := sign_some hc
  intro mean mg mb gd cn cs a ccd cl outer A₀ base h₀ L m hS gS dS oS tS Q E HA F N hret
  walk_at "enter"
  k_steps
  unfold Stuck
  k_dflt (refine' says_use (by k_asm) ?kN (bitb_says w sa da T _ _ _ _ _ p rest rfl hp1 hT hr1 hr2 hsd hc' hd hf) (by k_asm) (by k_asm) (by k_asm) (by first | rfl | assumption) (Nat.le_of_ble_eq_true rfl) (Nat.le_of_ble_eq_true rfl) ?_)
  case kN => k_asm
  intro r9 n9 h9 tk9 F9 N9 P9
  k_steps
  exact hret _ _ _ _ (by k_asm) (by k_asm) P9
theorem word_bitx (w : World) (sa da : Addr) (T : Str) (t k1 k2 tp : Tok) (pI : Int) (p : Nat) (rest : List (Addr × Obj)) (hpI : pI = (p : Int)) (hT : T.length ≤ 1000)
  (hr1 : ∀ q ∈ rest, q.1 ≠ sa) (hr2 : ∀ q ∈ rest, q.1 ≠ da) (hsd : @Ne Nat sa da)
    (hc : T.cps.toList[p]? = some 35) (hc' : T.cps.toList[p + 1]? = some 120) (hd : (runStr T HEXD (p + 2) == Str.ofString "") = false) (hf : free T (runEnd T HEXD (p + 2))) :
    Says w 500 300 198 [.ref sa] ((sa, instObj 201 da) :: scanD w da T t k1 k2 pI tp :: rest) (fun r news' => ∃ tp', Made (.bits (valF 16 (KStt.codes (Txt.lower (runStr T HEXD (p + 2))))) (4 * ((runStr T HEXD (p + 2)).length : Int))) ((sa, instObj 201 da) :: scanD w da T t k1 k2 ((runEnd T HEXD (p + 2) : Nat) : Int) tp' :: rest) r news') := by
  subst hpI
  have hp1 := at_lt hc
  have hp2 : p ≤ T.length := Nat.le_of_lt hp1
  have hs := sign_some hc
  intro mean mg mb gd cn cs a ccd cl outer A₀ base h₀ L m hS gS dS oS tS Q E HA F N hret
  walk_at "enter"
  k_steps
  unfold Stuck
  k_dflt (refine' says_use (by k_asm) ?kN (bitx_says w sa da T _ _ _ _ _ p rest rfl hp1 hT hr1 hr2 hsd hc' hd hf) (by k_asm) (by k_asm) (by k_asm) (by first | rfl | assumption) (Nat.le_of_ble_eq_true rfl) (Nat.le_of_ble_eq_true rfl) ?_)
  case kN => k_asm
  intro r9 n9 h9 tk9 F9 N9 P9
  k_steps
  exact hret _ _ _ _ (by k_asm) (by k_asm) P9
theorem word_num (w : World) (sa da : Addr) (T : Str) (t k1 k2 tp : Tok) (pI : Int) (p : Nat) (rest : List (Addr × Obj)) (hpI : pI = (p : Int)) (hT : T.length ≤ 1000)
  (hr1 : ∀ q ∈ rest, q.1 ≠ sa) (hr2 : ∀ q ∈ rest, q.1 ≠ da) (hsd : @Ne Nat sa da)
    (c n : Nat) (hc : T.cps.toList[p]? = some c) (hcd : inS DIGI c = true) (hn : PySem.intText? (runStr T DIGI p) = some (n : Int)) (h0 : (runStr T DIGI p).length ≤ 1 ∨ (Txt.item (runStr T DIGI p) 0 == Str.ofString "0") = false) (hpt : signAt T (runEnd T DIGI p : Nat) ≠ Str.ofString ".") (hf : free T (runEnd T DIGI p)) (hl : (runStr T DIGI p).length ≤ 640) :
    Says w 500 300 198 [.ref sa] ((sa, instObj 201 da) :: scanD w da T t k1 k2 pI tp :: rest) (fun r news' => ∃ tp', Made (.num n) ((sa, instObj 201 da) :: scanD w da T t k1 k2 ((runEnd T DIGI p : Nat) : Int) tp' :: rest) r news') := by
  subst hpI
  have hp1 := at_lt hc
  have hp2 : p ≤ T.length := Nat.le_of_lt hp1
  have hs := sign_some hc
  have hv := dig_at hcd
  have hs1 : ((⟨#[c]⟩ : Str) == Str.ofString "") = false := sg_ne (by decide +kernel)
  have hs2 : ((⟨#[c]⟩ : Str) == Str.ofString "\"") = false := sg_ne2 (c' := 34) (by decide +kernel) (by omega)
  have hs3 : ((⟨#[c]⟩ : Str) == Str.ofString "|") = false := sg_ne2 (c' := 124) (by decide +kernel) (by omega)
  have hs4 : ((⟨#[c]⟩ : Str) == Str.ofString ":") = false := sg_ne2 (c' := 58) (by decide +kernel) (by omega)
  have hs5 : ((⟨#[c]⟩ : Str) == Str.ofString "#") = false := sg_ne2 (c' := 35) (by decide +kernel) (by omega)
  have hs6 : (Builtin.Str.occurrences (Str.ofString "0123456789") ⟨#[c]⟩ 0 (Str.ofString "0123456789").length 1).isEmpty = false := by rw [in_item]; rw [hcd]; rfl
  intro mean mg mb gd cn cs a ccd cl outer A₀ base h₀ L m hS gS dS oS tS Q E HA F N hret
  walk_at "enter"
  k_steps
  unfold Stuck
  k_dflt (refine' says_use (by k_asm) ?kN (num_says w sa da T _ _ _ _ _ p rest rfl hp1 hT hr1 hr2 hsd n hn h0 hpt hf hl) (by k_asm) (by k_asm) (by k_asm) (by first | rfl | assumption) (Nat.le_of_ble_eq_true rfl) (Nat.le_of_ble_eq_true rfl) ?_)
  case kN => k_asm
  intro r9 n9 h9 tk9 F9 N9 P9
  k_steps
  exact hret _ _ _ _ (by k_asm) (by k_asm) P9
theorem word_dec (w : World) (sa da : Addr) (T : Str) (t k1 k2 tp : Tok) (pI : Int) (p : Nat) (rest : List (Addr × Obj)) (hpI : pI = (p : Int)) (hT : T.length ≤ 1000)
  (hr1 : ∀ q ∈ rest, q.1 ≠ sa) (hr2 : ∀ q ∈ rest, q.1 ≠ da) (hsd : @Ne Nat sa da)
    (c e x y : Nat) (B : Str) (hc : T.cps.toList[p]? = some c) (hcd : inS DIGI c = true) (he : runEnd T DIGI p = e) (hdot : T.cps.toList[e]? = some 46) (hB : runStr T DIGI (e + 1) = B) (hx : PySem.intText? (runStr T DIGI p) = some (x : Int)) (hy : PySem.intText? B = some (y : Int)) (hx1 : x ≤ 1000) (hy1 : y ≤ 100000) (hlA : (runStr T DIGI p).length ≤ 640) (hlB : B.length ≤ 5) (h0 : (runStr T DIGI p).length ≤ 1 ∨ (Txt.item (runStr T DIGI p) 0 == Str.ofString "0") = false) (hB0 : (B == Str.ofString "") = false) (hf : free T (runEnd T DIGI (e + 1))) :
    Says w 500 300 198 [.ref sa] ((sa, instObj 201 da) :: scanD w da T t k1 k2 pI tp :: rest) (fun r news' => ∃ tp', Made (.dec (((x * 10 ^ B.length + y) / Nat.gcd (x * 10 ^ B.length + y) (10 ^ B.length) : Nat) : Int) (((10 ^ B.length) / Nat.gcd (x * 10 ^ B.length + y) (10 ^ B.length) : Nat) : Int)) ((sa, instObj 201 da) :: scanD w da T t k1 k2 ((runEnd T DIGI (e + 1) : Nat) : Int) tp' :: rest) r news') := by
  subst hpI
  have hp1 := at_lt hc
  have hp2 : p ≤ T.length := Nat.le_of_lt hp1
  have hs := sign_some hc
  have hv := dig_at hcd
  have hs1 : ((⟨#[c]⟩ : Str) == Str.ofString "") = false := sg_ne (by decide +kernel)
  have hs2 : ((⟨#[c]⟩ : Str) == Str.ofString "\"") = false := sg_ne2 (c' := 34) (by decide +kernel) (by omega)
  have hs3 : ((⟨#[c]⟩ : Str) == Str.ofString "|") = false := sg_ne2 (c' := 124) (by decide +kernel) (by omega)
  have hs4 : ((⟨#[c]⟩ : Str) == Str.ofString ":") = false := sg_ne2 (c' := 58) (by decide +kernel) (by omega)
  have hs5 : ((⟨#[c]⟩ : Str) == Str.ofString "#") = false := sg_ne2 (c' := 35) (by decide +kernel) (by omega)
  have hs6 : (Builtin.Str.occurrences (Str.ofString "0123456789") ⟨#[c]⟩ 0 (Str.ofString "0123456789").length 1).isEmpty = false := by rw [in_item]; rw [hcd]; rfl
  intro mean mg mb gd cn cs a ccd cl outer A₀ base h₀ L m hS gS dS oS tS Q E HA F N hret
  walk_at "enter"
  k_steps
  unfold Stuck
  k_dflt (refine' says_use (by k_asm) ?kN (dec_says w sa da T _ _ _ _ _ p rest rfl hp1 hT hr1 hr2 hsd e x y B he hdot hB hx hy hx1 hy1 hlA hlB h0 hB0 hf) (by k_asm) (by k_asm) (by k_asm) (by first | rfl | assumption) (Nat.le_of_ble_eq_true rfl) (Nat.le_of_ble_eq_true rfl) ?_)
  case kN => k_asm
  intro r9 n9 h9 tk9 F9 N9 P9
  k_steps
  exact hret _ _ _ _ (by k_asm) (by k_asm) P9
theorem word_sym (w : World) (sa da : Addr) (T : Str) (t k1 k2 tp : Tok) (pI : Int) (p : Nat) (rest : List (Addr × Obj)) (hpI : pI = (p : Int)) (hT : T.length ≤ 1000)
  (hr1 : ∀ q ∈ rest, q.1 ≠ sa) (hr2 : ∀ q ∈ rest, q.1 ≠ da) (hsd : @Ne Nat sa da)
    (c : Nat) (hc : T.cps.toList[p]? = some c) (hcs : inS SIMP c = true) (hcd : inS DIGI c = false) :
    Says w 500 300 198 [.ref sa] ((sa, instObj 201 da) :: scanD w da T t k1 k2 pI tp :: rest) (fun r news' => ∃ tp', Made (.sym (runStr T SIMP p)) ((sa, instObj 201 da) :: scanD w da T t k1 k2 ((runEnd T SIMP p : Nat) : Int) tp' :: rest) r news') := by
  subst hpI
  have hp1 := at_lt hc
  have hp2 : p ≤ T.length := Nat.le_of_lt hp1
  have hs := sign_some hc
  have hv := sim_at hcs
  have hs1 : ((⟨#[c]⟩ : Str) == Str.ofString "") = false := sg_ne (by decide +kernel)
  have hs2 : ((⟨#[c]⟩ : Str) == Str.ofString "\"") = false := sg_ne2 (c' := 34) (by decide +kernel) (by omega)
  have hs3 : ((⟨#[c]⟩ : Str) == Str.ofString "|") = false := sg_ne2 (c' := 124) (by decide +kernel) (by omega)
  have hs4 : ((⟨#[c]⟩ : Str) == Str.ofString ":") = false := sg_ne2 (c' := 58) (by decide +kernel) (by omega)
  have hs5 : ((⟨#[c]⟩ : Str) == Str.ofString "#") = false := sg_ne2 (c' := 35) (by decide +kernel) (by omega)
  have hs6 : (Builtin.Str.occurrences (Str.ofString "0123456789") ⟨#[c]⟩ 0 (Str.ofString "0123456789").length 1).isEmpty = true := by rw [in_item]; rw [hcd]; rfl
  have hs7 : (Builtin.Str.occurrences SIMP ⟨#[c]⟩ 0 SIMP.length 1).isEmpty = false := by rw [in_item]; rw [hcs]; rfl
  intro mean mg mb gd cn cs a ccd cl outer A₀ base h₀ L m hS gS dS oS tS Q E HA F N hret
  walk_at "enter"
  k_steps
  (rename (_ ∧ _ ∧ AllLt _ _) => hl)
  exact hret _ _ _ _ (by k_asm) (by k_asm) ⟨_, made_one ⟨_, _, rfl⟩ (allLt_all (l := (sa, _) :: (da, _) :: rest) hl)⟩
theorem word_says (w : World) (sa da : Addr) (T : Str) (t k1 k2 tp : Tok) (pI : Int) (p : Nat) (rest : List (Addr × Obj)) (hpI : pI = (p : Int)) (hT : T.length ≤ 1000)
  (hr1 : ∀ q ∈ rest, q.1 ≠ sa) (hr2 : ∀ q ∈ rest, q.1 ≠ da) (hsd : @Ne Nat sa da) (it : Item) (e : Nat) (hR : Reads T p it e) :
    Says w 500 300 198 [.ref sa] ((sa, instObj 201 da) :: scanD w da T t k1 k2 pI tp :: rest) (fun r news' => ∃ tp', Made it ((sa, instObj 201 da) :: scanD w da T t k1 k2 (e : Int) tp' :: rest) r news') := by
  cases hR with
  | str X B h1 h2 h3 => exact word_str w sa da T t k1 k2 tp pI p rest hpI hT hr1 hr2 hsd X B h1 h2 h3
  | quo N e h1 h2 h3 h4 h5 h6 => exact word_quo w sa da T t k1 k2 tp pI p rest hpI hT hr1 hr2 hsd N e h1 h2 h3 h4 h5 h6
  | key c h1 h2 h3 h4 => exact word_key w sa da T t k1 k2 tp pI p rest hpI hT hr1 hr2 hsd c h1 h2 h3 h4
  | bitb h1 h2 h3 h4 => exact word_bitb w sa da T t k1 k2 tp pI p rest hpI hT hr1 hr2 hsd h1 h2 h3 h4
  | bitx h1 h2 h3 h4 => exact word_bitx w sa da T t k1 k2 tp pI p rest hpI hT hr1 hr2 hsd h1 h2 h3 h4
  | num c n h1 h2 h3 h4 h5 h6 h7 => exact word_num w sa da T t k1 k2 tp pI p rest hpI hT hr1 hr2 hsd c n h1 h2 h3 h4 h5 h6 h7
  | dec c e x y B h1 h2 h3 h4 h5 h6 h7 h8 h9 h10 h11 h12 h13 h14 => exact word_dec w sa da T t k1 k2 tp pI p rest hpI hT hr1 hr2 hsd c e x y B h1 h2 h3 h4 h5 h6 h7 h8 h9 h10 h11 h12 h13 h14
  | sym c h1 h2 h3 => exact word_sym w sa da T t k1 k2 tp pI p rest hpI hT hr1 hr2 hsd c h1 h2 h3
/-! QLs2 -/
/-- s, with something that stops it behind, is read as it -/
noncomputable def R1 (it : Item) (s : List Nat) : Prop := ∀ (T : Str) (p : Nat) (b : List Nat), sfx T p = s ++ b → stopB b = true → Reads T p it (p + s.length)
theorem r_sym {c : Nat} {s : List Nat} (h : ∀ d ∈ c :: s, inS SIMP d = true) (hd : inS DIGI c = false) : R1 (.sym ⟨(c :: s).toArray⟩) (c :: s) := by
  intro T p b hs hb
  obtain ⟨h1, h2⟩ := run_cat hs h (stop_simp hb)
  have := Reads.sym c (at_sfx hs) (h c (.head _)) hd
  rwa [h1, h2] at this
theorem bar_eq : Str.ofString "|" = ⟨#[124]⟩ := by decide +kernel
theorem bsl_eq : Str.ofString "\\" = ⟨#[92]⟩ := by decide +kernel
theorem r_quo {n : List Nat} (h1 : 124 ∉ n) (h2 : 92 ∉ n) : R1 (.sym (resQ ⟨n.toArray⟩)) (124 :: (n ++ [124])) := by
  intro T p b hs hb
  have hs' : sfx T p = 124 :: (n ++ 124 :: b) := by rw [hs]; simp
  have ht := sfx_tl hs'
  have hl := sfx_le hs' (by simp)
  simp at hl
  have hf := find3_at ht h1
  have := Reads.quo (T := T) (p := p) ⟨n.toArray⟩ (p + 1 + n.length) (at_sfx hs') (by rw [bar_eq]; exact hf) (by omega) (by omega)
    (by
      rw [show ((p : Int) + 1) = ((p + 1 : Nat) : Int) from rfl, slice_nat T (by omega) (by omega), ht, Nat.add_sub_cancel_left, List.take_left])
    (by rw [bsl_eq]; exact find_no (by simpa using h2))
  rw [show p + 1 + n.length + 1 = p + (124 :: (n ++ [124])).length by simp; omega] at this
  exact this
theorem r_str (X : Str) : R1 (.str X) (34 :: (dbl X.cps.toList ++ [34])) := by
  intro T p b hs hb
  have hs' : sfx T p = 34 :: (dbl X.cps.toList ++ 34 :: b) := by rw [hs]; simp
  have hl := sfx_le hs' (by simp)
  simp at hl
  have := Reads.str (T := T) (p := p) X b (at_sfx hs') (sfx_tl hs') (stop_quo hb)
  rw [show T.length - b.length = p + (34 :: (dbl X.cps.toList ++ [34])).length by simp; omega] at this
  exact this
theorem r_key {c : Nat} {s : List Nat} (h : ∀ d ∈ c :: s, inS SIMP d = true) (hd : inS DIGI c = false) : R1 (.key ⟨(c :: s).toArray⟩) (58 :: c :: s) := by
  intro T p b hs hb
  have ht := sfx_tl (l := (c :: s) ++ b) hs
  obtain ⟨h1, h2⟩ := run_cat ht h (stop_simp hb)
  have := Reads.key (T := T) (p := p) c (at_sfx hs) (at_sfx ht) (h c (.head _)) hd
  rw [h1, h2] at this
  rw [show p + 1 + (c :: s).length = p + (58 :: c :: s).length by simp; omega] at this
  exact this
theorem ne_emp {c : Nat} {s : List Nat} : ((⟨(c :: s).toArray⟩ : Str) == Str.ofString "") = false := by
  rw [beq_eq_false_iff_ne]
  intro e
  have : (⟨(c :: s).toArray⟩ : Str).length = (Str.ofString "").length := by rw [e]
  rw [show (Str.ofString "").length = 0 by decide +kernel] at this
  simp [Str.length] at this
theorem r_bitb {c : Nat} {s : List Nat} (h : ∀ d ∈ c :: s, inS BINA d = true) : R1 (.bits (valF 2 (KStt.codes (Txt.lower ⟨(c :: s).toArray⟩))) ((c :: s).length : Int)) (35 :: 98 :: c :: s) := by
  intro T p b hs hb
  have ht := sfx_tl (l := 98 :: ((c :: s) ++ b)) hs
  have ht2 := sfx_tl ht
  obtain ⟨h1, h2⟩ := run_cat ht2 h (stop_of hb fun _ => sub_bin)
  have hf : free T (runEnd T BINA (p + 1 + 1)) := by rw [h2]; exact free_of (sfx_dr ht2) hb
  have := Reads.bitb (T := T) (p := p) (at_sfx hs) (at_sfx ht) (by rw [show p + 2 = p + 1 + 1 by omega, h1]; exact ne_emp) hf
  rw [show p + 2 = p + 1 + 1 by omega, h1, h2] at this
  rw [show p + 1 + 1 + (c :: s).length = p + (35 :: 98 :: c :: s).length by simp; omega, show ((⟨(c :: s).toArray⟩ : Str).length : Int) = ((c :: s).length : Int) by simp [Str.length]] at this
  exact this
theorem r_bitx {c : Nat} {s : List Nat} (h : ∀ d ∈ c :: s, inS HEXD d = true) : R1 (.bits (valF 16 (KStt.codes (Txt.lower ⟨(c :: s).toArray⟩))) (4 * ((c :: s).length : Int))) (35 :: 120 :: c :: s) := by
  intro T p b hs hb
  have ht := sfx_tl (l := 120 :: ((c :: s) ++ b)) hs
  have ht2 := sfx_tl ht
  obtain ⟨h1, h2⟩ := run_cat ht2 h (stop_of hb fun _ => sub_hex)
  have hf : free T (runEnd T HEXD (p + 1 + 1)) := by rw [h2]; exact free_of (sfx_dr ht2) hb
  have := Reads.bitx (T := T) (p := p) (at_sfx hs) (at_sfx ht) (by rw [show p + 2 = p + 1 + 1 by omega, h1]; exact ne_emp) hf
  rw [show p + 2 = p + 1 + 1 by omega, h1, h2] at this
  rw [show p + 1 + 1 + (c :: s).length = p + (35 :: 120 :: c :: s).length by simp; omega, show ((⟨(c :: s).toArray⟩ : Str).length : Int) = ((c :: s).length : Int) by simp [Str.length]] at this
  exact this
theorem dot_simp : inS SIMP 46 = true := by decide +kernel
theorem dot_dig : inS DIGI 46 = false := by decide +kernel
theorem dot_eq : Str.ofString "." = ⟨#[46]⟩ := by decide +kernel
theorem r_num {c n : Nat} {s : List Nat} (h : ∀ d ∈ c :: s, inS DIGI d = true) (hn : PySem.intText? ⟨(c :: s).toArray⟩ = some (n : Int)) (h0 : s = [] ∨ c ≠ 48) (hl : (c :: s).length ≤ 640) : R1 (.num n) (c :: s) := by
  intro T p b hs hb
  obtain ⟨h1, h2⟩ := run_cat hs h (stop_of hb fun _ => sub_dig)
  have hf : free T (runEnd T DIGI p) := by rw [h2]; exact free_of (sfx_dr hs) hb
  have := Reads.num (T := T) (p := p) c n (at_sfx hs) (h c (.head _)) (by rw [h1]; exact hn)
    (by
      rcases h0 with rfl | h0
      · exact .inl (by rw [h1]; exact Nat.le_refl _)
      · refine .inr ?_
        rw [run_first (at_sfx hs) (h c (.head _))]
        exact sg_ne2 (c' := 48) (by decide +kernel) h0)
    (by
      intro e
      rcases sign_cases T (runEnd T DIGI p) with ⟨_, _, e1⟩ | ⟨d, _, e1, e2⟩
      · rw [e1] at e; exact absurd e (by decide +kernel)
      · rw [e2, dot_eq] at e
        have : d = 46 := by injection e with e; simpa using e
        subst this
        have := hf _ e1
        rw [dot_simp] at this; cases this)
    hf (by rw [h1]; simpa [Str.length] using hl)
  rwa [h2] at this
theorem r_dec {c x y : Nat} {s : List Nat} {c2 : Nat} {s2 : List Nat} (h : ∀ d ∈ c :: s, inS DIGI d = true) (h' : ∀ d ∈ c2 :: s2, inS DIGI d = true) (hx : PySem.intText? ⟨(c :: s).toArray⟩ = some (x : Int)) (hy : PySem.intText? ⟨(c2 :: s2).toArray⟩ = some (y : Int))
    (h0 : s = [] ∨ c ≠ 48) (hx1 : x ≤ 1000) (hy1 : y ≤ 100000) (hl : (c :: s).length ≤ 640) (hl2 : (c2 :: s2).length ≤ 5) :
    R1 (.dec (((x * 10 ^ (c2 :: s2).length + y) / Nat.gcd (x * 10 ^ (c2 :: s2).length + y) (10 ^ (c2 :: s2).length) : Nat) : Int) (((10 ^ (c2 :: s2).length) / Nat.gcd (x * 10 ^ (c2 :: s2).length + y) (10 ^ (c2 :: s2).length) : Nat) : Int)) (c :: s ++ 46 :: c2 :: s2) := by
  intro T p b hs hb
  have hs1 : sfx T p = (c :: s) ++ (46 :: c2 :: s2 ++ b) := by rw [hs]; simp
  obtain ⟨h1, h2⟩ := run_cat hs1 h (fun d hd => by cases hd; exact dot_dig)
  have ht := sfx_dr hs1
  have ht2 := sfx_tl (l := (c2 :: s2) ++ b) ht
  obtain ⟨h3, h4⟩ := run_cat ht2 h' (stop_of hb fun _ => sub_dig)
  have hf : free T (runEnd T DIGI (p + (c :: s).length + 1)) := by rw [h4]; exact free_of (sfx_dr ht2) hb
  have hB : (⟨(c2 :: s2).toArray⟩ : Str).length = (c2 :: s2).length := by simp [Str.length]
  have := Reads.dec (T := T) (p := p) c (p + (c :: s).length) x y ⟨(c2 :: s2).toArray⟩ (at_sfx hs1) (h c (.head _)) h2 (at_sfx ht) h3 (by rw [h1]; exact hx) hy hx1 hy1 (by rw [h1]; simpa [Str.length] using hl) (by rw [hB]; exact hl2)
    (by
      rcases h0 with rfl | h0
      · exact .inl (by rw [h1]; exact Nat.le_refl _)
      · refine .inr ?_
        rw [run_first (at_sfx hs1) (h c (.head _))]
        exact sg_ne2 (c' := 48) (by decide +kernel) h0)
    ne_emp hf
  rw [h4, hB] at this
  rw [show p + (c :: s).length + 1 + (c2 :: s2).length = p + (c :: s ++ 46 :: c2 :: s2).length by simp; omega] at this
  exact this
/-! QDraw -/
theorem setDraw : True := by
  k_with_none
  (k_with "execs cons" => first | (k_here; k_made; walk_at "execs cons") | (k_here; (with_reducible refine wpAny_execs_cons ?_); (try dsimp only); (try (with_reducible refine anyTok ?_); intro tk9); (try k_fold)))
  (k_with "enter" => ((rename At _ _ _ _ _ _ _ _ _ => HA9); (have B9 := HA9.B); (have X9 := HA9.X); (have T9 := HA9.T); (have hk9 := HA9.hk); clear HA9; (refine wpAny_call ?_); (k_dflt ktr_enter)))
  (k_with "ite" => (k_here; first
    | refine ite_pos (by with_reducible assumption) ?_
    | refine ite_neg (not_true_of (by with_reducible assumption)) ?_
    | refine ite_pos (by first | omega | ((simp only [decide_eq_true_eq, beq_iff_eq, bne_iff_ne, ne_eq, Bool.not_eq_true', decide_eq_false_iff_not]); omega)) ?_
    | refine ite_neg (by first | omega | ((simp only [decide_eq_true_eq, beq_iff_eq, bne_iff_ne, ne_eq, Bool.not_eq_true', decide_eq_false_iff_not]); omega)) ?_))
  (k_with "binaryOp FloorDiv int int" => (k_here; refine floordiv_int (by omega) ?_))
  (k_with "compareOp In str ref" => (k_here; k_dflt (refine' in_tup (ys := RES) (tupK (Frag.In.keeps (by k_asm) (Fr.keep (by k_asm))) (by k_is)) (by repeat (first | exact StrsAre.nil | refine StrsAre.cons _ _ ?_)) ?_)))
  trivial
/-- the feed's dict: its cells at ca, its next place k -/
noncomputable def FeedO (w : World) (ca : Addr) (k : Int) (o : Obj) : Prop :=
  ∃ t3, o.IsDictOf (PySem.strKind PR w) [(Str.ofString "cells", Value.ref ca), (Str.ofString "at", Value.int k t3)]
theorem draw_says (w : World) (fa ca : Addr) (o : Obj) (vs : List Value) (ns : List Int) (c : Nat) (tw : Tok) (k wide : Int) (rest : List (Addr × Obj))
    {lc : Obj} (hlc : lc = W.listOf vs.toArray c) (hfo : FeedO w ca k o) (hI : IntsAre vs ns) (hl : ns.length ≤ 63) (hk0 : 0 ≤ k) (hk1 : k ≤ 200) (hw : 0 < wide) (hw2 : wide ≤ 1000)
    (hr : ∀ p ∈ rest, p.1 ≠ fa) (hca : @Ne Nat ca fa) :
    Says w 900 900 310 [.ref fa, .int wide tw] ((fa, o) :: (ca, lc) :: rest)
      (fun r news' => ∃ d t o', r = .int d t ∧ 0 ≤ d ∧ d < wide ∧ FeedO w ca (k + 1) o' ∧ news' = ((fa, o') :: (ca, lc) :: rest)) := by
  subst hlc
  obtain ⟨t3, ho⟩ := hfo
  intro mean mg mb gd cn cs a ccd cl outer A₀ base h₀ L m hS gS dS oS tS Q E HA F N hret
  walk_at "enter"
  k_steps
  · (rename Obj.IsDictOf _ _ _ => hd9)
    exact hret _ _ _ _ (by k_asm) (by k_asm) ⟨_, _, _, rfl, Int.fmod_nonneg_of_pos _ hw, Int.fmod_lt_of_pos _ hw, ⟨_, hd9⟩, rfl⟩
  · (rename Obj.IsDictOf _ _ _ => hd9)
    exact hret _ _ _ _ (by k_asm) (by k_asm) ⟨_, _, _, rfl, Int.fmod_nonneg_of_pos _ hw, Int.fmod_lt_of_pos _ hw, ⟨_, hd9⟩, rfl⟩
/-- (item, spelled) as the law's drawers hand it back -/
noncomputable def DrawnL (w : World) (fa ca : Addr) (l : Obj) (k : Int) (rest : List (Addr × Obj)) (P : Item → Str → Prop) (r : Value) (news' : List (Addr × Obj)) : Prop :=
  ∃ it S q qi own t o' k', P it S ∧ r = .ref q ∧ itemL it qi own ∧ (∀ x ∈ own, @LT.lt Nat _ fa x.1 ∧ @LT.lt Nat _ ca x.1 ∧ ∀ y ∈ rest, @LT.lt Nat _ y.1 x.1) ∧ (∀ x ∈ own, @LT.lt Nat _ x.1 q) ∧ (@LT.lt Nat _ fa q ∧ @LT.lt Nat _ ca q ∧ ∀ y ∈ rest, @LT.lt Nat _ y.1 q) ∧ FeedO w ca k' o' ∧ k ≤ k' ∧ k' ≤ k + 10 ∧
    news' = (q, tupO [.ref qi, .str S t]) :: own ++ ((fa, o') :: (ca, l) :: rest)
theorem drawn_end {w : World} {fa ca : Addr} {l : Obj} {k : Int} {rest : List (Addr × Obj)} {P : Item → Str → Prop} {h₀ : Heap} {L : Addr} {m : Str → Option Value} {gS : Array GenState} {dS : PySem.Drawn} {oS : OsState} {Q : Value → Shared → Prop}
    (hret : ∀ r news' h' tk', Fr h₀ L h' m → News h₀ L h' news' → DrawnL w fa ca l k rest P r news' → Q r ⟨h', gS, dS, tk', oS⟩)
    {h' : Heap} {tk' : Nat} {q qi : Addr} {S : Str} {t : Tok} {oi : Obj} {news : List (Addr × Obj)} (F : Fr h₀ L h' m) (N : News h₀ L h' ((q, tupO [.ref qi, .str S t]) :: (qi, oi) :: news)) (it : Item) (o' : Obj) (k' : Int) (hm : ∀ p ∈ (fa, o') :: (ca, l) :: rest, p ∈ news)
    (hi : itemL it qi [(qi, oi)]) (hP : P it S) (h1 : @LT.lt Nat _ fa qi) (h2 : @LT.lt Nat _ ca qi) (h3 : AllLt qi rest) (h4 : @LT.lt Nat _ qi q) (h5 : FeedO w ca k' o') (h6 : k ≤ k') (h7 : k' ≤ k + 10) :
    Q (.ref q) ⟨h', gS, dS, tk', oS⟩ := by
  refine hret _ ((q, tupO [.ref qi, .str S t]) :: [(qi, oi)] ++ ((fa, o') :: (ca, l) :: rest)) _ _ F (fun p hp => N p ?_) ⟨it, S, q, qi, _, t, o', k', hP, rfl, hi, ?_, ?_, ⟨Nat.lt_trans h1 h4, Nat.lt_trans h2 h4, fun y hy => Nat.lt_trans (allLt_all h3 y hy) h4⟩, h5, h6, h7, rfl⟩
  · rcases List.mem_append.mp hp with hp | hp
    · simp only [List.mem_cons, List.not_mem_nil, or_false] at hp ⊢
      rcases hp with hp | hp <;> simp [hp]
    · exact .tail _ (.tail _ (hm p hp))
  · intro x hx
    simp only [List.mem_cons, List.not_mem_nil, or_false] at hx
    subst hx
    exact ⟨h1, h2, allLt_all h3⟩
  · intro x hx
    simp only [List.mem_cons, List.not_mem_nil, or_false] at hx
    subst hx
    exact h4
/-! QComp -/
section
variable {prog : Program} {w : World} {A : Around} {h₀ : Heap} {L : Addr} {m : Str → Option Value} {env : Env} {elt : Expr} {x : Str} {scope : Scope} {cl : List (Str × Addr)} {s : Shared} {S : List (Addr × Obj) → Prop} {P : Nat → Value → Prop} {Fin : List Value → List (Addr × Obj) → Prop}
theorem comp_feed {fa : Addr} {co : Addr × Obj} {tl : List (Addr × Obj)} (Inv : Nat → List Value → Obj → Prop)
    (h0 : ∀ ys o, Inv 0 ys o → Fin ys ((fa, o) :: co :: tl))
    (hs : ∀ n i ys o, Inv (n + 1) ys o → ∀ v I oI C oC D m₂ h tk (E' : Value → Shared → Prop), P i v → LCg.NsObj oC m₂ → m₂ x = some v → Fr h₀ L h m → News h₀ L h ((I, oI) :: (C, oC) :: (D, LCg.lst ys) :: (fa, o) :: co :: tl) → LCg.Off3 I C D ((fa, o) :: co :: tl) → ((@Ne Nat I C) ∧ (@Ne Nat I D) ∧ (@Ne Nat C D)) →
      wpAny (model prog w) A (eval elt (compEnvC scope cl C env)) (LCg.CompEnd h₀ L m { s with heap := h, toks := tk } I oI C oC D (LCg.lst ys) S (fun y news' => ∃ o', news' = (fa, o') :: co :: tl ∧ Inv n (ys ++ [y]) o')) E' { s with heap := h, toks := tk }) :
    ∀ (n i : Nat) (ys : List Value) (o : Obj), Inv n ys o → LCg.CompRest prog w A h₀ L m env elt x scope cl s S P Fin n i ys ((fa, o) :: co :: tl)
  | 0, i, ys, o, h => LCg.CompRest.zero (h0 ys o h)
  | n + 1, i, ys, o, h => by
    intro v I oI C oC D m₂ h' tk E' hv hC hx F N off ne
    refine wpAny_mono (hs n i ys o h v I oI C oC D m₂ h' tk E' hv hC hx F N off ne) (fun y s₂ q => ?_) fun _ _ z => z
    obtain ⟨h'', tk', news', e, F', N', off', hS, o', e', hI⟩ := q
    subst e'
    exact ⟨h'', tk', _, e, F', N', off', hS, comp_feed Inv h0 hs n (i + 1) (ys ++ [y]) o' hI⟩
end
theorem grab {d : Int} (_ : d < 3) : ∃ x : Int, x = d := ⟨d, rfl⟩
noncomputable def hexT (b : Bool) : Str := match b with
  | true => Str.ofString "0123456789ABCDEF"
  | false => Str.ofString "0123456789abcdef"
noncomputable def hexC (b : Bool) (d : Int) : Nat := (hexT b).cps.toList.getD d.toNat 0
noncomputable def hexS (b : Bool) (ds : List Int) : Str := ⟨(ds.map (hexC b)).toArray⟩
noncomputable def hexW (ds : List Int) : Int := ds.foldl (fun a d => 16 * a + d) 0
theorem hexS_len (b : Bool) (ds : List Int) : (hexS b ds).length = ds.length := by simp [hexS, Str.length]
theorem hexT_len (b : Bool) : (hexT b).cps.toList.length = 16 := by cases b <;> decide +kernel
theorem hex_at (b : Bool) {n : Int} (h0 : 0 ≤ n) (h1 : n < 16) : Txt.item (hexT b) n = ⟨#[hexC b n]⟩ := by
  obtain ⟨k, rfl⟩ := Int.eq_ofNat_of_zero_le h0
  refine item_at ?_
  have hk : k < (hexT b).cps.toList.length := by rw [hexT_len]; omega
  rw [hexC, List.getD_eq_getElem?_getD, Int.toNat_natCast, List.getElem?_eq_getElem hk]
  rfl
theorem hex_item (b : Bool) {n : Int} (h0 : 0 ≤ n) (h1 : n < 16) : (Txt.item (hexT b) n).length = 1 := by rw [hex_at b h0 h1]; rfl
theorem hexS_snoc (b : Bool) (pre : List Int) {n : Int} (h0 : 0 ≤ n) (h1 : n < 16) : hexS b (pre ++ [n]) = hexS b pre ++ Txt.item (hexT b) n := by
  rw [hex_at b h0 h1]
  apply Str.ext'
  apply Array.ext'
  show (List.map (hexC b) (pre ++ [n])).toArray.toList = ((List.map (hexC b) pre).toArray ++ #[hexC b n]).toList
  simp
theorem hexW_snoc (pre : List Int) (n : Int) : hexW (pre ++ [n]) = 16 * hexW pre + n := by simp [hexW]
/-! QCtx -/
section
variable {prog : Program} {w : World} {A : Around} {E : Value → Shared → Prop} {h₀ : Heap} {L : Addr} {m : Str → Option Value} {env : Env} {s : Shared}
/-- a comprehension over a text of the first 128 signs -/
noncomputable def SrcT (prog : Program) (w : World) (A : Around) (h₀ : Heap) (L : Addr) (m : Str → Option Value) (env : Env) (elt : Expr) (x : Str) (scope : Scope) (cl : List (Str × Addr)) (Fin : Shared → List Value → List (Addr × Obj) → Prop) (xv : Value) (s₁ : Shared) : Prop :=
  ∃ X t news, xv = .str X t ∧ A.handled = none ∧ X.cps.all (· < 128) = true ∧ Fr h₀ L s₁.heap m ∧ News h₀ L s₁.heap news ∧ X.cps.size ≤ sizeLine ∧
    ∀ s₂ : Shared, (∃ h, s₂ = { s₁ with heap := h }) → LCg.CompRest prog w A h₀ L m env elt x scope cl s₂ (fun _ => True) (SignAt X) (Fin s₂) X.cps.size 0 [] news
theorem ListComp_text {elt iter : Expr} {x : Str} {px : Pos} {scope : Scope} {cl : List (Str × Addr)} {pos : Pos} {Q : Value → Shared → Prop} (F₀ : Fr h₀ L s.heap m)
    (hclos : closureFor scope env = pure cl) (hcell : ∀ y ∈ scope.names, y.2 ≠ .cell) (hkind : scope.kind = .function)
    (hnames : ∀ y ∈ scope.names, y.2 = .local → scope.names.lookup y.1 = some .local) (hx : scope.names.lookup x = some .local)
    (h : wpAny (model prog w) A (eval iter env) (SrcT prog w A h₀ L m env elt x scope cl (fun s₂ => LCg.FinE h₀ L m s₂ Q)) E s)
    (hs : ∀ x, foldedSetIterable iter env x = pure x := by intro _; rfl) :
    wpAny (model prog w) A (eval (.ListComp elt [⟨.Name x px, iter, [], 0⟩] scope pos) env) Q E s := by
  rw [eval_ListComp]
  refine wpAny_comprehension_free (use := none) rfl hs hclos hkind hnames (wpAny_mono h (fun xv s₁ h₁ => ?_) fun _ _ e => e)
  obtain ⟨X, t, news, rfl, hh, ha, F, N, hsz, R⟩ := h₁
  refine wpAny_pyIter_ascii ha ?_
  have up : ∀ b o, s₁.heap.get? b = some o → (s₁.heap.push { cls := .type "str_ascii_iterator", data := .fields #[.str X t, .int 0 0] }).get? b = some o := fun b o e => Heap.get?_push_of_some _ e
  refine LCg.block_U (Walks.strAscii hh s₁.heap.objs.size X t) hsz (fun i h st => by obtain ⟨o, e, _⟩ := st; exact ⟨o, e⟩) (fun i h h' o nw st e e' _ _ _ => by obtain ⟨o', q, r⟩ := st; rw [e] at q; cases q; exact ⟨o, e', r⟩) hcell hkind hx ⟨_, Heap.get?_push_size _ rfl, rfl, rfl⟩ (fun b hb => ?_)
    (F.keeps up) (N.grown up) (Nat.ne_of_lt F.ns.lt) (next_is_new F) (fun p hp => Nat.ne_of_lt (Heap.lt_size (N p hp).1)) trivial (R _ ⟨_, rfl⟩) ?_
  · rw [List.mem_singleton.mp hb]
    show s₁.heap.objs.size < (s₁.heap.push _).objs.size
    rw [Heap.size_push]; exact Nat.lt_succ_self _
  · intro D C h tk m' ys news' F' N' o1 hn hC₀ hD₀ hCL hDL hCD offC fin
    refine ⟨m', hn, fun h'' hs'' => fin D h'' tk (F'.change hs'' hCL hC₀) (fun p hp => ?_) o1⟩
    refine ⟨hs''.extBut _ _ ?_ (N' p hp).1, (N' p hp).2⟩
    rcases List.mem_cons.mp hp with rfl | hp
    · exact Ne.symm hCD
    · exact offC p hp
variable {elt : Expr} {x : Str} {scope : Scope} {cl : List (Str × Addr)}
theorem comp_text {X : Str} {Fin : List Value → List (Addr × Obj) → Prop} {news : List (Addr × Obj)} (g : Nat → Str)
    (hs : ∀ (c : Nat) (u : Tok) ys I oI C oC D m₂ h tk (E' : Value → Shared → Prop), LCg.NsObj oC m₂ → m₂ x = some (.str ⟨#[c]⟩ u) → Fr h₀ L h m → News h₀ L h ((I, oI) :: (C, oC) :: (D, LCg.lst ys) :: news) → LCg.Off3 I C D news → ((@Ne Nat I C) ∧ (@Ne Nat I D) ∧ (@Ne Nat C D)) →
      wpAny (model prog w) A (eval elt (compEnvC scope cl C env)) (LCg.CompEnd h₀ L m { s with heap := h, toks := tk } I oI C oC D (LCg.lst ys) (fun _ => True) (fun y news' => news' = news ∧ ∃ t, y = .str (g c) t)) E' { s with heap := h, toks := tk })
    (hf : ∀ ys, StrsAre ys (X.cps.toList.map g) → Fin ys news) :
    ∀ (n i : Nat) (ys : List Value), n + i = X.cps.size → StrsAre ys ((X.cps.toList.take i).map g) → LCg.CompRest prog w A h₀ L m env elt x scope cl s (fun _ => True) (SignAt X) Fin n i ys news
  | 0, i, ys, e, h => LCg.CompRest.zero (hf ys (by rw [show i = X.cps.toList.length by simp; omega, List.take_length] at h; exact h))
  | n + 1, i, ys, e, h => by
    intro v I oI C oC D m₂ h' tk E' hv hC hx F N off ne
    obtain ⟨c, u, hc, rfl⟩ := hv
    refine wpAny_mono (hs c u ys I oI C oC D m₂ h' tk E' hC hx F N off ne) (fun y s₂ q => ?_) fun _ _ z => z
    obtain ⟨h'', tk', news', e', F', N', off', hS, hn, t, rfl⟩ := q
    subst hn
    refine ⟨h'', tk', _, e', F', N', off', hS, comp_text g hs hf n (i + 1) _ (by omega) ?_⟩
    have hc' : X.cps.toList[i]? = some c := by simpa using hc
    rw [List.take_add_one, hc', List.map_append]
    exact h.append' (StrsAre.cons _ _ StrsAre.nil)
end
/-! QSym -/
theorem setSym : True := by
  k_with_none
  (k_with "execs cons" => first | (k_here; k_made; walk_at "execs cons") | (k_here; (with_reducible refine wpAny_execs_cons ?_); (try dsimp only); (try (with_reducible refine anyTok ?_); intro tk9); (try k_fold)))
  (k_with "enter" => ((rename At _ _ _ _ _ _ _ _ _ => HA9); (have B9 := HA9.B); (have X9 := HA9.X); (have T9 := HA9.T); (have hk9 := HA9.hk); clear HA9; (refine wpAny_call ?_); (k_dflt ktr_enter)))
  (k_with "ite" => (k_here; first
    | refine ite_pos (by with_reducible assumption) ?_
    | refine ite_neg (not_true_of (by with_reducible assumption)) ?_
    | refine ite_pos (by first | omega | ((simp only [decide_eq_true_eq, beq_iff_eq, bne_iff_ne, ne_eq, Bool.not_eq_true', decide_eq_false_iff_not]); omega)) ?_
    | refine ite_neg (by first | omega | ((simp only [decide_eq_true_eq, beq_iff_eq, bne_iff_ne, ne_eq, Bool.not_eq_true', decide_eq_false_iff_not]); omega)) ?_))
  (k_with "binaryOp FloorDiv int int" => (k_here; refine floordiv_int (by omega) ?_))
  (k_with "compareOp In str ref" => (k_here; k_dflt (refine' in_tup (ys := RES) (tupK (Frag.In.keeps (by k_asm) (Fr.keep (by k_asm))) (by k_is)) (by repeat (first | exact StrsAre.nil | refine StrsAre.cons _ _ ?_)) ?_)))
  (k_with "call ref" => (k_here; (with_reducible show wpAny _ _ (call (Value.ref 310) _) _ _ _); k_dflt (refine' says_go (by k_asm) (by first | k_asm | exact news_rot (by k_asm) | exact news_rot2 (by k_asm) | exact news_rot3 (by k_asm)) (draw_says _ _ _ _ _ _ _ _ _ _ _ (by assumption) (by assumption) (by assumption) (by assumption) (by omega) (by omega) (by decide) (by decide) (by k_all) (by assumption)) elD (by k_asm) (by k_asm) (by k_asm) (by first | rfl | assumption) (Nat.le_of_ble_eq_true rfl) (Nat.le_of_ble_eq_true rfl) ?_); intro d9 t9 o9 hlo9 hhi9 hfo9 h9 tk9 F9 N9; (try k_sweep)))
  (k_with "allLt" => first
    | assumption
    | exact (by assumption : _ ∧ AllLt _ _).2
    | exact (by assumption : _ ∧ _ ∧ AllLt _ _).2.2
    | exact (by assumption : _ ∧ _ ∧ _ ∧ AllLt _ _).2.2.2
    | exact (by assumption : _ ∧ _ ∧ _ ∧ _ ∧ AllLt _ _).2.2.2.2
    | exact (by assumption : _ ∧ _ ∧ _ ∧ _ ∧ _ ∧ AllLt _ _).2.2.2.2.2
    | exact (by assumption : _ ∧ _ ∧ _ ∧ _ ∧ _ ∧ _ ∧ AllLt _ _).2.2.2.2.2.2)
  (k_with "inNews" => (intro p9 hp9; simp only [List.mem_cons] at hp9 ⊢; rcases hp9 with hp9 | hp9 | hp9 <;> simp only [hp9, true_or, or_true]))
  (k_with "storeName" => ((generalize hgN9 : List.getD (_ : List PySem.Str) _ _ = N9); (have hlN9 := getD_len hgN9 (by decide +kernel))))
  trivial
noncomputable abbrev NAMES : List Str := [Str.ofString "a", Str.ofString "x1", Str.ofString "+", Str.ofString "<=", Str.ofString "let", Str.ofString "b-c", Str.ofString "a b", Str.ofString "", Str.ofString "p(q;", Str.ofString "|let|", Str.ofString "|!|"]
noncomputable def symOk (N S : Str) : Bool := NAMES.contains N && (
  ((Txt.slice N none (some 1) == Str.ofString "|") && (S == N)) ||
  (!(Txt.slice N none (some 1) == Str.ofString "|") && (S == N) && (!([Str.ofString "a b", Str.ofString "", Str.ofString "p(q;"].any fun x => x == N) || (N == Str.ofString "let"))) ||
  (!(Txt.slice N none (some 1) == Str.ofString "|") && (S == Str.ofString "|" ++ N ++ Str.ofString "|") && !(N == Str.ofString "let")))
noncomputable def SymP (it : Item) (S : Str) : Prop := ∃ N, it = .sym N ∧ symOk N S = true
theorem names_mem {d : Int} {x N : Str} (h : NAMES.getD d.toNat x = N) (h0 : 0 ≤ d) (h1 : d < 11) : NAMES.contains N = true := by
  have hlt : d.toNat < NAMES.length := by show d.toNat < 11; omega
  rw [List.contains_iff_mem, ← h, List.getD_eq_getElem?_getD, List.getElem?_eq_getElem hlt]
  exact List.getElem_mem hlt
theorem symbol_says (w : World) (fa ca : Addr) (o : Obj) (vs : List Value) (ns : List Int) (c : Nat) (k : Int) (rest : List (Addr × Obj))
    {lc : Obj} (hlc : lc = W.listOf vs.toArray c) (hfo : FeedO w ca k o) (hI : IntsAre vs ns) (hl : ns.length ≤ 63) (hk0 : 0 ≤ k) (hk1 : k ≤ 190)
    (hr : ∀ p ∈ rest, p.1 ≠ fa) (hca : @Ne Nat ca fa) :
    Says w 800 800 317 [.ref fa] ((fa, o) :: (ca, lc) :: rest) (DrawnL w fa ca (lc) k rest SymP) := by
  intro mean mg mb gd cn cs a ccd cl outer A₀ base h₀ L m hS gS dS oS tS Q E HA F N hret
  walk_at "enter"
  k_steps
  all_goals
    (rename List.getD _ _ _ = _ => hg9)
    (rename FeedO _ _ _ _ => hf9)
    have hn9 := names_mem hg9 (by omega) (by omega)
    (rename News _ _ _ _ => N9)
    refine drawn_end hret (by k_asm) N9 (.sym _) _ _ ?_ ⟨_, _, rfl⟩ ⟨_, rfl, ?_⟩ (by omega) (by omega) ?_ (by omega) hf9 (by omega) (by omega)
    · walk_at "inNews"
    · (rename (Txt.slice _ _ _ == _) = _ => hA)
      (try (rename List.any _ _ = _ => hB))
      (try (rename (_ == Str.ofString "let") = _ => hC))
      unfold symOk
      first
        | simp only [hn9, hA, hB, hC, beq_self_eq_true, Bool.true_and, Bool.and_true, Bool.not_false, Bool.or_true, Bool.true_or, Bool.not_true, Bool.false_and, Bool.or_false, Bool.false_or, Bool.and_false]
        | simp only [hn9, hA, hB, beq_self_eq_true, Bool.true_and, Bool.and_true, Bool.not_false, Bool.or_true, Bool.true_or, Bool.not_true, Bool.false_and, Bool.or_false, Bool.false_or, Bool.and_false]
        | simp only [hn9, hA, hC, beq_self_eq_true, Bool.true_and, Bool.and_true, Bool.not_false, Bool.or_true, Bool.true_or, Bool.not_true, Bool.false_and, Bool.or_false, Bool.false_or, Bool.and_false]
        | simp only [hn9, hA, beq_self_eq_true, Bool.true_and, Bool.and_true, Bool.not_false, Bool.or_true, Bool.true_or, Bool.not_true, Bool.false_and, Bool.or_false, Bool.false_or, Bool.and_false]
    · walk_at "allLt"
/-! QBits -/
section
local macro_rules | `(tactic| k_ne) => `(tactic| walk_at "k_ne")
theorem setBits : True := by
  k_with_none
  (k_with "k_ne" => (refine neN ?_; (try dsimp only); first
    | assumption
    | (intro e9; exact absurd e9 (by assumption))
    | (intro e9; exact absurd e9.symm (by assumption))
    | (intro e9; subst e9; exfalso; (repeat ((rename (_ ∧ _) => z9); first | (simp only [ne_eq, not_true_eq_false, not_false_eq_true, false_and, and_false, Nat.lt_irrefl] at z9; done) | clear z9)); done)
    | omega))
  (k_with "execs cons" => first | (k_here; k_made; walk_at "execs cons") | (k_here; (with_reducible refine wpAny_execs_cons ?_); (try dsimp only); (try (with_reducible refine anyTok ?_); intro tk9)))
  (k_with "enter" => ((rename At _ _ _ _ _ _ _ _ _ => HA9); (have B9 := HA9.B); (have X9 := HA9.X); (have T9 := HA9.T); (have hk9 := HA9.hk); clear HA9; (refine wpAny_call ?_); (first | k_dflt ktr_enter | k_dflt (refine' code_defC (by k_asm) (by k_asm) (by k_asm) (by k_asm) (by k_asm) (by exact rfl) (by exact rfl) (by assumption) (by k_is) (by k_is) (by k_room) (by exact BindsTo.of_eq rfl) (by exact rfl) (by decide +kernel) ?_ (by exact rfl) (by exact rfl) (by exact rfl); k_whole; intro g' L' h' tk' cells' FG' F' N' Y' B' X' T' l1; (try k_lt l1); (try (obtain ⟨hc1', hc2', hc3'⟩ := allLt_up l1.2.2)); k_cells Y'; (try simp only [List.cons_append, List.nil_append] at N'); (try dsimp only); (try k_fold)))))
  (k_with "ite" => (k_here; first
    | refine ite_pos (by with_reducible assumption) ?_
    | refine ite_neg (not_true_of (by with_reducible assumption)) ?_
    | refine ite_pos (by first | omega | ((simp only [decide_eq_true_eq, beq_iff_eq, bne_iff_ne, ne_eq, Bool.not_eq_true', decide_eq_false_iff_not]); omega)) ?_
    | refine ite_neg (by first | omega | ((simp only [decide_eq_true_eq, beq_iff_eq, bne_iff_ne, ne_eq, Bool.not_eq_true', decide_eq_false_iff_not]); omega)) ?_))
  (k_with "binaryOp FloorDiv int int" => (k_here; refine floordiv_int (by omega) ?_))
  (k_with "compareOp In str ref" => (k_here; k_dflt (refine' in_tup (ys := RES) (tupK (Frag.In.keeps (by k_asm) (Fr.keep (by k_asm))) (by k_is)) (by repeat (first | exact StrsAre.nil | refine StrsAre.cons _ _ ?_)) ?_)))
  (k_with "call ref" => (k_here; (with_reducible show wpAny _ _ (call (Value.ref 310) _) _ _ _); k_dflt (refine' says_go (by k_asm) (by first | k_asm | exact news_rot (by k_asm) | exact news_rot2 (by k_asm) | exact news_rot3 (by k_asm)) (draw_says _ _ _ _ _ _ _ _ _ _ _ (by assumption) (by assumption) (by assumption) (by assumption) (by omega) (by omega) (by decide) (by decide) (by k_all) (by assumption)) elD (by k_asm) (by k_asm) (by k_asm) (by first | rfl | assumption) (Nat.le_of_ble_eq_true rfl) (Nat.le_of_ble_eq_true rfl) ?_); intro d9 t9 o9 hlo9 hhi9 hfo9 h9 tk9 F9 N9; (try k_sweep)))
  (k_with "allLt" => first
    | assumption
    | exact (by assumption : _ ∧ AllLt _ _).2
    | exact (by assumption : _ ∧ _ ∧ AllLt _ _).2.2
    | exact (by assumption : _ ∧ _ ∧ _ ∧ AllLt _ _).2.2.2
    | exact (by assumption : _ ∧ _ ∧ _ ∧ _ ∧ AllLt _ _).2.2.2.2
    | exact (by assumption : _ ∧ _ ∧ _ ∧ _ ∧ _ ∧ AllLt _ _).2.2.2.2.2
    | exact (by assumption : _ ∧ _ ∧ _ ∧ _ ∧ _ ∧ _ ∧ AllLt _ _).2.2.2.2.2.2)
  (k_with "inNews" => (intro p9 hp9; simp only [List.mem_cons] at hp9 ⊢; rcases hp9 with hp9 | hp9 | hp9 <;> simp only [hp9, true_or, or_true]))
  (k_with "exec For Name Name cons nil" => ((rename Fr _ _ _ _ => lF'); (with_unfolding_all refine' For_invVF lF' (by exact rfl) (by exact rfl) ?_; k_whole)))
  trivial
structure CompDone : Prop where
structure LoopDone : Prop where
theorem setBitsb : True := by
  (k_with "pyIter ref" => ((fail_if_success (rename LoopDone => x9)); (refine stuck ?_)))
  (k_with "om1" => ((repeat ((rename (_ ∧ _) => z9); clear z9)); omega))
  (k_with "subscriptTail" => ((rename LoopDone => x9); k_here; (with_reducible show wpAny _ _ (subscriptTail _ _ (Value.ref _) (Value.int _ _)) _ _ _); k_dflt (refine' item_list_intsR (News.isList (by k_asm) (by k_mem)) (by assumption) (by walk_at "om1") (by (simp only [List.length_map, rangeKs_length]; walk_at "om1")) (by walk_at "om1") ?_ (by with_unfolding_all rfl)); intro t9))
  (k_with "call builtin:str.join" => (refine stuck ?_))
  (k_with "eval ListComp" => ((rename LoopDone => x9); k_here; k_dflt (refine LCg.ListComp_U (F₀ := by k_asm) (by with_unfolding_all rfl) (by decide) (by rfl) (by decide) (by rfl) ?_)))
  trivial
structure StrDone : Prop where
theorem setBitsc : True := by
  (k_with "CompSrc" => ((rename LoopDone => x9); k_here; k_dflt (refine LCg.CompSrc.ledger (by rfl) (by k_asm) (by k_asm) (by k_mem) (by ((rw [sizeLine_eq, List.size_toArray]); (rename IntsAre _ (List.reverse _) => hi9); (rw [hi9.length]); (simp only [List.length_reverse, List.length_map, rangeKs_length]); walk_at "om1")) ?_; intro g'; refine stuck ?_)))
  trivial
noncomputable def bitAt (W k : Int) : Int := (W.fdiv (2 ^ k.toNat)).fmod 2
theorem bits_getD (W : Int) (ks : List Int) (i : Nat) : 0 ≤ (ks.map fun k' => (W.fdiv (2 ^ k'.toNat)).fmod 2).getD i 0 ∧ (ks.map fun k' => (W.fdiv (2 ^ k'.toNat)).fmod 2).getD i 0 < 2 := by
  rw [List.getD_eq_getElem?_getD, List.getElem?_map]
  cases ks[i]? with
  | none => simp
  | some k => exact ⟨Int.fmod_nonneg_of_pos _ (by decide), Int.fmod_lt_of_pos _ (by decide)⟩
theorem bits01 {W : Int} {ks : List Int} {a : Int} (h : a ∈ (ks.map fun k' => (W.fdiv (2 ^ k'.toNat)).fmod 2).reverse) : a = 0 ∨ a = 1 := by
  obtain ⟨k, _, e⟩ := List.mem_map.1 (List.mem_reverse.1 h)
  have h1 := Int.fmod_nonneg_of_pos (W.fdiv (2 ^ k.toNat)) (show (0 : Int) < 2 by decide)
  have h2 := Int.fmod_lt_of_pos (W.fdiv (2 ^ k.toNat)) (show (0 : Int) < 2 by decide)
  omega
theorem setBitsd : True := by
  (k_with "call type:str" => ((rename (_ = 0 ∨ _ = 1) => hb9); k_here; refine P.str_of_int (shown (N := 2 ^ 1920) (by rcases hb9 with h | h <;> rw [h] <;> decide +kernel) (by rcases hb9 with h | h <;> rw [h] <;> decide +kernel) (Int.le_refl _)) ?_))
  (k_with "binaryOp Mult int int" => ((rename LoopDone => x9); k_here; refine mul_int ?_ (IntMulOk.of_left (PySem.intBits_le_64 (by exact Int.lt_of_lt_of_le (by decide) (bits_getD _ _ _).1) (by exact Int.lt_of_lt_of_le (bits_getD _ _ _).2 (by decide))))))
  trivial
theorem pow2_ne (n : Nat) : (2 : Int) ^ n ≠ 0 := Int.ne_of_gt (Int.pow_pos (by decide))
theorem setBitse : True := by
  (k_with "binaryOp FloorDiv int int" => (k_here; (with_reducible refine floordiv_int (pow2_ne _) ?_ (Or.inl (PyProof.noPylong_of_log2 (kbt_py (by walk_at "om1")))))))
  (k_with "binaryOp Pow int int" => (k_here; (with_reducible refine pow_int_small (by first | assumption | walk_at "om1") (by walk_at "om1") (by decide) ?_)))
  (k_with "CompSrc" => ((rename LoopDone => x9); k_here; k_dflt (refine LCg.CompSrc.range (by rfl) (by k_asm) (by k_asm) (by assumption) (small_one (by walk_at "om1") (by walk_at "om1") (by walk_at "om1") (by walk_at "om1")) (rangeSize_nat _ _) (by rw [sizeLine_eq]; walk_at "om1") ?_); intro g'; (refine' kcf_range _ (fun k' t' I' oI' C' oC' D' m' ys' h' tk' E' hlo' hhi' hC' hx' F' N' off' ne' hMark' => ?_) ?_); (all_goals (try (simp only [LCg.Off3, and_true] at off'))); kcf_last))
  trivial
structure BS where
  ow : Obj
  tw : Tok
  ts : Tok
  W : Int
  sg : Str
theorem setBitsf : True := by
  (k_with "CompSrc" => ((fail_if_success (rename CompDone => x9)); (refine stuck ?_)))
  (k_with "CompEnd" => first | kcf_end | (refine stuck ?_))
  trivial
theorem compEnd_rot {h₀ : Heap} {L I C D : Addr} {m : Str → Option Value} {s₁ : Shared} {oI oC oD : Obj} {S : List (Addr × Obj) → Prop} {R : Value → List (Addr × Obj) → Prop} {y : Value} {h' : Heap} {tk : Nat} {f c : Addr × Obj} {tl : List (Addr × Obj)}
    (F : Fr h₀ L h' m) (N : News h₀ L h' (f :: c :: (I, oI) :: (C, oC) :: (D, oD) :: tl)) (off : LCg.Off3 I C D (f :: c :: tl)) (hS : S (f :: c :: tl)) (r : R y (f :: c :: tl)) :
    LCg.CompEnd h₀ L m s₁ I oI C oC D oD S R y { s₁ with heap := h', toks := tk } :=
  LCg.CompEnd.intro F N (f :: c :: tl) (fun p hp => by
    simp only [List.mem_cons] at hp ⊢
    rcases hp with hp | hp | hp | hp | hp | hp <;> simp [hp]) off hS r
theorem ints_snoc {ys : List Value} {ds : List Int} (h : IntsAre ys ds) (d : Int) (t : Tok) : IntsAre (ys ++ [.int d t]) (ds ++ [d]) := by
  induction h with
  | nil => exact .cons _ _ .nil
  | cons n t _ ih => exact .cons _ _ ih
theorem hexS_nil (b : Bool) : Str.ofString "" = hexS b [] := by
  show Str.ofString "" = ⟨#[]⟩
  rfl
theorem hexS_turn {b c : Bool} {sg T : Str} {pre : List Int} {n : Int} (hb : b = c) (hs : sg = hexS b pre) (h0 : 0 ≤ n) (h1 : n < 16) (hT : T = hexT c) : sg ++ Txt.item T n = hexS b (pre ++ [n]) := by
  subst hb hT
  rw [hs, ← hexS_snoc b pre h0 h1]
theorem range_n {d : Int} (h : d = 0 ∨ d = 1 ∨ d = 2) : ∃ nn : Nat, Builtin.Range.rangeSize 0 (1 + d) 1 = (nn : Int) ∧ Builtin.Range.small 0 (1 + d) 1 = true ∧ 1 ≤ nn ∧ nn ≤ 3 := by
  rcases h with h | h | h <;> subst h
  · exact ⟨1, by decide, by decide, by decide, by decide⟩
  · exact ⟨2, by decide, by decide, by decide, by decide⟩
  · exact ⟨3, by decide, by decide, by decide, by decide⟩
noncomputable def bitsL (W : Int) (n : Nat) : List Int := (rangeKs 0 n).map fun k' => (W.fdiv (2 ^ k'.toNat)).fmod 2
noncomputable def bitsV (W : Int) (n : Nat) : Int := ((rangeKs 0 n).map fun k' => (bitsL W n).getD k'.toNat 0 * 2 ^ k'.toNat).sum
noncomputable def bitsS (W : Int) (n : Nat) : Str := Txt.join (Str.ofString "") (List.map (fun k => Str.ofString (toString k)) (bitsL W n).reverse)
theorem news_pull {h₀ h : Heap} {L : Addr} {x a b c : Addr × Obj} {l : List (Addr × Obj)} (N : News h₀ L h (x :: a :: b :: c :: l)) : News h₀ L h (x :: c :: a :: b :: l) := fun p hp => N p (by
  simp only [List.mem_cons] at hp ⊢
  rcases hp with hp | hp | hp | hp | hp <;> simp [hp])
noncomputable def BitsP (it : Item) (S : Str) : Prop :=
  (∃ up ds, (∀ d ∈ ds, 0 ≤ d ∧ d < 16) ∧ 1 ≤ ds.length ∧ ds.length ≤ 3 ∧ it = .bits (hexW ds) (4 * ds.length) ∧ S = Str.ofString "#x" ++ hexS up ds) ∨
  ∃ (W : Int) (n : Nat), 1 ≤ n ∧ n ≤ 12 ∧ it = .bits (bitsV W n) n ∧ S = Str.ofString "#b" ++ bitsS W n
theorem bits_says (w : World) (fa ca : Addr) (o : Obj) (vs : List Value) (ns : List Int) (c : Nat) (k : Int) (rest : List (Addr × Obj))
    {lc : Obj} (hlc : lc = W.listOf vs.toArray c) (hfo : FeedO w ca k o) (hI : IntsAre vs ns) (hl : ns.length ≤ 63) (hk0 : 0 ≤ k) (hk1 : k ≤ 190)
    (hr : ∀ p ∈ rest, p.1 ≠ fa) (hca : @Ne Nat ca fa) :
    Says w 800 800 322 [.ref fa] ((fa, o) :: (ca, lc) :: rest) (DrawnL w fa ca (lc) k rest BitsP) := by
  intro mean mg mb gd cn cs a ccd cl outer A₀ base h₀ L m hS gS dS oS tS Q E HA F N hret
  walk_at "enter"
  rename_i oc1 oc2 oc3 _ _ _
  k_steps
  unfold Stuck
  (rename Fr _ _ _ _ => F9)
  (rename News _ _ _ _ => N9)
  (rename IsRange _ _ _ _ _ _ _ _ => R9)
  (rename FeedO _ _ _ _ => hf9)
  have hd3 := of_lt3 (by assumption) (by assumption)
  obtain ⟨nn, hn1, hn2, hn3, hn4⟩ := range_n hd3
  clear hd3
  (rename ((_ : Int) < 3) => hq3)
  clear hq3
  (rename ((_ : Int) < 3) => hw3)
  obtain ⟨way, hway⟩ := grab hw3
  subst hway
  have hcd := CompDone.mk
  refine LCg.CompSrc.range rfl F9 N9 R9 hn2 hn1 (by rw [sizeLine_eq]; omega) (fun g => ?_)
  clear F9 N9 R9
  refine comp_feed (fun n ys o => ∃ ds, IntsAre ys ds ∧ (∀ d ∈ ds, 0 ≤ d ∧ d < 16) ∧ ds.length + n = nn ∧ FeedO w ca (k + 2 + ds.length) o) ?h0 ?hs nn 0 [] _ ⟨[], .nil, (fun _ h => nomatch h), by simp, by have : k + 2 + (([] : List Int).length : Int) = k + 1 + 1 := (by simp; omega); rw [this]; exact hf9⟩
  case hs =>
    rintro n i ys o1 ⟨ds, hys, hds, hlen, hfo1⟩ v I oI C oC D m₂ h tk E' hv hC hx F1 N1 off ne
    clear hf9
    (try dsimp only at hv)
    obtain ⟨t9, hv9⟩ := hv
    subst hv9
    simp only [LCg.Off3, and_true] at off
    have hb1 : 0 ≤ k + 2 + (ds.length : Int) := by omega
    have hb2 : k + 2 + (ds.length : Int) ≤ 200 := by omega
    k_steps
    unfold Stuck
    (rename FeedO _ _ _ _ => hf8)
    (rename ((_ : Int) < 16) => hh9)
    (rename ((0 : Int) ≤ _) => hh8)
    refine compEnd_rot (by k_asm) (by k_asm) ?off True.intro ⟨_, rfl, ds ++ [_], ints_snoc hys _ _, ?_, ?_, ?_⟩
    · exact off
    · intro d hd
      rcases List.mem_append.mp hd with hd | hd
      · exact hds d hd
      · rw [List.mem_singleton.mp hd]; exact ⟨hh8, hh9⟩
    · simp; omega
    · have e : k + 2 + ((ds ++ [(0 : Int)]).length : Int) = k + 2 + (ds.length : Int) + 1 := by simp; omega
      have e2 : ∀ x : Int, (ds ++ [x]).length = (ds ++ [(0 : Int)]).length := by simp
      rw [e2, e]; exact hf8
  case h0 =>
    rintro ys o1 ⟨ds, hys, hds, hlen, hfo1⟩
    clear hf9
    k_steps
    unfold Stuck
    rename_i D1 _ _ _ _ _ _ _ _ oW dW _ _
    (rename Fr _ _ _ _ => F9)
    (rename News _ _ _ _ => N9)
    have hlen3 : ds.length ≤ 3 := by omega
    k_dflt (refine' kst_listL (fun c' : BS => (D1, LCg.lst ys) :: (fa, o1) :: (ca, lc) :: (L' + 1 + 1 + 1, oc1) :: (L' + 1 + 1, c'.ow) :: (L' + 1, oc3) :: rest) (fun c' => [(Str.ofString "signs", .str c'.sg c'.ts)]) (fun c' => c'.ow.data = Data.cell (some (.int c'.W c'.tw))) [] (fun pre c' => c'.W = hexW pre ∧ c'.sg = hexS (decide (way = 1)) pre) ⟨oW, _, _, 0, Str.ofString ""⟩ rfl (fun _ => .head _) hys F9 (news_drop N9) dW ?hk ⟨rfl, ?hsg⟩ ?turn ?done)
    case hk => intro p hp; simp only [List.mem_cons, List.not_mem_nil, or_false] at hp; subst hp; rfl
    case hsg => exact hexS_nil _
    case turn =>
      clear F9 N9
      rintro ⟨ow, tw, ts, W, sg⟩ pre post n t u h tk own he hmem hoff hfacts ⟨hW, hsg⟩ F1 N1
      (try dsimp only at hfacts hW hsg F1 N1 ⊢)
      have hn := hds n hmem
      have hn0 : 0 ≤ n := hn.1
      have hn16 : n < 16 := hn.2
      have hsl : sg.length ≤ 3 := by rw [hsg, hexS_len]; have := congrArg List.length he; simp at this; omega
      have hR : ∀ p ∈ rest ++ own, p.1 ≠ L' + 1 + 1 := fun p hp => (List.mem_append.mp hp).elim (fun h => by first | exact hc2' p h | (rename (∀ p ∈ rest, p.1 ≠ L' + 1 + 1) => hq; exact hq p h)) (OwnOff.ne hoff (by simp) p)
      have hitem := hex_item (decide (way = 1)) hn0 hn16
      k_steps
      all_goals
        refine' kst_end ⟨_, _, _, _, _⟩ ?F ?N ?hn ?ho ?ha ?hf ?hk ?hr ?hp
        case F => k_asm
        case hf => k_asm
        case hk => intro p hp; simp only [List.mem_cons, List.not_mem_nil, or_false] at hp; subst hp; exact rfl
        case N => k_asm
        case hn => intro p hp; simp at hp ⊢; rcases hp with hp | hp | hp | hp | hp | hp | hp <;> simp [hp]
        case ho => intro p hp; simp [hp]
        case ha => rfl
        case hr =>
          intro z hz h1 _
          simp only [List.mem_cons, List.not_mem_nil, or_false, forall_eq_or_imp, forall_eq] at h1
          simp [hz, h1, kstB]
        case hp =>
          refine ⟨by show 16 * W + n = _; rw [hexW_snoc, hW], ?_⟩
          first
            | exact hexS_turn (decide_eq_true (by assumption)) hsg hn0 hn16 rfl
            | exact hexS_turn (decide_eq_false (by assumption)) hsg hn0 hn16 rfl
    case done =>
      clear F9 N9
      rintro ⟨ow, tw, ts, W, sg⟩ u h tk hfacts ⟨hW, hsg⟩ F1 N1
      (try dsimp only at hfacts hW hsg F1 N1 ⊢)
      have hsl : sg.length ≤ 3 := by rw [hsg, hexS_len]; omega
      have hld := LoopDone.mk
      k_steps
      · (rename News _ _ _ _ => N9)
        subst hW
        refine drawn_end hret (by k_asm) N9 (.bits _ _) o1 _ ?_ ⟨_, _, _, rfl⟩ (Or.inl ⟨_, ds, hds, by omega, hlen3, rfl, by rw [hsg]⟩) (by omega) (by omega) ?_ (by omega) hfo1 (by omega) (by omega)
        · walk_at "inNews"
        · walk_at "allLt"
      · unfold Stuck
        (rename IntsAre _ (List.reverse _) => hr9)
        have hn9 := hr9.length
        refine' PySem.W.kct_list (fun k => Str.ofString (toString k)) hr9 (fun k' t' I' oI' C' oC' D' m' ys' h' tk' E' hk' hC' hx' F' N' off' ne' hM' => ?t) ?f
        case t =>
          have hb9 := bits01 hk'
          (simp only [LCg.Off3, and_true] at off')
          k_steps
          unfold Stuck
          refine LCg.CompEnd.intro (by assumption) (by assumption) _ (by kcf_all) (by first | assumption | (simp only [LCg.Off3, and_true]; assumption)) (by first | lcg_src | assumption) ⟨rfl, _, rfl⟩
        case f =>
          k_steps
          unfold Stuck
          (rename CarriedAll _ _ => hc9)
          k_dflt (refine' KT.join_1 (News.isList (by k_asm) (by k_mem)) hc9 ?h1 ?hn ?_)
          case h1 => intro a ha; rcases bits01 ha with h | h <;> rw [h] <;> decide +kernel
          case hn => (simp only [List.length_reverse, List.length_map, rangeKs_length]); walk_at "om1"
          intro t9 k9 e9
          have hj9 : (PySem.Txt.join (PySem.Str.ofString "") (List.map (fun k => Str.ofString (toString k)) (List.map (fun k' => (W.fdiv (2 ^ k'.toNat)).fmod 2) (rangeKs 0 _)).reverse)).length ≤ 12 := Nat.le_trans (Nat.le_of_eq e9) (by (simp only [List.length_reverse, List.length_map, rangeKs_length]); walk_at "om1")
          generalize hJ9 : PySem.Txt.join (PySem.Str.ofString "") (List.map (fun k => Str.ofString (toString k)) (List.map (fun k' => (W.fdiv (2 ^ k'.toNat)).fmod 2) (rangeKs 0 _)).reverse) = J at hj9 ⊢
          clear e9
          (rename News _ _ _ _ => NP9)
          have lq := Heap.lt_size (NP9 _ (.tail _ (.tail _ (.head _)))).1
          (rename (_ : Int) < 4 => hd4)
          (rename FeedO w ca (k + 2 + (ds.length : Int) + 1) _ => hf9)
          k_steps
          (rename News h₀ L _ _ => N9)
          (rename (_ < _ ∧ _ < _ ∧ fa < _ ∧ ca < _ ∧ _ ∧ _ ∧ _ ∧ _ ∧ AllLt _ rest) => hl2)
          refine drawn_end hret (by k_asm) (news_pull N9) (.bits _ _) _ _ ?hm ⟨_, _, _, rfl⟩ (Or.inr ⟨W, _, ?n1, ?n2, ?n3, congrArg (fun x => Str.ofString "#b" ++ x) hJ9.symm⟩) hl2.2.2.1 hl2.2.2.2.1 hl2.2.2.2.2.2.2.2.2 lq hf9 (by omega) (by omega)
          case hm =>
            intro p9 hp9
            simp only [List.mem_cons] at hp9 ⊢
            rcases hp9 with hp9 | hp9 | hp9 <;> simp only [hp9, true_or, or_true]
          case n1 => walk_at "om1"
          case n2 => walk_at "om1"
          case n3 => exact congrArg (Item.bits _) (show _ = _ by walk_at "om1")
end
/-! QTen -/
noncomputable def Ten (e r : Int) : Prop := (e = 1 ∧ r = 10) ∨ (e = 2 ∧ r = 100) ∨ (e = 3 ∧ r = 1000)
theorem ten_of {d : Int} (h : d = 0 ∨ d = 1 ∨ d = 2) : ∃ r, Ten (1 + d) r := by
  rcases h with rfl | rfl | rfl
  · exact ⟨10, .inl ⟨rfl, rfl⟩⟩
  · exact ⟨100, .inr (.inl ⟨rfl, rfl⟩)⟩
  · exact ⟨1000, .inr (.inr ⟨rfl, rfl⟩)⟩
theorem ten_pos {e r : Int} (h : Ten e r) : 10 ≤ r ∧ r ≤ 1000 ∧ 1 ≤ e ∧ e ≤ 3 := by
  rcases h with ⟨rfl, rfl⟩ | ⟨rfl, rfl⟩ | ⟨rfl, rfl⟩ <;> decide
theorem ten_div {e r a : Int} (h : Ten e r) (h0 : 0 ≤ a) (h1 : a < 1000) : 0 ≤ a.fdiv r ∧ a.fdiv r < 1000 ∧ 0 ≤ a.fmod r ∧ a.fmod r < 1000 := by
  have hp := (ten_pos h).1
  have e1 : a.fdiv r = a / r := Int.fdiv_eq_ediv_of_nonneg _ (by omega)
  have h2 := Int.fmod_nonneg_of_pos a (show 0 < r by omega)
  have h3 := Int.fmod_lt_of_pos a (show 0 < r by omega)
  have h4 := (ten_pos h).2.1
  rcases h with ⟨_, rfl⟩ | ⟨_, rfl⟩ | ⟨_, rfl⟩ <;> (rw [e1]; omega)
theorem digs_len {a : Int} (h0 : 0 ≤ a) (h1 : a < 1000) : 1 ≤ (Str.ofString (toString a)).length ∧ (Str.ofString (toString a)).length ≤ 3 := by
  have h : ∀ n : Fin 1000, 1 ≤ (Str.ofString (toString ((n.val : Nat) : Int))).length ∧ (Str.ofString (toString ((n.val : Nat) : Int))).length ≤ 3 := by decide +kernel
  have := h ⟨a.toNat, by omega⟩
  rwa [show (((⟨a.toNat, by omega⟩ : Fin 1000).val : Nat) : Int) = a by simp; omega] at this
theorem grabN {d n : Int} (_ : d < n) : ∃ x : Int, x = d := ⟨d, rfl⟩
noncomputable def strip (p : Int) : Nat → Int → Int → Int × Int
  | 0, t, b => (t, b)
  | f + 1, t, b => if t.fmod p = 0 ∧ b.fmod p = 0 then strip p f (t.fdiv p) (b.fdiv p) else (t, b)
noncomputable def StripI (p : Int) (R : Int × Int) (t b : Int) : Prop := ∃ f, b < 2 ^ f ∧ strip p f t b = R
theorem strip_start (p t b : Int) (h : b ≤ 1000) : StripI p (strip p 10 t b) t b := ⟨10, by omega, rfl⟩
theorem strip_done {p : Int} {R : Int × Int} {t b : Int} (h : StripI p R t b) (hb : 1 ≤ b) (hc : ¬ (t.fmod p = 0 ∧ b.fmod p = 0)) : R = (t, b) := by
  obtain ⟨f, h1, h2⟩ := h
  cases f with
  | zero => exact h2.symm
  | succ f => rw [← h2, strip, if_neg hc]
theorem strip_turn {p : Int} {R : Int × Int} {t b : Int} (hp : p = 2 ∨ p = 5) (h : StripI p R t b) (hb : 1 ≤ b) (h1 : t.fmod p = 0) (h2 : b.fmod p = 0) (ht : 0 ≤ t) (ht1 : t ≤ 999) (hb1 : b ≤ 1000) :
    StripI p R (t.fdiv p) (b.fdiv p) ∧ 0 ≤ t.fdiv p ∧ t.fdiv p ≤ 999 ∧ 1 ≤ b.fdiv p ∧ b.fdiv p ≤ 1000 ∧ b.fdiv p < b := by
  obtain ⟨f, h3, h4⟩ := h
  have e1 : t.fdiv p = t / p := Int.fdiv_eq_ediv_of_nonneg _ (by omega)
  have e2 : b.fdiv p = b / p := Int.fdiv_eq_ediv_of_nonneg _ (by omega)
  have e3 : b.fmod p = b % p := Int.fmod_eq_emod_of_nonneg _ (by omega)
  cases f with
  | zero => exact absurd h3 (by simp; omega)
  | succ f =>
    rw [strip, if_pos ⟨h1, h2⟩] at h4
    refine ⟨⟨f, ?_, h4⟩, ?_⟩
    · rw [e2]
      have : (2 : Int) ^ (f + 1) = 2 * 2 ^ f := by rw [Int.pow_succ]; omega
      rw [this] at h3
      generalize (2 : Int) ^ f = z at h3 ⊢
      rcases hp with rfl | rfl <;> omega
    · rw [e1, e2]
      rw [e3] at h2
      rcases hp with rfl | rfl <;> omega
theorem strip_bound {p : Int} (hp : p = 2 ∨ p = 5) : ∀ (f : Nat) {t b : Int}, 0 ≤ t → t ≤ 999 → 1 ≤ b → b ≤ 1000 → 0 ≤ (strip p f t b).1 ∧ (strip p f t b).1 ≤ 999 ∧ 1 ≤ (strip p f t b).2 ∧ (strip p f t b).2 ≤ 1000
  | 0, _, _, h0, h1, h2, h3 => ⟨h0, h1, h2, h3⟩
  | f + 1, t, b, h0, h1, h2, h3 => by
    rw [strip]
    split
    · rename_i hc
      have e1 : t.fdiv p = t / p := Int.fdiv_eq_ediv_of_nonneg _ (by omega)
      have e2 : b.fdiv p = b / p := Int.fdiv_eq_ediv_of_nonneg _ (by omega)
      have e3 : b.fmod p = b % p := Int.fmod_eq_emod_of_nonneg _ (by omega)
      have hc2 := hc.2
      rw [e3] at hc2
      exact strip_bound hp f (by rw [e1]; rcases hp with rfl | rfl <;> omega) (by rw [e1]; rcases hp with rfl | rfl <;> omega) (by rw [e2]; rcases hp with rfl | rfl <;> omega) (by rw [e2]; rcases hp with rfl | rfl <;> omega)
    · exact ⟨h0, h1, h2, h3⟩
theorem strip_range {p : Int} (hp : p = 2 ∨ p = 5) {t b t2 b2 : Int} (h0 : 0 ≤ t) (h1 : t ≤ 999) (h2 : 1 ≤ b) (h3 : b ≤ 1000) (e : strip p 10 t b = (t2, b2)) : 0 ≤ t2 ∧ t2 ≤ 999 ∧ 1 ≤ b2 ∧ b2 ≤ 1000 := by
  have := strip_bound hp 10 h0 h1 h2 h3
  rw [e] at this
  exact this
theorem news_keep5 {h₀ h : Heap} {L : Addr} {a b c d e f : Addr × Obj} {l : List (Addr × Obj)} (N : News h₀ L h (a :: b :: c :: d :: e :: f :: l)) : News h₀ L h (a :: c :: d :: l) := fun p hp => N p (by
  simp only [List.mem_cons] at hp ⊢
  rcases hp with hp | hp | hp | hp <;> simp [hp])
noncomputable def WEnd {h₀ h : Heap} {L : Addr} {m : Str → Option Value} {news : List (Addr × Obj)} (_ : Fr h₀ L h m) (_ : News h₀ L h news) (R : Int × Int) (h' : Heap) : Prop :=
  ∃ t1 t2, Fr h₀ L h' (kstB m [(Str.ofString "top", .int R.1 t1), (Str.ofString "bottom", .int R.2 t2)]) ∧ News h₀ L h' news
theorem cut_while {M : Model} {A : Around} {E : Value → Shared → Prop} {s : Shared} {t : Sem Flow} {Q : Flow → Shared → Prop} (P : Heap → Prop) (h : wpAny M A t (fun f s' => f = .next ∧ ∃ h' tk, s' = { s with heap := h', toks := tk } ∧ P h') E s)
    (k : ∀ h' tk, P h' → Q .next { s with heap := h', toks := tk }) : wpAny M A t Q E s :=
  wpAny_mono h (fun f s' ⟨e, h', tk, e', p⟩ => e ▸ e' ▸ k h' tk p) fun _ _ z => z
section
variable {prog : Program} {w : World} {A : Around} {E : Value → Shared → Prop} {s : Shared} {Q : Value → Shared → Prop}
theorem pow_ten {e r : Int} {t u : Tok} (hr : Ten e r) (h : Q (.int r s.toks) { s with toks := s.toks + 1 }) : wpAny (model prog w) A (binaryOp .Pow (.int 10 t) (.int e u)) Q E s := by
  have hp := ten_pos hr
  refine pow_int_small (by omega) (by omega) (by decide) ?_
  have : (10 : Int) ^ e.toNat = r := by rcases hr with ⟨rfl, rfl⟩ | ⟨rfl, rfl⟩ | ⟨rfl, rfl⟩ <;> decide
  rw [this]
  exact h
theorem mul0_le {i : Int} {t u : Tok} (hlo : -100 ≤ i) (hhi : i ≤ 4) (h : ∀ t' k, (Txt.mul (Str.ofString "0") i).length ≤ 4 → Q (.str (Txt.mul (Str.ofString "0") i) t') { s with toks := k }) :
    wpAny (model prog w) A (binaryOp .Mult (.str (Str.ofString "0") t) (.int i u)) Q E s :=
  KXi.mul (n := 1) (by decide) (by decide) (by omega) (by omega) fun t' k z n => h t' k (by
    rcases Int.lt_or_le i 0 with q | q
    · rw [z q]; decide
    · have := n q
      omega)
theorem toNat_lt {a b : Int} (h : a < b) (h1 : 1 ≤ a) : a.toNat < b.toNat := by omega
theorem str_small {a : Int} {t : Tok} (h0 : 0 ≤ a) (h1 : a < 1000) (k : ∀ S, S = Str.ofString (toString a) → 1 ≤ S.length → S.length ≤ 3 → Q (.str S s.toks) { s with toks := s.toks + 1 }) : wpAny (model prog w) A (call (.type "str") [.int a t]) Q E s :=
  P.str_of_int (shown (N := 1000) (by omega) h1 (by decide)) (k _ rfl (digs_len h0 h1).1 (digs_len h0 h1).2)
end
/-! QDcm2 -/
theorem setDcm2 : True := by
  k_with_none
  (k_with "execs cons" => first | (k_here; k_made; walk_at "execs cons") | (k_here; (with_reducible refine wpAny_execs_cons ?_); (try dsimp only); (try (with_reducible refine anyTok ?_); intro tk9); (try k_fold)))
  (k_with "enter" => ((rename At _ _ _ _ _ _ _ _ _ => HA9); (have B9 := HA9.B); (have X9 := HA9.X); (have T9 := HA9.T); (have hk9 := HA9.hk); clear HA9; (refine wpAny_call ?_); (k_dflt ktr_enter)))
  (k_with "om1" => ((repeat ((rename (_ ∧ _) => z9); clear z9)); omega))
  (k_with "ite" => (k_here; first
    | refine ite_pos (by with_reducible assumption) ?_
    | refine ite_neg (by with_reducible assumption) ?_
    | refine ite_neg (not_true_of (by with_reducible assumption)) ?_))
  (k_with "compareOp In str ref" => (k_here; k_dflt (refine' in_tup (ys := RES) (tupK (Frag.In.keeps (by k_asm) (Fr.keep (by k_asm))) (by k_is)) (by repeat (first | exact StrsAre.nil | refine StrsAre.cons _ _ ?_)) ?_)))
  (k_with "call ref" => (k_here; (with_reducible show wpAny _ _ (call (Value.ref 310) _) _ _ _); k_dflt (refine' says_go (by k_asm) (by first | k_asm | exact news_rot (by k_asm) | exact news_rot2 (by k_asm) | exact news_rot3 (by k_asm)) (draw_says _ _ _ _ _ _ _ _ _ _ _ (by assumption) (by assumption) (by assumption) (by assumption) (by omega) (by omega) (by decide) (by decide) (by k_all) (by assumption)) elD (by k_asm) (by k_asm) (by k_asm) (by first | rfl | assumption) (Nat.le_of_ble_eq_true rfl) (Nat.le_of_ble_eq_true rfl) ?_); intro d9 t9 o9 hlo9 hhi9 hfo9 h9 tk9 F9 N9; (try k_sweep)))
  (k_with "allLt" => first
    | assumption
    | exact (by assumption : _ ∧ AllLt _ _).2
    | exact (by assumption : _ ∧ _ ∧ AllLt _ _).2.2
    | exact (by assumption : _ ∧ _ ∧ _ ∧ AllLt _ _).2.2.2
    | exact (by assumption : _ ∧ _ ∧ _ ∧ _ ∧ AllLt _ _).2.2.2.2
    | exact (by assumption : _ ∧ _ ∧ _ ∧ _ ∧ _ ∧ AllLt _ _).2.2.2.2.2
    | exact (by assumption : _ ∧ _ ∧ _ ∧ _ ∧ _ ∧ _ ∧ AllLt _ _).2.2.2.2.2.2)
  (k_with "inNews" => (intro p9 hp9; simp only [List.mem_cons] at hp9 ⊢; rcases hp9 with hp9 | hp9 | hp9 <;> simp only [hp9, true_or, or_true]))
  (k_with "binaryOp Pow int int" => first
    | ((rename Ten _ _ => x9); k_here; k_dflt (refine' pow_ten (by assumption) ?_))
    | (refine stuck ?_))
  (k_with "binaryOp FloorDiv int int" => (k_here; refine floordiv_int (by walk_at "om1") ?_))
  (k_with "binaryOp Mod int int" => (k_here; refine mod_int' (by walk_at "om1") ?_))
  (k_with "call type:str" => (k_here; k_dflt (refine' str_small (by (rename Ten _ _ => x9); first | exact (ten_div x9 (by omega) (by omega)).1 | exact (ten_div x9 (by omega) (by omega)).2.2.1) (by (rename Ten _ _ => x9); first | exact (ten_div x9 (by omega) (by omega)).2.1 | exact (ten_div x9 (by omega) (by omega)).2.2.2) ?_); intro S9 e9 l9 l8))
  (k_with "exec While BoolOp cons nil" => (refine stuck ?_))
  (k_with "KswEnd" => (refine stuck ?_))
  (k_with "len" => first | exact dot_le | exact Nat.le_trans (by assumption) (by assumption) | assumption | exact run_1000 (by assumption))
  (k_with "binaryOp Add str str" => (k_here; (with_reducible show wpAny _ _ (binaryOp Operator.Add (Value.str _ _) (Value.str _ _)) _ _ _); (refine add_le (by walk_at "len") (by walk_at "len") (Nat.le_of_ble_eq_true rfl) ?_); intro _ _ _))
  (k_with "binaryOp Mult str int" => (k_here; (refine mul0_le (by omega) (by omega) ?_); intro _ _ _))
  trivial
/-- a decimal as the law draws it: worth wo, many signs behind the point, n noughts at the end -/
noncomputable def DecP (it : Item) (S : Str) : Prop :=
  ∃ (wo many r n : Int), 0 ≤ wo ∧ wo ≤ 999 ∧ Ten many r ∧ 0 ≤ n ∧ n < 3 ∧
    it = .dec (strip 5 10 (strip 2 10 wo r).1 (strip 2 10 wo r).2).1 (strip 5 10 (strip 2 10 wo r).1 (strip 2 10 wo r).2).2 ∧
    S = Str.ofString (toString (wo.fdiv r)) ++ Str.ofString "." ++ Txt.mul (Str.ofString "0") (many - ((Str.ofString (toString (wo.fmod r))).length : Int)) ++ Str.ofString (toString (wo.fmod r)) ++ Txt.mul (Str.ofString "0") n
theorem drawn_end2 {w : World} {fa ca : Addr} {l : Obj} {k : Int} {rest : List (Addr × Obj)} {P : Item → Str → Prop} {h₀ : Heap} {L : Addr} {m : Str → Option Value} {gS : Array GenState} {dS : PySem.Drawn} {oS : OsState} {Q : Value → Shared → Prop}
    (hret : ∀ r news' h' tk', Fr h₀ L h' m → News h₀ L h' news' → DrawnL w fa ca l k rest P r news' → Q r ⟨h', gS, dS, tk', oS⟩)
    {h' : Heap} {tk' : Nat} {q qi q2 : Addr} {S : Str} {t : Tok} {oi o2 : Obj} {news : List (Addr × Obj)} (F : Fr h₀ L h' m) (N : News h₀ L h' ((q, tupO [.ref qi, .str S t]) :: (qi, oi) :: (q2, o2) :: news)) (it : Item) (o' : Obj) (k' : Int) (hm : ∀ p ∈ (fa, o') :: (ca, l) :: rest, p ∈ news)
    (hi : itemL it qi [(qi, oi), (q2, o2)]) (hP : P it S) (h1 : @LT.lt Nat _ fa q2) (h2 : @LT.lt Nat _ ca q2) (h3 : AllLt q2 rest) (h0 : @LT.lt Nat _ q2 qi) (h4 : @LT.lt Nat _ qi q) (h5 : FeedO w ca k' o') (h6 : k ≤ k') (h7 : k' ≤ k + 10) :
    Q (.ref q) ⟨h', gS, dS, tk', oS⟩ := by
  refine hret _ ((q, tupO [.ref qi, .str S t]) :: [(qi, oi), (q2, o2)] ++ ((fa, o') :: (ca, l) :: rest)) _ _ F (fun p hp => N p ?_) ⟨it, S, q, qi, _, t, o', k', hP, rfl, hi, ?_, ?_, ⟨Nat.lt_trans h1 (Nat.lt_trans h0 h4), Nat.lt_trans h2 (Nat.lt_trans h0 h4), fun y hy => Nat.lt_trans (allLt_all h3 y hy) (Nat.lt_trans h0 h4)⟩, h5, h6, h7, rfl⟩
  · rcases List.mem_append.mp hp with hp | hp
    · simp only [List.mem_cons, List.not_mem_nil, or_false] at hp ⊢
      rcases hp with hp | hp | hp <;> simp [hp]
    · exact .tail _ (.tail _ (.tail _ (hm p hp)))
  · intro x hx
    simp only [List.mem_cons, List.not_mem_nil, or_false] at hx
    rcases hx with rfl | rfl
    · exact ⟨Nat.lt_trans h1 h0, Nat.lt_trans h2 h0, fun y hy => Nat.lt_trans (allLt_all h3 y hy) h0⟩
    · exact ⟨h1, h2, allLt_all h3⟩
  · intro x hx
    simp only [List.mem_cons, List.not_mem_nil, or_false] at hx
    rcases hx with rfl | rfl
    · exact h4
    · exact Nat.lt_trans h0 h4
theorem kst_nil {u m₀ : Str → Option Value} {ps : List (Str × Value)} : kstB (fun z => if ([] : List Str).contains z = true then u z else m₀ z) ps = kstB m₀ ps := rfl
theorem decimal_says (w : World) (fa ca : Addr) (o : Obj) (vs : List Value) (ns : List Int) (c : Nat) (k : Int) (rest : List (Addr × Obj))
    {lc : Obj} (hlc : lc = W.listOf vs.toArray c) (hfo : FeedO w ca k o) (hI : IntsAre vs ns) (hl : ns.length ≤ 63) (hk0 : 0 ≤ k) (hk1 : k ≤ 190)
    (hr : ∀ p ∈ rest, p.1 ≠ fa) (hca : @Ne Nat ca fa) :
    Says w 800 800 329 [.ref fa] ((fa, o) :: (ca, lc) :: rest) (DrawnL w fa ca (lc) k rest DecP) := by
  intro mean mg mb gd cn cs a ccd cl outer A₀ base h₀ L m hS gS dS oS tS Q E HA F N hret
  walk_at "enter"
  k_steps
  unfold Stuck
  (rename (_ : Int) < 3 => hm3)
  (rename (0 : Int) ≤ _ => hm0)
  obtain ⟨r, hTen⟩ := ten_of (of_lt3 hm0 hm3)
  have hp9 := (ten_pos hTen).1
  have hp8 := (ten_pos hTen).2.1
  have hp7 := (ten_pos hTen).2.2.1
  have hp6 := (ten_pos hTen).2.2.2
  k_steps
  (rename Fr _ _ _ _ => lF')
  (rename News _ _ _ _ => lN9)
  have lN' := news_keep5 lN9
  clear lN9
  (with_unfolding_all refine iter_tupTurns (vs := [.int 2 _, .int 5 _]) (by rfl) lF' lN' (.head _) (by rfl) (by rfl) ?_)
  clear lF'
  intro i' l1
  (try k_lt l1)
  k_steps
  (rename (_ : Int) < 1000 => hw1)
  obtain ⟨wo, hwo⟩ := grabN hw1
  subst hwo
  (rename (0 : Int) ≤ wo => hw0)
  (repeat ((rename (_ + _ ≤ _ ∧ _ ≤ _ + _) => z9); clear z9))
  (repeat ((rename (1 ≤ Str.length _) => z9); clear z9))
  (repeat ((rename (Str.length _ ≤ 3) => z9); clear z9))
  have hA : wo ≤ 999 := by omega
  have hB : 1 ≤ r := by omega
  unfold Stuck
  (rename Fr _ _ _ _ => F9)
  (rename News _ _ _ _ => N9)
  refine' cut_while (WEnd F9 N9 (strip 2 10 wo r)) ?aw ?ac
  case aw =>
    (with_unfolding_all refine' ksw_while (fun (_ : Int × Int × Tok × Tok) => _) (fun c => [(Str.ofString "top", .int c.1 c.2.2.1), (Str.ofString "bottom", .int c.2.1 c.2.2.2)]) (fun _ => True) [] (fun c => StripI 2 (strip 2 10 wo r) c.1 c.2.1 ∧ 0 ≤ c.1 ∧ c.1 ≤ 999 ∧ 1 ≤ c.2.1 ∧ c.2.1 ≤ 1000) (fun c => c.2.1.toNat) (wo, r, _, _) F9 N9 trivial ?hk ⟨strip_start _ _ _ hp8, hw0, hA, hB, hp8⟩ ?turn)
    case hk => intro p hp; simp only [List.mem_cons, List.not_mem_nil, or_false] at hp; rcases hp with rfl | rfl <;> rfl
    case turn =>
      rintro ⟨u, v, tu, tv⟩ um h tk _ ⟨hS, hu0, hu1, hv0, hv1⟩ F1 N1
      (try dsimp only at F1 N1 hS hu0 hu1 hv0 hv1 ⊢)
      k_steps
      · unfold Stuck
        (rename Int.fmod v _ = 0 => hv2)
        (rename Int.fmod u _ = 0 => hu2)
        have hT := strip_turn (by decide) hS hv0 hu2 hv2 hu0 hu1 hv1
        refine' ksw_end (Int.fdiv u 2, Int.fdiv v 2, ?t1, ?t2) ?F ?N ?n trivial ?hk ?hr ⟨hT.1, hT.2.1, hT.2.2.1, hT.2.2.2.1, hT.2.2.2.2.1⟩ ?m
        case F => k_asm
        case hk => intro p hp; simp only [List.mem_cons, List.not_mem_nil, or_false] at hp; rcases hp with rfl | rfl <;> exact rfl
        case N => k_asm
        case n => intro p hp; simp only [List.mem_cons] at hp ⊢; exact .inr hp
        case hr =>
          intro z h1 _
          simp only [List.mem_cons, List.not_mem_nil, or_false, forall_eq_or_imp, forall_eq] at h1
          simp [h1, kstB]
        case m => exact toNat_lt hT.2.2.2.2.2 hT.2.2.2.1
      all_goals
        refine ⟨tu, tv, ?_, by k_asm⟩
        rw [strip_done hS hv0 (by rintro ⟨h1, h2⟩; contradiction)]
        exact kst_nil ▸ F1
  case ac =>
    rintro h8 tk8 ⟨t81, t82, F8, N8⟩
    clear F9 N9
    generalize hR2 : strip 2 10 wo r = R2 at F8
    obtain ⟨t2, b2⟩ := R2
    have hb5 := strip_range (.inl rfl) hw0 hA hB hp8 hR2
    have ht0 := hb5.1
    have ht1 := hb5.2.1
    have hb1 := hb5.2.2.1
    have hb3 := hb5.2.2.2
    clear hb5
    k_steps
    (with_unfolding_all refine ⟨_, _, _, _, rfl, F8, N8, fun p hp q hq => ?_, ⟨.head _, trivial⟩, ?_⟩)
    · rw [List.mem_singleton.mp hq]
      exact Nat.ne_of_lt (allLt_all (l := (_, _) :: (fa, _) :: (ca, _) :: rest) l1 p hp)
    clear F8 N8
    k_steps
    unfold Stuck
    (rename Fr _ _ _ _ => F9)
    (rename News _ _ _ _ => N9)
    refine' cut_while (WEnd F9 N9 (strip 5 10 t2 b2)) ?bw ?bc
    case bw =>
      (with_unfolding_all refine' ksw_while (fun (_ : Int × Int × Tok × Tok) => _) (fun c => [(Str.ofString "top", .int c.1 c.2.2.1), (Str.ofString "bottom", .int c.2.1 c.2.2.2)]) (fun _ => True) [] (fun c => StripI 5 (strip 5 10 t2 b2) c.1 c.2.1 ∧ 0 ≤ c.1 ∧ c.1 ≤ 999 ∧ 1 ≤ c.2.1 ∧ c.2.1 ≤ 1000) (fun c => c.2.1.toNat) (t2, b2, _, _) F9 N9 trivial ?hk ⟨strip_start _ _ _ hb3, ht0, ht1, hb1, hb3⟩ ?turn)
      case hk => intro p hp; simp only [List.mem_cons, List.not_mem_nil, or_false] at hp; rcases hp with rfl | rfl <;> rfl
      case turn =>
        rintro ⟨u, v, tu, tv⟩ um h tk _ ⟨hS, hu0, hu1, hv0, hv1⟩ F1 N1
        (try dsimp only at F1 N1 hS hu0 hu1 hv0 hv1 ⊢)
        k_steps
        · unfold Stuck
          (rename Int.fmod v _ = 0 => hv2)
          (rename Int.fmod u _ = 0 => hu2)
          have hT := strip_turn (by decide) hS hv0 hu2 hv2 hu0 hu1 hv1
          refine' ksw_end (Int.fdiv u 5, Int.fdiv v 5, ?t3, ?t4) ?F ?N ?n trivial ?hk ?hr ⟨hT.1, hT.2.1, hT.2.2.1, hT.2.2.2.1, hT.2.2.2.2.1⟩ ?m
          case F => k_asm
          case hk => intro p hp; simp only [List.mem_cons, List.not_mem_nil, or_false] at hp; rcases hp with rfl | rfl <;> exact rfl
          case N => k_asm
          case n => intro p hp; simp only [List.mem_cons] at hp ⊢; exact .inr hp
          case hr =>
            intro z h1 _
            simp only [List.mem_cons, List.not_mem_nil, or_false, forall_eq_or_imp, forall_eq] at h1
            simp [h1, kstB]
          case m => exact toNat_lt hT.2.2.2.2.2 hT.2.2.2.1
        all_goals
          refine ⟨tu, tv, ?_, by k_asm⟩
          rw [strip_done hS hv0 (by rintro ⟨h1, h2⟩; contradiction)]
          exact kst_nil ▸ F1
    case bc =>
      rintro h8 tk8 ⟨t81, t82, F8, N8⟩
      clear F9 N9
      generalize hR5 : strip 5 10 t2 b2 = R5 at F8
      obtain ⟨t5, b5⟩ := R5
      k_steps
      (with_unfolding_all refine ⟨_, _, _, _, rfl, F8, N8, fun p hp q hq => ?_, ⟨.head _, trivial⟩, ?_⟩)
      · rw [List.mem_singleton.mp hq]
        exact Nat.ne_of_lt (allLt_all (l := (_, _) :: (fa, _) :: (ca, _) :: rest) l1 p hp)
      clear F8 N8
      k_steps
      (rename News h₀ L _ _ => N9)
      (rename FeedO w ca _ _ => hf9)
      (rename (_ < _ ∧ fa < _ ∧ ca < _ ∧ AllLt _ rest) => hl2)
      (rename (_ < _ ∧ _ < _ ∧ fa < _ ∧ ca < _ ∧ AllLt _ rest) => hl1)
      (rename (_ < _ ∧ _ < _ ∧ _ < _ ∧ fa < _ ∧ ca < _ ∧ AllLt _ rest) => hl0)
      (rename _ = Str.ofString (toString (Int.fdiv wo r)) => e91)
      (rename _ = Str.ofString (toString (Int.fmod wo r)) => e92)
      subst e92
      (rename _ = Str.ofString (toString (Int.fmod wo r)) => e93)
      subst e91 e93
      refine drawn_end2 hret (by k_asm) N9 (.dec _ _) _ _ ?hm ⟨_, _, _, _, hl1.1, rfl⟩ ⟨wo, _, r, _, hw0, hA, ?dt, ?d0, ?d3, ?di, rfl⟩ hl2.2.1 hl2.2.2.1 hl2.2.2.2 hl1.1 hl0.1 hf9 (by omega) (by omega)
      case hm =>
        intro p9 hp9
        simp only [List.mem_cons] at hp9 ⊢
        rcases hp9 with hp9 | hp9 | hp9 <;> simp only [hp9, true_or, or_true]
      case dt => assumption
      case d0 => assumption
      case d3 => assumption
      case di => rw [hR2]; dsimp only; rw [hR5]
/-! QItm -/
theorem setItm : True := by
  k_with_none
  (k_with "execs cons" => first | (k_here; k_made; walk_at "execs cons") | (k_here; (with_reducible refine wpAny_execs_cons ?_); (try dsimp only); (try (with_reducible refine anyTok ?_); intro tk9); (try k_fold)))
  (k_with "enter" => ((rename At _ _ _ _ _ _ _ _ _ => HA9); (have B9 := HA9.B); (have X9 := HA9.X); (have T9 := HA9.T); (have hk9 := HA9.hk); clear HA9; (refine wpAny_call ?_); (k_dflt ktr_enter)))
  (k_with "ite" => (k_here; first
    | refine ite_pos (by with_reducible assumption) ?_
    | refine ite_neg (not_true_of (by with_reducible assumption)) ?_
    | refine ite_pos (by first | omega | ((simp only [decide_eq_true_eq, beq_iff_eq, bne_iff_ne, ne_eq, Bool.not_eq_true', decide_eq_false_iff_not]); omega)) ?_
    | refine ite_neg (by first | omega | ((simp only [decide_eq_true_eq, beq_iff_eq, bne_iff_ne, ne_eq, Bool.not_eq_true', decide_eq_false_iff_not]); omega)) ?_))
  (k_with "binaryOp FloorDiv int int" => (k_here; refine floordiv_int (by omega) ?_))
  (k_with "compareOp In str ref" => (k_here; k_dflt (refine' in_tup (ys := RES) (tupK (Frag.In.keeps (by k_asm) (Fr.keep (by k_asm))) (by k_is)) (by repeat (first | exact StrsAre.nil | refine StrsAre.cons _ _ ?_)) ?_)))
  (k_with "call ref" => (k_here; (with_reducible show wpAny _ _ (call (Value.ref 310) _) _ _ _); k_dflt (refine' says_go (by k_asm) (by first | k_asm | exact news_rot (by k_asm) | exact news_rot2 (by k_asm) | exact news_rot3 (by k_asm)) (draw_says _ _ _ _ _ _ _ _ _ _ _ (by assumption) (by assumption) (by assumption) (by assumption) (by omega) (by omega) (by decide) (by decide) (by k_all) (by assumption)) elD (by k_asm) (by k_asm) (by k_asm) (by first | rfl | assumption) (Nat.le_of_ble_eq_true rfl) (Nat.le_of_ble_eq_true rfl) ?_); intro d9 t9 o9 hlo9 hhi9 hfo9 h9 tk9 F9 N9; (try k_sweep)))
  (k_with "allLt" => first
    | assumption
    | exact (by assumption : _ ∧ AllLt _ _).2
    | exact (by assumption : _ ∧ _ ∧ AllLt _ _).2.2
    | exact (by assumption : _ ∧ _ ∧ _ ∧ AllLt _ _).2.2.2
    | exact (by assumption : _ ∧ _ ∧ _ ∧ _ ∧ AllLt _ _).2.2.2.2
    | exact (by assumption : _ ∧ _ ∧ _ ∧ _ ∧ _ ∧ AllLt _ _).2.2.2.2.2
    | exact (by assumption : _ ∧ _ ∧ _ ∧ _ ∧ _ ∧ _ ∧ AllLt _ _).2.2.2.2.2.2)
  (k_with "inNews" => (intro p9 hp9; simp only [List.mem_cons] at hp9 ⊢; rcases hp9 with hp9 | hp9 | hp9 <;> simp only [hp9, true_or, or_true]))
  (k_with "call ref" => ((with_reducible show wpAny _ _ (call (Value.ref 317) _) _ _ _); (refine stuck ?_)))
  (k_with "call ref" => ((with_reducible show wpAny _ _ (call (Value.ref 322) _) _ _ _); (refine stuck ?_)))
  (k_with "call ref" => ((with_reducible show wpAny _ _ (call (Value.ref 329) _) _ _ _); (refine stuck ?_)))
  trivial
theorem getD_int {l : List Int} {i : Nat} {d N : Int} (h : l.getD i d = N) (hl : ((d :: l).all fun x => decide (0 ≤ x) && decide (x ≤ 10 ^ 30)) = true) : 0 ≤ N ∧ N ≤ 10 ^ 30 := by
  have : N ∈ d :: l := by
    rw [← h, List.getD_eq_getElem?_getD]
    cases q : l[i]? with
    | none => exact .head _
    | some x => exact .tail _ (List.mem_of_getElem? q)
  simpa using List.all_eq_true.mp hl N this
noncomputable abbrev TEXTS : List Str := [Str.ofString "", Str.ofString "x", Str.ofString "q\"r", Str.ofString "(;|", Str.ofString "\"\"", Str.ofString "a\nb"]
noncomputable abbrev KEYS : List Str := [Str.ofString "k", Str.ofString "a-b", Str.ofString "x1", Str.ofString "+"]
theorem texts_in {d : Int} {N : Str} (h : TEXTS.getD d.toNat Str.empty = N) : (N.cps.all (· < 128)) = true ∧ N.length ≤ 3 ∧ (TEXTS.any fun x => x == N) = true := by
  have hl : ((Str.empty :: TEXTS).all fun N => (N.cps.all (· < 128)) && decide (N.length ≤ 3) && TEXTS.any fun x => x == N) = true := by decide +kernel
  have : N ∈ Str.empty :: TEXTS := by
    rw [← h, List.getD_eq_getElem?_getD]
    cases q : TEXTS[d.toNat]? with
    | none => exact .head _
    | some x => exact .tail _ (List.mem_of_getElem? q)
  have := List.all_eq_true.mp hl N this
  simp only [Bool.and_eq_true, decide_eq_true_eq] at this
  exact ⟨this.1.1, this.1.2, this.2⟩
theorem keys_in {d : Int} {N : Str} (h : KEYS.getD d.toNat Str.empty = N) (h0 : 0 ≤ d) (h1 : d < 4) : N.length ≤ 8 ∧ (KEYS.any fun x => x == N) = true := by
  have hl : (KEYS.all fun N => decide (N.length ≤ 8) && KEYS.any fun x => x == N) = true := by decide +kernel
  have hlt : d.toNat < KEYS.length := by show d.toNat < 4; omega
  have : N ∈ KEYS := by
    rw [← h, List.getD_eq_getElem?_getD, List.getElem?_eq_getElem hlt]
    exact List.getElem_mem hlt
  have := List.all_eq_true.mp hl N this
  simp only [Bool.and_eq_true, decide_eq_true_eq] at this
  exact this
theorem setItmb : True := by
  (k_with "subscriptTail" => (k_here; (with_reducible show wpAny _ _ (subscriptTail _ _ (Value.ref _) (Value.int _ _)) _ _ _); first | ((k_dflt (refine' item_strsR (ys := TEXTS) (News.isList (by k_asm) (by k_mem)) (by repeat (first | exact StrsAre.nil | refine StrsAre.cons _ _ ?_)) (by assumption) (by assumption) (by omega) ?_ (by with_unfolding_all rfl))); intro t9; (generalize hgN9 : List.getD TEXTS _ _ = N9); (obtain ⟨hT1, hT2, hT3⟩ := texts_in hgN9); clear hgN9) | ((k_dflt (refine' item_strsR (ys := KEYS) (News.isList (by k_asm) (by k_mem)) (by repeat (first | exact StrsAre.nil | refine StrsAre.cons _ _ ?_)) (by assumption) (by assumption) (by omega) ?_ (by with_unfolding_all rfl))); intro t9; (generalize hgN9 : List.getD KEYS _ _ = N9); (obtain ⟨hT1, hT2⟩ := keys_in hgN9 (by assumption) (by assumption)); clear hgN9)))
  (k_with "eval ListComp" => (k_here; k_dflt (refine ListComp_text (F₀ := by k_asm) (by with_unfolding_all rfl) (by decide) (by rfl) (by decide) (by rfl) ?_)))
  (k_with "SrcT" => (refine stuck ?_))
  (k_with "storeName" => ((generalize hgI9 : List.getD (_ : List Int) _ _ = I9); (have hI9 := getD_int hgI9 (by decide +kernel)); (obtain ⟨hI1, hI2⟩ := hI9)))
  (k_with "call type:str" => (k_here; refine P.str_of_int (shown (N := 10 ^ 40) (by omega) (by omega) (by decide)) ?_))
  trivial
noncomputable def gDbl (c : Nat) : Str := if c = 34 then Str.ofString "\"\"" else ⟨#[c]⟩
theorem dq_eq {c : Nat} (h : ((⟨#[c]⟩ : Str) == Str.ofString "\"") = true) : (⟨#[c]⟩ ++ ⟨#[c]⟩ : Str) = gDbl c := by
  have e : (⟨#[c]⟩ : Str) = Str.ofString "\"" := by simpa using h
  have e34 : Str.ofString "\"" = ⟨#[34]⟩ := by decide +kernel
  rw [e34] at e
  have : c = 34 := by injection e with e; simpa using e
  subst this
  decide +kernel
theorem dq_ne {c : Nat} (h : ((⟨#[c]⟩ : Str) == Str.ofString "\"") = false) : (⟨#[c]⟩ : Str) = gDbl c := by
  unfold gDbl
  rw [if_neg]
  intro e
  subst e
  exact absurd h (by decide +kernel)
theorem gDbl_len (l : List Nat) : ((l.map gDbl).map (·.length)).sum ≤ 2 * l.length := by
  induction l with
  | nil => exact Nat.le_refl _
  | cons c r ih =>
    have e : (gDbl c).length ≤ 2 := by
      unfold gDbl
      split
      · decide +kernel
      · simp [Str.length]
    simp only [List.map_cons, List.sum_cons, List.length_cons]
    omega
theorem gDbl_six {X : Str} (h : X.length ≤ 3) : ((X.cps.toList.map gDbl).map (·.length)).sum ≤ 6 := by
  have h1 := gDbl_len X.cps.toList
  have h2 : X.cps.toList.length = X.length := by simp [Str.length]
  omega
theorem news_pull1 {h₀ h : Heap} {L : Addr} {x a c : Addr × Obj} {l : List (Addr × Obj)} (N : News h₀ L h (x :: a :: c :: l)) : News h₀ L h (x :: c :: a :: l) := fun p hp => N p (by
  simp only [List.mem_cons] at hp ⊢
  rcases hp with hp | hp | hp | hp <;> simp [hp])
theorem joinL (ys : List Str) : (Txt.join (Str.ofString "") ys).length = (ys.map (·.length)).sum := by
  rw [join_flat]
  simp only [Str.length, List.size_toArray, List.length_flatMap]
  rfl
noncomputable def StrP (it : Item) (S : Str) : Prop := ∃ X, (TEXTS.any fun x => x == X) = true ∧ it = .str X ∧ S = Str.ofString "\"" ++ Txt.join (Str.ofString "") (X.cps.toList.map gDbl) ++ Str.ofString "\""
noncomputable def KeyP (it : Item) (S : Str) : Prop := ∃ X, (KEYS.any fun x => x == X) = true ∧ it = .key X ∧ S = Str.ofString ":" ++ X
noncomputable def NumP (it : Item) (S : Str) : Prop := ∃ x : Int, 0 ≤ x ∧ x ≤ 10 ^ 30 + 2 ∧ it = .num x ∧ S = Str.ofString (toString x)
noncomputable def ItemP (it : Item) (S : Str) : Prop := SymP it S ∨ StrP it S ∨ KeyP it S ∨ BitsP it S ∨ NumP it S ∨ DecP it S
theorem DrawnL.mono {w : World} {fa ca : Addr} {l : Obj} {k : Int} {rest : List (Addr × Obj)} {P P' : Item → Str → Prop} {r : Value} {news' : List (Addr × Obj)} (h : DrawnL w fa ca l k rest P r news') (hp : ∀ it S, P it S → P' it S) : DrawnL w fa ca l k rest P' r news' := by
  obtain ⟨it, S, q, qi, own, t, o', k', h1, h2⟩ := h
  exact ⟨it, S, q, qi, own, t, o', k', hp _ _ h1, h2⟩
noncomputable def DrawnI (w : World) (fa ca : Addr) (l : Obj) (k : Int) (rest : List (Addr × Obj)) (r : Value) (news' : List (Addr × Obj)) : Prop :=
  ∃ k1, k ≤ k1 ∧ k1 ≤ k + 1 ∧ DrawnL w fa ca l k1 rest ItemP r news'
theorem item_says (w : World) (fa ca : Addr) (o : Obj) (vs : List Value) (ns : List Int) (c : Nat) (k : Int) (rest : List (Addr × Obj))
    {lc : Obj} (hlc : lc = W.listOf vs.toArray c) (hfo : FeedO w ca k o) (hI : IntsAre vs ns) (hl : ns.length ≤ 63) (hk0 : 0 ≤ k) (hk1 : k ≤ 180)
    (hr : ∀ p ∈ rest, p.1 ≠ fa) (hca : @Ne Nat ca fa) :
    Says w 700 700 334 [.ref fa] ((fa, o) :: (ca, lc) :: rest) (DrawnI w fa ca (lc) k rest) := by
  intro mean mg mb gd cn cs a ccd cl outer A₀ base h₀ L m hS gS dS oS tS Q E HA F N hret
  walk_at "enter"
  have hret' : ∀ r news' h' tk', Fr h₀ L h' m → News h₀ L h' news' → DrawnL w fa ca (lc) k rest ItemP r news' → Q r ⟨h', gS, dS, tk', oS⟩ := fun r n h tk F N D => hret r n h tk F N ⟨k, Int.le_refl _, by omega, D⟩
  k_steps
  · unfold Stuck
    (rename FeedO w ca _ _ => hf9)
    k_dflt (refine' says_use (by k_asm) ?kN (symbol_says w fa ca _ vs ns c (k + 1) rest hlc hf9 hI hl (by omega) (by omega) hr hca) (by k_asm) (by k_asm) (by k_asm) (by first | rfl | assumption) (Nat.le_of_ble_eq_true rfl) (Nat.le_of_ble_eq_true rfl) ?_)
    case kN => k_asm
    intro r9 n9 h9 tk9 F9 N9 P9
    k_steps
    exact hret _ _ _ _ (by k_asm) (by k_asm) ⟨k + 1, by omega, by omega, P9.mono fun _ _ h => .inl h⟩
  · unfold Stuck
    (rename Fr _ _ _ _ => F9)
    (rename News _ _ _ _ => N9)
    have hT4 := Nat.le_trans (by assumption : Str.length _ ≤ 3) (show 3 ≤ 16777216 by decide)
    refine ⟨_, _, _, rfl, rfl, by assumption, F9, N9, by rw [sizeLine_eq]; exact hT4, ?_⟩
    rintro s₂ ⟨g9, rfl⟩
    refine comp_text gDbl ?hs ?hf _ 0 [] (by omega) .nil
    case hs =>
      clear F9 N9
      intro c u ys I oI C oC D m₂ h tk E' hC hx F N off ne
      simp only [LCg.Off3, and_true] at off
      k_steps
      · (rename (_ == _) = true => hc9)
        refine LCg.CompEnd.intro (by assumption) (by assumption) _ (by kcf_all) (by first | assumption | (simp only [LCg.Off3, and_true]; assumption)) True.intro ⟨rfl, _, by rw [dq_eq hc9]⟩
      · (rename (_ == _) = false => hc9)
        refine LCg.CompEnd.intro (by assumption) (by assumption) _ (by kcf_all) (by first | assumption | (simp only [LCg.Off3, and_true]; assumption)) True.intro ⟨rfl, _, by rw [dq_ne hc9]⟩
    case hf =>
      clear F9 N9
      intro ys hys
      k_steps
      k_dflt (refine' join_list (News.isList (by k_asm) (by k_mem)) (by simpa using hys) ?hok ?_)
      case hok =>
        rw [show (Str.ofString "").length = 0 by decide +kernel, Nat.mul_zero, Nat.add_zero]
        exact Nat.le_trans (gDbl_six (by assumption)) (by decide)
      intro t9 k9
      generalize hJ9 : Txt.join (Str.ofString "") (List.map gDbl _) = J
      have hjl : J.length ≤ 6 := by rw [← hJ9, joinL]; exact gDbl_six (by assumption)
      k_steps
      (rename List.any TEXTS _ = true => ht9)
      (rename FeedO w ca _ _ => hf9)
      (rename News h₀ L _ _ => N9)
      refine drawn_end hret' (by k_asm) (news_pull1 N9) (.str _) _ _ ?_ ⟨_, _, rfl⟩ (.inr (.inl ⟨_, ht9, rfl, by rw [hJ9]⟩)) (by omega) (by omega) ?_ (by omega) hf9 (by omega) (by omega)
      · walk_at "inNews"
      · walk_at "allLt"
  · (rename List.any KEYS _ = true => hk9)
    (rename FeedO w ca _ _ => hf9)
    (rename News h₀ L _ _ => N9)
    refine drawn_end hret' (by k_asm) N9 (.key _) _ _ ?_ ⟨_, _, rfl⟩ (.inr (.inr (.inl ⟨_, hk9, rfl, rfl⟩))) (by omega) (by omega) ?_ (by omega) hf9 (by omega) (by omega)
    · walk_at "inNews"
    · walk_at "allLt"
  · unfold Stuck
    (rename FeedO w ca _ _ => hf9)
    k_dflt (refine' says_use (by k_asm) ?kN (bits_says w fa ca _ vs ns c (k + 1) rest hlc hf9 hI hl (by omega) (by omega) hr hca) (by k_asm) (by k_asm) (by k_asm) (by first | rfl | assumption) (Nat.le_of_ble_eq_true rfl) (Nat.le_of_ble_eq_true rfl) ?_)
    case kN => k_asm
    intro r9 n9 h9 tk9 F9 N9 P9
    k_steps
    exact hret _ _ _ _ (by k_asm) (by k_asm) ⟨k + 1, by omega, by omega, P9.mono fun _ _ h => .inr (.inr (.inr (.inl h)))⟩
  · (rename (_ : Int) < 3 => hn3)
    (rename FeedO w ca _ _ => hf9)
    (rename News h₀ L _ _ => N9)
    refine drawn_end hret' (by k_asm) N9 (.num _) _ _ ?_ ⟨_, _, rfl⟩ (.inr (.inr (.inr (.inr (.inl ⟨_, ?_, ?_, rfl, rfl⟩))))) (by omega) (by omega) ?_ (by omega) hf9 (by omega) (by omega)
    · walk_at "inNews"
    · omega
    · omega
    · walk_at "allLt"
  · unfold Stuck
    (rename FeedO w ca _ _ => hf9)
    k_dflt (refine' says_use (by k_asm) ?kN (decimal_says w fa ca _ vs ns c (k + 1) rest hlc hf9 hI hl (by omega) (by omega) hr hca) (by k_asm) (by k_asm) (by k_asm) (by first | rfl | assumption) (Nat.le_of_ble_eq_true rfl) (Nat.le_of_ble_eq_true rfl) ?_)
    case kN => k_asm
    intro r9 n9 h9 tk9 F9 N9 P9
    k_steps
    exact hret _ _ _ _ (by k_asm) (by k_asm) ⟨k + 1, by omega, by omega, P9.mono fun _ _ h => .inr (.inr (.inr (.inr (.inr h))))⟩
/-! QWt1 -/
theorem setWt1 : True := by
  k_with_none
  (k_with "execs cons" => first | (k_here; k_made; walk_at "execs cons") | (k_here; (with_reducible refine wpAny_execs_cons ?_); (try dsimp only); (try (with_reducible refine anyTok ?_); intro tk9); (try k_fold)))
  (k_with "enter" => ((rename At _ _ _ _ _ _ _ _ _ => HA9); (have B9 := HA9.B); (have X9 := HA9.X); (have T9 := HA9.T); (have hk9 := HA9.hk); clear HA9; (refine wpAny_call ?_); (k_dflt ktr_enter)))
  (k_with "ite" => (k_here; first
    | refine ite_pos (by with_reducible assumption) ?_
    | refine ite_neg (not_true_of (by with_reducible assumption)) ?_
    | refine ite_pos (by first | omega | ((simp only [decide_eq_true_eq, beq_iff_eq, bne_iff_ne, ne_eq, Bool.not_eq_true', decide_eq_false_iff_not]); omega)) ?_
    | refine ite_neg (by first | omega | ((simp only [decide_eq_true_eq, beq_iff_eq, bne_iff_ne, ne_eq, Bool.not_eq_true', decide_eq_false_iff_not]); omega)) ?_))
  (k_with "compareOp In str ref" => (k_here; k_dflt (refine' in_tup (ys := RES) (tupK (Frag.In.keeps (by k_asm) (Fr.keep (by k_asm))) (by k_is)) (by repeat (first | exact StrsAre.nil | refine StrsAre.cons _ _ ?_)) ?_)))
  trivial
noncomputable abbrev QU : Str := Str.ofString "\""
noncomputable abbrev QQ : Str := Str.ofString "\"\""
theorem number_says (w : World) (x : Int) (tx : Tok) (rest : List (Addr × Obj)) (h0 : 0 ≤ x) (h1 : x < 2 ^ 1000) :
    Says w 900 900 254 [.int x tx] rest (fun r news' => ∃ t, r = .str (Str.ofString (toString x)) t ∧ news' = rest) := by
  intro mean mg mb gd cn cs a ccd cl outer A₀ base h₀ L m hS gS dS oS tS Q E HA F N hret
  walk_at "enter"
  k_steps
  exact hret _ _ _ _ (by k_asm) (by k_asm) ⟨_, rfl, rfl⟩
theorem strtext_says (w : World) (X : Str) (tx : Tok) (rest : List (Addr × Obj)) (h1 : X.length ≤ 20) (h2 : (Txt.replace X QU QQ).length ≤ 100) :
    Says w 900 900 226 [.str X tx] rest (fun r news' => ∃ t, r = .str (QU ++ Txt.replace X QU QQ ++ QU) t ∧ news' = rest) := by
  intro mean mg mb gd cn cs a ccd cl outer A₀ base h₀ L m hS gS dS oS tS Q E HA F N hret
  walk_at "enter"
  k_steps
  exact hret _ _ _ _ (by k_asm) (by k_asm) ⟨_, rfl, rfl⟩
/-! QWt3 -/
theorem setWt3 : True := by
  k_with_none
  (k_with "execs cons" => first | (k_here; k_made; walk_at "execs cons") | (k_here; (with_reducible refine wpAny_execs_cons ?_); (try dsimp only); (try (with_reducible refine anyTok ?_); intro tk9); (try k_fold)))
  (k_with "enter" => ((rename At _ _ _ _ _ _ _ _ _ => HA9); (have B9 := HA9.B); (have X9 := HA9.X); (have T9 := HA9.T); (have hk9 := HA9.hk); clear HA9; (refine wpAny_call ?_); (k_dflt ktr_enter)))
  (k_with "ite" => (k_here; first
    | refine ite_pos (by with_reducible assumption) ?_
    | refine ite_neg (not_true_of (by with_reducible assumption)) ?_
    | refine ite_pos (by first | omega | ((simp only [decide_eq_true_eq, beq_iff_eq, bne_iff_ne, ne_eq, Bool.not_eq_true', decide_eq_false_iff_not]); omega)) ?_
    | refine ite_neg (by first | omega | ((simp only [decide_eq_true_eq, beq_iff_eq, bne_iff_ne, ne_eq, Bool.not_eq_true', decide_eq_false_iff_not]); omega)) ?_))
  (k_with "compareOp In str ref" => (k_here; k_dflt (refine' in_tup (ys := RES) (tupK (Frag.In.keeps (by k_asm) (Fr.keep (by k_asm))) (by k_is)) (by repeat (first | exact StrsAre.nil | refine StrsAre.cons _ _ ?_)) ?_)))
  (k_with "pyIter ref" => (refine stuck ?_))
  (k_with "call builtin:list.append" => (k_here; (with_reducible show wpAny _ _ (call (Value.builtin _) [Value.ref _, _]) _ _ _); k_dflt (refine' append_K (by k_asm) (by k_asm) (by k_upd) ?_ (by (rw [sizeLine_eq, List.size_toArray]; omega)); k_whole); intro h' F' N'; (try k_sweep)))
  trivial
noncomputable def bitT (x k : Int) : Str := if Int.fmod (Int.fdiv x (2 ^ k.toNat)) 2 = 1 then Str.ofString "1" else Str.ofString "0"
theorem grabA {rest : List (Addr × Obj)} {l : Addr} (_ : ∀ p ∈ rest, p.1 < l) : ∃ x : Addr, x = l := ⟨l, rfl⟩
theorem strsLen {vs : List Value} {ys : List Str} (h : StrsAre vs ys) : vs.length = ys.length := by
  induction h with
  | nil => rfl
  | cons y t _ ih => rw [List.length_cons, List.length_cons, ih]
theorem bits_len (x : Int) (ks : List Int) : ((ks.map (bitT x)).map (·.length)).sum = ks.length := by
  induction ks with
  | nil => rfl
  | cons k r ih =>
    have e : (bitT x k).length = 1 := by unfold bitT; split <;> decide +kernel
    simp only [List.map_cons, List.sum_cons, List.length_cons, ih, e]
    omega
theorem join_len (ys : List Str) : (Txt.join (Str.ofString "") ys).length = (ys.map (·.length)).sum := by
  rw [join_flat]
  simp only [Str.length, List.size_toArray, List.length_flatMap]
  rfl
theorem mkSB {h₀ h : Heap} {L la : Addr} {vs : List Value} {S : Str} {tok : Tok} {n : Nat} {l : List (Addr × Obj)} (_ : News h₀ L h ((la, W.listOf (vs ++ [Value.str S tok]).toArray n) :: l)) : ∃ tt : Tok, tt = tok := ⟨tok, rfl⟩
structure SB3 where
  vs : List Value
  nn : Nat
theorem down_small {n : Nat} (h1 : 1 ≤ n) (h2 : n ≤ 12) : Builtin.Range.small ((n : Int) - 1) (-1) (-1) = true ∧ Builtin.Range.rangeSize ((n : Int) - 1) (-1) (-1) = (n : Int) := by
  have h : ∀ k : Fin 13, 1 ≤ k.val → Builtin.Range.small ((k.val : Int) - 1) (-1) (-1) = true ∧ Builtin.Range.rangeSize ((k.val : Int) - 1) (-1) (-1) = (k.val : Int) := by decide +kernel
  exact h ⟨n, by omega⟩ h1
theorem bitstext_says (w : World) (x : Int) (n : Nat) (tx tn : Tok) (rest : List (Addr × Obj)) (h0 : 0 ≤ x) (h1 : x < 5000) (h2 : 1 ≤ n) (h3 : n ≤ 12):
    Says w 900 900 233 [.int x tx, .int n tn] rest (fun r news' => ∃ t, r = .str (Str.ofString "#b" ++ Txt.join (Str.ofString "") ((downKs ((n : Int) - 1) n).map (bitT x))) t ∧ news' = rest) := by
  intro mean mg mb gd cn cs a ccd cl outer A₀ base h₀ L m hS gS dS oS tS Q E HA F N hret
  walk_at "enter"
  k_steps
  unfold Stuck
  (rename Fr _ _ _ _ => F9)
  (rename News _ _ _ _ => N9)
  (rename IsRange _ _ _ _ _ _ _ _ => R9)
  (rename ∀ p ∈ rest, _ => l9)
  obtain ⟨la, hla⟩ := grabA l9
  subst hla
  k_dflt (refine' kst_rangeD (fun c : SB3 => (la, W.listOf c.vs.toArray c.nn) :: rest) (fun _ => []) (fun _ => True) [] (fun pre c => StrsAre c.vs (pre.map (bitT x))) ⟨[], 0⟩ rfl R9 (down_small h2 h3).1 (down_small h2 h3).2 F9 N9 trivial ?hk .nil ?turn ?done)
  case hk => intro p hp; cases hp
  case turn =>
    clear F9 N9 R9
    rintro ⟨vs, nn⟩ pre k tn u h tk own he hlen hoff _ hv F1 N1
    (try dsimp only at F1 N1 hv ⊢)
    have hlv : vs.length = pre.length := by rw [strsLen hv, List.length_map]
    have hvl : vs.length ≤ 12 := by omega
    have hR : ∀ p ∈ rest ++ own, p.1 ≠ la := fun p hp => (List.mem_append.mp hp).elim (fun h => Nat.ne_of_lt (l9 p h)) (OwnOff.ne hoff (by simp) p)
    replace N1 : News _ _ _ ((la, W.listOf vs.toArray nn) :: (rest ++ own)) := N1
    k_steps
    · (rename News _ _ _ _ => N8)
      (rename Int.fmod _ _ = 1 => hb9)
      have e7 : ∀ a : Value, vs.toArray.push a = (vs ++ [a]).toArray := by simp
      rw [e7] at N8
      obtain ⟨tt, htt⟩ := mkSB N8
      rw [← htt] at N8
      have hbt : bitT x k = Str.ofString "1" := if_pos hb9
      refine' kst_end (⟨vs ++ [.str (Str.ofString "1") tt], nn + 1⟩ : SB3) ?F N8 ?hn ?ho ?ha ?hf ?hk ?hr ?hp
      case ha => exact rfl
      case hf => exact True.intro
      case F => k_asm
      case hk => intro p hp; cases hp
      case hn =>
        intro p hp
        rcases List.mem_cons.mp hp with e | h
        · exact List.mem_cons.mpr (.inl (e.trans rfl))
        · exact List.mem_cons.mpr (.inr (List.mem_append_left _ h))
      case ho => intro p hp; simp [hp]
      case hr =>
        intro z hz h1 _
        simp [hz, kstB]
      case hp =>
        show StrsAre (vs ++ [.str (Str.ofString "1") _]) ((pre ++ [k]).map (bitT x))
        rw [List.map_append, List.map_cons, hbt]
        exact hv.append' (StrsAre.cons _ _ StrsAre.nil)
    · (rename News _ _ _ _ => N8)
      (rename Int.fmod _ _ ≠ 1 => hb9)
      have e7 : ∀ a : Value, vs.toArray.push a = (vs ++ [a]).toArray := by simp
      rw [e7] at N8
      obtain ⟨tt, htt⟩ := mkSB N8
      rw [← htt] at N8
      have hbt : bitT x k = Str.ofString "0" := if_neg hb9
      refine' kst_end (⟨vs ++ [.str (Str.ofString "0") tt], nn + 1⟩ : SB3) ?F2 N8 ?hn2 ?ho2 ?ha2 ?hf2 ?hk2 ?hr2 ?hp2
      case ha2 => exact rfl
      case hf2 => exact True.intro
      case F2 => k_asm
      case hk2 => intro p hp; cases hp
      case hn2 =>
        intro p hp
        rcases List.mem_cons.mp hp with e | h
        · exact List.mem_cons.mpr (.inl (e.trans rfl))
        · exact List.mem_cons.mpr (.inr (List.mem_append_left _ h))
      case ho2 => intro p hp; simp [hp]
      case hr2 =>
        intro z hz h1 _
        simp [hz, kstB]
      case hp2 =>
        show StrsAre (vs ++ [.str (Str.ofString "0") _]) ((pre ++ [k]).map (bitT x))
        rw [List.map_append, List.map_cons, hbt]
        exact hv.append' (StrsAre.cons _ _ StrsAre.nil)
  case done =>
    clear F9 N9 R9
    rintro ⟨vs, nn⟩ u h tk _ hv F1 N1
    (try dsimp only at F1 N1 hv ⊢)
    have hlv : vs.length = n := by rw [strsLen hv, List.length_map]; simp [downKs]
    k_steps
    k_dflt (refine' join_list (News.isList (by k_asm) (by k_mem)) (by simpa using hv) ?hok ?_)
    case hok =>
      rw [show (Str.ofString "").length = 0 by decide +kernel]
      have := bits_len x (downKs ((n : Int) - 1) n)
      simp only [Nat.mul_zero, Nat.add_zero]
      have h5 : (downKs ((n : Int) - 1) n).length = n := by simp [downKs]
      omega
    intro t9 k9
    have hjl : (Txt.join (Str.ofString "") ((downKs ((n : Int) - 1) n).map (bitT x))).length ≤ 12 := by
      rw [join_len, bits_len]
      simp [downKs]
      omega
    k_steps
    exact hret _ _ _ _ (by k_asm) (news_drop (by k_asm)) ⟨_, rfl, rfl⟩
/-! QWt2 -/
theorem setWt2 : True := by
  k_with_none
  (k_with "execs cons" => first | (k_here; k_made; walk_at "execs cons") | (k_here; (with_reducible refine wpAny_execs_cons ?_); (try dsimp only); (try (with_reducible refine anyTok ?_); intro tk9); (try k_fold)))
  (k_with "enter" => ((rename At _ _ _ _ _ _ _ _ _ => HA9); (have B9 := HA9.B); (have X9 := HA9.X); (have T9 := HA9.T); (have hk9 := HA9.hk); clear HA9; (refine wpAny_call ?_); (k_dflt ktr_enter)))
  (k_with "ite" => (k_here; first
    | refine ite_pos (by with_reducible assumption) ?_
    | refine ite_neg (not_true_of (by with_reducible assumption)) ?_
    | refine ite_pos (by first | omega | ((simp only [decide_eq_true_eq, beq_iff_eq, bne_iff_ne, ne_eq, Bool.not_eq_true', decide_eq_false_iff_not]); omega)) ?_
    | refine ite_neg (by first | omega | ((simp only [decide_eq_true_eq, beq_iff_eq, bne_iff_ne, ne_eq, Bool.not_eq_true', decide_eq_false_iff_not]); omega)) ?_))
  (k_with "compareOp In str ref" => (k_here; k_dflt (refine' in_tup (ys := RES) (tupK (Frag.In.keeps (by k_asm) (Fr.keep (by k_asm))) (by k_is)) (by repeat (first | exact StrsAre.nil | refine StrsAre.cons _ _ ?_)) ?_)))
  (k_with "pyIter str" => (refine stuck ?_))
  (k_with "exec For Name Name cons nil" => ((rename Fr _ _ _ _ => lF'); (with_unfolding_all refine' For_invVF lF' (by exact rfl) (by exact rfl) ?_; k_whole)))
  trivial
noncomputable def simpB (N : Str) : Bool := !(N == Str.ofString "") && !(RES.any fun x => x == N) && (Builtin.Str.occurrences DIGI (Txt.item N 0) 0 DIGI.length 1).isEmpty && (KStt.codes N).all fun c => inS SIMP c.toNat
theorem simple_says (w : World) (X : Str) (tx : Tok) (rest : List (Addr × Obj)) (hX : X.length ≤ 20) :
    Says w 900 900 212 [.str X tx] rest (fun r news' => r = .bool (simpB X) ∧ news' = rest) := by
  intro mean mg mb gd cn cs a ccd cl outer A₀ base h₀ L m hS gS dS oS tS Q E HA F N hret
  walk_at "enter"
  k_steps
  · (rename (X == _) = true => hx)
    exact hret _ _ _ _ (by k_asm) (by k_asm) ⟨by unfold simpB; rw [hx]; rfl, rfl⟩
  · (rename List.any _ _ = true => hx)
    exact hret _ _ _ _ (by k_asm) (by k_asm) ⟨by unfold simpB; rw [show (RES.any fun x => x == X) = true from hx]; simp, rfl⟩
  · unfold Stuck
    (rename Fr _ _ _ _ => F9)
    (rename News _ _ _ _ => N9)
    (rename (X == _) = false => hx1)
    (rename List.any _ _ = false => hx2)
    (rename List.isEmpty _ = true => hx3)
    k_dflt (refine' KStt.kst_text (fun (_ : Unit) => rest) (fun c => []) (fun _ => True) [] (fun pre c => ∀ x ∈ pre, inS SIMP x.toNat = true) () rfl F9 N9 trivial ?hk (fun _ h => nomatch h) ?turn ?done)
    case hk => intro p hp; cases hp
    case turn =>
      clear F9 N9
      rintro c pre post n tn u h tk own he hoff _ hv F1 N1
      (try dsimp only at F1 N1 hv ⊢)
      k_steps
      · (rename List.isEmpty _ = true => hh)
        have hn : inS SIMP n = false := by
          have hh' : (Builtin.Str.occurrences SIMP ⟨#[n]⟩ 0 SIMP.length 1).isEmpty = true := hh
          rw [in_item] at hh'
          simpa using hh'
        exact hret _ _ _ _ (by k_asm) (kst_newsOf (by assumption : News h₀ L _ (rest ++ own)) (fun p hp => List.mem_append_left _ hp)) ⟨by unfold simpB; rw [he]; simp [hn], rfl⟩
      · (rename List.isEmpty _ = false => hh)
        have hn : inS SIMP n = true := by
          have hh' : (Builtin.Str.occurrences SIMP ⟨#[n]⟩ 0 SIMP.length 1).isEmpty = false := hh
          rw [in_item] at hh'
          simpa using hh'
        refine' kst_end () ?F ?N ?hn ?ho rfl trivial ?hk ?hr ?hp
        case F => k_asm
        case hk => intro p hp; cases hp
        case N => k_asm
        case hn => intro p hp; simp [hp]
        case ho => intro p hp; simp [hp]
        case hr =>
          intro z hz h1 _
          simp [hz, kstB]
        case hp =>
          intro x hx
          rcases List.mem_append.mp hx with hx | hx
          · exact hv x hx
          · rw [List.mem_singleton.mp hx]; exact hn
    case done =>
      clear F9 N9
      rintro c u h tk _ hv F1 N1
      (try dsimp only at F1 N1 hv ⊢)
      k_steps
      exact hret _ _ _ _ (by k_asm) (by k_asm) ⟨by unfold simpB; rw [hx1, show (RES.any fun x => x == X) = false from hx2, show (Builtin.Str.occurrences DIGI (Txt.item X 0) 0 DIGI.length 1).isEmpty = true from hx3, List.all_eq_true.mpr hv]; rfl, rfl⟩
  · (rename List.isEmpty _ = false => hx)
    exact hret _ _ _ _ (by k_asm) (by k_asm) ⟨by unfold simpB; rw [show (Builtin.Str.occurrences DIGI (Txt.item X 0) 0 DIGI.length 1).isEmpty = false from hx]; simp, rfl⟩
/-! QWt5 -/
theorem setWt5 : True := by
  k_with_none
  (k_with "execs cons" => first | (k_here; k_made; walk_at "execs cons") | (k_here; (with_reducible refine wpAny_execs_cons ?_); (try dsimp only); (try (with_reducible refine anyTok ?_); intro tk9); (try k_fold)))
  (k_with "enter" => ((rename At _ _ _ _ _ _ _ _ _ => HA9); (have B9 := HA9.B); (have X9 := HA9.X); (have T9 := HA9.T); (have hk9 := HA9.hk); clear HA9; (refine wpAny_call ?_); (k_dflt ktr_enter)))
  (k_with "ite" => (k_here; first
    | refine ite_pos (by with_reducible assumption) ?_
    | refine ite_neg (not_true_of (by with_reducible assumption)) ?_
    | refine ite_pos (by first | omega | ((simp only [decide_eq_true_eq, beq_iff_eq, bne_iff_ne, ne_eq, Bool.not_eq_true', decide_eq_false_iff_not]); omega)) ?_
    | refine ite_neg (by first | omega | ((simp only [decide_eq_true_eq, beq_iff_eq, bne_iff_ne, ne_eq, Bool.not_eq_true', decide_eq_false_iff_not]); omega)) ?_))
  (k_with "compareOp In str ref" => (k_here; k_dflt (refine' in_tup (ys := RES) (tupK (Frag.In.keeps (by k_asm) (Fr.keep (by k_asm))) (by k_is)) (by repeat (first | exact StrsAre.nil | refine StrsAre.cons _ _ ?_)) ?_)))
  (k_with "call ref" => (k_here; (with_reducible show wpAny _ _ (call (Value.ref 212) _) _ _ _); k_dflt (refine' says_go (by k_asm) (by k_asm) (simple_says _ _ _ _ (by assumption)) el0 (by k_asm) (by k_asm) (by k_asm) (by first | rfl | assumption) (Nat.le_of_ble_eq_true rfl) (Nat.le_of_ble_eq_true rfl) ?_); intro h9 tk9 F9 N9; (try k_sweep)))
  (k_with "exec Raise some none" => (refine stuck ?_))
  trivial
theorem symtext1 (w : World) (X : Str) (tx : Tok) (rest : List (Addr × Obj)) (hX : X.length ≤ 20) (h1 : (RES.any fun x => x == X) = true) :
    Says w 800 800 219 [.str X tx] rest (fun r news' => ∃ t, r = .str (X) t ∧ news' = rest) := by
  intro mean mg mb gd cn cs a ccd cl outer A₀ base h₀ L m hS gS dS oS tS Q E HA F N hret
  walk_at "enter"
  clear N F
  k_steps
  all_goals (try dsimp only)
  all_goals (try k_steps)
  all_goals exact hret _ _ _ _ (by k_asm) (by k_asm) ⟨_, rfl, rfl⟩
theorem symtext2 (w : World) (X : Str) (tx : Tok) (rest : List (Addr × Obj)) (hX : X.length ≤ 20) (h1 : (RES.any fun x => x == X) = false) (h2 : simpB X = true) :
    Says w 800 800 219 [.str X tx] rest (fun r news' => ∃ t, r = .str (X) t ∧ news' = rest) := by
  intro mean mg mb gd cn cs a ccd cl outer A₀ base h₀ L m hS gS dS oS tS Q E HA F N hret
  walk_at "enter"
  clear N F
  k_steps
  all_goals (try dsimp only)
  all_goals (try k_steps)
  all_goals exact hret _ _ _ _ (by k_asm) (by k_asm) ⟨_, rfl, rfl⟩
theorem symtext3 (w : World) (X : Str) (tx : Tok) (rest : List (Addr × Obj)) (hX : X.length ≤ 20) (h1 : (RES.any fun x => x == X) = false) (h2 : simpB X = false) (h3 : 2 < X.length) (h4 : (Txt.item X 0 == Str.ofString "|") = true) (h5 : (Txt.item X (-1) == Str.ofString "|") = true) (h6 : (RES.any fun x => x == Txt.slice X (some 1) (some (-1))) = true) :
    Says w 800 800 219 [.str X tx] rest (fun r news' => ∃ t, r = .str (X) t ∧ news' = rest) := by
  intro mean mg mb gd cn cs a ccd cl outer A₀ base h₀ L m hS gS dS oS tS Q E HA F N hret
  walk_at "enter"
  clear N F
  k_steps
  all_goals (try dsimp only)
  all_goals (try k_steps)
  all_goals exact hret _ _ _ _ (by k_asm) (by k_asm) ⟨_, rfl, rfl⟩
theorem symtext4 (w : World) (X : Str) (tx : Tok) (rest : List (Addr × Obj)) (hX : X.length ≤ 20) (h1 : (RES.any fun x => x == X) = false) (h2 : simpB X = false) (h5 : X.length ≤ 2) (h3 : (Builtin.Str.occurrences X (Str.ofString "|") 0 X.length 1).isEmpty = true) (h4 : (Builtin.Str.occurrences X (Str.ofString "\\") 0 X.length 1).isEmpty = true) :
    Says w 800 800 219 [.str X tx] rest (fun r news' => ∃ t, r = .str (Str.ofString "|" ++ X ++ Str.ofString "|") t ∧ news' = rest) := by
  intro mean mg mb gd cn cs a ccd cl outer A₀ base h₀ L m hS gS dS oS tS Q E HA F N hret
  walk_at "enter"
  clear N F
  k_steps
  all_goals (try dsimp only)
  all_goals (try k_steps)
  all_goals exact hret _ _ _ _ (by k_asm) (by k_asm) ⟨_, rfl, rfl⟩
theorem symtext5 (w : World) (X : Str) (tx : Tok) (rest : List (Addr × Obj)) (hX : X.length ≤ 20) (h1 : (RES.any fun x => x == X) = false) (h2 : simpB X = false) (h5 : 2 < X.length) (h6 : (Txt.item X 0 == Str.ofString "|") = false) (h3 : (Builtin.Str.occurrences X (Str.ofString "|") 0 X.length 1).isEmpty = true) (h4 : (Builtin.Str.occurrences X (Str.ofString "\\") 0 X.length 1).isEmpty = true) :
    Says w 800 800 219 [.str X tx] rest (fun r news' => ∃ t, r = .str (Str.ofString "|" ++ X ++ Str.ofString "|") t ∧ news' = rest) := by
  intro mean mg mb gd cn cs a ccd cl outer A₀ base h₀ L m hS gS dS oS tS Q E HA F N hret
  walk_at "enter"
  clear N F
  k_steps
  all_goals (try dsimp only)
  all_goals (try k_steps)
  all_goals exact hret _ _ _ _ (by k_asm) (by k_asm) ⟨_, rfl, rfl⟩
/-! QWt4 -/
theorem setWt4 : True := by
  k_with_none
  (k_with "execs cons" => first | (k_here; k_made; walk_at "execs cons") | (k_here; (with_reducible refine wpAny_execs_cons ?_); (try dsimp only); (try (with_reducible refine anyTok ?_); intro tk9); (try k_fold)))
  (k_with "enter" => ((rename At _ _ _ _ _ _ _ _ _ => HA9); (have B9 := HA9.B); (have X9 := HA9.X); (have T9 := HA9.T); (have hk9 := HA9.hk); clear HA9; (refine wpAny_call ?_); (k_dflt ktr_enter)))
  (k_with "ite" => (k_here; first
    | refine ite_pos (by with_reducible assumption) ?_
    | refine ite_neg (not_true_of (by with_reducible assumption)) ?_
    | refine ite_pos (by first | omega | ((simp only [decide_eq_true_eq, beq_iff_eq, bne_iff_ne, ne_eq, Bool.not_eq_true', decide_eq_false_iff_not]); omega)) ?_
    | refine ite_neg (by first | omega | ((simp only [decide_eq_true_eq, beq_iff_eq, bne_iff_ne, ne_eq, Bool.not_eq_true', decide_eq_false_iff_not]); omega)) ?_))
  (k_with "compareOp In str ref" => (k_here; k_dflt (refine' in_tup (ys := RES) (tupK (Frag.In.keeps (by k_asm) (Fr.keep (by k_asm))) (by k_is)) (by repeat (first | exact StrsAre.nil | refine StrsAre.cons _ _ ?_)) ?_)))
  (k_with "exec While Compare cons nil" => (refine stuck ?_))
  (k_with "binaryOp FloorDiv int int" => (k_here; refine floordiv_int (by decide) ?_))
  (k_with "binaryOp Mod int int" => (k_here; refine mod_int' (by decide) ?_))
  trivial
section
variable {prog : Program} {w : World} {A : Around} {E : Value → Shared → Prop} {s : Shared} {h₀ : Heap} {L : Addr} {m : Str → Option Value} {news : List (Addr × Obj)}
theorem max3_N {a b c : Int} {t u x : Tok} {Q : Value → Shared → Prop} (hh : A.handled = none) (F : Fr h₀ L s.heap m) (N : News h₀ L s.heap news)
    (h : ∀ h' tk t', Fr h₀ L h' m → News h₀ L h' news → Q (.int (max a (max b c)) t') { s with heap := h', toks := tk }) : wpAny (model prog w) A (call (.builtin "max") [.int a t, .int b u, .int c x]) Q E s :=
  max_three_ints hh fun h' tk hk => by
    have key := fun t' => h h' tk t' (F.grownK hk) (N.grown hk)
    by_cases c1 : b > a
    · by_cases c2 : c > b
      · rw [if_pos c1, if_pos c2]; rw [show max a (max b c) = c by omega] at key; exact key _
      · rw [if_pos c1, if_neg c2]; rw [show max a (max b c) = b by omega] at key; exact key _
    · by_cases c2 : c > a
      · rw [if_neg c1, if_pos c2]; rw [show max a (max b c) = c by omega] at key; exact key _
      · rw [if_neg c1, if_neg c2]; rw [show max a (max b c) = a by omega] at key; exact key _
end
theorem setWt4b : True := by
  (k_with "call builtin:max" => (k_here; k_dflt (refine' max3_N (by rfl) (by k_asm) (by k_asm) ?_); intro h' tk' t' F' N'))
  trivial
/-- how often p goes into b, and what is left -/
noncomputable def cnt (p : Int) : Nat → Int → Int → Int × Int
  | 0, b, c => (b, c)
  | f + 1, b, c => if b.fmod p = 0 then cnt p f (b.fdiv p) (c + 1) else (b, c)
noncomputable def CntI (p : Int) (R : Int × Int) (b c : Int) : Prop := ∃ f, b < 2 ^ f ∧ cnt p f b c = R
theorem cnt_start (p b c : Int) (h : b ≤ 1000) : CntI p (cnt p 10 b c) b c := ⟨10, by omega, rfl⟩
theorem cnt_done {p : Int} {R : Int × Int} {b c : Int} (h : CntI p R b c) (hb : 1 ≤ b) (hc : ¬ b.fmod p = 0) : R = (b, c) := by
  obtain ⟨f, h1, h2⟩ := h
  cases f with
  | zero => exact h2.symm
  | succ f => rw [← h2, cnt, if_neg hc]
theorem cnt_turn {p : Int} {R : Int × Int} {b c : Int} (hp : p = 2 ∨ p = 5) (h : CntI p R b c) (hb : 1 ≤ b) (h2 : b.fmod p = 0) (hb1 : b ≤ 1000) :
    CntI p R (b.fdiv p) (c + 1) ∧ 1 ≤ b.fdiv p ∧ b.fdiv p ≤ 1000 ∧ b.fdiv p < b := by
  obtain ⟨f, h3, h4⟩ := h
  have e2 : b.fdiv p = b / p := Int.fdiv_eq_ediv_of_nonneg _ (by omega)
  have e3 : b.fmod p = b % p := Int.fmod_eq_emod_of_nonneg _ (by omega)
  cases f with
  | zero => exact absurd h3 (by simp; omega)
  | succ f =>
    rw [cnt, if_pos h2] at h4
    refine ⟨⟨f, ?_, h4⟩, ?_⟩
    · rw [e2]
      have : (2 : Int) ^ (f + 1) = 2 * 2 ^ f := by rw [Int.pow_succ]; omega
      rw [this] at h3
      generalize (2 : Int) ^ f = z at h3 ⊢
      rcases hp with rfl | rfl <;> omega
    · rw [e2]
      rw [e3] at h2
      rcases hp with rfl | rfl <;> omega
theorem places_says (w : World) (b b2 i j : Int) (tb : Tok) (rest : List (Addr × Obj)) (h0 : 1 ≤ b) (h1 : b ≤ 1000) (hi : cnt 2 10 b 0 = (b2, i)) (hj : cnt 5 10 b2 0 = (1, j)) (hb : 1 ≤ b2) (hb2 : b2 ≤ 1000) (p : Int) (hp : max 1 (max i j) = p) :
    Says w 900 900 240 [.int b tb] rest (fun r news' => ∃ t, r = .int p t ∧ news' = rest) := by
  intro mean mg mb gd cn cs a ccd cl outer A₀ base h₀ L m hS gS dS oS tS Q E HA F N hret
  walk_at "enter"
  k_steps
  unfold Stuck
  (rename Fr _ _ _ _ => F9)
  (rename News _ _ _ _ => N9)
  (with_unfolding_all refine' ksw_while (fun (_ : Int × Int × Tok × Tok) => rest) (fun c => [(Str.ofString "bottom", .int c.1 c.2.2.1), (Str.ofString "twos", .int c.2.1 c.2.2.2)]) (fun _ => True) [] (fun c => CntI 2 (b2, i) c.1 c.2.1 ∧ 1 ≤ c.1 ∧ c.1 ≤ 1000 ∧ 0 ≤ c.2.1 ∧ c.2.1 ≤ 1000 - c.1) (fun c => c.1.toNat) (b, 0, _, _) F9 N9 trivial ?hk ⟨hi ▸ cnt_start _ _ _ h1, h0, h1, Int.le_refl _, by show (0 : Int) ≤ 1000 - b; omega⟩ ?turn)
  case hk => intro p hp; simp only [List.mem_cons, List.not_mem_nil, or_false] at hp; rcases hp with rfl | rfl <;> rfl
  case turn =>
    clear F9 N9
    rintro ⟨u, v, tu, tv⟩ um h tk _ ⟨hS, hu0, hu1, hv0, hv1⟩ F1 N1
    (try dsimp only at F1 N1 hS hu0 hu1 hv0 hv1 ⊢)
    k_steps
    · (rename Int.fmod u _ = 0 => hu2)
      have hT := cnt_turn (by decide) hS hu0 hu2 hu1
      refine' ksw_end (Int.fdiv u 2, v + 1, ?t1, ?t2) ?F ?N ?n trivial ?hk ?hr ⟨hT.1, hT.2.1, hT.2.2.1, by show 0 ≤ v + 1; omega, by show v + 1 ≤ 1000 - Int.fdiv u 2; omega⟩ ?m
      case F => k_asm
      case hk => intro p hp; simp only [List.mem_cons, List.not_mem_nil, or_false] at hp; rcases hp with rfl | rfl <;> exact rfl
      case N => k_asm
      case n => exact fun p hp => hp
      case hr =>
        intro z h1 _
        simp only [List.mem_cons, List.not_mem_nil, or_false, forall_eq_or_imp, forall_eq] at h1
        simp [h1, kstB]
      case m => show (Int.fdiv u 2).toNat < u.toNat; omega
    · (rename Int.fmod u _ ≠ 0 => hu2)
      have hD := cnt_done hS hu0 hu2
      obtain ⟨e1, e2⟩ := Prod.mk.inj hD
      subst e1 e2
      unfold Stuck
      (rename Fr _ _ _ _ => F9)
      (rename News _ _ _ _ => N9)
      (with_unfolding_all refine' ksw_while (fun (_ : Int × Int × Tok × Tok) => rest) (fun c => [(Str.ofString "bottom", .int c.1 c.2.2.1), (Str.ofString "fives", .int c.2.1 c.2.2.2)]) (fun _ => True) [] (fun c => CntI 5 (1, j) c.1 c.2.1 ∧ 1 ≤ c.1 ∧ c.1 ≤ 1000 ∧ 0 ≤ c.2.1 ∧ c.2.1 ≤ 1000 - c.1) (fun c => c.1.toNat) (b2, 0, _, _) F9 N9 trivial ?hk ⟨hj ▸ cnt_start _ _ _ hb2, hb, hb2, Int.le_refl _, by show (0 : Int) ≤ 1000 - b2; omega⟩ ?turn)
      case hk => intro p hp; simp only [List.mem_cons, List.not_mem_nil, or_false] at hp; rcases hp with rfl | rfl <;> rfl
      case turn =>
        clear F9 N9
        rintro ⟨u5, v5, tu5, tv5⟩ um5 h5 tk5 _ ⟨hS5, hu05, hu15, hv05, hv15⟩ F5 N5
        (try dsimp only at F5 N5 hS5 hu05 hu15 hv05 hv15 ⊢)
        k_steps
        · (rename Int.fmod u5 _ = 0 => hu2)
          have hT := cnt_turn (by decide) hS5 hu05 hu2 hu15
          refine' ksw_end (Int.fdiv u5 5, v5 + 1, ?t3, ?t4) ?F ?N ?n trivial ?hk ?hr ⟨hT.1, hT.2.1, hT.2.2.1, by show 0 ≤ v5 + 1; omega, by show v5 + 1 ≤ 1000 - Int.fdiv u5 5; omega⟩ ?m
          case F => k_asm
          case hk => intro p hp; simp only [List.mem_cons, List.not_mem_nil, or_false] at hp; rcases hp with rfl | rfl <;> exact rfl
          case N => k_asm
          case n => exact fun p hp => hp
          case hr =>
            intro z h1 _
            simp only [List.mem_cons, List.not_mem_nil, or_false, forall_eq_or_imp, forall_eq] at h1
            simp [h1, kstB]
          case m => show (Int.fdiv u5 5).toNat < u5.toNat; omega
        · (rename Int.fmod u5 _ ≠ 0 => hu2)
          (rename u5 ≠ 1 => hu1)
          exact absurd (Prod.mk.inj (cnt_done hS5 hu05 hu2)).1.symm hu1
        · (rename Int.fmod u5 _ ≠ 0 => hu2)
          have e3 := (Prod.mk.inj (cnt_done hS5 hu05 hu2)).2
          subst e3
          subst hp
          exact hret _ _ _ _ (by k_asm) (by k_asm) ⟨_, rfl, rfl⟩
/-! QWt6 -/
theorem setWt6 : True := by
  k_with_none
  (k_with "execs cons" => first | (k_here; k_made; walk_at "execs cons") | (k_here; (with_reducible refine wpAny_execs_cons ?_); (try dsimp only); (try (with_reducible refine anyTok ?_); intro tk9); (try k_fold)))
  (k_with "enter" => ((rename At _ _ _ _ _ _ _ _ _ => HA9); (have B9 := HA9.B); (have X9 := HA9.X); (have T9 := HA9.T); (have hk9 := HA9.hk); clear HA9; (refine wpAny_call ?_); (k_dflt ktr_enter)))
  (k_with "ite" => (k_here; first
    | refine ite_pos (by with_reducible assumption) ?_
    | refine ite_neg (not_true_of (by with_reducible assumption)) ?_
    | refine ite_pos (by first | omega | ((simp only [decide_eq_true_eq, beq_iff_eq, bne_iff_ne, ne_eq, Bool.not_eq_true', decide_eq_false_iff_not]); omega)) ?_
    | refine ite_neg (by first | omega | ((simp only [decide_eq_true_eq, beq_iff_eq, bne_iff_ne, ne_eq, Bool.not_eq_true', decide_eq_false_iff_not]); omega)) ?_))
  (k_with "compareOp In str ref" => (k_here; k_dflt (refine' in_tup (ys := RES) (tupK (Frag.In.keeps (by k_asm) (Fr.keep (by k_asm))) (by k_is)) (by repeat (first | exact StrsAre.nil | refine StrsAre.cons _ _ ?_)) ?_)))
  (k_with "call ref" => (k_here; (with_reducible show wpAny _ _ (call (Value.ref 240) _) _ _ _); k_dflt (refine' says_go (by k_asm) (by k_asm) (places_says _ _ _ _ _ _ _ (by assumption) (by assumption) (by assumption) (by assumption) (by assumption) (by assumption) _ (by assumption)) el1 (by k_asm) (by k_asm) (by k_asm) (by first | rfl | assumption) (Nat.le_of_ble_eq_true rfl) (Nat.le_of_ble_eq_true rfl) ?_); intro t9 h9 tk9 F9 N9; (try k_sweep)))
  (k_with "binaryOp Pow int int" => ((rename Ten _ _ => x9); k_here; k_dflt (refine' pow_ten (by assumption) ?_)))
  (k_with "binaryOp FloorDiv int int" => (k_here; refine floordiv_int (by omega) ?_))
  (k_with "call type:str" => (k_here; k_dflt (refine' str_small (by assumption) (by assumption) ?_); intro S9 e9 l9 l8))
  (k_with "len" => first | exact dot_le | exact Nat.le_trans (by assumption) (by assumption) | assumption | exact run_1000 (by assumption))
  (k_with "binaryOp Add str str" => (k_here; (with_reducible show wpAny _ _ (binaryOp Operator.Add (Value.str _ _) (Value.str _ _)) _ _ _); (refine add_le (by walk_at "len") (by walk_at "len") (Nat.le_of_ble_eq_true rfl) ?_); intro _ _ _))
  (k_with "binaryOp Mult str int" => (k_here; (refine mul0_le (by omega) (by omega) ?_); intro _ _ _))
  trivial
/-- v with p signs behind the point -/
noncomputable def decTxt (p v : Int) : Str :=
  let D := Txt.mul (Str.ofString "0") (p + 1 - ((Str.ofString (toString v)).length : Int)) ++ Str.ofString (toString v)
  Txt.slice D none (some (-p)) ++ Str.ofString "." ++ Txt.slice D (some (-p)) none
theorem dectext_says (w : World) (t b b2 i j p r' : Int) (q : Addr) (t2 t3 : Tok) (rest : List (Addr × Obj)) (ht0 : 0 ≤ t) (ht1 : t ≤ 999) (h0 : 1 ≤ b) (h1 : b ≤ 1000) (hi : cnt 2 10 b 0 = (b2, i)) (hj : cnt 5 10 b2 0 = (1, j)) (hb : 1 ≤ b2) (hb2 : b2 ≤ 1000) (hp : max 1 (max i j) = p)
    (hT : Ten p r') (hd0 : 0 ≤ (t * r').fdiv b) (hd1 : (t * r').fdiv b < 1000) (hq : (q, tupO [.int t t2, .int b t3]) ∈ rest) :
    Says w 800 800 247 [.ref q] rest (fun r news' => ∃ tt, r = .str (decTxt p ((t * r').fdiv b)) tt ∧ news' = rest) := by
  have hp9 := ten_pos hT
  intro mean mg mb gd cn cs a ccd cl outer A₀ base h₀ L m hS gS dS oS tS Q E HA F N hret
  walk_at "enter"
  clear N F
  k_steps
  (rename _ = Str.ofString (toString (Int.fdiv _ _)) => e9)
  subst e9
  exact hret _ _ _ _ (by k_asm) (by k_asm) ⟨_, rfl, rfl⟩
/-! QWt7 -/
theorem setWt7 : True := by
  k_with_none
  (k_with "execs cons" => first | (k_here; k_made; walk_at "execs cons") | (k_here; (with_reducible refine wpAny_execs_cons ?_); (try dsimp only); (try (with_reducible refine anyTok ?_); intro tk9); (try k_fold)))
  (k_with "enter" => ((rename At _ _ _ _ _ _ _ _ _ => HA9); (have B9 := HA9.B); (have X9 := HA9.X); (have T9 := HA9.T); (have hk9 := HA9.hk); clear HA9; (refine wpAny_call ?_); (k_dflt ktr_enter)))
  (k_with "ite" => (k_here; first
    | refine ite_pos (by with_reducible assumption) ?_
    | refine ite_neg (not_true_of (by with_reducible assumption)) ?_
    | refine ite_pos (by first | omega | ((simp only [decide_eq_true_eq, beq_iff_eq, bne_iff_ne, ne_eq, Bool.not_eq_true', decide_eq_false_iff_not]); omega)) ?_
    | refine ite_neg (by first | omega | ((simp only [decide_eq_true_eq, beq_iff_eq, bne_iff_ne, ne_eq, Bool.not_eq_true', decide_eq_false_iff_not]); omega)) ?_))
  (k_with "compareOp In str ref" => (k_here; k_dflt (refine' in_tup (ys := RES) (tupK (Frag.In.keeps (by k_asm) (Fr.keep (by k_asm))) (by k_is)) (by repeat (first | exact StrsAre.nil | refine StrsAre.cons _ _ ?_)) ?_)))
  (k_with "call ref" => ((with_reducible show wpAny _ _ (call (Value.ref 219) _) _ _ _); (refine stuck ?_)))
  (k_with "call ref" => ((with_reducible show wpAny _ _ (call (Value.ref 254) _) _ _ _); (refine stuck ?_)))
  (k_with "call ref" => ((with_reducible show wpAny _ _ (call (Value.ref 247) _) _ _ _); (refine stuck ?_)))
  (k_with "call ref" => ((with_reducible show wpAny _ _ (call (Value.ref 233) _) _ _ _); (refine stuck ?_)))
  (k_with "call ref" => ((with_reducible show wpAny _ _ (call (Value.ref 226) _) _ _ _); (refine stuck ?_)))
  trivial
theorem wt_sym (w : World) (q : Addr) (x : Str) (t1 t2 : Tok) (S : Str) (rest : List (Addr × Obj)) (hq : (q, tupO [.str (Str.ofString "sym") t1, .str x t2]) ∈ rest)
    (HS : Says w 800 800 219 [.str x t2] rest (fun r news' => ∃ t, r = .str S t ∧ news' = rest)) :
    Says w 700 700 261 [.ref q] rest (fun r news' => ∃ t, r = .str S t ∧ news' = rest) := by
  intro mean mg mb gd cn cs a ccd cl outer A₀ base h₀ L m hS gS dS oS tS Q E HA F N hret
  walk_at "enter"
  clear N F
  k_steps
  unfold Stuck
  k_dflt (refine' says_go (by k_asm) ?kN HS el1 (by k_asm) (by k_asm) (by k_asm) (by first | rfl | assumption) (Nat.le_of_ble_eq_true rfl) (Nat.le_of_ble_eq_true rfl) ?_)
  case kN => k_asm
  intro t9 h9 tk9 F9 N9
  k_steps
  exact hret _ _ _ _ (by k_asm) (by k_asm) ⟨_, rfl, rfl⟩
theorem wt_str (w : World) (q : Addr) (x : Str) (t1 t2 : Tok) (S : Str) (rest : List (Addr × Obj)) (hq : (q, tupO [.str (Str.ofString "str") t1, .str x t2]) ∈ rest)
    (HS : Says w 800 800 226 [.str x t2] rest (fun r news' => ∃ t, r = .str S t ∧ news' = rest)) :
    Says w 700 700 261 [.ref q] rest (fun r news' => ∃ t, r = .str S t ∧ news' = rest) := by
  intro mean mg mb gd cn cs a ccd cl outer A₀ base h₀ L m hS gS dS oS tS Q E HA F N hret
  walk_at "enter"
  clear N F
  k_steps
  unfold Stuck
  k_dflt (refine' says_go (by k_asm) ?kN HS el1 (by k_asm) (by k_asm) (by k_asm) (by first | rfl | assumption) (Nat.le_of_ble_eq_true rfl) (Nat.le_of_ble_eq_true rfl) ?_)
  case kN => k_asm
  intro t9 h9 tk9 F9 N9
  k_steps
  exact hret _ _ _ _ (by k_asm) (by k_asm) ⟨_, rfl, rfl⟩
theorem wt_num (w : World) (q : Addr) (x : Int) (t1 t2 : Tok) (S : Str) (rest : List (Addr × Obj)) (hq : (q, tupO [.str (Str.ofString "num") t1, .int x t2]) ∈ rest)
    (HS : Says w 800 800 254 [.int x t2] rest (fun r news' => ∃ t, r = .str S t ∧ news' = rest)) :
    Says w 700 700 261 [.ref q] rest (fun r news' => ∃ t, r = .str S t ∧ news' = rest) := by
  intro mean mg mb gd cn cs a ccd cl outer A₀ base h₀ L m hS gS dS oS tS Q E HA F N hret
  walk_at "enter"
  clear N F
  k_steps
  unfold Stuck
  k_dflt (refine' says_go (by k_asm) ?kN HS el1 (by k_asm) (by k_asm) (by k_asm) (by first | rfl | assumption) (Nat.le_of_ble_eq_true rfl) (Nat.le_of_ble_eq_true rfl) ?_)
  case kN => k_asm
  intro t9 h9 tk9 F9 N9
  k_steps
  exact hret _ _ _ _ (by k_asm) (by k_asm) ⟨_, rfl, rfl⟩
theorem wt_dec (w : World) (q : Addr) (q2 : Addr) (t1 : Tok) (S : Str) (rest : List (Addr × Obj)) (hq : (q, tupO [.str (Str.ofString "dec") t1, .ref q2]) ∈ rest)
    (HS : Says w 800 800 247 [.ref q2] rest (fun r news' => ∃ t, r = .str S t ∧ news' = rest)) :
    Says w 700 700 261 [.ref q] rest (fun r news' => ∃ t, r = .str S t ∧ news' = rest) := by
  intro mean mg mb gd cn cs a ccd cl outer A₀ base h₀ L m hS gS dS oS tS Q E HA F N hret
  walk_at "enter"
  clear N F
  k_steps
  unfold Stuck
  k_dflt (refine' says_go (by k_asm) ?kN HS el1 (by k_asm) (by k_asm) (by k_asm) (by first | rfl | assumption) (Nat.le_of_ble_eq_true rfl) (Nat.le_of_ble_eq_true rfl) ?_)
  case kN => k_asm
  intro t9 h9 tk9 F9 N9
  k_steps
  exact hret _ _ _ _ (by k_asm) (by k_asm) ⟨_, rfl, rfl⟩
theorem wt_bits (w : World) (q : Addr) (x n : Int) (t1 t2 t3 : Tok) (S : Str) (rest : List (Addr × Obj)) (hq : (q, tupO [.str (Str.ofString "bits") t1, .int x t2, .int n t3]) ∈ rest)
    (HS : Says w 800 800 233 [.int x t2, .int n t3] rest (fun r news' => ∃ t, r = .str S t ∧ news' = rest)) :
    Says w 700 700 261 [.ref q] rest (fun r news' => ∃ t, r = .str S t ∧ news' = rest) := by
  intro mean mg mb gd cn cs a ccd cl outer A₀ base h₀ L m hS gS dS oS tS Q E HA F N hret
  walk_at "enter"
  clear N F
  k_steps
  unfold Stuck
  k_dflt (refine' says_go (by k_asm) ?kN HS el1 (by k_asm) (by k_asm) (by k_asm) (by first | rfl | assumption) (Nat.le_of_ble_eq_true rfl) (Nat.le_of_ble_eq_true rfl) ?_)
  case kN => k_asm
  intro t9 h9 tk9 F9 N9
  k_steps
  exact hret _ _ _ _ (by k_asm) (by k_asm) ⟨_, rfl, rfl⟩
theorem wt_key (w : World) (q : Addr) (x : Str) (t1 t2 : Tok) (rest : List (Addr × Obj)) (hx : x.length ≤ 20) (hq : (q, tupO [.str (Str.ofString "key") t1, .str x t2]) ∈ rest) :
    Says w 700 700 261 [.ref q] rest (fun r news' => ∃ t, r = .str (Str.ofString ":" ++ x) t ∧ news' = rest) := by
  intro mean mg mb gd cn cs a ccd cl outer A₀ base h₀ L m hS gS dS oS tS Q E HA F N hret
  walk_at "enter"
  clear N F
  k_steps
  exact hret _ _ _ _ (by k_asm) (by k_asm) ⟨_, rfl, rfl⟩
/-! QExc -/
section
variable {w : World} {A : Around} {R : Result → Shared → Prop} {h : Heap} {g : Array GenState} {d : Drawn} {t : Nat} {os : OsState}
theorem sub_exc (w : World) : subIn (hd.heap_1 w.params) (.ref 76) (.type "Exception") = some true := by k_is
theorem sub_attr (w : World) : subIn (hd.heap_1 w.params) (.ref 76) (.type "AttributeError") = some false := by k_is
theorem sub_name (w : World) : subIn (hd.heap_1 w.params) (.ref 76) (.type "NameError") = some false := by k_is
theorem sub_base (w : World) : subIn (hd.heap_1 w.params) (.ref 76) (.type "BaseException") = some true := by k_is
theorem sub_self (w : World) : subIn (hd.heap_1 w.params) (.ref 76) (.ref 76) = some true := by k_is
theorem typ76 (w : World) : instIn (hd.heap_1 w.params) (.ref 76) (.type "type") = some true := by k_is
theorem call76 (w : World) : specialIn (hd.heap_1 w.params) (.ref 76) "__call__" = some (some (.builtin "type.__call__")) := by k_is
theorem init76 (w : World) : findIn (hd.heap_1 w.params) (.ref 76) "__init__" = some (some (.ref 66)) := by k_is
theorem fun66 (w : World) : typeIn (hd.heap_1 w.params) (.ref 66) = some (.type "function") := by k_is
noncomputable def noDel (o : Obj) : Bool := match o.data with | .cls cd => !cd.hasDel && !cd.mro.isEmpty && cd.hasDict | _ => false
theorem del76 (w : World) : ((hd.heap_1 w.params).lookup 76).map noDel = some true := by kernel_rfl
theorem cls76 (w : World) : ∃ cd oc od sl, (hd.heap_1 w.params).lookup 76 = some ⟨oc, od, .cls cd, sl⟩ ∧ cd.hasDel = false ∧ cd.mro.isEmpty = false ∧ cd.hasDict = true := by
  obtain ⟨⟨oc, od, dt, sl⟩, ho, hn⟩ := Option.map_eq_some_iff.mp (del76 w)
  cases dt with
  | cls cd => exact ⟨cd, oc, od, sl, ho, by simpa [noDel, and_assoc] using hn⟩
  | _ => cases hn
noncomputable abbrev excO (C : Addr) (t : Addr) : Obj := { cls := .ref C, data := .fields #[.ref t, .none, .none, .none, .bool false, .none] }
theorem exc_new {a b : Value} (X : (hd.heap_1 w.params).In h)
    (hq : R (.ok (.ret (.ref (h.objs.size + 1)))) ⟨(h.push { cls := .type "tuple", data := .seq #[a, b] }).push (excO 76 h.objs.size), g, d, t, os⟩) :
    codeAny (model PR w) A (.call (.builtin "Exception.__new__") ⟨[.ref 76, a, b], []⟩) R ⟨h, g, d, t, os⟩ := by
  have F := PySem.F.excBase_Exception
  have base := looks_subIn (M := model PR w) X (sub_exc w)
  have battr := looks_subIn (M := model PR w) X (sub_attr w)
  have bname := looks_subIn (M := model PR w) X (sub_name w)
  have chk : Looks (model PR w) h (checkBuiltinCall "Exception.__new__" ⟨[.ref 76, a, b], []⟩) () := Looks.of_peek X (by kernel_rfl)
  have here2 : Looks (model PR w) h (Bind.madeHere "BaseException.__new__" (.ref 76)) () := Looks.of_peek X (by kernel_rfl)
  have here3 : Looks (model PR w) h (isType (.ref 76)) true := Looks.of_peek X (by kernel_rfl)
  have hends := F.ends
  refine codeAny_call_builtin_code (Code.quiet_builtin _ F.quiet) (chk.here ?_)
  refine codeAny_builtinAt F.entry ?_
  unfold Builtin.«BaseException.__new__»
  refine _root_.PySem.wpAt_bind ?_
  show _root_.PySem.wpAt _ _ _ (stack >>= _) _ _ _
  refine _root_.PySem.wpAt_bind (_root_.PySem.wpAt_stack fun p below => _root_.PySem.wpAt_of_wpAny ?_)
  wp_walk
  refine _root_.PySem.wpAt_of_wpAny ?_
  rw [F.owner]
  repeat lk
  obtain ⟨cd, oc, od, sl, ho, hdel, hmro, _⟩ := cls76 w
  refine nd_load (Heap.get?_push_of_some _ (Heap.get?_push_of_some _ (X _ _ ho))) ?_
  refine wpAny_pure (wpAny_pure ?_)
  rw [hdel]
  refine wpAny_pure (wpAny_pure ?_)
  show R _ _
  rw [Heap.size_push]
  exact hq
theorem exc_make {a b : Value} (X : (hd.heap_1 w.params).In h)
    (hq : codeAny (model PR w) (A.under (.builtin "type.__call__" ⟨[.ref 76, a, b], []⟩)) (.call (.ref 66) ⟨[.ref (h.objs.size + 1), a, b], []⟩) (InitBack (h.objs.size + 1) R) ⟨(h.push { cls := .type "tuple", data := .seq #[a, b] }).push (excO 76 h.objs.size), g, d, t, os⟩) :
    codeAny (model PR w) A (.call (.ref 76) ⟨[a, b], []⟩) R ⟨h, g, d, t, os⟩ := by
  have call := looks_specialIn (M := model PR w) X (call76 w)
  have typ := looks_instIn (M := model PR w) X (typ76 w)
  have self := looks_subIn (M := model PR w) X (sub_self w)
  have hi := looks_findIn (M := model PR w) X (init76 w)
  have hb := fun self => bind_fn (M := model PR w) X self (fun66 w)
  obtain ⟨cd, oc, od, sl, ho, hdel, hmro, _⟩ := cls76 w
  have hC := X _ _ ho
  have made : Looks (model PR w) h (Bind.madeBy (.ref 76)) (some "Exception.__new__") := Looks.of_peek X (by kernel_rfl)
  have nt : Looks (model PR w) h (isType (.ref 76)) true := Looks.of_peek X (by kernel_rfl)
  refine codeAny_of_tree ?_
  show wpAny _ _ (callAny (.ref 76) _) _ _ _
  refine nd_load hC ?_
  show wpAny _ _ (callAny.viaDunder (.ref 76) _) _ _ _
  unfold callAny.viaDunder
  refine wpAny_bind (call.at ?_)
  dsimp only
  rw [tc_bind]
  refine wpAny_bind (wpAny_pure (wpAny_bind (wpAny_pure ?_)))
  refine wpAny_pure (a := Fin.again (.call (.builtin "type.__call__") ⟨[.ref 76, a, b], []⟩)) (And.intro rfl ?_)
  refine codeAny_call_builtin_at (Code.quiet_builtin _ (by decide +kernel)) entry_typeCall (check_slot tc_kind tc_split typ (tc_args _ _ _) ?_)
  unfold Builtin.«type.__call__»
  repeat (first | simp only [hmro, Bool.false_eq_true, if_false] | with_reducible refine wpAny_call ?_ | lk)
  refine exc_new X ?_
  have k : ∀ b' o, h.get? b' = some o → ((h.push { cls := .type "tuple", data := .seq #[a, b] }).push (excO 76 h.objs.size)).get? b' = some o := fun b o e => Heap.get?_push_of_some _ (Heap.get?_push_of_some _ e)
  have hx : ((h.push { cls := .type "tuple", data := .seq #[a, b] }).push (excO 76 h.objs.size)).get? (h.objs.size + 1) = some (excO 76 h.objs.size) := by heap_get
  have t1 : Looks (model PR w) ((h.push { cls := .type "tuple", data := .seq #[a, b] }).push (excO 76 h.objs.size)) (typeOf (.ref (h.objs.size + 1))) (.ref 76) := (Looks.ld hx).andThen .now
  have s1 := self.keeps k
  have i1 := hi.keeps k
  have b1 := (hb (.ref (h.objs.size + 1))).keeps k
  unfold isInstance callSpecial? specialOf
  repeat (first | with_reducible refine wpAny_call ?_ | lk)
  refine codeAny_mono hq fun r s' z => ?_
  rcases r with e | (v | _ | _ | _) <;> first | exact z | exact z.elim | skip
  obtain ⟨rfl, z⟩ := z
  exact wpAny_pure (wpAny_pure z)
end
/-! QSup -/
theorem slot_wd_get : Slot "wrapper_descriptor" "__get__" "wrapper_descriptor.__get__" := .of (owner := "wrapper_descriptor") (n := "__get__") (by rw [typeLookup_type, builtinLookup_eq_fast]; kernel_rfl) (by decide +kernel) (by decide +kernel) (by decide +kernel)
  (by first | exact .inl (by decide +kernel) | exact .inr (by decide +kernel)) (by rw [isSubtype_type]; kernel_rfl)
theorem entry_wd_get : entryFor table "wrapper_descriptor.__get__" = some Builtin.«wrapper_descriptor.__get__» := entryFor_of_tree (by kernel_rfl)
theorem args_wd_get (a b c : Value) : argsOk "wrapper_descriptor.__get__" ⟨[a, b, c], []⟩ := by unfold argsOk; kernel_rfl
theorem type_exc_init : typeOf (.builtin "Exception.__init__") = pure (.type "wrapper_descriptor") := by kernel_rfl
section
variable {w : World} {A : Around} {R : Result → Shared → Prop} {E : Value → Shared → Prop} {h : Heap} {g : Array GenState} {d : Drawn} {t : Nat} {os : OsState}
theorem exc_in {x : Addr} {ox : Obj} (X : (hd.heap_1 w.params).In h) (hx : h.get? x = some ox) (hc : ox.cls = .ref 76) : Looks (model PR w) h (isInstance (.ref x) (.type "Exception")) true := by
  obtain ⟨oc, od, dt, sl⟩ := ox
  cases hc
  have t1 : Looks (model PR w) h (typeOf (.ref x)) (.ref 76) := (Looks.ld hx).andThen .now
  have s1 := looks_subIn (M := model PR w) X (sub_exc w)
  exact t1.andThen s1
theorem wd_get {x : Addr} {ox : Obj} {C : Value} {Q : Fin → Shared → Prop} (X : (hd.heap_1 w.params).In h) (hx : h.get? x = some ox) (hc : ox.cls = .ref 76) (hC : C ≠ .none)
    (hq : Q (.done (.ret (.ref h.objs.size))) ⟨h.push { cls := .type "method-wrapper", data := .fields #[.builtin "Exception.__init__", .ref x] }, g, d, t, os⟩) :
    wpAny (model PR w) A (Builtin.«wrapper_descriptor.__get__» ⟨[.builtin "Exception.__init__", .ref x, C], []⟩) Q E ⟨h, g, d, t, os⟩ := by
  have i1 := exc_in X hx hc
  unfold Builtin.«wrapper_descriptor.__get__»
  repeat (first | ((with_reducible show wpAny _ _ (isInstance _ _) _ _ _); refine Looks.at i1 ?_) | (with_reducible refine wpAny_newObj_type ?_ (by size_fits)) | wp_step | lk)
  all_goals first | exact hq | trace_state
theorem super_ga_b {so D x C : Addr} {ox : Obj} {l₀ l : List Value} {name : Str} {tk : Tok} {Q : Fin → Shared → Prop} (X : (hd.heap_1 w.params).In h)
    (hso : h.get? so = some { cls := .type "super", dict := none, data := .fields #[.ref D, .ref x, .ref C], slots := #[] }) (hno : Looks (model PR w) h (opaqueClassAbove (.ref C)) none)
    (hC : Looks (model PR w) h (mroOf (.ref C)) l₀) (hl : (l₀.dropWhile (· != .ref D)).drop 1 = l) 
    (hf : alongIn (hd.heap_1 w.params) name l = some (some (.builtin "Exception.__init__"))) (hx : h.get? x = some ox) (hc : ox.cls = .ref 76) (hxC : x ≠ C) (hn : (name == ("__class__" : Str)) = false)
    (hq : Q (.done (.ret (.ref h.objs.size))) ⟨h.push { cls := .type "method-wrapper", data := .fields #[.builtin "Exception.__init__", .ref x] }, g, d, t, os⟩) :
    wpAny (model PR w) A (Builtin.«super.__getattribute__» ⟨[.ref so, .str name tk], []⟩) Q E ⟨h, g, d, t, os⟩ := by
  have hlk := slot_wd_get.lookup
  have hne : (Value.ref x == Value.ref C) = false := by simp [hxC]
  have hTf : (⟨h, g, d, t, os⟩ : Shared).TypeIs (.builtin "Exception.__init__") "wrapper_descriptor" := type_exc_init
  have hdt : ({ cls := .type "super", dict := none, data := .fields #[.ref D, .ref x, .ref C], slots := #[] } : Obj).data = .fields #[.ref D, .ref x, .ref C] := rfl
  have f0 : (#[.ref D, .ref x, .ref C] : Array Value)[0]? = some (.ref D) := rfl
  have f1 : (#[.ref D, .ref x, .ref C] : Array Value)[1]? = some (.ref x) := rfl
  have f2 : (#[.ref D, .ref x, .ref C] : Array Value)[2]? = some (.ref C) := rfl
  unfold Builtin.«super.__getattribute__»
  repeat (first
    | (with_reducible refine wpAny_field hso hdt f0 ?_) | (with_reducible refine wpAny_field hso hdt f1 ?_) | (with_reducible refine wpAny_field hso hdt f2 ?_)
    | (with_reducible refine ks_wpAny_notOpaque hno ?_)
    | (with_reducible refine Looks.at hC ?_; rw [hl])
    | (refine ks_forIn_along X (fun _ _ => rfl) rfl ?_ hf)
    | (with_reducible refine wpAny_typeOf hTf ?_)
    | (with_reducible refine wpAny_call_entry slot_wd_get hTf entry_wd_get ?_ (args_wd_get _ _ _))
    | (with_reducible refine ⟨_, rfl, ?_⟩)
    | (with_reducible refine wd_get X hx hc (by simp) ?_)
    | (simp only [hn, hne, Bool.or_false, Bool.false_eq_true, if_false])
    | wp_step
    | dsimp only)
  all_goals exact hq
theorem getMethod_super_b {so D x C : Addr} {ox : Obj} {l₀ l : List Value} {name : Str} {pl : Sem Bool} {Q : Value × List Value → Shared → Prop} (X : (hd.heap_1 w.params).In h)
    (hso : h.get? so = some { cls := .type "super", dict := none, data := .fields #[.ref D, .ref x, .ref C], slots := #[] }) (hno : Looks (model PR w) h (opaqueClassAbove (.ref C)) none)
    (hC : Looks (model PR w) h (mroOf (.ref C)) l₀) (hl : (l₀.dropWhile (· != .ref D)).drop 1 = l)
    (hf : alongIn (hd.heap_1 w.params) name l = some (some (.builtin "Exception.__init__"))) (hx : h.get? x = some ox) (hc : ox.cls = .ref 76) (hxC : x ≠ C) (hn : (name == ("__class__" : Str)) = false)
    (hq : Q (.ref h.objs.size, []) ⟨h.push { cls := .type "method-wrapper", data := .fields #[.builtin "Exception.__init__", .ref x] }, g, d, t + 1, os⟩) :
    wpAny (model PR w) A (getMethod (.ref so) name pl) Q E ⟨h, g, d, t, os⟩ := by
  have hlk := F.ks_slot_super_ga.lookup
  have hcan := F.ks_canon_super_ga
  have hT : ∀ t', (⟨h, g, d, t', os⟩ : Shared).TypeIs (.ref so) "super" := fun _ => ⟨_, hso, rfl⟩
  unfold getMethod
  refine wpAny_bind (wpAny_specialOf (hT _) hlk ?_)
  show wpAny _ _ (if (Manifest.canonical "super.__getattribute__" != "object.__getattribute__") = true then _ else _) _ _ _
  rw [if_pos hcan]
  unfold getAttr getAttrBy
  refine wpAny_bind (wpAny_bind (wpAny_mkText (wpAny_holding (wpAny_bind (wpAny_typeOf (hT _) (wpAny_bind (wpAny_of_eq hlk ?_)))))))
  show wpAny _ _ (getAttrByItsOwn (.ref so) (.str name t) (.type "super") (.builtin "super.__getattribute__") true false) _ _ _
  unfold getAttrByItsOwn hookBefore callGetattribute boundAndCalled
  refine wpAny_bind (wpAny_of_eq (show (if onTheHeap (.type "super") then typeLookup (.type "super") "__getattr__" else pure none) = pure none from rfl) ?_)
  refine wpAny_bind (wpAny_attempt (wpAny_holding ?_))
  show wpAny _ _ (bindSpecial (.builtin "super.__getattribute__") (.ref so) >>= _) _ _ _
  refine wpAny_bind (wpAny_of_eq (F.ks_slot_super_ga.bind _) ?_)
  refine wpAny_mono (Q := fun v s' => v = .ref h.objs.size ∧ s' = ⟨h.push { cls := .type "method-wrapper", data := .fields #[.builtin "Exception.__init__", .ref x] }, g, d, t + 1, os⟩) (E := fun _ _ => False)
    (wpAny_call_entry F.ks_slot_super_ga (hT _) F.ks_entry_super_ga (super_ga_b X hso hno hC hl hf hx hc hxC hn ⟨_, rfl, rfl, rfl⟩) (F.ks_gaArgs_super _ _)) (fun v s' hv => ?_) fun _ _ z => z.elim
  obtain ⟨rfl, rfl⟩ := hv
  exact wpAny_pure (wpAny_pure hq)
end
/-! QSet -/
noncomputable abbrev excX (t : Addr) (od : Option Addr) : Obj := { cls := .ref 76, dict := od, data := .fields #[.ref t, .none, .none, .none, .bool false, .none] }
theorem mro76 (w : World) : ∃ cd, clsIn (hd.heap_1 w.params) 76 = some cd ∧ cd.mro = [.ref 76, .ref 47, .type "Exception", .type "BaseException", .type "object"] ∧ cd.hasDict = true := by
  have h : (clsIn (hd.heap_1 w.params) 76).map (fun cd => (cd.mro, cd.hasDict)) = some ([.ref 76, .ref 47, .type "Exception", .type "BaseException", .type "object"], true) := by kernel_rfl
  obtain ⟨cd, hc, e⟩ := Option.map_eq_some_iff.mp h
  cases e' : cd with
  | mk => exact ⟨cd, e' ▸ hc, by rw [← e'] at *; injection e, by injection e⟩
theorem taker_what (w : World) : takerIn (hd.heap_1 w.params) 76 "what" = some none := by kernel_rfl
theorem taker_spot (w : World) : takerIn (hd.heap_1 w.params) 76 "spot" = some none := by kernel_rfl
theorem setattr76 (w : World) : findIn (hd.heap_1 w.params) (.ref 76) "__setattr__" = some (some (.builtin "object.__setattr__")) := by k_is
theorem sub_obj (w : World) : subIn (hd.heap_1 w.params) (.ref 76) (.type "object") = some true := by k_is
section
variable {w : World} {A : Around} {R : Result → Shared → Prop} {E : Value → Shared → Prop} {s : Shared} {x : Addr} {h₀ : Heap} {L : Addr} {m : Str → Option Value}
theorem osa_exc {ox : Obj} {od : Option Obj} {name : Str} {tk : Tok} {v : Value} (X : (hd.heap_1 w.params).In s.heap) (I : InstAt s.heap x ox 76 od) (ht : takerIn (hd.heap_1 w.params) 76 name = some none)
    (h : ∀ b, wpAny (model PR w) A.in1 (Builtin.ObjectAttr.storeInOwnDict (.ref x) (.ref 76) (.str name tk) name v b)
      (fun fin s' => match fin with | .done f => R (.ok f) s' | .again c' => c'.quiet = true ∧ codeAny (model PR w) A c' R s') (fun e s' => R (.error e) s') s) :
    codeAny (model PR w) A (.call (.builtin "object.__setattr__") ⟨[.ref x, .str name tk, v], []⟩) R s := by
  have SF := PySem.F.store_Exception
  obtain ⟨cd, hc, ho, hdd⟩ := mro76 w
  have sub : Looks (model PR w) s.heap (isInstance (.ref x) (.type "object")) true := I.type.andThen (looks_subIn X (sub_obj w))
  refine codeAny_call_builtin SF.slot.plain SF.entry (@check_slot (model PR w) _ _ s "object.__setattr__" "object" "__setattr__" (.ref x) [.str name tk, v] [] _ SF.kind SF.split sub (SF.args (.ref x) (.str name tk) v) ?_)
  obtain ⟨attr, ha, hr⟩ := Option.bind_eq_some_iff.mp ht
  have hm : Looks (model PR w) s.heap (mroOf (.ref 76)) cd.mro := (looks_clsIn X hc).andThen .now
  have L3 : Looks (model PR w) s.heap (Builtin.ObjectAttr.storeTaker? attr) none := by
    cases attr with
    | none => cases hr; exact .now
    | some a =>
      obtain ⟨b, hb, hr⟩ := Option.map_eq_some_iff.mp hr
      cases b with
      | true => cases hr
      | false => exact (looks_takesIn X hb).andThen .now
  rw [osa_eq, refuse_eq]
  refine wpAny_bind (wpAny_bind (I.type.here (wpAny_bind (hm.here ?_))))
  rw [ho, refuseLoop_ref, refuseLoop_ref, SF.passes]
  refine wpAny_pure (wpAny_bind (I.type.here (wpAny_bind ((looks_findIn X ha).here (wpAny_bind (L3.here ?_))))))
  exact h _
theorem exc_store0 {t : Addr} {rest : List (Addr × Obj)} {name : Str} {tk : Tok} {v : Value} (F : Fr h₀ L s.heap m) (N : News h₀ L s.heap ((x, excX t none) :: rest)) (X : (hd.heap_1 w.params).In s.heap)
    (ht : takerIn (hd.heap_1 w.params) 76 name = some none) (hr : ∀ p ∈ rest, p.1 ≠ x)
    (h : ∀ dx h' tk', x < dx → (∀ p ∈ rest, p.1 < dx) → Fr h₀ L h' m → News h₀ L h' ((dx, dictOf [{ hash := PyData.keyHash w.params name, key := .str name tk', val := v }] 1) :: (x, excX t (some dx)) :: rest) → R (.ok (.ret .none)) { s with heap := h', toks := s.toks + 1 }) :
    codeAny (model PR w) A (.call (.builtin "object.__setattr__") ⟨[.ref x, .str name tk, v], []⟩) R s := by
  have hx := (N _ (.head _)).1
  have I : InstAt s.heap x (excX t none) 76 none := ⟨hx, rfl, rfl, True.intro⟩
  refine osa_exc X I ht fun b => ?_
  obtain ⟨cd, hc, ho, hdd⟩ := mro76 w
  obtain ⟨hh, g, d, tks, os⟩ := s
  have lx := Heap.lt_size hx
  have lr : ∀ p ∈ rest, p.1 < hh.objs.size := fun p hp => Heap.lt_size (N p (.tail _ hp)).1
  have F1 := F.push emptyDict
  have N1 := N.push F emptyDict
  obtain ⟨F2, N2⟩ := news_upd (pre := [(hh.objs.size, emptyDict)]) (d := x) (post := rest) (f := fun o => { o with dict := some hh.objs.size }) (o' := excX t (some hh.objs.size)) F1 N1 (by simp; exact Ne.symm (Nat.ne_of_lt lx)) hr rfl rfl
  obtain ⟨F3, N3⟩ := news_upd (pre := []) (d := hh.objs.size) (f := Obj.putName name (PyData.keyHash w.params name) (.str name tks) v) (o' := dictOf [{ hash := PyData.keyHash w.params name, key := .str name tks, val := v }] 1) F2 N2 (by simp) (by simp; exact ⟨Nat.ne_of_lt lx, fun a b hp => Nat.ne_of_lt (lr _ hp)⟩) rfl rfl
  have D := (N2 _ (.head _)).1
  dsimp only at D
  have D' := (N3 _ (.head _)).1
  dsimp only at D'
  have z := h hh.objs.size _ tks lx lr F3 N3
  refine wpAny_bind (wpAny_pure (wpAny_bind (wpAny_bind (wpAny_loadPart hx (wpAny_bind ((looks_clsIn X hc).here ?_))))))
  rw [hdd]
  show wpAny _ _ (alloc emptyDict >>= _) _ _ _
  refine wpAny_bind (wpAny_alloc' ?_)
  refine wpAny_bind (wpAny_update' (Heap.get?_push_of_some _ hx) ?_)
  refine wpAny_pure (a := some hh.objs.size) ?_
  show wpAny _ _ (Builtin.ObjectAttr.storeInDict _ _ _ _) _ _ _
  unfold Builtin.ObjectAttr.storeInDict
  refine wpAny_bind (wpAny_pure (wpAny_bind ?_))
  unfold nsSet
  refine wpAny_bind (wpAny_bind (wpAny_askSetting (wpAny_pure (wpAny_bind (wpAny_mkText (wpAny_bind ?_))))))
  refine wpAny_loadPart (o := emptyDict) ?hD ?_
  case hD => exact D
  dsimp only
  rw [aRefKeyMayBeTheName_at]
  rw [show ((!#[].any fun x : DictEntry => x.key.isStr name) && #[].any fun x : DictEntry => x.refKey) = false by simp]
  refine wpAny_updatePart (o := emptyDict) ?hE ?_
  case hE => exact D
  refine wpAny_bind (wpAny_lookBehind (show Heap.get? _ _ = some _ from D') (pastItsLine_dict (by rw [List.size_toArray, sizeLine_eq]; simp)) ?_)
  exact wpAny_pure z
theorem exc_store1 {t dx : Addr} {rest : List (Addr × Obj)} {name : Str} {tk : Tok} {v : Value} {e0 : DictEntry} (F : Fr h₀ L s.heap m) (N : News h₀ L s.heap ((dx, dictOf [e0] 1) :: (x, excX t (some dx)) :: rest)) (X : (hd.heap_1 w.params).In s.heap)
    (ht : takerIn (hd.heap_1 w.params) 76 name = some none) (hr : ∀ p ∈ rest, p.1 ≠ dx) (hxd : x ≠ dx) {n0 : Str} {k0 : Tok} (hk0 : e0.key = .str n0 k0) (hput : ∀ tk', Obj.putName name (PyData.keyHash w.params name) (.str name tk') v (dictOf [e0] 1) = dictOf [e0, { hash := PyData.keyHash w.params name, key := .str name tk', val := v }] 2)
    (h : ∀ h' tk', Fr h₀ L h' m → News h₀ L h' ((dx, dictOf [e0, { hash := PyData.keyHash w.params name, key := .str name tk', val := v }] 2) :: (x, excX t (some dx)) :: rest) → R (.ok (.ret .none)) { s with heap := h', toks := s.toks + 1 }) :
    codeAny (model PR w) A (.call (.builtin "object.__setattr__") ⟨[.ref x, .str name tk, v], []⟩) R s := by
  have hx := (N _ (.tail _ (.head _))).1
  have hdx := (N _ (.head _)).1
  have I : InstAt s.heap x (excX t (some dx)) 76 (some (dictOf [e0] 1)) := ⟨hx, rfl, rfl, hdx⟩
  refine osa_exc X I ht fun b => ?_
  obtain ⟨cd, hc, ho, hdd⟩ := mro76 w
  obtain ⟨hh, g, d, tks, os⟩ := s
  obtain ⟨hs0, ky0, vl0⟩ := e0
  cases hk0
  obtain ⟨F3, N3⟩ := news_upd (pre := []) (d := dx) (f := Obj.putName name (PyData.keyHash w.params name) (.str name tks) v) (o' := dictOf [⟨hs0, .str n0 k0, vl0⟩, { hash := PyData.keyHash w.params name, key := .str name tks, val := v }] 2) F N (by simp) (by simp; exact ⟨hxd, fun a b hp => hr _ hp⟩) (hput tks) rfl
  have D' := (N3 _ (.head _)).1
  dsimp only at D'
  have z := h _ tks F3 N3
  refine wpAny_bind (wpAny_pure (wpAny_bind (wpAny_bind (wpAny_loadPart hx (wpAny_bind ((looks_clsIn X hc).here ?_))))))
  rw [hdd]
  refine wpAny_pure (a := some dx) (wpAny_bind (wpAny_pure (wpAny_bind ?_)))
  unfold nsSet
  refine wpAny_bind (wpAny_bind (wpAny_askSetting (wpAny_pure (wpAny_bind (wpAny_mkText (wpAny_bind ?_))))))
  refine wpAny_loadPart hdx ?_
  dsimp only
  rw [aRefKeyMayBeTheName_at]
  have c : ((!(#[(⟨hs0, .str n0 k0, vl0⟩ : DictEntry)].any (·.key.isStr name))) && (#[(⟨hs0, .str n0 k0, vl0⟩ : DictEntry)].any (·.refKey))) = false := by simp [DictEntry.refKey]
  rw [c]
  refine wpAny_updatePart hdx ?_
  refine wpAny_bind (wpAny_lookBehind (show Heap.get? _ _ = some _ from D') (pastItsLine_dict (by rw [List.size_toArray, sizeLine_eq]; simp)) ?_)
  exact wpAny_pure z
end
/-! QIni -/
noncomputable abbrev mwO (x : Addr) : Obj := { cls := .type "method-wrapper", data := .fields #[.builtin "Exception.__init__", .ref x] }
theorem bound_exc_init {w : World} {A : Around} {E : Value → Shared → Prop} {s : Shared} {Q : Unit → Shared → Prop} {x : Addr} {ox : Obj} (X : (hd.heap_1 w.params).In s.heap) (I : InstAt s.heap x ox 76 none) (a : Value) (h : Q () s) : wpAny (model PR w) A (checkBoundCall "Exception.__init__" ⟨[.ref x, a], []⟩) Q E s := by
  have F := PySem.F.excCall_Exception
  have hshort := F.noStar
  unfold checkBoundCall
  simp only [F.initKind, F.initRow]
  rw [if_pos (by decide +kernel)]
  have t1 := I.type (M := model PR w)
  have s1 := looks_subIn (M := model PR w) X (sub_exc w)
  obtain ⟨cd, oc, od, sl, ho, hdel, hmro, _⟩ := cls76 w
  have hC := X _ _ ho
  repeat (first | lk | wp_step)
  all_goals exact h
section
variable {w : World} {A : Around} {R : Result → Shared → Prop} {E : Value → Shared → Prop} {s : Shared} {x : Addr} {h₀ : Heap} {L : Addr} {m : Str → Option Value}
theorem exc_init (X : (hd.heap_1 w.params).In s.heap) {t mw : Addr} {rest : List (Addr × Obj)} {v : Value} (F : Fr h₀ L s.heap m) (N : News h₀ L s.heap ((x, excX t none) :: rest)) (hmw : (mw, mwO x) ∈ rest) (hr : ∀ p ∈ rest, p.1 ≠ x)
    (h : ∀ t' h', x < t' → (∀ p ∈ rest, p.1 < t') → Fr h₀ L h' m → News h₀ L h' ((t', tupO [v]) :: (x, excX t' none) :: rest) → R (.ok (.ret .none)) { s with heap := h' }) :
    codeAny (model PR w) A (.call (.ref mw) ⟨[v], []⟩) R s := by
  have hx := (N _ (.head _)).1
  have hm := (N _ (.tail _ hmw)).1
  have I : InstAt s.heap x (excX t none) 76 none := ⟨hx, rfl, rfl, True.intro⟩
  obtain ⟨hh, g, d, tks, os⟩ := s
  have lx := Heap.lt_size hx
  have lr : ∀ p ∈ rest, p.1 < hh.objs.size := fun p hp => Heap.lt_size (N p (.tail _ hp)).1
  have F1 := F.push (tupO [v])
  have N1 := N.push F (tupO [v])
  refine codeAny_of_tree ?_
  show wpAny _ _ (callAny (.ref mw) _) _ _ _
  refine nd_load hm ?_
  show wpAny _ _ (checkBoundCall "Exception.__init__" ⟨[.ref x, v], []⟩ >>= _) _ _ _
  refine wpAny_bind (bound_exc_init X I _ ?_)
  refine wpAny_pure (And.intro (Code.quiet_builtin _ (by decide +kernel)) (codeAny_builtin PySem.F.excCall_Exception.initEntry ?_))
  unfold Builtin.«BaseException.__init__»
  dsimp only
  rw [if_neg (by decide)]
  unfold newTuple Builtin.BaseException.bexcPut
  have hx1 : (hh.push (tupO [v])).get? x = some (excX t none) := Heap.get?_push_of_some _ hx
  have h6 : 0 < (#[.ref t, .none, .none, .none, .bool false, .none] : Array Value).size := by show 0 < 6; decide
  refine wpAny_bind (wpAny_newObj_type (wpAny_bind (wpAny_bind (wpAny_field hx1 rfl (x := .ref t) rfl (wpAny_bind (wpAny_setField hx1 rfl h6 ?_))))) (by show [v].toArray.size ≤ sizeLine; rw [List.size_toArray, sizeLine_eq]; simp))
  refine wpAny_letGo (wpAny_pure ?_)
  obtain ⟨F2, N2⟩ := news_upd (pre := [(hh.objs.size, tupO [v])]) (d := x) (post := rest) (f := Obj.mapFields (·.setIfInBounds 0 (.ref hh.objs.size))) (o' := excX hh.objs.size none) F1 N1 (by simp; exact Ne.symm (Nat.ne_of_lt lx)) hr rfl rfl
  exact h hh.objs.size _ lx lr F2 N2
end
/-! QFau -/
section
section
variable {w : World} {A : Around} {E : Value → Shared → Prop} {s : Shared} {h₀ : Heap} {L : Addr} {m : Str → Option Value} {news : List (Addr × Obj)}
theorem ksb_method {so D x C : Addr} {odx : Option Obj} {ox : Obj} {name : Str} {pl : Sem Bool} {Q : Value × List Value → Shared → Prop} (F : Fr h₀ L s.heap m) (X₀ : (hd.heap_1 w.params).In h₀) (N : News h₀ L s.heap news) (hso : (so, ks_superObj D x C) ∈ news) (I : InstAt s.heap x ox C odx) (ho : nsIn (hd.heap_1 w.params) cStatics "thirdparty.any" = some none)
    (hC : C = 76) (hm : ks_superIn (hd.heap_1 w.params) C D name = some (some (.builtin "Exception.__init__"))) (hn : (name == ("__class__" : Str)) = false)
    (h : ∀ q h', Fr h₀ L h' m → News h₀ L h' ((q, mwO x) :: news) → (∀ p ∈ news, p.1 < q) → Q (.ref q, []) { s with heap := h', toks := s.toks + 1 }) : wpAny (model PR w) A (getMethod (.ref so) name pl) Q E s := by
  have X : (hd.heap_1 w.params).In s.heap := X₀.keeps F.keep
  obtain ⟨hh, g, d, t, os⟩ := s
  subst hC
  cases hc : clsIn (hd.heap_1 w.params) 76 with
  | none => unfold ks_superIn at hm; rw [hc] at hm; cases hm
  | some cd =>
  unfold ks_superIn at hm
  rw [hc] at hm
  refine getMethod_super_b X (N _ hso).1 (looks_opaque X ho) (l₀ := cd.mro) ?_ rfl hm I.at_ I.cls (ks_ne X I hc) hn ?_
  · exact fun A Q E s k q => wpAny_bind ((looks_clsIn X hc) A _ E s k (wpAny_pure q))
  · obtain ⟨F', N', l'⟩ := ks_newsPush (s := ⟨hh, g, d, t, os⟩) (o := mwO x) F N rfl (Heap.get?_push_at rfl rfl) (fun b o e => Heap.get?_push_of_some _ e)
    exact h _ _ F' N' l'
noncomputable def MwAt (x u : Addr) (h : Heap) : Prop := h.get? u = some (mwO x)
theorem mwAt {x u : Addr} {h : Heap} (N : News h₀ L h news) (hm : (u, mwO x) ∈ news) : MwAt x u h := (N _ hm).1
theorem mwstop {x u : Addr} {h : Heap} {P : Prop} (N : News h₀ L h news) (hm : (u, mwO x) ∈ news) (k : Stuck P) : P := k
theorem inst_exc0 {C t x : Addr} {h : Heap} (N : News h₀ L h news) (hm : (x, excO C t) ∈ news) : InstAt h x (excO C t) C none := ⟨(N _ hm).1, rfl, rfl, True.intro⟩
theorem callWith_mwf {M : Model} {pos : Pos} {x u : Addr} {first : List Value} {args : List (Bool × Sem Value)} {Q : Value → Shared → Prop} (hplain : args.any (·.1) = false)
    (h : wpAny M A (evalArgs (.ref u) true args []) (fun y s₁ => MwAt x u s₁.heap ∧ wpAny M A (call (.ref u) (first ++ y.pos) y.kw) Q E s₁) E s) : wpAny M A (callWith pos (.ref u) first args []) Q E s := by
  unfold callWith
  refine wpAny_bind (wpAny_holding (wpAny_mono h (fun y s₁ h₁ => wpAny_bind (wpAny_standAt ?_)) fun _ _ x => x))
  obtain ⟨ho, hcall⟩ := h₁
  simp only [hplain, List.any_nil, Bool.or_false]
  refine wpAny_bind (m := keeperOf (.ref u)) ?_
  unfold keeperOf
  refine wpAny_bind (wpAny_load ho ?_)
  simp only [show (Value.type "method-wrapper" != Value.type "method") = true by decide, show (Value.type "method-wrapper" == Value.type "builtin_function_or_method" || Value.type "method-wrapper" == Value.type "method-wrapper") = true by decide, if_true]
  refine wpAny_pure ?_
  exact wpAny_bind (wpAny_mono hcall (fun r s₂ hr => wpAny_bind (wpAny_holding (wpAny_point (wpAny_pure hr)))) fun _ _ x => x)
theorem callWith_mw {M : Model} {pos : Pos} {x u : Addr} {first : List Value} {env : Env} {e : Expr} {rest : List Expr} {Q : Value → Shared → Prop} (_N : News h₀ L s.heap news) (_hm : (u, mwO x) ∈ news)
    (h : wpAny M A (spliced (backTo pos (starEach (e :: rest) env))) (fun vs s₁ => MwAt x u s₁.heap ∧ wpAny M A (call (.ref u) (first ++ vs)) Q E s₁) E s)
    (he : starEach (e :: rest) env = (false, eval e env) :: starEach rest env := by rfl) (hplain : (backTo pos (starEach rest env)).any (·.1) = false := by rfl) :
    wpAny M A (callWith pos (.ref u) first (backTo pos (starEach (e :: rest) env)) []) Q E s := by
  rw [he] at h ⊢
  refine callWith_mwf (x := x) (by show (false || (backTo pos (starEach rest env)).any (·.1)) = false; rw [hplain]; rfl) ?_
  exact evalArgs_plain h
theorem in_of {K : Frag} {h : Heap} (F : Fr h₀ L h m) (X : K.In h₀) : K.In h := X.keeps F.keep
theorem set_exc0 {x t : Addr} {rest : List (Addr × Obj)} {name : Str} {v : Value} {Q : Unit → Shared → Prop} (F : Fr h₀ L s.heap m) (X₀ : (hd.heap_1 w.params).In h₀) (N : News h₀ L s.heap ((x, excX t none) :: rest))
    (ht : takerIn (hd.heap_1 w.params) 76 name = some none) (hr : ∀ p ∈ rest, p.1 ≠ x)
    (h : ∀ dx h' tk', x < dx → (∀ p ∈ rest, p.1 < dx) → Fr h₀ L h' m → News h₀ L h' ((dx, dictOf [{ hash := PyData.keyHash w.params name, key := .str name tk', val := v }] 1) :: (x, excX t (some dx)) :: rest) → Q () { s with heap := h', toks := s.toks + 1 + 1 }) :
    wpAny (model PR w) A (setAttr (.ref x) name v) Q E s := by
  have X := in_of F X₀
  have I : InstAt s.heap x (excX t none) 76 none := ⟨(N _ (.head _)).1, rfl, rfl, True.intro⟩
  refine set_plain X I (setattr76 w) ?_
  exact exc_store0 (s := { s with toks := s.toks + 1 }) F N X ht hr fun dx h' tk' k1 k2 k3 k4 => h dx h' tk' k1 k2 k3 k4
theorem set_exc1 {x t dx : Addr} {rest : List (Addr × Obj)} {name : Str} {v : Value} {e0 : DictEntry} {Q : Unit → Shared → Prop} (F : Fr h₀ L s.heap m) (X₀ : (hd.heap_1 w.params).In h₀) (N : News h₀ L s.heap ((dx, dictOf [e0] 1) :: (x, excX t (some dx)) :: rest))
    (ht : takerIn (hd.heap_1 w.params) 76 name = some none) (hr : ∀ p ∈ rest, p.1 ≠ dx) (hxd : x ≠ dx) {n0 : Str} {k0 : Tok} (hk0 : e0.key = .str n0 k0) (hput : ∀ tk', Obj.putName name (PyData.keyHash w.params name) (.str name tk') v (dictOf [e0] 1) = dictOf [e0, { hash := PyData.keyHash w.params name, key := .str name tk', val := v }] 2)
    (h : ∀ h' tk', Fr h₀ L h' m → News h₀ L h' ((dx, dictOf [e0, { hash := PyData.keyHash w.params name, key := .str name tk', val := v }] 2) :: (x, excX t (some dx)) :: rest) → Q () { s with heap := h', toks := s.toks + 1 + 1 }) :
    wpAny (model PR w) A (setAttr (.ref x) name v) Q E s := by
  have X := in_of F X₀
  have I : InstAt s.heap x (excX t (some dx)) 76 (some (dictOf [e0] 1)) := ⟨(N _ (.tail _ (.head _))).1, rfl, rfl, (N _ (.head _)).1⟩
  refine set_plain X I (setattr76 w) ?_
  exact exc_store1 (s := { s with toks := s.toks + 1 }) F N X ht hr hxd hk0 hput fun h' tk' k3 k4 => h h' tk' k3 k4
end
theorem far_mw {t x q : Addr} {o : Obj} {rest : List (Addr × Obj)} (h1 : t < x) (h2 : x < q) (h3 : ∀ p ∈ rest, p.1 < t) : ∀ p ∈ (q, o) :: rest, p.1 ≠ x := fun p hp => by
  rcases List.mem_cons.mp hp with rfl | hp
  · exact Nat.ne_of_gt h2
  · exact Nat.ne_of_lt (Nat.lt_trans (h3 p hp) h1)
noncomputable def faultD (w : World) (dx : Addr) (what : Str) (k1 t1 : Tok) (p : Int) (k2 t2 : Tok) : Addr × Obj :=
  (dx, dictOf [{ hash := PyData.keyHash w.params (Str.ofString "what"), key := .str (Str.ofString "what") k1, val := .str what t1 }, { hash := PyData.keyHash w.params (Str.ofString "spot"), key := .str (Str.ofString "spot") k2, val := .int p t2 }] 2)
/-- r is a fresh SyntaxFault with this what and this spot -/
noncomputable def Fault (w : World) (what : Str) (p : Int) (base : List (Addr × Obj)) (r : Value) (news' : List (Addr × Obj)) : Prop :=
  ∃ e t dx k1 t1 k2 t2, r = .ref e ∧ e < dx ∧ (∀ y ∈ base, y.1 < e) ∧ news' = faultD w dx what k1 t1 p k2 t2 :: (e, excX t (some dx)) :: base
theorem elF {w : World} {what : Str} {p : Int} {base : List (Addr × Obj)} (P : Value → List (Addr × Obj) → Prop) (k : ∀ e t dx k1 t1 k2 t2, e < dx → (∀ y ∈ base, y.1 < e) → P (.ref e) (faultD w dx what k1 t1 p k2 t2 :: (e, excX t (some dx)) :: base)) (r : Value) (n : List (Addr × Obj)) (h : Fault w what p base r n) : P r n :=
  let ⟨e, t, dx, k1, t1, k2, t2, h1, a, b, h2⟩ := h
  h1 ▸ h2 ▸ k e t dx k1 t1 k2 t2 a b
local macro_rules | `(tactic| k_inst) => `(tactic| walk_at "k_inst")
theorem setFau : True := by
  k_with_none
  (k_with "k_inst" => exact inst_exc0 (by k_asm) (by k_mem))
  (k_with "execs cons" => first | (k_here; k_made; walk_at "execs cons") | (k_here; (with_reducible refine wpAny_execs_cons ?_); (try dsimp only); (try (with_reducible refine anyTok ?_); intro tk9); (try k_fold)))
  (k_with "ksenter" => (refine' ks_code_super (by k_asm) (by k_asm) (by k_asm) (by k_asm) (by k_asm) (by exact rfl) (by exact rfl) (by assumption) (by k_is) (by k_is) (by k_room) (by exact BindsTo.of_eq rfl) (by exact locs rfl) ?_ (by decide) (by exact rfl) (by exact rfl) (by exact rfl); intro g' L' h' FG' F' N' B' X' T' l1; (try k_lt l1); (try dsimp only); (try k_lift B')))
  (k_with "And" => ((with_reducible show MwAt _ _ _ ∧ _); refine ⟨mwAt (by k_asm) (by k_mem), ?_⟩; (try dsimp only [List.nil_append, List.cons_append])))
  (k_with "call ref" => (k_here; refine mwstop (by k_asm) (by k_mem) ?_))
  (k_with "callWith ref" => (k_here; (with_reducible show wpAny _ _ (callWith _ (Value.ref _) _ (backTo _ (starEach (_ :: _) _)) []) _ _ _); k_dflt (refine' callWith_mw (by k_asm) (by k_mem) ?_; k_whole)))
  (k_with "setAttr ref" => (k_here; refine stuck ?_))
  trivial
theorem fault_says (w : World) (what : Str) (tw : Tok) (p : Int) (tp : Tok) (rest : List (Addr × Obj)) : Says w 920 920 76 [.str what tw, .int p tp] rest (Fault w what p rest) := by
  intro mean mg mb gd cn cs a ccd cl outer A₀ base h₀ L m hS gS dS oS tS Q E HA F N hret
  obtain ⟨B9, X9, T9, hk9⟩ := HA
  refine wpAny_call ?_
  refine exc_make (X9.keeps F.keep) ?_
  have F1 := (F.push (tupO [.str what tw, .int p tp])).push (excO 76 hS.objs.size)
  have N1 := (N.push F (tupO [.str what tw, .int p tp])).push (F.push (tupO [.str what tw, .int p tp])) (excO 76 hS.objs.size)
  rw [Heap.size_push] at N1
  have l2 : ∀ p ∈ rest, p.1 < hS.objs.size := fun p hp => Heap.lt_size (N p hp).1
  clear F N
  try dsimp only at F1 N1 l2
  generalize hx9 : hS.objs.size + 1 = x9 at *
  have hxt : hS.objs.size < x9 := by rw [← hx9]; exact Nat.lt_succ_self _
  generalize hS.objs.size = t9 at *
  clear hx9
  walk_at "ksenter"
  k_steps
  refine' ksb_method ?F ?X ?N ?so ?I ?ho ?hC ?hm ?hn ?_
  case F => k_asm
  case X => k_asm
  case N => k_asm
  case so => k_mem
  case I => k_inst
  case ho => k_is
  case hC => rfl
  case hm => kernel_rfl
  case hn => decide
  intro q' h' F' N' l1
  (try k_lt l1)
  dsimp only
  k_steps
  case refine_1 => exact mwAt (by k_asm) (by k_mem)
  unfold Stuck
  refine wpAny_call ?_
  refine' exc_init ?X (x := x9) (t := t9) (rest := (q', mwO x9) :: rest) ?F ?N ?hm ?hr ?_
  case X => exact in_of F' (by assumption)
  case F => k_asm
  case N => exact fun p hp => N' p (by
    simp only [List.mem_cons] at hp ⊢
    rcases hp with hp | hp | hp <;> simp [hp])
  case hm => exact List.mem_cons_self
  case hr => exact far_mw hxt l1.2.2.2.1 l2
  intro t1 h1 k1 k2 F1 N1
  clear F' N' l1 k2
  k_steps
  unfold Stuck
  refine' set_exc0 ?F ?X (x := x9) (t := t1) (rest := rest) ?N ?ht ?hr ?_
  case F => k_asm
  case X => k_asm
  case N => exact fun p hp => N1 p (by
    simp only [List.mem_cons] at hp ⊢
    rcases hp with hp | hp <;> simp [hp])
  case ht => exact taker_what w
  case hr => exact fun p hp => Nat.ne_of_lt (Nat.lt_trans (l2 p hp) hxt)
  intro dx h2 k2 l3 l4 F2 N2
  clear F1 N1
  k_steps
  unfold Stuck
  refine' set_exc1 ?F ?X (x := x9) (t := t1) (dx := dx) (rest := rest) (e0 := { hash := PyData.keyHash w.params (Str.ofString "what"), key := .str (Str.ofString "what") k2, val := .str what tw }) ?N ?ht ?hr ?hxd (n0 := Str.ofString "what") (k0 := k2) ?hk0 ?hput ?_
  case F => k_asm
  case X => k_asm
  case N => k_asm
  case ht => exact taker_spot w
  case hr => exact fun p hp => Nat.ne_of_lt (l4 p hp)
  case hxd => exact Nat.ne_of_lt l3
  case hk0 => rfl
  case hput => intro _; rfl
  intro h3 k3 F3 N3
  clear F2 N2
  k_steps
  exact hret _ _ _ _ (by k_asm) (by k_asm) ⟨x9, t1, dx, _, _, _, _, rfl, l3, fun y hy => Nat.lt_trans (l2 y hy) hxt, rfl⟩
end
/-! QFly -/
theorem dict_mapF (o : Obj) (f : Array Value → Array Value) : (o.mapFields f).dict = o.dict := by
  obtain ⟨c, d, dt, sl⟩ := o; cases dt <;> rfl
/-- e is a fault with the dict dx, its newest traceback has this mark -/
noncomputable def Trc (base : Heap) (e dx : Addr) (fl : Value) (h : Heap) : Prop :=
  ∃ oe vs T oT ts, h.get? e = some oe ∧ (oe.cls = .ref 76 ∧ oe.dict = some dx) ∧ oe.data = .fields vs ∧ vs[1]? = some (.ref T) ∧ base.get? T = none ∧ T ≠ e ∧ h.get? T = some oT ∧ oT.data = .fields ts ∧ ts[3]? = some fl
noncomputable def FlyD (base : Heap) (l : List Env) (e dx : Addr) (fl : Value) (h : Heap) : Prop :=
  base.StaysIn h ∧ base.get? e = none ∧ h.FunFrames base l ∧ Trc base e dx fl h
theorem FlyD.obj {base h : Heap} {l : List Env} {e dx : Addr} {fl : Value} (x : FlyD base l e dx fl h) : ∃ oe vs, h.get? e = some oe ∧ oe.cls = .ref 76 ∧ oe.dict = some dx ∧ oe.data = .fields vs := by
  obtain ⟨_, _, _, oe, vs, _, _, _, he, hc, hd, _⟩ := x
  exact ⟨oe, vs, he, hc.1, hc.2, hd⟩
section
variable {M : Model} {A : Around} {E : Value → Shared → Prop} {s : Shared} {base : Heap} {env : Env} {outer : List Env} {L e dx : Addr}
theorem fresh_apart {h : Heap} (hl : h.FunFrames base outer) {oe : Obj} {vs : Array Value} (he : h.get? e = some oe) (hd : oe.data = .fields vs) : e ∉ outer.filterMap (·.frame) := fun hm => by
  obtain ⟨_, o, ho, hn⟩ := hl.mem hm
  rw [he] at ho
  cases ho
  exact hn vs hd
/-- a traceback is put before e's -/
theorem d_entry {oe : Obj} {vs : Array Value} {head : Value} {hadNext : Bool} {Q : Unit → Shared → Prop} (hfr : A.frames = some (env :: outer)) (hl : s.heap.FunFrames base (env :: outer)) (hf : env.frame = some L)
    (he : s.heap.get? e = some oe) (hkb : base.StaysIn s.heap) (hen : base.get? e = none) (hd : oe.data = .fields vs) (hsz : 1 < vs.size) (hc : oe.cls = .ref 76 ∧ oe.dict = some dx)
    (h : ∀ h', FlyD base (env :: outer) e dx (rawInt L) h' → s.heap.UpToSlots h' → Q () { s with heap := h' }) :
    wpAny M A (do let a ← frameOf env; let pl ← entryPlaceOf L hadNext; let b ← EntryCells.newEntry head a .none (rawInt L) .none pl; setField (.ref e) 1 b) Q E s := by
  have hene := fresh_apart hl he hd
  refine wpAny_bind (wpAny_frameOf_fun hfr hl hf fun h₁ hs₁ => ?_)
  obtain ⟨_, same, upto⟩ := hs₁
  refine wpAny_bind (wpAny_entryPlaceOf fun pl hpl => ?_)
  unfold EntryCells.newEntry newFields
  refine wpAny_bind (wpAny_newObj_type ?_ (hpl.sizeOk5 _ _ _ _ _))
  have e1 : h₁.get? e = some oe := (same e hene).trans he
  refine wpAny_setField (Heap.get?_push_of_some _ e1) hd hsz (h _ ?_ ?_)
  all_goals
    have h3 : (([head, .ref L, .none, rawInt L, .none] ++ (if pl.isEmpty then List.replicate 6 Value.none else pl)).toArray)[3]? = some (rawInt L) := by
      first | (simp; done) | (rcases hpl with rfl | ⟨_, _, _, _, _, _, _, rfl⟩ <;> simp)
    generalize ([head, .ref L, .none, rawInt L, .none] ++ (if pl.isEmpty then List.replicate 6 Value.none else pl)).toArray = fs at h3 ⊢
    have b1 : base.StaysIn h₁ := fun b o q => (same b fun hm => by rw [(hl.mem hm).1] at q; cases q).trans (hkb b o q)
    have nT : h₁.objs.size ≠ e := Nat.ne_of_gt (Heap.lt_size e1)
    have pe := Heap.get?_push_of_some (h := h₁) { cls := .type "traceback", dict := none, data := .fields fs } e1
    have de := Obj.data_mapFields hd (·.setIfInBounds 1 (Value.ref h₁.objs.size))
    have keep : ∀ b o, b ≠ e → h₁.get? b = some o → ((h₁.push { cls := .type "traceback", dict := none, data := .fields fs }).update e (Obj.mapFields (·.setIfInBounds 1 (Value.ref h₁.objs.size)))).get? b = some o := fun b o q hb => by
      rw [Heap.get?_update_other _ _ (Ne.symm q)]
      exact Heap.get?_push_of_some _ hb
    have off : ∀ b o, s.heap.get? b = some o → (∀ vs, o.data ≠ .fields vs) → b ≠ e := fun b o hb hn q => by
      rw [q, he] at hb
      cases hb
      exact hn vs hd
  · refine ⟨fun b o q => keep b o (fun z => by rw [z, hen] at q; cases q) (b1 b o q), hen, hl.of_keeps fun b o hb hn => ?_, ?_⟩
    · obtain ⟨sl, hs⟩ := upto b o hb
      exact ⟨_, keep b _ (off b o hb hn) hs, rfl⟩
    · exact ⟨_, _, h₁.objs.size, _, fs, Heap.get?_update_self _ pe (Obj.isFreed_of_fields de), ⟨(Obj.cls_mapFields _ _).trans hc.1, (dict_mapF _ _).trans hc.2⟩, de, by simp [hsz], b1.fresh, nT,
        (Heap.get?_update_other _ _ (Ne.symm nT)).trans (Heap.get?_push_size h₁ rfl), rfl, h3⟩
  · intro b o hb hn
    obtain ⟨sl, hs⟩ := upto b o hb
    exact ⟨sl, keep b _ (off b o hb hn) hs⟩
theorem d_calm {l : List Env} {fl : Value} {Q : Unit → Shared → Prop} (hy : FlyD base l e dx fl s.heap)
    (h : ∀ h', FlyD base l e dx .none h' → s.heap.UpToSlots h' → Q () { s with heap := h' }) : wpAny M A (setFlight (.ref e) none) Q E s := by
  obtain ⟨hb, hen, hl, oe, vs, T, oT, ts, he, hc, hd, h1, nT, Te, hT, dT, h3⟩ := hy
  have s3 : 3 < ts.size := (Array.getElem?_eq_some_iff.mp h3).1
  have other : ∀ b, b ≠ T → (s.heap.update T (Obj.mapFields (·.setIfInBounds 3 ((none : Option Addr).elim Value.none fun f => rawInt f)))).get? b = s.heap.get? b := fun b q => Heap.get?_update_other _ _ (Ne.symm q)
  have off : ∀ b o, s.heap.get? b = some o → (∀ vs, o.data ≠ .fields vs) → b ≠ T := fun b o q hn z => by
    rw [z, hT] at q
    cases q
    exact hn ts dT
  unfold setFlight
  refine wpAny_bind (wpAny_field he hd h1 ?_)
  rw [if_pos (show (Value.ref T != Value.none) = true from by simp)]
  refine wpAny_setField hT dT s3 (h _ ⟨fun b o q => (other b fun z => by rw [z, nT] at q; cases q).trans (hb b o q), hen, hl.of_keeps fun b o q hn => ⟨o, (other b (off b o q hn)).trans q, rfl⟩, ?_⟩ fun b o q hn => ⟨o.slots, (other b (off b o q hn)).trans q⟩)
  exact ⟨oe, vs, T, _, _, (other e (Ne.symm Te)).trans he, hc, hd, h1, nT, Te, Heap.get?_update_self _ hT (Obj.isFreed_of_fields (Obj.data_mapFields dT _)), Obj.data_mapFields dT _, by simp [s3]⟩
theorem d_first {oe : Obj} {vs : Array Value} {Q : Unit → Shared → Prop} (hfr : A.frames = some (env :: outer)) (hl : s.heap.FunFrames base (env :: outer)) (hf : env.frame = some L)
    (he : s.heap.get? e = some oe) (hkb : base.StaysIn s.heap) (hen : base.get? e = none) (hd : oe.data = .fields vs) (h1 : vs[1]? = some .none) (hc : oe.cls = .ref 76 ∧ oe.dict = some dx)
    (h : ∀ h', FlyD base (env :: outer) e dx (rawInt L) h' → s.heap.UpToSlots h' → Q () { s with heap := h' }) : wpAny M A (noteFrame (.ref e) env) Q E s := by
  unfold noteFrame
  simp only [hf]
  refine wpAny_bind (wpAny_field he hd h1 ?_)
  rw [if_neg (by decide)]
  exact d_entry hfr hl hf he hkb hen hd (Array.getElem?_eq_some_iff.mp h1).1 hc h
theorem d_next {Q : Unit → Shared → Prop} (hfr : A.frames = some (env :: outer)) (hf : env.frame = some L) (hy : FlyD base (env :: outer) e dx .none s.heap)
    (h : ∀ h', FlyD base (env :: outer) e dx (rawInt L) h' → s.heap.UpToSlots h' → Q () { s with heap := h' }) : wpAny M A (noteFrame (.ref e) env) Q E s := by
  obtain ⟨hb, hen, hl, oe, vs, T, oT, ts, he, hc, hd, h1, nT, Te, hT, dT, h3⟩ := hy
  unfold noteFrame
  simp only [hf]
  refine wpAny_bind (wpAny_field he hd h1 ?_)
  rw [if_pos (show (Value.ref T != Value.none) = true from by simp)]
  refine wpAny_bind (wpAny_field hT dT h3 ?_)
  rw [if_neg (show ¬ ((Value.none == rawInt L) = true) from by simp [rawInt])]
  refine wpAny_bind (wpAny_setField hT dT (Array.getElem?_eq_some_iff.mp h3).1 ?_)
  have other : ∀ b, b ≠ T → (s.heap.update T (Obj.mapFields (·.setIfInBounds 3 Value.none))).get? b = s.heap.get? b := fun b q => Heap.get?_update_other _ _ (Ne.symm q)
  have off : ∀ b o, s.heap.get? b = some o → (∀ vs, o.data ≠ .fields vs) → b ≠ T := fun b o q hn z => by
    rw [z, hT] at q
    cases q
    exact hn ts dT
  refine d_entry hfr (hl.of_keeps fun b o q hn => ⟨o, (other b (off b o q hn)).trans q, rfl⟩) hf ((other e (Ne.symm Te)).trans he) (fun b o q => (other b fun z => by rw [z, nT] at q; cases q).trans (hb b o q)) hen hd (Array.getElem?_eq_some_iff.mp h1).1 hc
    fun h' x1 x2 => h h' x1 fun b o q hn => x2 b o ((other b (off b o q hn)).trans q) hn
theorem FlyD.pop {h : Heap} {fl : Value} (x : FlyD base (env :: outer) e dx fl h) : FlyD base outer e dx fl h := ⟨x.1, x.2.1, x.2.2.1.2.2, x.2.2.2⟩
end
/-- the fault e flies: below the frames l, with this ledger; what G holds besides the frames is as it was -/
noncomputable def RaisedD (base G : Heap) (l : List Env) (e dx : Addr) (news : List (Addr × Obj)) (h : Heap) : Prop :=
  ∃ B, base.StaysIn B ∧ (∀ b o, G.get? b = some o → b ∉ l.filterMap (·.frame) → B.get? b = some o) ∧ (∀ q ∈ news, B.get? q.1 = some q.2 ∧ G.get? q.1 = none ∧ base.get? q.1 = none) ∧ FlyD B l e dx .none h
section
variable {M : Model} {A : Around} {E : Value → Shared → Prop} {s' : Shared} {base g g₂ h : Heap} {outer : List Env} {L a e t dx : Addr} {m : Str → Option Value} {name : Str} {scope : Scope} {cd : Value} {Q : Unit → Shared → Prop} {news : List (Addr × Obj)}
theorem leave_raiseD (K : Below A base outer g) (F : Fr g L s'.heap m) (N : News g L s'.heap ((e, excX t (some dx)) :: news)) (hne : ∀ p ∈ news, p.1 ≠ e)
    (hQ : ∀ h', RaisedD base g outer e dx news h' → g.UpToSlots h' → Q () { s' with heap := h' }) (hk : scope.kind = .function := by rfl) :
    wpAny M (A.deeper (envOf name scope L a cd)) (leaving (envOf name scope L a cd) (.ref e)) Q E s' := by
  have K' := K.push (name := name) (a := a) (cd := cd) F hk
  have he := (N _ (.head _)).1
  have hge : g.get? e = none := (N _ (.head _)).2.2
  have hap : e ∉ (envOf name scope L a cd :: outer).filterMap (·.frame) := fresh_apart K'.frames he rfl
  have hin : ∀ env ∈ (envOf name scope L a cd :: outer), ∀ b, env.frame = some b → b ∈ e :: (envOf name scope L a cd :: outer).filterMap (·.frame) := fun env he b hb => .tail _ (List.mem_filterMap.mpr ⟨env, he, hb⟩)
  have st : base.StaysIn (hideAll s'.heap (e :: (envOf name scope L a cd :: outer).filterMap (·.frame))) := fun b o q => hideAll_get _ (K'.stays b o q) fun hm => by
    rcases List.mem_cons.mp hm with z | hm
    · rw [z, fresh_of_stays K.stays hge] at q; cases q
    · rw [(K'.frames.mem hm).1] at q; cases q
  have sg : ∀ b o, g.get? b = some o → b ∉ outer.filterMap (·.frame) → (hideAll s'.heap (e :: (envOf name scope L a cd :: outer).filterMap (·.frame))).get? b = some o := fun b o q nm => hideAll_get _ (F.keep b o q) fun hm => by
    rcases List.mem_cons.mp hm with z | hm
    · rw [z, hge] at q; cases q
    · rcases kts_mem hm with z | z
      · rw [z, kts_self F] at q
        cases q
      · exact nm z
  have hl : ∀ q ∈ news, (hideAll s'.heap (e :: (envOf name scope L a cd :: outer).filterMap (·.frame))).get? q.1 = some q.2 ∧ g.get? q.1 = none ∧ base.get? q.1 = none := fun q hq => by
    have Nq := N q (.tail _ hq)
    refine ⟨hideAll_get _ Nq.1 fun hm => ?_, Nq.2.2, fresh_of_stays K.stays Nq.2.2⟩
    rcases List.mem_cons.mp hm with z | hm
    · exact hne q hq z
    · obtain ⟨env, he, hf⟩ := List.mem_filterMap.mp hm
      rcases List.mem_cons.mp he with rfl | he
      · exact Nq.2.1 (Option.some.inj hf).symm
      · obtain ⟨o, ho, _⟩ := (K.frames.mem (List.mem_filterMap.mpr ⟨env, he, hf⟩)).2
        rw [Nq.2.2] at ho; cases ho
  unfold leaving
  refine wpAny_bind (d_first (dx := dx) K'.stack (funFrames_hide K'.frames hin) rfl he (fun b o q => of_hideAll _ q) (hideAll_none _ (.head _)) rfl rfl ⟨rfl, rfl⟩ fun h₁ y₁ u₁ => ?_)
  refine d_calm y₁ fun h₂ y₂ u₂ => ?_
  exact hQ h₂ ⟨_, st, sg, hl, y₂.pop⟩ ((Heap.UpToSlots.of_keeps F.keep).trans (u₁.trans u₂))
theorem leave_onD (K : Below A base outer g) (F : Fr g L g₂ m) (R : RaisedD base g₂ (envOf name scope L a cd :: outer) e dx news s'.heap) (hsm : g₂.UpToSlots s'.heap)
    (hQ : ∀ h', RaisedD base g outer e dx news h' → g.UpToSlots h' → Q () { s' with heap := h' }) :
    wpAny M (A.deeper (envOf name scope L a cd)) (leaving (envOf name scope L a cd) (.ref e)) Q E s' := by
  obtain ⟨B, hB, hBG, hl, hfl⟩ := R
  unfold leaving
  refine wpAny_bind (d_next (Around.frames_deeper K.stack) rfl hfl fun h₁ y₁ u₁ => ?_)
  refine d_calm y₁ fun h₂ y₂ u₂ => ?_
  refine hQ h₂ ⟨B, hB, fun b o q nm => hBG b o (F.keep b o q) (fun hm => ?_), fun q hq => ⟨(hl q hq).1, kts_none F.keep (hl q hq).2.1, (hl q hq).2.2⟩, y₂.pop⟩ ((Heap.UpToSlots.of_keeps F.keep).trans (hsm.trans (u₁.trans u₂)))
  rcases kts_mem hm with z | z
  · rw [z, kts_self F] at q
    cases q
  · exact nm z
end
/-! QCat -/
theorem kts76 (w : World) : ktsIn (hd.heap_1 w.params) 76 "BaseException" = true := by kernel_rfl
section
variable {w : World} {A₀ : Around} {E : Value → Shared → Prop} {s' : Shared} {base g g₀ G : Heap} {outer : List Env} {L a e t dx : Addr} {m : Str → Option Value} {name : Str} {scope : Scope} {cd : Value}
  {n : Str} {b₀ : Stmt} {suite : List Stmt} {pos np : Pos} {rest : List ExceptHandler} {Q : Flow → Shared → Prop} {news : List (Addr × Obj)}
  {loose : List Str} {mean : ExcName → Option Value} {mg mb : Str → Option Value} {x y : Str}
theorem caught_D {p : Program} (R : RaisedD base G (envOf name scope L a cd :: outer) e dx news s'.heap) (F : Fr g L G m) (K : Below A₀ base outer g) (hsm : G.UpToSlots s'.heap) (XB : (hd.heap_1 w.params).In base) (TB : Top p loose mean mg mb base)
    (D : KtsDicts (outer.filterMap (·.frame)) g) (T0 : KtsTurn (outer.filterMap (·.frame)) g₀ g)
    (ex : nsIn (hd.heap_1 w.params) mainGlobals x = some (some (.ref 76)))
    (k : ∀ h' g' tk oe vs, KtsTurn (outer.filterMap (·.frame)) g₀ g' → Fr g' L h' (fun y => if y = n then some (.ref e) else m y) → oe.cls = .ref 76 → oe.dict = some dx → oe.data = .fields vs → News g' L h' ((e, oe) :: news) → Below A₀ base outer g' → (hd.heap_1 w.params).In g' → Top p loose mean mg mb g' → KtsDicts (outer.filterMap (·.frame)) g' →
      wpAny (model PR w) ((A₀.deeper (envOf name scope L a cd)).mark (some (.ref e))) (execs (b₀ :: suite) (envOf name scope L a cd))
        (fun f s₄ => wpAny (model PR w) (A₀.deeper (envOf name scope L a cd)) (do bindName (envOf name scope L a cd) n .none; unbindBehindTheSuite (envOf name scope L a cd) n pos) (fun _ s₅ => Q f s₅) E s₄)
        (AsSuiteRaised (model PR w) ((A₀.deeper (envOf name scope L a cd)).mark (some (.ref e))) (envOf name scope L a cd) n pos (notedBy (model PR w) ((A₀.deeper (envOf name scope L a cd)).mark (some (.ref e))) (envOf name scope L a cd) (cameBackBy (model PR w) (A₀.deeper (envOf name scope L a cd)) (envOf name scope L a cd) E)))
        { s' with heap := h', toks := tk })
    (hk : scope.kind = .function := by rfl) (hlo : (envOf name scope L a cd).kindOf n = some .local := by rfl) (hx : (envOf name scope L a cd).kindOf x = some .globalImplicit := by rfl) (hd : (x == ("__debug__" : Str)) = false := by decide) :
    wpAny (model PR w) (A₀.deeper (envOf name scope L a cd)) (noteFrame (.ref e) (envOf name scope L a cd))
      (fun _ s₂ => wpAny (model PR w) (A₀.deeper (envOf name scope L a cd)) (setFlight (.ref e) none) (fun _ s₃ =>
        wpAny (model PR w) (A₀.deeper (envOf name scope L a cd)) (handleBy (.ref e) (envOf name scope L a cd) (.ExceptHandler (some (.Name x np)) (some n) (b₀ :: suite) pos :: rest)) Q E s₃) E s₂) E s' := by
  obtain ⟨B, hB, hBG, hl, hfl⟩ := R
  have hL : B.get? L = none := by
    obtain ⟨_, ⟨L', _, hf, hn', _⟩, _⟩ := hfl.2.2.1
    obtain rfl : L = L' := Option.some.inj hf
    exact hn'
  refine d_next (Around.frames_deeper K.stack) rfl hfl fun h₄ y₄ u₄ => ?_
  refine d_calm y₄ fun h₅ y₅ u₅ => ?_
  have hsm₅ := hsm.trans (u₄.trans u₅)
  obtain ⟨g₅, T₅, F₅, K₅⟩ := kts_ground K F hBG y₅.1 hsm₅
  have X₅ : (Mine.hd.heap_1 w.params).In g₅ := XB.keeps K₅.stays
  have P₅ : TopRead p loose mg mb g₅ := topRead_of (TB.keeps K₅.stays)
  obtain ⟨ob, _, hob, hobc, _, _⟩ := y₅.obj
  obtain ⟨nm, q', N, bs, bm, hdct, sn, sub, ab, col, dd, k0, k1, k2, k3, k5, newId, hC, hbase, hbT⟩ := kts_cls X₅ (kts76 w)
  have hC₅ := F₅.keep _ _ hC
  refine wpAny_handleBy_cons (codeAny_handlers_test (name_K F₅ X₅ P₅ ex ?_ hk hx hd)) (by intro q; cases q)
  refine wpAny_excMatches_sub_self hC₅ hob hobc hbase (codeAny_handlers_suite_as ?_)
  refine d_calm y₅ fun h₆ y₆ u₆ => ?_
  obtain ⟨g₆, T₆, F₆, K₆⟩ := kts_ground K F hBG y₆.1 (hsm₅.trans u₆)
  obtain ⟨oe, vs, hoe, c1, c2, c3⟩ := y₆.obj
  have ne₆ : g₆.get? e = none := T₆.none_ _ (kts_fresh F hBG y₆.2.1 fun o ho m => by
    obtain ⟨_, o', ho', hd⟩ := K.frames.mem m
    rw [ho] at ho'
    cases ho'
    obtain ⟨sl, hs⟩ := (hsm₅.trans u₆) _ _ (F.keep _ _ ho) hd
    rw [hoe] at hs
    cases hs
    exact hd _ c3)
  have N₆ := News.more F₆ News.nil hoe (fun es n q => by rw [c3] at q; cases q) ne₆
  have Nl : News g₆ L h₆ news := fun q hq => ⟨y₆.1 _ _ (hl q hq).1, (fun z => by have := (hl q hq).1; rw [z, hL] at this; cases this), T₆.none_ _ (kts_none F.keep (hl q hq).2.1)⟩
  have X₆ : (Mine.hd.heap_1 w.params).In g₆ := XB.keeps K₆.stays
  have P₆ : Top p loose mean mg mb g₆ := TB.keeps K₆.stays
  have D₆ : KtsDicts (outer.filterMap (·.frame)) g₆ := D.turn T₆
  refine stN F₆ (news := [(e, oe)] ++ news) (fun q hq => (List.mem_append.mp hq).elim (N₆ q) (Nl q)) (fun h₇ F₇ N₇ => ?_) hk hlo
  exact k h₇ g₆ _ oe vs (T0.trans T₆) F₇ c1 c2 c3 N₇ K₆ X₆ P₆ D₆
theorem raise_D {x : Sem Value} {A : Around} {env : Env} {s : Shared} {P : Flow → Shared → Prop} (hh : A.handled = none)
    (h : wpAny (model PR w) A x (fun v s₁ => ∃ e t od, v = .ref e ∧ (Mine.hd.heap_1 w.params).In s₁.heap ∧ s₁.heap.get? e = some (excX t od) ∧ E (.ref e) s₁) E s) : wpAny (model PR w) A (raiseStmt env (some x) none) P E s := by
  unfold raiseStmt
  refine wpAny_bind (wpAny_mono h (fun v s₁ h₁ => ?_) fun _ _ x => x)
  obtain ⟨e, t, od, rfl, X, he, hE⟩ := h₁
  obtain ⟨hp, g, d, tk, os⟩ := s₁
  have t1 : Looks (model PR w) hp (typeOf (.ref e)) (.ref 76) := (Looks.ld he).andThen .now
  have s1 := looks_subIn (M := model PR w) X (sub_base w)
  have n1 : Looks (model PR w) hp (isType (.ref 76)) true := Looks.of_peek X (by kernel_rfl)
  have t2 : Looks (model PR w) hp (typeOf (.ref 76)) (.type "type") := Looks.of_peek X (by kernel_rfl)
  unfold excFromValue isExcClass isInstance raisedInstance
  repeat (first | (with_reducible refine wpAny_raiseNew_none hh ?_) | lk | wp_step)
  all_goals exact hE
theorem exec_raise_D {x : PySem.Expr} {A : Around} {env : Env} {s : Shared} {P : Flow → Shared → Prop} (hh : A.handled = none)
    (h : wpAny (model PR w) A (eval x env) (fun v s₁ => ∃ e t od, v = .ref e ∧ (Mine.hd.heap_1 w.params).In s₁.heap ∧ s₁.heap.get? e = some (excX t od) ∧ E (.ref e) s₁) E s) : wpAny (model PR w) A (exec (.Raise (some x) none pos) env) P E s := by
  rw [arm_exec_Raise]
  exact wpAny_bind (wpAny_standAt (raise_D hh (wpAny_bind (wpAny_mono h (fun v s1 h1 => wpAny_bind (wpAny_standAt (wpAny_pure h1))) fun _ _ z => z))))
/-- the fault that has just been made leaves its maker -/
theorem fault_leaves {A : Around} {L a e t dx : Addr} {what : Str} {k1 t1 k2 t2 : Tok} {q : Int} {news rest : List (Addr × Obj)} {P : Unit → Shared → Prop} (K : Below A base outer g) (F : Fr g L s'.heap m) (N : News g L s'.heap (faultD w dx what k1 t1 q k2 t2 :: (e, excX t (some dx)) :: news))
    (l1 : e < dx) (l2 : ∀ y ∈ news, y.1 < e) (sub : ∀ p ∈ rest, p ∈ news) (hQ : ∀ h', RaisedD base g outer e dx (faultD w dx what k1 t1 q k2 t2 :: rest) h' → g.UpToSlots h' → P () { s' with heap := h' }) (hk : scope.kind = .function := by rfl) :
    wpAny (model PR w) (A.deeper (envOf name scope L a cd)) (leaving (envOf name scope L a cd) (.ref e)) P E s' := by
  refine leave_raiseD (news := faultD w dx what k1 t1 q k2 t2 :: rest) K F (t := t) (fun p hp => N p ?_) (fun p hp => ?_) hQ hk
  · simp only [List.mem_cons] at hp ⊢
    rcases hp with hp | hp | hp
    · exact .inr (.inl hp)
    · exact .inl hp
    · exact .inr (.inr (sub p hp))
  · rcases List.mem_cons.mp hp with rfl | hp
    · exact Nat.ne_of_gt l1
    · exact Nat.ne_of_lt (l2 p (sub p hp))
end
/-- a call of the def at f with these values raises a fault with the spot q; the ledger rest is as it was -/
noncomputable def Faults (w : World) (D U : Nat) (f : Addr) (vs : List Value) (news rest : List (Addr × Obj)) (q : Int) : Prop :=
  ∀ (mean : ExcName → Option Value) (mg mb : Str → Option Value) (gd : Option (List Code)) (cn : Str) (cs : Scope) (a : Addr) (ccd : Value) (outer : List Env) (A₀ : Around) (base h₀ : Heap) (L : Addr) (m : Str → Option Value) (hS : Heap) (gS : Array GenState) (dS : PySem.Drawn) (oS : OsState) (tS : Nat) (Q E : Value → Shared → Prop),
    At w mean mg mb cs outer A₀ base h₀ → Fr h₀ L hS m → News h₀ L hS news →
    (∀ g e dx what k1 t1 k2 t2 h' tk', Fr h₀ L g m → RaisedD base g (envX cn cs L a ccd [] :: outer) e dx (faultD w dx what k1 t1 q k2 t2 :: rest) h' → g.UpToSlots h' → E (.ref e) ⟨h', gS, dS, tk', oS⟩) →
    wpAny (model PR w) (ktrTop D U gd cn cs L a ccd [] outer) (call (.ref f) vs) Q E ⟨hS, gS, dS, tS, oS⟩
theorem faults_use {w : World} {D U : Nat} {f : Addr} {vs : List Value} {news rest : List (Addr × Obj)} {q : Int} {dp un : Nat} {mean : ExcName → Option Value} {mg mb : Str → Option Value} {gd : Option (List Code)} {cn : Str} {cs : Scope} {a : Addr} {ccd : Value} {outer : List Env} {A₀ : Around} {base h₀ : Heap} {L : Addr} {m : Str → Option Value} {hS : Heap} {gS : Array GenState} {dS : PySem.Drawn} {oS : OsState} {tS : Nat} {Q E : Value → Shared → Prop}
    (F : Fr h₀ L hS m) (N : News h₀ L hS news) (HS : Faults w D U f vs news rest q) (B : Below A₀ base outer h₀) (X : (hd.heap_1 w.params).In h₀) (T : Top vw LS mean mg mb h₀) (hk : cs.kind = .function) (hd : dp ≤ D) (hu : un ≤ U)
    (ret : ∀ g e dx what k1 t1 k2 t2 h' tk', Fr h₀ L g m → RaisedD base g (envX cn cs L a ccd [] :: outer) e dx (faultD w dx what k1 t1 q k2 t2 :: rest) h' → g.UpToSlots h' → E (.ref e) ⟨h', gS, dS, tk', oS⟩) :
    wpAny (model PR w) (ktrTop dp un gd cn cs L a ccd [] outer) (call (.ref f) vs) Q E ⟨hS, gS, dS, tS, oS⟩ :=
  shallower (HS mean mg mb gd cn cs a ccd outer A₀ base h₀ L m hS gS dS oS tS Q E ⟨B, X, T, hk⟩ F N ret) hd hu
theorem RaisedD.sub {base G : Heap} {l : List Env} {e dx : Addr} {news news' : List (Addr × Obj)} {h : Heap} (R : RaisedD base G l e dx news h) (k : ∀ p ∈ news', p ∈ news) : RaisedD base G l e dx news' h :=
  let ⟨B, a, b, c, d⟩ := R
  ⟨B, a, b, fun q hq => c q (k q hq), d⟩
theorem RaisedD.cut {base G : Heap} {l : List Env} {e dx : Addr} {x : Addr × Obj} {news rest : List (Addr × Obj)} {h : Heap} (R : RaisedD base G l e dx (x :: news) h) (k : ∀ p ∈ rest, p ∈ news) : RaisedD base G l e dx (x :: rest) h :=
  R.sub fun p hp => (List.mem_cons.mp hp).elim (fun z => z ▸ .head _) fun z => .tail _ (k p z)
/-! QEndF -/
noncomputable def busy (T : Str) (p : Nat) : Prop := ∃ c, T.cps.toList[p]? = some c ∧ inS SIMP c = true
theorem busy_lt {T : Str} {p : Nat} (h : busy T p) : p < T.length := by
  obtain ⟨c, h, _⟩ := h
  obtain ⟨h, _⟩ := List.getElem?_eq_some_iff.mp h
  simpa [Str.length] using h
theorem busy_ne {T : Str} {p : Nat} (h : busy T p) (h1 : (signAt T (p : Int) != Str.ofString "") = false) : False := by
  obtain ⟨c, h, hc⟩ := h
  rw [sign_some h] at h1
  have : (⟨#[c]⟩ : Str) = Str.ofString "" := by simpa using h1
  have := congrArg Str.length this
  exact absurd this (by rw [show (Str.ofString "").length = 0 by decide +kernel]; simp [Str.length])
theorem busy_in {T : Str} {p : Nat} (h : busy T p) (h2 : (Builtin.Str.occurrences SIMP (signAt T (p : Int)) 0 SIMP.length 1).isEmpty = true) : False := by
  obtain ⟨c, h, hc⟩ := h
  rw [sign_some h, in_item, hc] at h2
  cases h2
theorem sign_len (T : Str) (p : Int) (h : 0 ≤ p) : (signAt T p).length ≤ 1 := by
  obtain ⟨n, rfl⟩ := Int.eq_ofNat_of_zero_le h
  rcases sign_cases T n with ⟨_, _, e⟩ | ⟨c, _, e, e'⟩
  · rw [e]; simp [Str.length]
  · rw [e']; simp [Str.length]
theorem setEndF : True := by
  k_with_none
  (k_with "execs cons" => first | (k_here; k_made; walk_at "execs cons") | (k_here; (with_reducible refine wpAny_execs_cons ?_); (try dsimp only); (try (with_reducible refine anyTok ?_); intro tk9); (try k_fold)))
  (k_with "enter" => ((rename At _ _ _ _ _ _ _ _ _ => HA9); (have B9 := HA9.B); (have X9 := HA9.X); (have T9 := HA9.T); (have hk9 := HA9.hk); clear HA9; (refine wpAny_call ?_); (k_dflt ktr_enter)))
  (k_with "ite" => (k_here; first
    | refine ite_pos (by first | omega | ((simp only [decide_eq_true_eq, beq_iff_eq, bne_iff_ne, ne_eq, Bool.not_eq_true', decide_eq_false_iff_not]); omega)) ?_
    | refine ite_neg (by first | omega | ((simp only [decide_eq_true_eq, beq_iff_eq, bne_iff_ne, ne_eq, Bool.not_eq_true', decide_eq_false_iff_not]); omega)) ?_))
  (k_with "call ref" => (k_here; (with_reducible show wpAny _ _ (call (Value.ref 135) _) _ _ _); k_dflt (refine' says_go (by k_asm) (by k_asm) (sign_says _ _ _ _ _ _ _ _ _ _ _ (by exact rfl) (by first | assumption | omega) (by assumption)) el1 (by k_asm) (by k_asm) (by k_asm) (by first | rfl | assumption) (Nat.le_of_ble_eq_true rfl) (Nat.le_of_ble_eq_true rfl) ?_); intro t9 h9 tk9 F9 N9; (try k_sweep)))
  (k_with "exec Raise some none" => (k_here; refine exec_raise_D rfl ?_))
  (k_with "call ref" => (k_here; (with_reducible show wpAny _ _ (call (Value.ref 76) _) _ _ _); k_dflt (refine' says_go (by k_asm) (by k_asm) (fault_says _ _ _ _ _ _) elF (by k_asm) (by k_asm) (by k_asm) (by first | rfl | assumption) (Nat.le_of_ble_eq_true rfl) (Nat.le_of_ble_eq_true rfl) ?_); intro e9 t9 dx9 _ _ _ _ l9 l8 h9 tk9 F9 N9; refine ⟨e9, t9, some dx9, rfl, in_of F9 (by k_asm), (N9 _ (.tail _ (.head _))).1, ?_⟩))
  (k_with "leaving ref" => (k_here; refine' fault_leaves (by k_asm) (by k_asm) (by k_asm) (by assumption) (by assumption) (by k_sub) ?_; intro h' R' U'))
  trivial
theorem ends_faults (w : World) (sa da : Addr) (T : Str) (t k1 k2 tp tw tb : Tok) (what : Str) (bI : Int) (pI : Int) (p : Nat) (rest : List (Addr × Obj)) (hpI : pI = (p : Int)) (hp1 : p < T.length) (hT : T.length ≤ 1000)
    (hs : busy T p) (hw : what.length ≤ 100) :
    Faults w 800 800 156 [.ref sa, .str what tw, .int bI tb] ((sa, instObj 201 da) :: scanD w da T t k1 k2 pI tp :: rest) rest bI := by
  subst hpI
  have hsl := sign_len T p (Int.natCast_nonneg p)
  intro mean mg mb gd cn cs a ccd outer A₀ base h₀ L m hS gS dS oS tS Q E HA F N hret
  walk_at "enter"
  k_steps
  · exact (busy_in hs (by assumption)).elim
  · exact hret _ _ _ _ _ _ _ _ _ _ (by assumption) (RaisedD.cut (by assumption) (by intro p hp; simp [hp])) (by assumption)
  · exact (busy_ne hs (by assumption)).elim
/-! QFltS -/
theorem setFltS : True := by
  k_with_none
  (k_with "execs cons" => first | (k_here; k_made; walk_at "execs cons") | (k_here; (with_reducible refine wpAny_execs_cons ?_); (try dsimp only); (try (with_reducible refine anyTok ?_); intro tk9); (try k_fold)))
  (k_with "enter" => ((rename At _ _ _ _ _ _ _ _ _ => HA9); (have B9 := HA9.B); (have X9 := HA9.X); (have T9 := HA9.T); (have hk9 := HA9.hk); clear HA9; (refine wpAny_call ?_); (k_dflt ktr_enter)))
  (k_with "ite" => (k_here; first
    | refine ite_pos (by with_reducible assumption) ?_
    | refine ite_neg (not_true_of (by with_reducible assumption)) ?_
    | refine ite_pos (by first | omega | ((simp only [decide_eq_true_eq, beq_iff_eq, bne_iff_ne, ne_eq, Bool.not_eq_true', decide_eq_false_iff_not]); omega)) ?_
    | refine ite_neg (by first | omega | ((simp only [decide_eq_true_eq, beq_iff_eq, bne_iff_ne, ne_eq, Bool.not_eq_true', decide_eq_false_iff_not]); omega)) ?_))
  (k_with "call ref" => (k_here; (with_reducible show wpAny _ _ (call (Value.ref 149) _) _ _ _); k_dflt (refine' says_go (by k_asm) (by first | k_asm | exact news_drop (by k_asm) | exact news_drop (news_drop (by k_asm))) (run_says _ _ _ _ _ _ _ _ _ _ _ _ _ (by first | exact cast1 _ | exact cast2 _ | exact rfl) (by first | assumption | omega) (by assumption) (by assumption) (by assumption) (by assumption)) el2 (by k_asm) (by k_asm) (by k_asm) (by first | rfl | assumption) (Nat.le_of_ble_eq_true rfl) (Nat.le_of_ble_eq_true rfl) ?_); intro t9 tp9 l9 l8 l7 h9 tk9 F9 N9; (try k_sweep)))
  (k_with "call ref" => (k_here; (with_reducible show wpAny _ _ (call (Value.ref 135) _) _ _ _); k_dflt (refine' says_go (by k_asm) (by first | k_asm | exact news_drop (by k_asm) | exact news_drop (news_drop (by k_asm))) (sign_says _ _ _ _ _ _ _ _ _ _ _ (by first | exact cast1 _ | exact cast2 _ | exact rfl) (by first | assumption | omega) (by assumption)) el1 (by k_asm) (by k_asm) (by k_asm) (by first | rfl | assumption) (Nat.le_of_ble_eq_true rfl) (Nat.le_of_ble_eq_true rfl) ?_); intro t9 h9 tk9 F9 N9; (try k_sweep)))
  (k_with "call ref" => (k_here; (with_reducible show wpAny _ _ (call (Value.ref 156) _) _ _ _); k_dflt (refine' faults_use (by k_asm) (by first | k_asm | exact news_drop (by k_asm) | exact news_drop (news_drop (by k_asm))) (ends_faults _ _ _ _ _ _ _ _ _ _ _ _ _ _ _ (by first | exact cast1 _ | exact cast2 _ | exact rfl) (by exact busy_lt (by assumption)) (by assumption) (by assumption) (by decide +kernel)) (by k_asm) (by k_asm) (by k_asm) (by first | rfl | assumption) (Nat.le_of_ble_eq_true rfl) (Nat.le_of_ble_eq_true rfl) ?_); intro g9 e9 dx9 what9 k91 t91 k92 t92 h9 tk9 FG9 R9 U9))
  (k_with "exec Raise some none" => (k_here; refine exec_raise_D rfl ?_))
  (k_with "call ref" => (k_here; (with_reducible show wpAny _ _ (call (Value.ref 76) _) _ _ _); k_dflt (refine' says_go (by k_asm) (by k_asm) (fault_says _ _ _ _ _ _) elF (by k_asm) (by k_asm) (by k_asm) (by first | rfl | assumption) (Nat.le_of_ble_eq_true rfl) (Nat.le_of_ble_eq_true rfl) ?_); intro e9 t9 dx9 _ _ _ _ l9 l8 h9 tk9 F9 N9; refine ⟨e9, t9, some dx9, rfl, in_of F9 (by k_asm), (N9 _ (.tail _ (.head _))).1, ?_⟩))
  (k_with "leaving ref" => (k_here; first
    | (refine' fault_leaves (by k_asm) (by k_asm) (by k_asm) (by assumption) (by assumption) (by k_sub) ?_; intro h' R' U')
    | (refine' leave_onD (by k_asm) (by assumption) (by assumption) (by assumption) ?_; intro h' R' U')))
  trivial
noncomputable def Hid (P : Prop) : Prop := P
theorem quoted_faults1 (w : World) (sa da : Addr) (T : Str) (t k1 k2 tp : Tok) (pI : Int) (p : Nat) (rest : List (Addr × Obj)) (hpI : pI = (p : Int)) (hp1 : p < T.length) (hT : T.length ≤ 1000)
  (hr1 : ∀ q ∈ rest, q.1 ≠ sa) (hr2 : ∀ q ∈ rest, q.1 ≠ da) (hsd : @Ne Nat sa da)
    (he : Txt.find3 T (Str.ofString "|") ((p : Int) + 1) = -1) :
    Faults w 700 700 170 [.ref sa] ((sa, instObj 201 da) :: scanD w da T t k1 k2 pI tp :: rest) rest p := by
  subst hpI
  intro mean mg mb gd cn cs a ccd outer A₀ base h₀ L m hS gS dS oS tS Q E HA F N hret
  walk_at "enter"
  k_steps
  · exact hret _ _ _ _ _ _ _ _ _ _ (by assumption) (RaisedD.cut (by assumption) (by intro p hp; simp [hp])) (by assumption)
theorem quoted_faults2 (w : World) (sa da : Addr) (T : Str) (t k1 k2 tp : Tok) (pI : Int) (p : Nat) (rest : List (Addr × Obj)) (hpI : pI = (p : Int)) (hp1 : p < T.length) (hT : T.length ≤ 1000)
  (hr1 : ∀ q ∈ rest, q.1 ≠ sa) (hr2 : ∀ q ∈ rest, q.1 ≠ da) (hsd : @Ne Nat sa da)
    (e k : Nat) (N : Str) (he : Txt.find3 T (Str.ofString "|") ((p : Int) + 1) = (e : Int)) (hpe : p + 1 ≤ e) (heT : e < T.length) (hN : Txt.slice T (some ((p : Int) + 1)) (some (e : Int)) = N) (hb : Txt.find N (Str.ofString "\\") = (k : Int)) :
    Faults w 700 700 170 [.ref sa] ((sa, instObj 201 da) :: scanD w da T t k1 k2 pI tp :: rest) rest ((p + 1 + k : Nat) : Int) := by
  subst hpI
  intro mean mg mb gd cn cs a ccd outer A₀ base h₀ L m hS gS dS oS tS Q E HA F N hret
  walk_at "enter"
  k_steps
  · (rename RaisedD _ _ _ _ _ _ _ => R9)
    rw [he, hN, hb, show ((p : Int) + 1 + (k : Int)) = ((p + 1 + k : Nat) : Int) by omega] at R9
    exact hret _ _ _ _ _ _ _ _ _ _ (by assumption) (RaisedD.cut R9 (by intro p hp; simp [hp])) (by assumption)
  · (rename ¬ _ => h9)
    rw [he, hN, hb] at h9
    exact absurd (Int.natCast_nonneg k) h9
theorem key_faults1 (w : World) (sa da : Addr) (T : Str) (t k1 k2 tp : Tok) (pI : Int) (p : Nat) (rest : List (Addr × Obj)) (hpI : pI = (p : Int)) (hp1 : p < T.length) (hT : T.length ≤ 1000)
  (hr1 : ∀ q ∈ rest, q.1 ≠ sa) (hr2 : ∀ q ∈ rest, q.1 ≠ da) (hsd : @Ne Nat sa da)
    (h1 : (runStr T SIMP (p + 1) == Str.ofString "") = true) :
    Faults w 700 700 177 [.ref sa] ((sa, instObj 201 da) :: scanD w da T t k1 k2 pI tp :: rest) rest p := by
  subst hpI
  intro mean mg mb gd cn cs a ccd outer A₀ base h₀ L m hS gS dS oS tS Q E HA F N hret
  walk_at "enter"
  k_steps
  · exact hret _ _ _ _ _ _ _ _ _ _ (by assumption) (RaisedD.cut (by assumption) (by intro p hp; simp [hp])) (by assumption)
theorem key_faults2 (w : World) (sa da : Addr) (T : Str) (t k1 k2 tp : Tok) (pI : Int) (p : Nat) (rest : List (Addr × Obj)) (hpI : pI = (p : Int)) (hp1 : p < T.length) (hT : T.length ≤ 1000)
  (hr1 : ∀ q ∈ rest, q.1 ≠ sa) (hr2 : ∀ q ∈ rest, q.1 ≠ da) (hsd : @Ne Nat sa da)
    (h1 : Hid ((runStr T SIMP (p + 1) == Str.ofString "") = false)) (h2 : (Builtin.Str.occurrences DIGI (Txt.item (runStr T SIMP (p + 1)) 0) 0 DIGI.length 1).isEmpty = false) :
    Faults w 700 700 177 [.ref sa] ((sa, instObj 201 da) :: scanD w da T t k1 k2 pI tp :: rest) rest p := by
  subst hpI
  intro mean mg mb gd cn cs a ccd outer A₀ base h₀ L m hS gS dS oS tS Q E HA F N hret
  walk_at "enter"
  k_steps
  all_goals first
    | exact absurd (h1 : (runStr T SIMP (p + 1) == Str.ofString "") = false) (by rw [show (runStr T SIMP (p + 1) == Str.ofString "") = true from by assumption]; exact Bool.noConfusion)
    | exact hret _ _ _ _ _ _ _ _ _ _ (by assumption) (RaisedD.cut (by assumption) (by intro p hp; simp [hp])) (by assumption)
/-! QFltB -/
theorem setFltB : True := by
  k_with_none
  (k_with "execs cons" => first | (k_here; k_made; walk_at "execs cons") | (k_here; (with_reducible refine wpAny_execs_cons ?_); (try dsimp only); (try (with_reducible refine anyTok ?_); intro tk9); (try k_fold)))
  (k_with "enter" => ((rename At _ _ _ _ _ _ _ _ _ => HA9); (have B9 := HA9.B); (have X9 := HA9.X); (have T9 := HA9.T); (have hk9 := HA9.hk); clear HA9; (refine wpAny_call ?_); (k_dflt ktr_enter)))
  (k_with "ite" => (k_here; first
    | refine ite_pos (by with_reducible assumption) ?_
    | refine ite_neg (not_true_of (by with_reducible assumption)) ?_
    | refine ite_pos (by first | omega | ((simp only [decide_eq_true_eq, beq_iff_eq, bne_iff_ne, ne_eq, Bool.not_eq_true', decide_eq_false_iff_not]); omega)) ?_
    | refine ite_neg (by first | omega | ((simp only [decide_eq_true_eq, beq_iff_eq, bne_iff_ne, ne_eq, Bool.not_eq_true', decide_eq_false_iff_not]); omega)) ?_))
  (k_with "call ref" => (k_here; (with_reducible show wpAny _ _ (call (Value.ref 149) _) _ _ _); k_dflt (refine' says_go (by k_asm) (by first | k_asm | exact news_drop (by k_asm) | exact news_drop (news_drop (by k_asm))) (run_says _ _ _ _ _ _ _ _ _ _ _ _ _ (by first | exact cast1 _ | exact cast2 _ | exact rfl) (by first | assumption | omega) (by assumption) (by assumption) (by assumption) (by assumption)) el2 (by k_asm) (by k_asm) (by k_asm) (by first | rfl | assumption) (Nat.le_of_ble_eq_true rfl) (Nat.le_of_ble_eq_true rfl) ?_); intro t9 tp9 l9 l8 l7 h9 tk9 F9 N9; (try k_sweep)))
  (k_with "call ref" => (k_here; (with_reducible show wpAny _ _ (call (Value.ref 135) _) _ _ _); k_dflt (refine' says_go (by k_asm) (by first | k_asm | exact news_drop (by k_asm) | exact news_drop (news_drop (by k_asm))) (sign_says _ _ _ _ _ _ _ _ _ _ _ (by first | exact cast1 _ | exact cast2 _ | exact rfl) (by first | assumption | omega) (by assumption)) el1 (by k_asm) (by k_asm) (by k_asm) (by first | rfl | assumption) (Nat.le_of_ble_eq_true rfl) (Nat.le_of_ble_eq_true rfl) ?_); intro t9 h9 tk9 F9 N9; (try k_sweep)))
  (k_with "call ref" => (k_here; (with_reducible show wpAny _ _ (call (Value.ref 156) _) _ _ _); k_dflt (refine' faults_use (by k_asm) (by first | k_asm | exact news_drop (by k_asm) | exact news_drop (news_drop (by k_asm))) (ends_faults _ _ _ _ _ _ _ _ _ _ _ _ _ _ _ (by first | exact cast1 _ | exact cast2 _ | exact rfl) (by exact busy_lt (by assumption)) (by assumption) (by assumption) (by decide +kernel)) (by k_asm) (by k_asm) (by k_asm) (by first | rfl | assumption) (Nat.le_of_ble_eq_true rfl) (Nat.le_of_ble_eq_true rfl) ?_); intro g9 e9 dx9 what9 k91 t91 k92 t92 h9 tk9 FG9 R9 U9))
  (k_with "exec Raise some none" => (k_here; refine exec_raise_D rfl ?_))
  (k_with "call ref" => (k_here; (with_reducible show wpAny _ _ (call (Value.ref 76) _) _ _ _); k_dflt (refine' says_go (by k_asm) (by k_asm) (fault_says _ _ _ _ _ _) elF (by k_asm) (by k_asm) (by k_asm) (by first | rfl | assumption) (Nat.le_of_ble_eq_true rfl) (Nat.le_of_ble_eq_true rfl) ?_); intro e9 t9 dx9 _ _ _ _ l9 l8 h9 tk9 F9 N9; refine ⟨e9, t9, some dx9, rfl, in_of F9 (by k_asm), (N9 _ (.tail _ (.head _))).1, ?_⟩))
  (k_with "leaving ref" => (k_here; first
    | (refine' fault_leaves (by k_asm) (by k_asm) (by k_asm) (by assumption) (by assumption) (by k_sub) ?_; intro h' R' U')
    | (refine' leave_onD (by k_asm) (by assumption) (by assumption) (by assumption) ?_; intro h' R' U')))
  (k_with "storeName" => ((rename Txt.slice _ _ _ = _ => hsl9); rw [hsl9]))
  trivial
noncomputable abbrev BINf : Str := Str.ofString "01"
theorem bits_faults1 (w : World) (sa da : Addr) (T : Str) (t k1 k2 tp : Tok) (pI : Int) (p : Nat) (rest : List (Addr × Obj)) (hpI : pI = (p : Int)) (hp1 : p < T.length) (hT : T.length ≤ 1000)
  (hr1 : ∀ q ∈ rest, q.1 ≠ sa) (hr2 : ∀ q ∈ rest, q.1 ≠ da) (hsd : @Ne Nat sa da)
    (hc : T.cps.toList[p + 1]? = some 113) :
    Faults w 700 700 184 [.ref sa] ((sa, instObj 201 da) :: scanD w da T t k1 k2 pI tp :: rest) rest p := by
  subst hpI
  have hlt : p + 1 < T.length := by
    obtain ⟨h, _⟩ := List.getElem?_eq_some_iff.mp hc
    simpa [Str.length] using h
  have hsl : Txt.slice T (some ((p : Int) + 1)) (some ((p : Int) + 2)) = Str.ofString "q" := by
    have := slice_nat T (a := p + 1) (b := p + 2) (by omega) (by omega)
    rw [sfx_of hc] at this
    rw [show (p : Int) + 1 = ((p + 1 : Nat) : Int) by omega, show (p : Int) + 2 = ((p + 2 : Nat) : Int) by omega, this, show p + 2 - (p + 1) = 1 by omega]
    exact (show (⟨(List.take 1 (113 :: sfx T (p + 1 + 1))).toArray⟩ : Str) = ⟨#[113]⟩ from rfl).trans (by decide +kernel)
  intro mean mg mb gd cn cs a ccd outer A₀ base h₀ L m hS gS dS oS tS Q E HA F N hret
  walk_at "enter"
  k_steps
  · exact hret _ _ _ _ _ _ _ _ _ _ (by assumption) (RaisedD.cut (by assumption) (by intro p hp; simp [hp])) (by assumption)
theorem bits_faults2 (w : World) (sa da : Addr) (T : Str) (t k1 k2 tp : Tok) (pI : Int) (p : Nat) (rest : List (Addr × Obj)) (hpI : pI = (p : Int)) (hp1 : p < T.length) (hT : T.length ≤ 1000)
  (hr1 : ∀ q ∈ rest, q.1 ≠ sa) (hr2 : ∀ q ∈ rest, q.1 ≠ da) (hsd : @Ne Nat sa da)
    (hc : T.cps.toList[p + 1]? = some 98) (hd : (runStr T BINf (p + 2) == Str.ofString "") = true) :
    Faults w 700 700 184 [.ref sa] ((sa, instObj 201 da) :: scanD w da T t k1 k2 pI tp :: rest) rest p := by
  subst hpI
  have hlt : p + 1 < T.length := by
    obtain ⟨h, _⟩ := List.getElem?_eq_some_iff.mp hc
    simpa [Str.length] using h
  have hsl : Txt.slice T (some ((p : Int) + 1)) (some ((p : Int) + 2)) = Str.ofString "b" := by
    have := slice_nat T (a := p + 1) (b := p + 2) (by omega) (by omega)
    rw [sfx_of hc] at this
    rw [show (p : Int) + 1 = ((p + 1 : Nat) : Int) by omega, show (p : Int) + 2 = ((p + 2 : Nat) : Int) by omega, this, show p + 2 - (p + 1) = 1 by omega]
    exact (show (⟨(List.take 1 (98 :: sfx T (p + 1 + 1))).toArray⟩ : Str) = ⟨#[98]⟩ from rfl).trans (by decide +kernel)
  intro mean mg mb gd cn cs a ccd outer A₀ base h₀ L m hS gS dS oS tS Q E HA F N hret
  walk_at "enter"
  k_steps
  · exact hret _ _ _ _ _ _ _ _ _ _ (by assumption) (RaisedD.cut (by assumption) (by intro p hp; simp [hp])) (by assumption)
theorem bits_faults3 (w : World) (sa da : Addr) (T : Str) (t k1 k2 tp : Tok) (pI : Int) (p : Nat) (rest : List (Addr × Obj)) (hpI : pI = (p : Int)) (hp1 : p < T.length) (hT : T.length ≤ 1000)
  (hr1 : ∀ q ∈ rest, q.1 ≠ sa) (hr2 : ∀ q ∈ rest, q.1 ≠ da) (hsd : @Ne Nat sa da)
    (hc : T.cps.toList[p + 1]? = some 98) (hd : (runStr T BINf (p + 2) == Str.ofString "") = false) (hf : busy T (runEnd T BINf (p + 2))) :
    Faults w 700 700 184 [.ref sa] ((sa, instObj 201 da) :: scanD w da T t k1 k2 pI tp :: rest) rest p := by
  subst hpI
  have hlt : p + 1 < T.length := by
    obtain ⟨h, _⟩ := List.getElem?_eq_some_iff.mp hc
    simpa [Str.length] using h
  have hsl : Txt.slice T (some ((p : Int) + 1)) (some ((p : Int) + 2)) = Str.ofString "b" := by
    have := slice_nat T (a := p + 1) (b := p + 2) (by omega) (by omega)
    rw [sfx_of hc] at this
    rw [show (p : Int) + 1 = ((p + 1 : Nat) : Int) by omega, show (p : Int) + 2 = ((p + 2 : Nat) : Int) by omega, this, show p + 2 - (p + 1) = 1 by omega]
    exact (show (⟨(List.take 1 (98 :: sfx T (p + 1 + 1))).toArray⟩ : Str) = ⟨#[98]⟩ from rfl).trans (by decide +kernel)
  intro mean mg mb gd cn cs a ccd outer A₀ base h₀ L m hS gS dS oS tS Q E HA F N hret
  walk_at "enter"
  k_steps
  · exact hret _ _ _ _ _ _ _ _ _ _ (by assumption) (RaisedD.cut (by assumption) (by intro p hp; simp [hp])) (by assumption)
theorem bits_faults4 (w : World) (sa da : Addr) (T : Str) (t k1 k2 tp : Tok) (pI : Int) (p : Nat) (rest : List (Addr × Obj)) (hpI : pI = (p : Int)) (hp1 : p < T.length) (hT : T.length ≤ 1000)
  (hr1 : ∀ q ∈ rest, q.1 ≠ sa) (hr2 : ∀ q ∈ rest, q.1 ≠ da) (hsd : @Ne Nat sa da)
    (hc : T.cps.toList[p + 1]? = some 120) (hd : (runStr T HEXD (p + 2) == Str.ofString "") = false) (hf : busy T (runEnd T HEXD (p + 2))) :
    Faults w 700 700 184 [.ref sa] ((sa, instObj 201 da) :: scanD w da T t k1 k2 pI tp :: rest) rest p := by
  subst hpI
  have hlt : p + 1 < T.length := by
    obtain ⟨h, _⟩ := List.getElem?_eq_some_iff.mp hc
    simpa [Str.length] using h
  have hsl : Txt.slice T (some ((p : Int) + 1)) (some ((p : Int) + 2)) = Str.ofString "x" := by
    have := slice_nat T (a := p + 1) (b := p + 2) (by omega) (by omega)
    rw [sfx_of hc] at this
    rw [show (p : Int) + 1 = ((p + 1 : Nat) : Int) by omega, show (p : Int) + 2 = ((p + 2 : Nat) : Int) by omega, this, show p + 2 - (p + 1) = 1 by omega]
    exact (show (⟨(List.take 1 (120 :: sfx T (p + 1 + 1))).toArray⟩ : Str) = ⟨#[120]⟩ from rfl).trans (by decide +kernel)
  intro mean mg mb gd cn cs a ccd outer A₀ base h₀ L m hS gS dS oS tS Q E HA F N hret
  walk_at "enter"
  k_steps
  · exact hret _ _ _ _ _ _ _ _ _ _ (by assumption) (RaisedD.cut (by assumption) (by intro p hp; simp [hp])) (by assumption)
/-! QFltN -/
theorem setFltN : True := by
  k_with_none
  (k_with "execs cons" => first | (k_here; k_made; walk_at "execs cons") | (k_here; (with_reducible refine wpAny_execs_cons ?_); (try dsimp only); (try (with_reducible refine anyTok ?_); intro tk9); (try k_fold)))
  (k_with "enter" => ((rename At _ _ _ _ _ _ _ _ _ => HA9); (have B9 := HA9.B); (have X9 := HA9.X); (have T9 := HA9.T); (have hk9 := HA9.hk); clear HA9; (refine wpAny_call ?_); (k_dflt ktr_enter)))
  (k_with "ite" => (k_here; first
    | refine ite_pos (by with_reducible assumption) ?_
    | refine ite_neg (not_true_of (by with_reducible assumption)) ?_
    | refine ite_pos (by first | omega | ((simp only [decide_eq_true_eq, beq_iff_eq, bne_iff_ne, ne_eq, Bool.not_eq_true', decide_eq_false_iff_not]); omega)) ?_
    | refine ite_neg (by first | omega | ((simp only [decide_eq_true_eq, beq_iff_eq, bne_iff_ne, ne_eq, Bool.not_eq_true', decide_eq_false_iff_not]); omega)) ?_))
  (k_with "call ref" => (k_here; (with_reducible show wpAny _ _ (call (Value.ref 149) _) _ _ _); k_dflt (refine' says_go (by k_asm) (by first | k_asm | exact news_drop (by k_asm) | exact news_drop (news_drop (by k_asm))) (run_says _ _ _ _ _ _ _ _ _ _ _ _ _ (by first | exact cast1 _ | exact cast2 _ | exact rfl) (by first | assumption | omega) (by assumption) (by assumption) (by assumption) (by assumption)) el2 (by k_asm) (by k_asm) (by k_asm) (by first | rfl | assumption) (Nat.le_of_ble_eq_true rfl) (Nat.le_of_ble_eq_true rfl) ?_); intro t9 tp9 l9 l8 l7 h9 tk9 F9 N9; (try k_sweep)))
  (k_with "call ref" => (k_here; (with_reducible show wpAny _ _ (call (Value.ref 135) _) _ _ _); k_dflt (refine' says_go (by k_asm) (by first | k_asm | exact news_drop (by k_asm) | exact news_drop (news_drop (by k_asm))) (sign_says _ _ _ _ _ _ _ _ _ _ _ (by first | exact cast1 _ | exact cast2 _ | exact rfl) (by first | assumption | omega) (by assumption)) el1 (by k_asm) (by k_asm) (by k_asm) (by first | rfl | assumption) (Nat.le_of_ble_eq_true rfl) (Nat.le_of_ble_eq_true rfl) ?_); intro t9 h9 tk9 F9 N9; (try k_sweep)))
  (k_with "call ref" => (k_here; (with_reducible show wpAny _ _ (call (Value.ref 156) _) _ _ _); k_dflt (refine' faults_use (by k_asm) (by first | k_asm | exact news_drop (by k_asm) | exact news_drop (news_drop (by k_asm))) (ends_faults _ _ _ _ _ _ _ _ _ _ _ _ _ _ _ (by first | exact cast1 _ | exact cast2 _ | exact rfl) (by exact busy_lt (by assumption)) (by assumption) (by assumption) (by decide +kernel)) (by k_asm) (by k_asm) (by k_asm) (by first | rfl | assumption) (Nat.le_of_ble_eq_true rfl) (Nat.le_of_ble_eq_true rfl) ?_); intro g9 e9 dx9 what9 k91 t91 k92 t92 h9 tk9 FG9 R9 U9))
  (k_with "exec Raise some none" => (k_here; refine exec_raise_D rfl ?_))
  (k_with "call ref" => (k_here; (with_reducible show wpAny _ _ (call (Value.ref 76) _) _ _ _); k_dflt (refine' says_go (by k_asm) (by k_asm) (fault_says _ _ _ _ _ _) elF (by k_asm) (by k_asm) (by k_asm) (by first | rfl | assumption) (Nat.le_of_ble_eq_true rfl) (Nat.le_of_ble_eq_true rfl) ?_); intro e9 t9 dx9 _ _ _ _ l9 l8 h9 tk9 F9 N9; refine ⟨e9, t9, some dx9, rfl, in_of F9 (by k_asm), (N9 _ (.tail _ (.head _))).1, ?_⟩))
  (k_with "leaving ref" => (k_here; first
    | (refine' fault_leaves (by k_asm) (by k_asm) (by k_asm) (by assumption) (by assumption) (by k_sub) ?_; intro h' R' U')
    | (refine' leave_onD (by k_asm) (by assumption) (by assumption) (by assumption) ?_; intro h' R' U')))
  trivial
theorem num_faults2 (w : World) (sa da : Addr) (T : Str) (t k1 k2 tp : Tok) (pI : Int) (p : Nat) (rest : List (Addr × Obj)) (hpI : pI = (p : Int)) (hp1 : p < T.length) (hT : T.length ≤ 1000)
  (hr1 : ∀ q ∈ rest, q.1 ≠ sa) (hr2 : ∀ q ∈ rest, q.1 ≠ da) (hsd : @Ne Nat sa da)
    (h0 : (runStr T DIGI p).length ≤ 1) (h1 : (signAt T ((runEnd T DIGI p : Nat) : Int) != Str.ofString ".") = true) (hf : busy T (runEnd T DIGI p)) :
    Faults w 600 400 191 [.ref sa] ((sa, instObj 201 da) :: scanD w da T t k1 k2 pI tp :: rest) rest p := by
  subst hpI
  intro mean mg mb gd cn cs a ccd outer A₀ base h₀ L m hS gS dS oS tS Q E HA F N hret
  walk_at "enter"
  k_steps
  all_goals first
    | (exfalso; (rename (1 : Int) < _ => hc); have hc' : (1 : Int) < ((runStr T DIGI p).length : Int) := hc; omega)
    | exact hret _ _ _ _ _ _ _ _ _ _ (by assumption) (RaisedD.cut (by assumption) (by intro p hp; simp [hp])) (by assumption)
theorem num_faults3 (w : World) (sa da : Addr) (T : Str) (t k1 k2 tp : Tok) (pI : Int) (p : Nat) (rest : List (Addr × Obj)) (hpI : pI = (p : Int)) (hp1 : p < T.length) (hT : T.length ≤ 1000)
  (hr1 : ∀ q ∈ rest, q.1 ≠ sa) (hr2 : ∀ q ∈ rest, q.1 ≠ da) (hsd : @Ne Nat sa da)
    (h0 : (runStr T DIGI p).length ≤ 1) (h1 : (signAt T ((runEnd T DIGI p : Nat) : Int) != Str.ofString ".") = false) (h2 : runEnd T DIGI p < T.length) (h3 : (runStr T DIGI (runEnd T DIGI p + 1) == Str.ofString "") = true) :
    Faults w 600 400 191 [.ref sa] ((sa, instObj 201 da) :: scanD w da T t k1 k2 pI tp :: rest) rest p := by
  subst hpI
  intro mean mg mb gd cn cs a ccd outer A₀ base h₀ L m hS gS dS oS tS Q E HA F N hret
  walk_at "enter"
  k_steps
  all_goals first
    | (exfalso; (rename (1 : Int) < _ => hc); have hc' : (1 : Int) < ((runStr T DIGI p).length : Int) := hc; omega)
    | exact hret _ _ _ _ _ _ _ _ _ _ (by assumption) (RaisedD.cut (by assumption) (by intro p hp; simp [hp])) (by assumption)
theorem num_faults4 (w : World) (sa da : Addr) (T : Str) (t k1 k2 tp : Tok) (pI : Int) (p : Nat) (rest : List (Addr × Obj)) (hpI : pI = (p : Int)) (hp1 : p < T.length) (hT : T.length ≤ 1000)
  (hr1 : ∀ q ∈ rest, q.1 ≠ sa) (hr2 : ∀ q ∈ rest, q.1 ≠ da) (hsd : @Ne Nat sa da)
    (h0 : (runStr T DIGI p).length ≤ 1) (h1 : (signAt T ((runEnd T DIGI p : Nat) : Int) != Str.ofString ".") = false) (h2 : runEnd T DIGI p < T.length) (h3 : (runStr T DIGI (runEnd T DIGI p + 1) == Str.ofString "") = false) (hf : busy T (runEnd T DIGI (runEnd T DIGI p + 1))) :
    Faults w 600 400 191 [.ref sa] ((sa, instObj 201 da) :: scanD w da T t k1 k2 pI tp :: rest) rest p := by
  subst hpI
  intro mean mg mb gd cn cs a ccd outer A₀ base h₀ L m hS gS dS oS tS Q E HA F N hret
  walk_at "enter"
  k_steps
  all_goals first
    | (exfalso; (rename (1 : Int) < _ => hc); have hc' : (1 : Int) < ((runStr T DIGI p).length : Int) := hc; omega)
    | exact hret _ _ _ _ _ _ _ _ _ _ (by assumption) (RaisedD.cut (by assumption) (by intro p hp; simp [hp])) (by assumption)
/-! QFltM -/
theorem setFltM : True := by
  k_with_none
  (k_with "execs cons" => first | (k_here; k_made; walk_at "execs cons") | (k_here; (with_reducible refine wpAny_execs_cons ?_); (try dsimp only); (try (with_reducible refine anyTok ?_); intro tk9); (try k_fold)))
  (k_with "enter" => ((rename At _ _ _ _ _ _ _ _ _ => HA9); (have B9 := HA9.B); (have X9 := HA9.X); (have T9 := HA9.T); (have hk9 := HA9.hk); clear HA9; (refine wpAny_call ?_); (k_dflt ktr_enter)))
  (k_with "ite" => (k_here; first
    | refine ite_pos (by with_reducible assumption) ?_
    | refine ite_neg (not_true_of (by with_reducible assumption)) ?_
    | refine ite_pos (by first | omega | ((simp only [decide_eq_true_eq, beq_iff_eq, bne_iff_ne, ne_eq, Bool.not_eq_true', decide_eq_false_iff_not]); omega)) ?_
    | refine ite_neg (by first | omega | ((simp only [decide_eq_true_eq, beq_iff_eq, bne_iff_ne, ne_eq, Bool.not_eq_true', decide_eq_false_iff_not]); omega)) ?_))
  (k_with "call ref" => (k_here; (with_reducible show wpAny _ _ (call (Value.ref 149) _) _ _ _); k_dflt (refine' says_go (by k_asm) (by first | k_asm | exact news_drop (by k_asm) | exact news_drop (news_drop (by k_asm))) (run_says _ _ _ _ _ _ _ _ _ _ _ _ _ (by first | exact cast1 _ | exact cast2 _ | exact rfl) (by first | assumption | omega) (by assumption) (by assumption) (by assumption) (by assumption)) el2 (by k_asm) (by k_asm) (by k_asm) (by first | rfl | assumption) (Nat.le_of_ble_eq_true rfl) (Nat.le_of_ble_eq_true rfl) ?_); intro t9 tp9 l9 l8 l7 h9 tk9 F9 N9; (try k_sweep)))
  (k_with "call ref" => (k_here; (with_reducible show wpAny _ _ (call (Value.ref 135) _) _ _ _); k_dflt (refine' says_go (by k_asm) (by first | k_asm | exact news_drop (by k_asm) | exact news_drop (news_drop (by k_asm))) (sign_says _ _ _ _ _ _ _ _ _ _ _ (by first | exact cast1 _ | exact cast2 _ | exact rfl) (by first | assumption | omega) (by assumption)) el1 (by k_asm) (by k_asm) (by k_asm) (by first | rfl | assumption) (Nat.le_of_ble_eq_true rfl) (Nat.le_of_ble_eq_true rfl) ?_); intro t9 h9 tk9 F9 N9; (try k_sweep)))
  (k_with "call ref" => (k_here; (with_reducible show wpAny _ _ (call (Value.ref 156) _) _ _ _); k_dflt (refine' faults_use (by k_asm) (by first | k_asm | exact news_drop (by k_asm) | exact news_drop (news_drop (by k_asm))) (ends_faults _ _ _ _ _ _ _ _ _ _ _ _ _ _ _ (by first | exact cast1 _ | exact cast2 _ | exact rfl) (by exact busy_lt (by assumption)) (by assumption) (by assumption) (by decide +kernel)) (by k_asm) (by k_asm) (by k_asm) (by first | rfl | assumption) (Nat.le_of_ble_eq_true rfl) (Nat.le_of_ble_eq_true rfl) ?_); intro g9 e9 dx9 what9 k91 t91 k92 t92 h9 tk9 FG9 R9 U9))
  (k_with "exec Raise some none" => (k_here; refine exec_raise_D rfl ?_))
  (k_with "call ref" => (k_here; (with_reducible show wpAny _ _ (call (Value.ref 76) _) _ _ _); k_dflt (refine' says_go (by k_asm) (by k_asm) (fault_says _ _ _ _ _ _) elF (by k_asm) (by k_asm) (by k_asm) (by first | rfl | assumption) (Nat.le_of_ble_eq_true rfl) (Nat.le_of_ble_eq_true rfl) ?_); intro e9 t9 dx9 _ _ _ _ l9 l8 h9 tk9 F9 N9; refine ⟨e9, t9, some dx9, rfl, in_of F9 (by k_asm), (N9 _ (.tail _ (.head _))).1, ?_⟩))
  (k_with "leaving ref" => (k_here; first
    | (refine' fault_leaves (by k_asm) (by k_asm) (by k_asm) (by assumption) (by assumption) (by k_sub) ?_; intro h' R' U')
    | (refine' leave_onD (by k_asm) (by assumption) (by assumption) (by assumption) ?_; intro h' R' U')))
  (k_with "call ref" => (k_here; (with_reducible show wpAny _ _ (call (Value.ref 135) _) _ _ _); refine stuck ?_))
  trivial
theorem num_faults1 (w : World) (sa da : Addr) (T : Str) (t k1 k2 tp : Tok) (pI : Int) (p : Nat) (rest : List (Addr × Obj)) (hpI : pI = (p : Int)) (hp1 : p < T.length) (hT : T.length ≤ 1000)
  (hr1 : ∀ q ∈ rest, q.1 ≠ sa) (hr2 : ∀ q ∈ rest, q.1 ≠ da) (hsd : @Ne Nat sa da)
    (h0 : Hid (1 < (runStr T DIGI p).length)) (h2 : (Txt.item (runStr T DIGI p) 0 == Str.ofString "0") = true) :
    Faults w 600 400 191 [.ref sa] ((sa, instObj 201 da) :: scanD w da T t k1 k2 pI tp :: rest) rest p := by
  subst hpI
  intro mean mg mb gd cn cs a ccd outer A₀ base h₀ L m hS gS dS oS tS Q E HA F N hret
  walk_at "enter"
  k_steps
  all_goals first
    | (exfalso; have h0' : 1 < (runStr T DIGI p).length := h0; (rename ¬ ((1 : Int) < _) => hc); have hc' : ¬ ((1 : Int) < ((runStr T DIGI p).length : Int)) := hc; omega)
    | (exfalso; (rename (_ == _) = false => hc); have hc' : (Txt.item (runStr T DIGI p) 0 == Str.ofString "0") = false := hc; rw [h2] at hc'; exact Bool.noConfusion hc')
    | exact hret _ _ _ _ _ _ _ _ _ _ (by assumption) (RaisedD.cut (by assumption) (by intro p hp; simp [hp])) (by assumption)
/-! QFltT -/
theorem setFltT : True := by
  k_with_none
  (k_with "execs cons" => first | (k_here; k_made; walk_at "execs cons") | (k_here; (with_reducible refine wpAny_execs_cons ?_); (try dsimp only); (try (with_reducible refine anyTok ?_); intro tk9)))
  (k_with "enter" => ((rename At _ _ _ _ _ _ _ _ _ => HA9); (have B9 := HA9.B); (have X9 := HA9.X); (have T9 := HA9.T); (have hk9 := HA9.hk); clear HA9; (refine wpAny_call ?_); (k_dflt ktr_enter)))
  (k_with "ite" => (k_here; first
    | refine ite_pos (by with_reducible assumption) ?_
    | refine ite_neg (not_true_of (by with_reducible assumption)) ?_
    | refine ite_pos (by first | omega | ((simp only [decide_eq_true_eq, beq_iff_eq, bne_iff_ne, ne_eq, Bool.not_eq_true', decide_eq_false_iff_not]); omega)) ?_
    | refine ite_neg (by first | omega | ((simp only [decide_eq_true_eq, beq_iff_eq, bne_iff_ne, ne_eq, Bool.not_eq_true', decide_eq_false_iff_not]); omega)) ?_))
  (k_with "call ref" => (k_here; (with_reducible show wpAny _ _ (call (Value.ref 149) _) _ _ _); k_dflt (refine' says_go (by k_asm) (by first | k_asm | exact news_drop (by k_asm) | exact news_drop (news_drop (by k_asm))) (run_says _ _ _ _ _ _ _ _ _ _ _ _ _ (by first | exact cast1 _ | exact cast2 _ | exact rfl) (by first | assumption | omega) (by assumption) (by assumption) (by assumption) (by assumption)) el2 (by k_asm) (by k_asm) (by k_asm) (by first | rfl | assumption) (Nat.le_of_ble_eq_true rfl) (Nat.le_of_ble_eq_true rfl) ?_); intro t9 tp9 l9 l8 l7 h9 tk9 F9 N9; (try k_sweep)))
  (k_with "call ref" => (k_here; (with_reducible show wpAny _ _ (call (Value.ref 135) _) _ _ _); k_dflt (refine' says_go (by k_asm) (by first | k_asm | exact news_drop (by k_asm) | exact news_drop (news_drop (by k_asm))) (sign_says _ _ _ _ _ _ _ _ _ _ _ (by first | exact cast1 _ | exact cast2 _ | exact rfl) (by first | assumption | omega) (by assumption)) el1 (by k_asm) (by k_asm) (by k_asm) (by first | rfl | assumption) (Nat.le_of_ble_eq_true rfl) (Nat.le_of_ble_eq_true rfl) ?_); intro t9 h9 tk9 F9 N9; (try k_sweep)))
  (k_with "call ref" => (k_here; (with_reducible show wpAny _ _ (call (Value.ref 156) _) _ _ _); k_dflt (refine' faults_use (by k_asm) (by first | k_asm | exact news_drop (by k_asm) | exact news_drop (news_drop (by k_asm))) (ends_faults _ _ _ _ _ _ _ _ _ _ _ _ _ _ _ (by first | exact cast1 _ | exact cast2 _ | exact rfl) (by exact busy_lt (by assumption)) (by assumption) (by assumption) (by decide +kernel)) (by k_asm) (by k_asm) (by k_asm) (by first | rfl | assumption) (Nat.le_of_ble_eq_true rfl) (Nat.le_of_ble_eq_true rfl) ?_); intro g9 e9 dx9 what9 k91 t91 k92 t92 h9 tk9 FG9 R9 U9))
  (k_with "exec Raise some none" => (k_here; refine exec_raise_D rfl ?_))
  (k_with "call ref" => (k_here; (with_reducible show wpAny _ _ (call (Value.ref 76) _) _ _ _); k_dflt (refine' says_go (by k_asm) (by k_asm) (fault_says _ _ _ _ _ _) elF (by k_asm) (by k_asm) (by k_asm) (by first | rfl | assumption) (Nat.le_of_ble_eq_true rfl) (Nat.le_of_ble_eq_true rfl) ?_); intro e9 t9 dx9 _ _ _ _ l9 l8 h9 tk9 F9 N9; refine ⟨e9, t9, some dx9, rfl, in_of F9 (by k_asm), (N9 _ (.tail _ (.head _))).1, ?_⟩))
  (k_with "leaving ref" => (k_here; first
    | (refine' fault_leaves (by k_asm) (by k_asm) (by k_asm) (by assumption) (by assumption) (by k_sub) ?_; intro h' R' U')
    | (refine' leave_onD (by k_asm) (by assumption) (by assumption) (by assumption) ?_; intro h' R' U')))
  (k_with "exec While Constant cons nil" => (refine stuck ?_))
  (k_with "storeName" => ((rename Txt.find3 _ _ _ = _ => hf9); rw [hf9]))
  trivial
theorem string_faults (w : World) (sa da : Addr) (T : Str) (t k1 k2 tp : Tok) (pI : Int) (p : Nat) (rest : List (Addr × Obj)) (hpI : pI = (p : Int)) (hp1 : p < T.length) (hT : T.length ≤ 1000)
  (hr1 : ∀ q ∈ rest, q.1 ≠ sa) (hr2 : ∀ q ∈ rest, q.1 ≠ da) (hsd : @Ne Nat sa da)
    (he : Txt.find3 T (Str.ofString "\"") ((p : Int) + 1) = -1) :
    Faults w 700 700 163 [.ref sa] ((sa, instObj 201 da) :: scanD w da T t k1 k2 pI tp :: rest) rest p := by
  subst hpI
  intro mean mg mb gd cn cs a ccd outer A₀ base h₀ L m hS gS dS oS tS Q E HA F N hret
  walk_at "enter"
  k_steps
  unfold Stuck
  (rename Fr _ _ _ _ => F9)
  (rename News _ _ _ _ => N9)
  (rename (_ ∧ _ ∧ AllLt _ _) => hl9)
  rename_i la _ _ _ _
  k_dflt (refine' ksw_while (fun c : Tok => (la, W.listOf [].toArray 0) :: (sa, instObj 201 da) :: scanD w da T t k1 k2 ((p : Int) + 1) c :: rest) (fun _ => []) (fun c => True) [Str.ofString "quote"] (fun c => True) (fun c => 0) _ F9 N9 ?hf ?hk ?hp ?turn)
  case hf => exact True.intro
  case hk => intro p hp; cases hp
  case hp => exact True.intro
  case turn =>
    clear F9 N9
    rintro tq u h tk _ _ F1 N1
    (try dsimp only at F1 N1 ⊢)
    k_steps
    exact hret _ _ _ _ _ _ _ _ _ _ (by assumption) (RaisedD.cut (by assumption) (by intro p hp; simp [hp])) (by assumption)
/-! QFltW -/
theorem setFltW : True := by
  k_with_none
  (k_with "execs cons" => first | (k_here; k_made; walk_at "execs cons") | (k_here; (with_reducible refine wpAny_execs_cons ?_); (try dsimp only); (try (with_reducible refine anyTok ?_); intro tk9); (try k_fold)))
  (k_with "enter" => ((rename At _ _ _ _ _ _ _ _ _ => HA9); (have B9 := HA9.B); (have X9 := HA9.X); (have T9 := HA9.T); (have hk9 := HA9.hk); clear HA9; (refine wpAny_call ?_); (k_dflt ktr_enter)))
  (k_with "ite" => (k_here; first
    | refine ite_pos (by with_reducible assumption) ?_
    | refine ite_neg (not_true_of (by with_reducible assumption)) ?_
    | refine ite_pos (by first | omega | ((simp only [decide_eq_true_eq, beq_iff_eq, bne_iff_ne, ne_eq, Bool.not_eq_true', decide_eq_false_iff_not]); omega)) ?_
    | refine ite_neg (by first | omega | ((simp only [decide_eq_true_eq, beq_iff_eq, bne_iff_ne, ne_eq, Bool.not_eq_true', decide_eq_false_iff_not]); omega)) ?_))
  (k_with "call ref" => (k_here; (with_reducible show wpAny _ _ (call (Value.ref 149) _) _ _ _); k_dflt (refine' says_go (by k_asm) (by first | k_asm | exact news_drop (by k_asm) | exact news_drop (news_drop (by k_asm))) (run_says _ _ _ _ _ _ _ _ _ _ _ _ _ (by first | exact cast1 _ | exact cast2 _ | exact rfl) (by first | assumption | omega) (by assumption) (by assumption) (by assumption) (by assumption)) el2 (by k_asm) (by k_asm) (by k_asm) (by first | rfl | assumption) (Nat.le_of_ble_eq_true rfl) (Nat.le_of_ble_eq_true rfl) ?_); intro t9 tp9 l9 l8 l7 h9 tk9 F9 N9; (try k_sweep)))
  (k_with "call ref" => (k_here; (with_reducible show wpAny _ _ (call (Value.ref 135) _) _ _ _); k_dflt (refine' says_go (by k_asm) (by first | k_asm | exact news_drop (by k_asm) | exact news_drop (news_drop (by k_asm))) (sign_says _ _ _ _ _ _ _ _ _ _ _ (by first | exact cast1 _ | exact cast2 _ | exact rfl) (by first | assumption | omega) (by assumption)) el1 (by k_asm) (by k_asm) (by k_asm) (by first | rfl | assumption) (Nat.le_of_ble_eq_true rfl) (Nat.le_of_ble_eq_true rfl) ?_); intro t9 h9 tk9 F9 N9; (try k_sweep)))
  (k_with "call ref" => (k_here; (with_reducible show wpAny _ _ (call (Value.ref 156) _) _ _ _); k_dflt (refine' faults_use (by k_asm) (by first | k_asm | exact news_drop (by k_asm) | exact news_drop (news_drop (by k_asm))) (ends_faults _ _ _ _ _ _ _ _ _ _ _ _ _ _ _ (by first | exact cast1 _ | exact cast2 _ | exact rfl) (by exact busy_lt (by assumption)) (by assumption) (by assumption) (by decide +kernel)) (by k_asm) (by k_asm) (by k_asm) (by first | rfl | assumption) (Nat.le_of_ble_eq_true rfl) (Nat.le_of_ble_eq_true rfl) ?_); intro g9 e9 dx9 what9 k91 t91 k92 t92 h9 tk9 FG9 R9 U9))
  (k_with "exec Raise some none" => (k_here; refine exec_raise_D rfl ?_))
  (k_with "call ref" => (k_here; (with_reducible show wpAny _ _ (call (Value.ref 76) _) _ _ _); k_dflt (refine' says_go (by k_asm) (by k_asm) (fault_says _ _ _ _ _ _) elF (by k_asm) (by k_asm) (by k_asm) (by first | rfl | assumption) (Nat.le_of_ble_eq_true rfl) (Nat.le_of_ble_eq_true rfl) ?_); intro e9 t9 dx9 _ _ _ _ l9 l8 h9 tk9 F9 N9; refine ⟨e9, t9, some dx9, rfl, in_of F9 (by k_asm), (N9 _ (.tail _ (.head _))).1, ?_⟩))
  (k_with "leaving ref" => (k_here; first
    | (refine' fault_leaves (by k_asm) (by k_asm) (by k_asm) (by assumption) (by assumption) (by k_sub) ?_; intro h' R' U')
    | (refine' leave_onD (by k_asm) (by assumption) (by assumption) (by assumption) ?_; intro h' R' U')))
  (k_with "call ref" => ((with_reducible show wpAny _ _ (call (Value.ref 163) _) _ _ _); (refine stuck ?_)))
  (k_with "call ref" => ((with_reducible show wpAny _ _ (call (Value.ref 170) _) _ _ _); (refine stuck ?_)))
  (k_with "call ref" => ((with_reducible show wpAny _ _ (call (Value.ref 177) _) _ _ _); (refine stuck ?_)))
  (k_with "call ref" => ((with_reducible show wpAny _ _ (call (Value.ref 184) _) _ _ _); (refine stuck ?_)))
  (k_with "call ref" => ((with_reducible show wpAny _ _ (call (Value.ref 191) _) _ _ _); (refine stuck ?_)))
  (k_with "storeName" => ((rename signAt _ _ = _ => hs9); rw [hs9]))
  trivial
theorem wordF_str (w : World) (sa da : Addr) (T : Str) (t k1 k2 tp : Tok) (pI : Int) (p : Nat) (rest : List (Addr × Obj)) (hpI : pI = (p : Int)) (hp1 : p < T.length) (hT : T.length ≤ 1000)
  (hr1 : ∀ q ∈ rest, q.1 ≠ sa) (hr2 : ∀ q ∈ rest, q.1 ≠ da) (hsd : @Ne Nat sa da)
    (hc : T.cps.toList[p]? = some 34) (q : Int) (H : Faults w 700 700 163 [.ref sa] ((sa, instObj 201 da) :: scanD w da T t k1 k2 (p : Int) tp :: rest) rest q) :
    Faults w 500 300 198 [.ref sa] ((sa, instObj 201 da) :: scanD w da T t k1 k2 pI tp :: rest) rest q := by
  subst hpI
  have hp2 : p ≤ T.length := Nat.le_of_lt hp1
  have hs := sign_some hc
  intro mean mg mb gd cn cs a ccd outer A₀ base h₀ L m hS gS dS oS tS Q E HA F N hret
  walk_at "enter"
  k_steps
  unfold Stuck
  k_dflt (refine' faults_use (by k_asm) ?kN H (by k_asm) (by k_asm) (by k_asm) (by first | rfl | assumption) (Nat.le_of_ble_eq_true rfl) (Nat.le_of_ble_eq_true rfl) ?_)
  case kN => k_asm
  intro g9 e9 dx9 what9 k91 t91 k92 t92 h9 tk9 FG9 R9 U9
  k_steps
  all_goals exact hret _ _ _ _ _ _ _ _ _ _ (by assumption) (RaisedD.cut (by assumption) (by intro p hp; simp [hp])) (by assumption)
theorem wordF_quo (w : World) (sa da : Addr) (T : Str) (t k1 k2 tp : Tok) (pI : Int) (p : Nat) (rest : List (Addr × Obj)) (hpI : pI = (p : Int)) (hp1 : p < T.length) (hT : T.length ≤ 1000)
  (hr1 : ∀ q ∈ rest, q.1 ≠ sa) (hr2 : ∀ q ∈ rest, q.1 ≠ da) (hsd : @Ne Nat sa da)
    (hc : T.cps.toList[p]? = some 124) (q : Int) (H : Faults w 700 700 170 [.ref sa] ((sa, instObj 201 da) :: scanD w da T t k1 k2 (p : Int) tp :: rest) rest q) :
    Faults w 500 300 198 [.ref sa] ((sa, instObj 201 da) :: scanD w da T t k1 k2 pI tp :: rest) rest q := by
  subst hpI
  have hp2 : p ≤ T.length := Nat.le_of_lt hp1
  have hs := sign_some hc
  intro mean mg mb gd cn cs a ccd outer A₀ base h₀ L m hS gS dS oS tS Q E HA F N hret
  walk_at "enter"
  k_steps
  unfold Stuck
  k_dflt (refine' faults_use (by k_asm) ?kN H (by k_asm) (by k_asm) (by k_asm) (by first | rfl | assumption) (Nat.le_of_ble_eq_true rfl) (Nat.le_of_ble_eq_true rfl) ?_)
  case kN => k_asm
  intro g9 e9 dx9 what9 k91 t91 k92 t92 h9 tk9 FG9 R9 U9
  k_steps
  all_goals exact hret _ _ _ _ _ _ _ _ _ _ (by assumption) (RaisedD.cut (by assumption) (by intro p hp; simp [hp])) (by assumption)
theorem wordF_key (w : World) (sa da : Addr) (T : Str) (t k1 k2 tp : Tok) (pI : Int) (p : Nat) (rest : List (Addr × Obj)) (hpI : pI = (p : Int)) (hp1 : p < T.length) (hT : T.length ≤ 1000)
  (hr1 : ∀ q ∈ rest, q.1 ≠ sa) (hr2 : ∀ q ∈ rest, q.1 ≠ da) (hsd : @Ne Nat sa da)
    (hc : T.cps.toList[p]? = some 58) (q : Int) (H : Faults w 700 700 177 [.ref sa] ((sa, instObj 201 da) :: scanD w da T t k1 k2 (p : Int) tp :: rest) rest q) :
    Faults w 500 300 198 [.ref sa] ((sa, instObj 201 da) :: scanD w da T t k1 k2 pI tp :: rest) rest q := by
  subst hpI
  have hp2 : p ≤ T.length := Nat.le_of_lt hp1
  have hs := sign_some hc
  intro mean mg mb gd cn cs a ccd outer A₀ base h₀ L m hS gS dS oS tS Q E HA F N hret
  walk_at "enter"
  k_steps
  unfold Stuck
  k_dflt (refine' faults_use (by k_asm) ?kN H (by k_asm) (by k_asm) (by k_asm) (by first | rfl | assumption) (Nat.le_of_ble_eq_true rfl) (Nat.le_of_ble_eq_true rfl) ?_)
  case kN => k_asm
  intro g9 e9 dx9 what9 k91 t91 k92 t92 h9 tk9 FG9 R9 U9
  k_steps
  all_goals exact hret _ _ _ _ _ _ _ _ _ _ (by assumption) (RaisedD.cut (by assumption) (by intro p hp; simp [hp])) (by assumption)
theorem wordF_bits (w : World) (sa da : Addr) (T : Str) (t k1 k2 tp : Tok) (pI : Int) (p : Nat) (rest : List (Addr × Obj)) (hpI : pI = (p : Int)) (hp1 : p < T.length) (hT : T.length ≤ 1000)
  (hr1 : ∀ q ∈ rest, q.1 ≠ sa) (hr2 : ∀ q ∈ rest, q.1 ≠ da) (hsd : @Ne Nat sa da)
    (hc : T.cps.toList[p]? = some 35) (q : Int) (H : Faults w 700 700 184 [.ref sa] ((sa, instObj 201 da) :: scanD w da T t k1 k2 (p : Int) tp :: rest) rest q) :
    Faults w 500 300 198 [.ref sa] ((sa, instObj 201 da) :: scanD w da T t k1 k2 pI tp :: rest) rest q := by
  subst hpI
  have hp2 : p ≤ T.length := Nat.le_of_lt hp1
  have hs := sign_some hc
  intro mean mg mb gd cn cs a ccd outer A₀ base h₀ L m hS gS dS oS tS Q E HA F N hret
  walk_at "enter"
  k_steps
  unfold Stuck
  k_dflt (refine' faults_use (by k_asm) ?kN H (by k_asm) (by k_asm) (by k_asm) (by first | rfl | assumption) (Nat.le_of_ble_eq_true rfl) (Nat.le_of_ble_eq_true rfl) ?_)
  case kN => k_asm
  intro g9 e9 dx9 what9 k91 t91 k92 t92 h9 tk9 FG9 R9 U9
  k_steps
  all_goals exact hret _ _ _ _ _ _ _ _ _ _ (by assumption) (RaisedD.cut (by assumption) (by intro p hp; simp [hp])) (by assumption)
theorem wordF_num (w : World) (sa da : Addr) (T : Str) (t k1 k2 tp : Tok) (pI : Int) (p : Nat) (rest : List (Addr × Obj)) (hpI : pI = (p : Int)) (hp1 : p < T.length) (hT : T.length ≤ 1000)
  (hr1 : ∀ q ∈ rest, q.1 ≠ sa) (hr2 : ∀ q ∈ rest, q.1 ≠ da) (hsd : @Ne Nat sa da)
    (c : Nat) (hc : T.cps.toList[p]? = some c) (hcd : inS DIGI c = true) (q : Int) (H : Faults w 600 400 191 [.ref sa] ((sa, instObj 201 da) :: scanD w da T t k1 k2 (p : Int) tp :: rest) rest q) :
    Faults w 500 300 198 [.ref sa] ((sa, instObj 201 da) :: scanD w da T t k1 k2 pI tp :: rest) rest q := by
  subst hpI
  have hp2 : p ≤ T.length := Nat.le_of_lt hp1
  have hs := sign_some hc
  have hv := dig_at hcd
  have hs1 : ((⟨#[c]⟩ : Str) == Str.ofString "") = false := sg_ne (by decide +kernel)
  have hs2 : ((⟨#[c]⟩ : Str) == Str.ofString "\"") = false := sg_ne2 (c' := 34) (by decide +kernel) (by omega)
  have hs3 : ((⟨#[c]⟩ : Str) == Str.ofString "|") = false := sg_ne2 (c' := 124) (by decide +kernel) (by omega)
  have hs4 : ((⟨#[c]⟩ : Str) == Str.ofString ":") = false := sg_ne2 (c' := 58) (by decide +kernel) (by omega)
  have hs5 : ((⟨#[c]⟩ : Str) == Str.ofString "#") = false := sg_ne2 (c' := 35) (by decide +kernel) (by omega)
  have hs6 : (Builtin.Str.occurrences (Str.ofString "0123456789") ⟨#[c]⟩ 0 (Str.ofString "0123456789").length 1).isEmpty = false := by rw [in_item]; rw [hcd]; rfl
  intro mean mg mb gd cn cs a ccd outer A₀ base h₀ L m hS gS dS oS tS Q E HA F N hret
  walk_at "enter"
  k_steps
  unfold Stuck
  k_dflt (refine' faults_use (by k_asm) ?kN H (by k_asm) (by k_asm) (by k_asm) (by first | rfl | assumption) (Nat.le_of_ble_eq_true rfl) (Nat.le_of_ble_eq_true rfl) ?_)
  case kN => k_asm
  intro g9 e9 dx9 what9 k91 t91 k92 t92 h9 tk9 FG9 R9 U9
  k_steps
  all_goals exact hret _ _ _ _ _ _ _ _ _ _ (by assumption) (RaisedD.cut (by assumption) (by intro p hp; simp [hp])) (by assumption)
theorem wordF_odd (w : World) (sa da : Addr) (T : Str) (t k1 k2 tp : Tok) (pI : Int) (p : Nat) (rest : List (Addr × Obj)) (hpI : pI = (p : Int)) (hp1 : p < T.length) (hT : T.length ≤ 1000)
  (hr1 : ∀ q ∈ rest, q.1 ≠ sa) (hr2 : ∀ q ∈ rest, q.1 ≠ da) (hsd : @Ne Nat sa da)
    (hc : T.cps.toList[p]? = some 39)  :
    Faults w 500 300 198 [.ref sa] ((sa, instObj 201 da) :: scanD w da T t k1 k2 pI tp :: rest) rest p := by
  subst hpI
  have hp2 : p ≤ T.length := Nat.le_of_lt hp1
  have hs := sign_some hc
  have hs6 : (Builtin.Str.occurrences (Str.ofString "0123456789") (Str.ofString "'") 0 (Str.ofString "0123456789").length 1).isEmpty = true := by decide +kernel
  have hs7 : (Builtin.Str.occurrences SIMP (Str.ofString "'") 0 SIMP.length 1).isEmpty = true := by decide +kernel
  intro mean mg mb gd cn cs a ccd outer A₀ base h₀ L m hS gS dS oS tS Q E HA F N hret
  walk_at "enter"
  k_steps
  all_goals exact hret _ _ _ _ _ _ _ _ _ _ (by assumption) (RaisedD.cut (by assumption) (by intro p hp; simp [hp])) (by assumption)
/-! QHeard -/
theorem setHeard : True := by
  k_with_none
  (k_with "execs cons" => first | (k_here; k_made; walk_at "execs cons") | (k_here; (with_reducible refine wpAny_execs_cons ?_); (try dsimp only); (try (with_reducible refine anyTok ?_); intro tk9); (try k_fold)))
  (k_with "enter" => ((rename At _ _ _ _ _ _ _ _ _ => HA9); (have B9 := HA9.B); (have X9 := HA9.X); (have T9 := HA9.T); (have hk9 := HA9.hk); clear HA9; (refine wpAny_call ?_); (k_dflt ktr_enter)))
  (k_with "ite" => (k_here; first
    | refine ite_pos (by with_reducible assumption) ?_
    | refine ite_neg (not_true_of (by with_reducible assumption)) ?_
    | refine ite_pos (by first | omega | ((simp only [decide_eq_true_eq, beq_iff_eq, bne_iff_ne, ne_eq, Bool.not_eq_true', decide_eq_false_iff_not]); omega)) ?_
    | refine ite_neg (by first | omega | ((simp only [decide_eq_true_eq, beq_iff_eq, bne_iff_ne, ne_eq, Bool.not_eq_true', decide_eq_false_iff_not]); omega)) ?_))
  (k_with "binaryOp FloorDiv int int" => (k_here; refine floordiv_int (by omega) ?_))
  (k_with "compareOp In str ref" => (k_here; k_dflt (refine' in_tup (ys := RES) (tupK (Frag.In.keeps (by k_asm) (Fr.keep (by k_asm))) (by k_is)) (by repeat (first | exact StrsAre.nil | refine StrsAre.cons _ _ ?_)) ?_)))
  (k_with "call ref" => ((with_reducible show wpAny _ _ (call (Value.ref 198) _) _ _ _); (refine stuck ?_)))
  trivial
/-- (item, e) as _law_heard hands it back -/
noncomputable def Heard (it : Item) (e : Int) (base : List (Addr × Obj)) (r : Value) (news' : List (Addr × Obj)) : Prop :=
  ∃ q q' own t, r = .ref q' ∧ itemL it q own ∧ (∀ x ∈ own, ∀ y ∈ base, y.1 < x.1) ∧ (∀ x ∈ own, x.1 < q') ∧ (∀ y ∈ base, y.1 < q') ∧ news' = (q', tupO [.ref q, .int e t]) :: own ++ base
theorem heard_says (w : World) (T : Str) (t tw : Tok) (pI : Int) (p : Nat) (rest : List (Addr × Obj)) (hpI : pI = (p : Int)) (hT : T.length ≤ 1000) (it : Item) (e : Nat) (hR : Reads T p it e) :
    Says w 400 200 341 [.str T t, .int pI tw] rest (Heard it (e : Int) rest) := by
  subst hpI
  intro mean mg mb gd cn cs a ccd cl outer A₀ base h₀ L m hS gS dS oS tS Q E HA F N hret
  walk_at "enter"
  k_steps
  (rename ∀ p ∈ rest, _ => l1)
  (rename _ < _ => l2)
  unfold Stuck
  k_dflt (refine' says_go (by k_asm) ?kN (word_says w _ _ T _ _ _ _ _ p rest rfl hT ?h1 ?h2 ?h3 it e hR) elM (by k_asm) (by k_asm) (by k_asm) (by first | rfl | assumption) (Nat.le_of_ble_eq_true rfl) (Nat.le_of_ble_eq_true rfl) ?_)
  case kN => k_asm
  case h1 => exact fun q hq => Nat.ne_of_lt (Nat.lt_trans (l1 q hq) l2)
  case h2 => exact fun q hq => Nat.ne_of_lt (l1 q hq)
  case h3 => exact (Nat.ne_of_lt l2).symm
  intro tp' q own hi ho h9 tk9 F9 N9
  replace N9 := news_in N9
  k_steps
  (rename (_ ∧ _ ∧ AllLt _ _) => hl)
  have hl' := allLt_all hl.2.2
  exact hret _ _ _ _ (by k_asm) (news_out2 (by k_asm)) ⟨q, _, own, _, rfl, hi, fun x hx y hy => ho x hx y (.tail _ (.tail _ hy)), fun x hx => hl' x (List.mem_append_left _ hx), fun y hy => hl' y (List.mem_append_right _ hy), rfl⟩
/-! QAtt -/
theorem ga76 (w : World) : findIn (hd.heap_1 w.params) (.ref 76) "__getattribute__" = some (some (.builtin "BaseException.__getattribute__")) := by k_is
theorem gattr76 (w : World) : findIn (hd.heap_1 w.params) (.ref 76) "__getattr__" = some none := by k_is
section
variable {w : World} {A : Around} {E : Value → Shared → Prop} {s : Shared} {x : Addr} {ox : Obj} {od : Obj}
theorem get_fault {expr : Bool} {v : Value} {name : Str} {Q : Value → Shared → Prop} (X : (hd.heap_1 w.params).In s.heap) (I : InstAt s.heap x ox 76 (some od)) (hf : findObj (hd.heap_1 w.params) 76 (some od) name = some (.value v)) (hh : handedIn v = true)
    (h : Q v { s with toks := s.toks + 1 }) : wpAny (model PR w) A (getAttr (.ref x) name expr) Q E s := by
  obtain ⟨hp, g, d, t, os⟩ := s
  have L0 := I.type (M := model PR w)
  have L1 := looks_findIn (M := model PR w) X (ga76 w)
  have L2 := looks_findIn (M := model PR w) X (gattr76 w)
  have L3 := looks_find (M := model PR w) X I hf
  have sb := looks_subIn (M := model PR w) X (sub_base w)
  have f3 := PySem.F.attr_Exception.ga.bind (.ref x)
  have hk : builtinKind "BaseException.__getattribute__" = some .slot := by decide +kernel
  have hsplit : splitId "BaseException.__getattribute__" = some ("BaseException", "__getattribute__") := by decide +kernel
  have ha := PySem.F.args_bexc_ga (.ref x) (.str name t)
  have hx0 : (expr && onTheHeap (Value.builtin "BaseException.__getattribute__")) = false := by cases expr <;> rfl
  have hx2 : (Value.builtin "BaseException.__getattribute__" == Value.builtin "object.__getattribute__") = false := by decide +kernel
  have hx1 : (onTheHeap (Value.ref 76) && Value.builtin "BaseException.__getattribute__" == Value.builtin "object.__getattribute__") = false := by rw [hx2]; rfl
  unfold getAttr getAttrBy
  refine wpAny_bind (wpAny_mkText (wpAny_holding (wpAny_bind (L0.at (wpAny_bind (L1.at ?_))))))
  dsimp only
  rw [hx1]
  show wpAny _ _ (getAttrByItsOwn _ _ _ _ _ _) _ _ _
  unfold getAttrByItsOwn hookBefore callGetattribute boundAndCalled
  rw [hx0]
  show wpAny _ _ (typeLookup (.ref 76) "__getattr__" >>= _) _ _ _
  refine wpAny_bind (L2.at (wpAny_bind (wpAny_attempt (wpAny_holding ?_))))
  show wpAny _ _ (bindSpecial (.builtin "BaseException.__getattribute__") (.ref x) >>= _) _ _ _
  rw [f3]
  refine wpAny_bind (wpAny_pure ?_)
  dsimp only
  refine wpAny_call (codeAny_call_builtin PySem.F.attr_Exception.ga.plain PySem.F.entry_bexc_ga ?_)
  have sub : Looks (model PR w) hp (isInstance (.ref x) (.type "BaseException")) true := L0.andThen sb
  refine @check_slot (model PR w) _ _ _ "BaseException.__getattribute__" "BaseException" "__getattribute__" (.ref x) [.str name t] [] _ hk hsplit sub ha ?_
  unfold Builtin.«object.__getattribute__»
  repeat (first | lk | wp_step)
  show wpAny _ _ (handedOut v) _ _ _
  rw [handedOut_of hh]
  exact wpAny_pure h
/-- the spot of a fault that is on the ledger -/
theorem get_spot {expr : Bool} {h₀ : Heap} {L : Addr} {m : Str → Option Value} {dx : Addr} {what : Str} {k1 t1 k2 t2 : Tok} {q : Int} {vs : Array Value} {news : List (Addr × Obj)} {Q : Value → Shared → Prop} (F : Fr h₀ L s.heap m) (X₀ : (hd.heap_1 w.params).In h₀)
    (N : News h₀ L s.heap ((x, ox) :: (dx, dictOf [{ hash := PyData.keyHash w.params (Str.ofString "what"), key := .str (Str.ofString "what") k1, val := .str what t1 }, { hash := PyData.keyHash w.params (Str.ofString "spot"), key := .str (Str.ofString "spot") k2, val := .int q t2 }] 2) :: news))
    (c1 : ox.cls = .ref 76) (c2 : ox.dict = some dx) (c3 : ox.data = .fields vs) (h : Q (.int q t2) { s with toks := s.toks + 1 }) : wpAny (model PR w) A (getAttr (.ref x) "spot" expr) Q E s := by
  have X := X₀.keeps F.keep
  obtain ⟨oc, odd, dt, sl⟩ := ox
  cases c1
  cases c2
  cases c3
  exact get_fault X ⟨(N _ (.head _)).1, rfl, rfl, (N _ (.tail _ (.head _))).1⟩ (by kernel_rfl) rfl h
end
/-! QHeaF -/
/-- what stands in T from place p on is refused, with this spot -/
inductive Breaks (T : Str) (p : Nat) : Nat → Prop
  | str : T.cps.toList[p]? = some 34 → Txt.find3 T (Str.ofString "\"") ((p : Int) + 1) = -1 → Breaks T p p
  | quo1 : T.cps.toList[p]? = some 124 → Txt.find3 T (Str.ofString "|") ((p : Int) + 1) = -1 → Breaks T p p
  | quo2 (e k : Nat) (N : Str) : T.cps.toList[p]? = some 124 → Txt.find3 T (Str.ofString "|") ((p : Int) + 1) = (e : Int) → p + 1 ≤ e → e < T.length → Txt.slice T (some ((p : Int) + 1)) (some (e : Int)) = N → Txt.find N (Str.ofString "\\") = (k : Int) → Breaks T p (p + 1 + k)
  | key1 : T.cps.toList[p]? = some 58 → (runStr T SIMP (p + 1) == Str.ofString "") = true → Breaks T p p
  | key2 : T.cps.toList[p]? = some 58 → (runStr T SIMP (p + 1) == Str.ofString "") = false → (Builtin.Str.occurrences DIGI (Txt.item (runStr T SIMP (p + 1)) 0) 0 DIGI.length 1).isEmpty = false → Breaks T p p
  | bits1 : T.cps.toList[p]? = some 35 → T.cps.toList[p + 1]? = some 113 → Breaks T p p
  | bits2 : T.cps.toList[p]? = some 35 → T.cps.toList[p + 1]? = some 98 → (runStr T BINf (p + 2) == Str.ofString "") = true → Breaks T p p
  | bits3 : T.cps.toList[p]? = some 35 → T.cps.toList[p + 1]? = some 98 → (runStr T BINf (p + 2) == Str.ofString "") = false → busy T (runEnd T BINf (p + 2)) → Breaks T p p
  | bits4 : T.cps.toList[p]? = some 35 → T.cps.toList[p + 1]? = some 120 → (runStr T HEXD (p + 2) == Str.ofString "") = false → busy T (runEnd T HEXD (p + 2)) → Breaks T p p
  | num1 (c : Nat) : T.cps.toList[p]? = some c → inS DIGI c = true → 1 < (runStr T DIGI p).length → (Txt.item (runStr T DIGI p) 0 == Str.ofString "0") = true → Breaks T p p
  | num2 (c : Nat) : T.cps.toList[p]? = some c → inS DIGI c = true → (runStr T DIGI p).length ≤ 1 → (signAt T ((runEnd T DIGI p : Nat) : Int) != Str.ofString ".") = true → busy T (runEnd T DIGI p) → Breaks T p p
  | num3 (c : Nat) : T.cps.toList[p]? = some c → inS DIGI c = true → (runStr T DIGI p).length ≤ 1 → (signAt T ((runEnd T DIGI p : Nat) : Int) != Str.ofString ".") = false → runEnd T DIGI p < T.length → (runStr T DIGI (runEnd T DIGI p + 1) == Str.ofString "") = true → Breaks T p p
  | num4 (c : Nat) : T.cps.toList[p]? = some c → inS DIGI c = true → (runStr T DIGI p).length ≤ 1 → (signAt T ((runEnd T DIGI p : Nat) : Int) != Str.ofString ".") = false → runEnd T DIGI p < T.length → (runStr T DIGI (runEnd T DIGI p + 1) == Str.ofString "") = false → busy T (runEnd T DIGI (runEnd T DIGI p + 1)) → Breaks T p p
  | odd : T.cps.toList[p]? = some 39 → Breaks T p p
theorem word_faults (w : World) (sa da : Addr) (T : Str) (t k1 k2 tp : Tok) (p : Nat) (rest : List (Addr × Obj)) (hT : T.length ≤ 1000)
  (hr1 : ∀ q ∈ rest, q.1 ≠ sa) (hr2 : ∀ q ∈ rest, q.1 ≠ da) (hsd : @Ne Nat sa da) (q : Nat) (hB : Breaks T p q) :
    Faults w 500 300 198 [.ref sa] ((sa, instObj 201 da) :: scanD w da T t k1 k2 (p : Int) tp :: rest) rest (q : Int) := by
  have hp1 : p < T.length := by cases hB <;> exact at_lt (by assumption)
  cases hB with
  | str h1 h2 => exact wordF_str w sa da T t k1 k2 tp _ p rest rfl hp1 hT hr1 hr2 hsd h1 _ (string_faults w sa da T t k1 k2 tp _ p rest rfl hp1 hT hr1 hr2 hsd h2)
  | quo1 h1 h2 => exact wordF_quo w sa da T t k1 k2 tp _ p rest rfl hp1 hT hr1 hr2 hsd h1 _ (quoted_faults1 w sa da T t k1 k2 tp _ p rest rfl hp1 hT hr1 hr2 hsd h2)
  | quo2 e k N h1 h2 h3 h4 h5 h6 => exact wordF_quo w sa da T t k1 k2 tp _ p rest rfl hp1 hT hr1 hr2 hsd h1 _ (quoted_faults2 w sa da T t k1 k2 tp _ p rest rfl hp1 hT hr1 hr2 hsd e k N h2 h3 h4 h5 h6)
  | key1 h1 h2 => exact wordF_key w sa da T t k1 k2 tp _ p rest rfl hp1 hT hr1 hr2 hsd h1 _ (key_faults1 w sa da T t k1 k2 tp _ p rest rfl hp1 hT hr1 hr2 hsd h2)
  | key2 h1 h2 h3 => exact wordF_key w sa da T t k1 k2 tp _ p rest rfl hp1 hT hr1 hr2 hsd h1 _ (key_faults2 w sa da T t k1 k2 tp _ p rest rfl hp1 hT hr1 hr2 hsd h2 h3)
  | bits1 h1 h2 => exact wordF_bits w sa da T t k1 k2 tp _ p rest rfl hp1 hT hr1 hr2 hsd h1 _ (bits_faults1 w sa da T t k1 k2 tp _ p rest rfl hp1 hT hr1 hr2 hsd h2)
  | bits2 h1 h2 h3 => exact wordF_bits w sa da T t k1 k2 tp _ p rest rfl hp1 hT hr1 hr2 hsd h1 _ (bits_faults2 w sa da T t k1 k2 tp _ p rest rfl hp1 hT hr1 hr2 hsd h2 h3)
  | bits3 h1 h2 h3 h4 => exact wordF_bits w sa da T t k1 k2 tp _ p rest rfl hp1 hT hr1 hr2 hsd h1 _ (bits_faults3 w sa da T t k1 k2 tp _ p rest rfl hp1 hT hr1 hr2 hsd h2 h3 h4)
  | bits4 h1 h2 h3 h4 => exact wordF_bits w sa da T t k1 k2 tp _ p rest rfl hp1 hT hr1 hr2 hsd h1 _ (bits_faults4 w sa da T t k1 k2 tp _ p rest rfl hp1 hT hr1 hr2 hsd h2 h3 h4)
  | num1 c h1 h2 h3 h4 => exact wordF_num w sa da T t k1 k2 tp _ p rest rfl hp1 hT hr1 hr2 hsd c h1 h2 _ (num_faults1 w sa da T t k1 k2 tp _ p rest rfl hp1 hT hr1 hr2 hsd h3 h4)
  | num2 c h1 h2 h3 h4 h5 => exact wordF_num w sa da T t k1 k2 tp _ p rest rfl hp1 hT hr1 hr2 hsd c h1 h2 _ (num_faults2 w sa da T t k1 k2 tp _ p rest rfl hp1 hT hr1 hr2 hsd h3 h4 h5)
  | num3 c h1 h2 h3 h4 h5 h6 => exact wordF_num w sa da T t k1 k2 tp _ p rest rfl hp1 hT hr1 hr2 hsd c h1 h2 _ (num_faults3 w sa da T t k1 k2 tp _ p rest rfl hp1 hT hr1 hr2 hsd h3 h4 h5 h6)
  | num4 c h1 h2 h3 h4 h5 h6 h7 => exact wordF_num w sa da T t k1 k2 tp _ p rest rfl hp1 hT hr1 hr2 hsd c h1 h2 _ (num_faults4 w sa da T t k1 k2 tp _ p rest rfl hp1 hT hr1 hr2 hsd h3 h4 h5 h6 h7)
  | odd h1 => exact wordF_odd w sa da T t k1 k2 tp _ p rest rfl hp1 hT hr1 hr2 hsd h1
theorem setHeaF : True := by
  k_with_none
  (k_with "execs cons" => first | (k_here; k_made; walk_at "execs cons") | (k_here; (with_reducible refine wpAny_execs_cons ?_); (try dsimp only); (try (with_reducible refine anyTok ?_); intro tk9); (try k_fold)))
  (k_with "ite" => (k_here; first
    | refine ite_pos (by with_reducible assumption) ?_
    | refine ite_neg (not_true_of (by with_reducible assumption)) ?_
    | refine ite_pos (by first | omega | ((simp only [decide_eq_true_eq, beq_iff_eq, bne_iff_ne, ne_eq, Bool.not_eq_true', decide_eq_false_iff_not]); omega)) ?_
    | refine ite_neg (by first | omega | ((simp only [decide_eq_true_eq, beq_iff_eq, bne_iff_ne, ne_eq, Bool.not_eq_true', decide_eq_false_iff_not]); omega)) ?_))
  (k_with "call ref" => ((with_reducible show wpAny _ _ (call (Value.ref 198) _) _ _ _); (refine stuck ?_)))
  (k_with "noteFrame ref" => (k_here; refine stuck ?_))
  (k_with "getAttr ref" => (k_here; (with_reducible show wpAny _ _ (getAttr _ (Str.ofString "spot") _) _ _ _); k_dflt (refine' get_spot (by k_asm) (by k_asm) (by k_asm) (by assumption) (by assumption) (by assumption) ?_)))
  trivial
theorem heard_faults (w : World) (T : Str) (t tw : Tok) (pI : Int) (p : Nat) (rest : List (Addr × Obj)) (hpI : pI = (p : Int)) (hT : T.length ≤ 1000) (q : Nat) (hB : Breaks T p q)
    (mean : ExcName → Option Value) (mg mb : Str → Option Value) (gd : Option (List Code)) (cn : Str) (cs : Scope) (a : Addr) (ccd : Value) (A₀ : Around) (base h₀ : Heap) (L : Addr) (m : Str → Option Value) (s : Shared) (Q E : Value → Shared → Prop)
    (HA : At w mean mg mb cs [] A₀ base h₀) (F : Fr h₀ L s.heap m) (N : News h₀ L s.heap rest)
    (hret : ∀ r h' tk', Fr h₀ L h' m → News h₀ L h' rest → (∃ t, r = .int (q : Int) t) → Q r { s with heap := h', toks := tk' }) :
    wpAny (model PR w) (ktrTop 400 200 gd cn cs L a ccd [] []) (call (.ref 341) [.str T t, .int pI tw]) Q E s := by
  subst hpI
  have B9 : Below A₀ h₀ [] h₀ := ⟨HA.B.stack, fun _ _ e => e, True.intro⟩
  have X9 := HA.X
  have T9 := HA.T
  have hk9 := HA.hk
  clear HA
  refine wpAny_call ?_
  k_dflt (refine' code_defS0 ?k1 ?k2 ?k3 ?k4 ?k5 ?kA ?k6 ?k7 ?k8 ?k9 ?kB ?_ ?cK ?c2 ?c3 ?c4 ?c5; (case kA => exact rfl); (case k2 => k_asm); (case k1 => k_asm); (case k3 => k_asm); (case k4 => k_asm); (case k5 => k_asm); (case k6 => k_is); (case k7 => k_is); (case k8 => k_room); (case k9 => first | exact binds_K (by k_in) rfl (by k_is) rfl rfl rfl | exact BindsTo.of_eq rfl | fail "kts_go: no rule for these arguments"); (case kB => exact locs rfl); (case cK => exact hk9); (case c2 => exact rfl); (case c3 => exact rfl); (case c4 => exact rfl); (case c5 => decide); k_whole; intro g' L' h' FG' F' N' B' X' T' D'; (try dsimp only); (try k_lift B'); (try k_fold))
  k_steps
  (rename ∀ p ∈ rest, _ => l1)
  (rename _ < _ => l2)
  unfold Stuck
  k_dflt (refine' faults_use (by k_asm) ?kN (word_faults w _ _ T _ _ _ _ p rest hT ?h1 ?h2 ?h3 q hB) (by k_asm) (by k_asm) (by k_asm) (by first | rfl | assumption) (Nat.le_of_ble_eq_true rfl) (Nat.le_of_ble_eq_true rfl) ?_)
  case kN => k_asm
  case h1 => exact fun q hq => Nat.ne_of_lt (Nat.lt_trans (l1 q hq) l2)
  case h2 => exact fun q hq => Nat.ne_of_lt (l1 q hq)
  case h3 => exact (Nat.ne_of_lt l2).symm
  intro g9 e9 dx9 what9 k91 t91 k92 t92 h9 tk9 FG9 R9 U9
  k_steps
  unfold Stuck
  k_dflt (refine' caught_D R9 FG9 ?cK U9 ?cX ?cT ?cD KtsTurn.refl ?cx ?_)
  case cK => assumption
  case cX => exact X9
  case cT => exact T9
  case cD => assumption
  case cx => k_is
  intro h6 g6 tk6 oe vs T6 F6 c1 c2 c3 N6 B6 X6 P6 D6
  k_steps
  exact hret _ _ _ (by k_asm) (news_drop (news_drop (by k_asm))) ⟨_, rfl⟩
/-! QNe -/
/-- an item as plain data -/
noncomputable def itemD : Item → PyData
  | .sym x => .tuple [.str (Str.ofString "sym"), .str x]
  | .str x => .tuple [.str (Str.ofString "str"), .str x]
  | .key x => .tuple [.str (Str.ofString "key"), .str x]
  | .bits n w => .tuple [.str (Str.ofString "bits"), .int n, .int w]
  | .num n => .tuple [.str (Str.ofString "num"), .int n]
  | .dec a b => .tuple [.str (Str.ofString "dec"), .tuple [.int a, .int b]]
noncomputable def okI : Item → Bool
  | .sym x => PyData.strOk x
  | .str x => PyData.strOk x
  | .key x => PyData.strOk x
  | _ => true
theorem okS : PyData.strOk (Str.ofString "sym") = true ∧ PyData.strOk (Str.ofString "str") = true ∧ PyData.strOk (Str.ofString "key") = true ∧ PyData.strOk (Str.ofString "bits") = true ∧ PyData.strOk (Str.ofString "num") = true ∧ PyData.strOk (Str.ofString "dec") = true := by decide +kernel
theorem item_shaped {it : Item} (h : okI it = true) (e : Int) : PySem.SeqAt.shaped (.tuple [itemD it, .int e]) = true := by
  obtain ⟨h1, h2, h3, h4, h5, h6⟩ := okS
  unfold PySem.SeqAt.shaped
  cases it <;> (unfold okI at h; simp [itemD, PyData.canLay0, PyData.canLayAll0, PyData.depth, PyData.depthAll, *])
theorem item_eqv (it : Item) (e : Int) : PyData.eqv (.tuple [itemD it, .int e]) (.tuple [itemD it, .int e]) = true := by
  cases it <;> simp [itemD, PyData.eqv, PyData.eqvAll]
theorem item_reads {h₀ h : Heap} {L : Addr} {news own : List (Addr × Obj)} {it : Item} {q : Addr} (N : News h₀ L h news) (hi : itemL it q own) (hm : ∀ p ∈ own, p ∈ news) : ∃ as, PySem.Reads h (.ref q) (itemD it) as := by
  cases it with
  | sym x => obtain ⟨t1, t2, rfl⟩ := hi; exact ⟨_, reads_tuple_at (N.get (hm _ (.head _))) rfl rfl (.cons (.str _ _) (.cons (.str _ _) .nil))⟩
  | str x => obtain ⟨t1, t2, rfl⟩ := hi; exact ⟨_, reads_tuple_at (N.get (hm _ (.head _))) rfl rfl (.cons (.str _ _) (.cons (.str _ _) .nil))⟩
  | key x => obtain ⟨t1, t2, rfl⟩ := hi; exact ⟨_, reads_tuple_at (N.get (hm _ (.head _))) rfl rfl (.cons (.str _ _) (.cons (.str _ _) .nil))⟩
  | bits n w => obtain ⟨t1, t2, t3, rfl⟩ := hi; exact ⟨_, reads_tuple_at (N.get (hm _ (.head _))) rfl rfl (.cons (.str _ _) (.cons (.int _ _) (.cons (.int _ _) .nil)))⟩
  | num n => obtain ⟨t1, t2, rfl⟩ := hi; exact ⟨_, reads_tuple_at (N.get (hm _ (.head _))) rfl rfl (.cons (.str _ _) (.cons (.int _ _) .nil))⟩
  | dec a b => obtain ⟨q', t1, t2, t3, _, rfl⟩ := hi; exact ⟨_, reads_tuple_at (N.get (hm _ (.head _))) rfl rfl (.cons (.str _ _) (.cons (reads_tuple_at (N.get (hm _ (.tail _ (.head _)))) rfl rfl (.cons (.int _ _) (.cons (.int _ _) .nil))) .nil))⟩
section
variable {prog : Program} {w : World} {A : Around} {E : Value → Shared → Prop} {s : Shared} {h₀ : Heap} {L : Addr} {news : List (Addr × Obj)} {Q : Value → Shared → Prop}
theorem ne_item {it : Item} {a1 a2 q1 q2 : Addr} {own1 own2 : List (Addr × Obj)} {e e' : Int} {t1 t2 : Tok} (N : News h₀ L s.heap news) (m1 : (a1, tupO [.ref q1, .int e t1]) ∈ news) (m2 : (a2, tupO [.ref q2, .int e' t2]) ∈ news)
    (i1 : itemL it q1 own1) (i2 : itemL it q2 own2) (n1 : ∀ p ∈ own1, p ∈ news) (n2 : ∀ p ∈ own2, p ∈ news) (he : e = e') (ok : okI it = true) (hu : A.units + 64 < cLine)
    (h : Q (.bool false) s) : wpAny (model prog w) A (compareOp .NotEq (.ref a1) (.ref a2)) Q E s := by
  subst he
  obtain ⟨as1, r1⟩ := item_reads N i1 n1
  obtain ⟨as2, r2⟩ := item_reads N i2 n2
  refine ne_dataH (reads_tuple_at (N.get m1) rfl rfl (.cons r1 (.cons (.int _ _) .nil))) (reads_tuple_at (N.get m2) rfl rfl (.cons r2 (.cons (.int _ _) .nil))) (item_shaped ok e) (item_shaped ok e) hu ?_
  rw [item_eqv]
  exact h
end
theorem lap_led {h₀ h : Heap} {L fa ca q : Addr} {x o l : Obj} {oi own : List (Addr × Obj)} (N : News h₀ L h ((q, x) :: oi ++ ((fa, o) :: (ca, l) :: own)))
    (h1 : ∀ x ∈ oi, @LT.lt Nat _ fa x.1 ∧ @LT.lt Nat _ ca x.1 ∧ ∀ y ∈ own, @LT.lt Nat _ y.1 x.1) (h3 : @LT.lt Nat _ fa q ∧ @LT.lt Nat _ ca q ∧ ∀ y ∈ own, @LT.lt Nat _ y.1 q)
    (ho1 : ∀ p ∈ own, p.1 ≠ fa) (ho2 : ∀ p ∈ own, p.1 ≠ ca) :
    ∃ rest, (∀ p ∈ oi, p ∈ rest) ∧ (∀ p ∈ own, p ∈ rest) ∧ (∀ p ∈ rest, p.1 ≠ fa) ∧ (∀ p ∈ rest, p.1 ≠ ca) ∧ @Ne Nat q fa ∧ @Ne Nat q ca ∧ News h₀ L h ((fa, o) :: (ca, l) :: (q, x) :: rest) := by
  refine ⟨oi ++ own, fun p hp => List.mem_append_left _ hp, fun p hp => List.mem_append_right _ hp, fun p hp => ?_, fun p hp => ?_, Nat.ne_of_gt h3.1, Nat.ne_of_gt h3.2.1, fun p hp => N p ?_⟩
  · rcases List.mem_append.mp hp with hp | hp
    · exact Nat.ne_of_gt (h1 p hp).1
    · exact ho1 p hp
  · rcases List.mem_append.mp hp with hp | hp
    · exact Nat.ne_of_gt (h1 p hp).2.1
    · exact ho2 p hp
  · simp only [List.mem_cons, List.mem_append] at hp ⊢
    rcases hp with hp | hp | hp | hp | hp <;> simp [hp]
theorem feed_pick {w : World} {h₀ h : Heap} {L fa ca : Addr} {k : Int} {o c : Obj} {rest l : List (Addr × Obj)} (_ : FeedO w ca k o) (N : News h₀ L h l) (hm : ∀ p ∈ (fa, o) :: (ca, c) :: rest, p ∈ l) : News h₀ L h ((fa, o) :: (ca, c) :: rest) := fun p hp => N p (hm p hp)
theorem heard_led {h₀ h : Heap} {L fa ca q : Addr} {x o l : Obj} {oi own : List (Addr × Obj)} (N : News h₀ L h ((q, x) :: oi ++ ((fa, o) :: (ca, l) :: own)))
    (h1 : ∀ x ∈ oi, ∀ y ∈ ((fa, o) :: (ca, l) :: own), y.1 < x.1) (h3 : ∀ y ∈ ((fa, o) :: (ca, l) :: own), y.1 < q)
    (ho1 : ∀ p ∈ own, p.1 ≠ fa) (ho2 : ∀ p ∈ own, p.1 ≠ ca) :
    ∃ rest, (∀ p ∈ oi, p ∈ rest) ∧ (∀ p ∈ own, p ∈ rest) ∧ (∀ p ∈ rest, p.1 ≠ fa) ∧ (∀ p ∈ rest, p.1 ≠ ca) ∧ @Ne Nat q fa ∧ @Ne Nat q ca ∧ News h₀ L h ((fa, o) :: (ca, l) :: (q, x) :: rest) :=
  lap_led N (fun x hx => ⟨h1 x hx _ (.head _), h1 x hx _ (.tail _ (.head _)), fun y hy => h1 x hx y (.tail _ (.tail _ hy))⟩) ⟨h3 _ (.head _), h3 _ (.tail _ (.head _)), fun y hy => h3 y (.tail _ (.tail _ hy))⟩ ho1 ho2
/-! QGoodS -/
noncomputable abbrev FRONTS : List Str := [Str.ofString "", Str.ofString "( ", Str.ofString "a ", Str.ofString "\"s\" ", Str.ofString "; |\n", Str.ofString "|x| #b1 "]
noncomputable abbrev BEHINDS : List Str := [Str.ofString "", Str.ofString " ", Str.ofString ")", Str.ofString "(", Str.ofString "; 1", Str.ofString "\n", Str.ofString " a)"]
/-- what word_text writes of an item -/
inductive Writes : Item → Str → Prop
  | sym1 (X : Str) : X.length ≤ 20 → (RES.any fun x => x == X) = true → Writes (.sym X) X
  | sym2 (X : Str) : X.length ≤ 20 → (RES.any fun x => x == X) = false → simpB X = true → Writes (.sym X) X
  | sym3 (X : Str) : X.length ≤ 20 → (RES.any fun x => x == X) = false → simpB X = false → 2 < X.length → (Txt.item X 0 == Str.ofString "|") = true → (Txt.item X (-1) == Str.ofString "|") = true → (RES.any fun x => x == Txt.slice X (some 1) (some (-1))) = true → Writes (.sym X) X
  | sym4 (X : Str) : X.length ≤ 20 → (RES.any fun x => x == X) = false → simpB X = false → X.length ≤ 2 → (Builtin.Str.occurrences X (Str.ofString "|") 0 X.length 1).isEmpty = true → (Builtin.Str.occurrences X (Str.ofString "\\") 0 X.length 1).isEmpty = true → Writes (.sym X) (Str.ofString "|" ++ X ++ Str.ofString "|")
  | sym5 (X : Str) : X.length ≤ 20 → (RES.any fun x => x == X) = false → simpB X = false → 2 < X.length → (Txt.item X 0 == Str.ofString "|") = false → (Builtin.Str.occurrences X (Str.ofString "|") 0 X.length 1).isEmpty = true → (Builtin.Str.occurrences X (Str.ofString "\\") 0 X.length 1).isEmpty = true → Writes (.sym X) (Str.ofString "|" ++ X ++ Str.ofString "|")
  | str (X : Str) : X.length ≤ 20 → (Txt.replace X QU QQ).length ≤ 100 → Writes (.str X) (QU ++ Txt.replace X QU QQ ++ QU)
  | key (X : Str) : X.length ≤ 20 → Writes (.key X) (Str.ofString ":" ++ X)
  | num (x : Int) : 0 ≤ x → x < 2 ^ 1000 → Writes (.num x) (Str.ofString (toString x))
  | bits (x : Int) (n : Nat) : 0 ≤ x → x < 5000 → 1 ≤ n → n ≤ 12 → Writes (.bits x n) (Str.ofString "#b" ++ Txt.join (Str.ofString "") ((downKs ((n : Int) - 1) n).map (bitT x)))
  | dec (t b b2 i j p r : Int) : 0 ≤ t → t ≤ 999 → 1 ≤ b → b ≤ 1000 → cnt 2 10 b 0 = (b2, i) → cnt 5 10 b2 0 = (1, j) → 1 ≤ b2 → b2 ≤ 1000 → max 1 (max i j) = p → Ten p r → 0 ≤ (t * r).fdiv b → (t * r).fdiv b < 1000 → Writes (.dec t b) (decTxt p ((t * r).fdiv b))
theorem writes_says (w : World) {it : Item} {W : Str} (hW : Writes it W) {q : Addr} {own rest : List (Addr × Obj)} (hi : itemL it q own) (hm : ∀ p ∈ own, p ∈ rest) :
    Says w 700 700 261 [.ref q] rest (fun r news' => ∃ t, r = .str W t ∧ news' = rest) := by
  cases hW with
  | sym1 _ h1 h2 => obtain ⟨t1, t2, rfl⟩ := hi; exact wt_sym w q _ t1 t2 _ rest (hm _ (.head _)) (symtext1 w _ t2 rest h1 h2)
  | sym2 _ h1 h2 h3 => obtain ⟨t1, t2, rfl⟩ := hi; exact wt_sym w q _ t1 t2 _ rest (hm _ (.head _)) (symtext2 w _ t2 rest h1 h2 h3)
  | sym3 _ h1 h2 h3 h4 h5 h6 h7 => obtain ⟨t1, t2, rfl⟩ := hi; exact wt_sym w q _ t1 t2 _ rest (hm _ (.head _)) (symtext3 w _ t2 rest h1 h2 h3 h4 h5 h6 h7)
  | sym4 X h1 h2 h3 h4 h5 h6 => obtain ⟨t1, t2, rfl⟩ := hi; exact wt_sym w q X t1 t2 _ rest (hm _ (.head _)) (symtext4 w X t2 rest h1 h2 h3 h4 h5 h6)
  | sym5 X h1 h2 h3 h4 h5 h6 h7 => obtain ⟨t1, t2, rfl⟩ := hi; exact wt_sym w q X t1 t2 _ rest (hm _ (.head _)) (symtext5 w X t2 rest h1 h2 h3 h4 h5 h6 h7)
  | str X h1 h2 => obtain ⟨t1, t2, rfl⟩ := hi; exact wt_str w q X t1 t2 _ rest (hm _ (.head _)) (says_less (strtext_says w X t2 rest h1 h2) (by decide) (by decide))
  | key X h1 => obtain ⟨t1, t2, rfl⟩ := hi; exact wt_key w q X t1 t2 rest h1 (hm _ (.head _))
  | num x h1 h2 => obtain ⟨t1, t2, rfl⟩ := hi; exact wt_num w q x t1 t2 _ rest (hm _ (.head _)) (says_less (number_says w x t2 rest h1 h2) (by decide) (by decide))
  | bits x n h1 h2 h3 h4 => obtain ⟨t1, t2, t3, rfl⟩ := hi; exact wt_bits w q x n t1 t2 t3 _ rest (hm _ (.head _)) (says_less (bitstext_says w x n t2 t3 rest h1 h2 h3 h4) (by decide) (by decide))
  | dec t b b2 i j p r h1 h2 h3 h4 h5 h6 h7 h8 h9 h10 h11 h12 => obtain ⟨q', t1, t2, t3, _, rfl⟩ := hi; exact wt_dec w q q' t1 _ rest (hm _ (.head _)) (dectext_says w t b b2 i j p r q' t2 t3 rest h1 h2 h3 h4 h5 h6 h7 h8 h9 h10 h11 h12 (hm _ (.tail _ (.head _))))
structure Good (it : Item) (S W : Str) : Prop where
  ok : okI it = true
  len : S.length ≤ 60
  read : ∀ F ∈ FRONTS, ∀ B ∈ BEHINDS, Reads (F ++ S ++ B) F.length it (F.length + S.length)
  lenW : W.length ≤ 60
  writes : Writes it W
  read0 : Reads W 0 it W.length
  readW : ∀ F ∈ FRONTS, ∀ B ∈ BEHINDS, Reads (F ++ W ++ B) F.length it (F.length + W.length)
/-! QLs4 -/
theorem good_mk {it : Item} {S W : Str} (ok : okI it = true) (l1 : S.length ≤ 60) (l2 : W.length ≤ 60) (hw : Writes it W) (h1 : R1 it S.cps.toList) (h2 : R1 it W.cps.toList) : Good it S W := by
  have hb : ∀ B ∈ BEHINDS, stopB B.cps.toList = true := by decide +kernel
  have hl : ∀ X : Str, X.cps.toList.length = X.length := fun X => by simp [Str.length]
  refine ⟨ok, l1, fun F hF B hB => ?_, l2, hw, ?_, fun F hF B hB => ?_⟩
  · have := h1 (F ++ S ++ B) F.length B.cps.toList (sfx_cat F S B) (hb B hB)
    rwa [hl] at this
  · have := h2 W 0 [] (sfx_zero W) rfl
    rwa [hl, Nat.zero_add] at this
  · have := h2 (F ++ W ++ B) F.length B.cps.toList (sfx_cat F W B) (hb B hB)
    rwa [hl] at this
/-- a bare symbol -/
theorem g_bare {N : Str} (hs : (!N.cps.toList.isEmpty && N.cps.toList.all (inS SIMP) && !inS DIGI (N.cps.toList.headD 48)) = true) : R1 (.sym N) N.cps.toList := by
  obtain ⟨⟨l⟩⟩ := N
  cases l with
  | nil => simp at hs
  | cons c s =>
    simp only [Bool.and_eq_true, List.all_eq_true, Bool.not_eq_true', List.headD_cons] at hs
    exact r_sym hs.1.2 hs.2
theorem g_bars {N : Str} (hs : (!N.cps.toList.contains 124 && !N.cps.toList.contains 92) = true) : R1 (.sym (resQ N)) (Str.ofString "|" ++ N ++ Str.ofString "|").cps.toList := by
  have e : (Str.ofString "|" ++ N ++ Str.ofString "|").cps.toList = 124 :: (N.cps.toList ++ [124]) := by
    rw [bar_eq]
    show (#[124] ++ N.cps ++ #[124]).toList = _
    simp
  rw [e]
  simp only [Bool.and_eq_true, Bool.not_eq_true', List.contains_eq_mem, decide_eq_false_iff_not] at hs
  exact r_quo hs.1 hs.2
theorem sym_bare {N : Str} (h1 : N.length ≤ 20) (h2 : PyData.strOk N = true) (hw : Writes (.sym N) N) (hs : (!N.cps.toList.isEmpty && N.cps.toList.all (inS SIMP) && !inS DIGI (N.cps.toList.headD 48)) = true) : Good (.sym N) N N :=
  good_mk h2 (by omega) (by omega) hw (g_bare hs) (g_bare hs)
theorem barlen (N : Str) : (Str.ofString "|" ++ N ++ Str.ofString "|").length = N.length + 2 := by
  rw [bar_eq]
  simp [Str.length_append]
  simp [Str.length]
  omega
theorem sym_bars {N : Str} (h1 : N.length ≤ 20) (h2 : PyData.strOk N = true) (hw : Writes (.sym N) N) (hs : (!N.cps.toList.isEmpty && N.cps.toList.all (inS SIMP) && !inS DIGI (N.cps.toList.headD 48)) = true) (hs2 : (!N.cps.toList.contains 124 && !N.cps.toList.contains 92) = true) (hr : resQ N = N) : Good (.sym N) (Str.ofString "|" ++ N ++ Str.ofString "|") N :=
  good_mk h2 (by rw [barlen]; omega) (by omega) hw (by have := g_bars hs2; rwa [hr] at this) (g_bare hs)
theorem sym_both {N : Str} (h1 : N.length ≤ 20) (h2 : PyData.strOk N = true) (hw : Writes (.sym N) (Str.ofString "|" ++ N ++ Str.ofString "|")) (hs2 : (!N.cps.toList.contains 124 && !N.cps.toList.contains 92) = true) (hr : resQ N = N) : Good (.sym N) (Str.ofString "|" ++ N ++ Str.ofString "|") (Str.ofString "|" ++ N ++ Str.ofString "|") :=
  good_mk h2 (by rw [barlen]; omega) (by rw [barlen]; omega) hw (by have := g_bars hs2; rwa [hr] at this) (by have := g_bars hs2; rwa [hr] at this)
theorem sym_res {M N : Str} (h1 : N.length ≤ 20) (h2 : PyData.strOk N = true) (hw : Writes (.sym N) N) (hs2 : (!M.cps.toList.contains 124 && !M.cps.toList.contains 92) = true) (hr : resQ M = N) (he : Str.ofString "|" ++ M ++ Str.ofString "|" = N) : Good (.sym N) N N :=
  good_mk h2 (by omega) (by omega) hw (by have := g_bars hs2; rwa [hr, he] at this) (by have := g_bars hs2; rwa [hr, he] at this)
theorem w_simp {N : Str} (h : (decide (N.length ≤ 20) && !(RES.any fun x => x == N) && simpB N) = true) : Writes (.sym N) N := by
  simp only [Bool.and_eq_true, Bool.not_eq_true', decide_eq_true_eq] at h
  exact .sym2 N h.1.1 h.1.2 h.2
theorem w_bars {N : Str} (h : (decide (N.length ≤ 20) && !(RES.any fun x => x == N) && !simpB N && (decide (N.length ≤ 2) || (decide (2 < N.length) && !(Txt.item N 0 == Str.ofString "|"))) && (Builtin.Str.occurrences N (Str.ofString "|") 0 N.length 1).isEmpty && (Builtin.Str.occurrences N (Str.ofString "\\") 0 N.length 1).isEmpty) = true) :
    Writes (.sym N) (Str.ofString "|" ++ N ++ Str.ofString "|") := by
  simp only [Bool.and_eq_true, Bool.or_eq_true, Bool.not_eq_true', decide_eq_true_eq] at h
  obtain ⟨⟨⟨⟨⟨h1, h2⟩, h3⟩, h4⟩, h5⟩, h6⟩ := h
  rcases h4 with h4 | ⟨h4, h4'⟩
  · exact .sym4 N h1 h2 h3 h4 h5 h6
  · exact .sym5 N h1 h2 h3 h4 h4' h5 h6
theorem w_res {N : Str} (h : (decide (N.length ≤ 20) && !(RES.any fun x => x == N) && !simpB N && decide (2 < N.length) && (Txt.item N 0 == Str.ofString "|") && (Txt.item N (-1) == Str.ofString "|") && (RES.any fun x => x == Txt.slice N (some 1) (some (-1)))) = true) : Writes (.sym N) N := by
  simp only [Bool.and_eq_true, Bool.not_eq_true', decide_eq_true_eq] at h
  obtain ⟨⟨⟨⟨⟨⟨h1, h2⟩, h3⟩, h4⟩, h5⟩, h6⟩, h7⟩ := h
  exact .sym3 N h1 h2 h3 h4 h5 h6 h7
theorem sym_cases {N S : Str} (h : symOk N S = true) : N ∈ NAMES ∧ (((Txt.slice N none (some 1) == Str.ofString "|") = true ∧ S = N) ∨ ((Txt.slice N none (some 1) == Str.ofString "|") = false ∧ S = N ∧ (!([Str.ofString "a b", Str.ofString "", Str.ofString "p(q;"].any fun x => x == N) || (N == Str.ofString "let")) = true) ∨
    ((Txt.slice N none (some 1) == Str.ofString "|") = false ∧ S = Str.ofString "|" ++ N ++ Str.ofString "|" ∧ (N == Str.ofString "let") = false)) := by
  unfold symOk at h
  simp only [Bool.and_eq_true, Bool.or_eq_true, Bool.not_eq_true', List.contains_iff_mem] at h
  refine ⟨h.1, ?_⟩
  rcases h.2 with (⟨h1, h2⟩ | ⟨⟨h1, h2⟩, h3⟩) | ⟨⟨h1, h2⟩, h3⟩
  · exact .inl ⟨h1, by simpa using h2⟩
  · exact .inr (.inl ⟨h1, by simpa using h2, by simpa using h3⟩)
  · exact .inr (.inr ⟨h1, by simpa using h2, h3⟩)
/-- a plain name: bare, or between bars -/
theorem sym_plain {N S : Str} (h : symOk N S = true) (h0 : ((Txt.slice N none (some 1) == Str.ofString "|") || (N == Str.ofString "let")) = false)
    (hk : (decide (N.length ≤ 20) && PyData.strOk N && (decide (N.length ≤ 20) && !(RES.any fun x => x == N) && simpB N) && (!N.cps.toList.isEmpty && N.cps.toList.all (inS SIMP) && !inS DIGI (N.cps.toList.headD 48)) && (!N.cps.toList.contains 124 && !N.cps.toList.contains 92) && (resQ N == N)) = true) : ∃ W, Good (.sym N) S W := by
  rw [Bool.or_eq_false_iff] at h0
  rw [Bool.and_eq_true, Bool.and_eq_true, Bool.and_eq_true, Bool.and_eq_true, Bool.and_eq_true, decide_eq_true_eq] at hk
  obtain ⟨⟨⟨⟨⟨h1, h2⟩, h3⟩, h4⟩, h5⟩, h6⟩ := hk
  have h6' : resQ N = N := by simpa using h6
  rcases (sym_cases h).2 with ⟨e, _⟩ | ⟨_, e, _⟩ | ⟨_, e, _⟩
  · rw [h0.1] at e; cases e
  · subst e; exact ⟨_, sym_bare h1 h2 (w_simp h3) h4⟩
  · subst e; exact ⟨_, sym_bars h1 h2 (w_simp h3) h4 h5 h6'⟩
theorem sym_odd {N S : Str} (h : symOk N S = true) (h0 : ((Txt.slice N none (some 1) == Str.ofString "|") || (!([Str.ofString "a b", Str.ofString "", Str.ofString "p(q;"].any fun x => x == N) || (N == Str.ofString "let"))) = false)
    (hk : (decide (N.length ≤ 20) && PyData.strOk N && (decide (N.length ≤ 20) && !(RES.any fun x => x == N) && !simpB N && (decide (N.length ≤ 2) || (decide (2 < N.length) && !(Txt.item N 0 == Str.ofString "|"))) && (Builtin.Str.occurrences N (Str.ofString "|") 0 N.length 1).isEmpty && (Builtin.Str.occurrences N (Str.ofString "\\") 0 N.length 1).isEmpty) && (!N.cps.toList.contains 124 && !N.cps.toList.contains 92) && (resQ N == N)) = true) : ∃ W, Good (.sym N) S W := by
  rw [Bool.or_eq_false_iff] at h0
  rw [Bool.and_eq_true, Bool.and_eq_true, Bool.and_eq_true, Bool.and_eq_true, decide_eq_true_eq] at hk
  obtain ⟨⟨⟨⟨h1, h2⟩, h3⟩, h4⟩, h5⟩ := hk
  have h5' : resQ N = N := by simpa using h5
  rcases (sym_cases h).2 with ⟨e, _⟩ | ⟨_, _, e⟩ | ⟨_, e, _⟩
  · rw [h0.1] at e; cases e
  · rw [h0.2] at e; cases e
  · subst e; exact ⟨_, sym_both h1 h2 (w_bars h3) h4 h5'⟩
theorem good_sym {it : Item} {S : Str} (h : SymP it S) : ∃ W, Good it S W := by
  obtain ⟨N, rfl, h⟩ := h
  have hm := (sym_cases h).1
  have hc := (sym_cases h).2
  simp only [List.mem_cons, List.not_mem_nil, or_false] at hm
  rcases hm with rfl | rfl | rfl | rfl | rfl | rfl | rfl | rfl | rfl | rfl | rfl
  · exact sym_plain h (by decide +kernel) (by decide +kernel)
  · exact sym_plain h (by decide +kernel) (by decide +kernel)
  · exact sym_plain h (by decide +kernel) (by decide +kernel)
  · exact sym_plain h (by decide +kernel) (by decide +kernel)
  · rcases hc with ⟨e, _⟩ | ⟨_, e, _⟩ | ⟨_, _, e⟩
    · exact absurd e (by decide +kernel)
    · subst e
      exact ⟨_, sym_bare (by decide +kernel) (by decide +kernel) (.sym1 _ (by decide +kernel) (by decide +kernel)) (by decide +kernel)⟩
    · exact absurd e (by decide +kernel)
  · exact sym_plain h (by decide +kernel) (by decide +kernel)
  · exact sym_odd h (by decide +kernel) (by decide +kernel)
  · exact sym_odd h (by decide +kernel) (by decide +kernel)
  · exact sym_odd h (by decide +kernel) (by decide +kernel)
  · rcases hc with ⟨_, e⟩ | ⟨e, _⟩ | ⟨e, _⟩
    · subst e
      exact ⟨_, sym_res (M := Str.ofString "let") (by decide +kernel) (by decide +kernel) (w_res (by decide +kernel)) (by decide +kernel) (by decide +kernel) (by decide +kernel)⟩
    · exact absurd e (by decide +kernel)
    · exact absurd e (by decide +kernel)
  · rcases hc with ⟨_, e⟩ | ⟨e, _⟩ | ⟨e, _⟩
    · subst e
      exact ⟨_, sym_res (M := Str.ofString "!") (by decide +kernel) (by decide +kernel) (w_res (by decide +kernel)) (by decide +kernel) (by decide +kernel) (by decide +kernel)⟩
    · exact absurd e (by decide +kernel)
    · exact absurd e (by decide +kernel)
theorem good_str {it : Item} {S : Str} (h : StrP it S) : ∃ W, Good it S W := by
  obtain ⟨X, h, rfl, rfl⟩ := h
  obtain ⟨Y, hY, e⟩ := List.any_eq_true.mp h
  have e' : Y = X := by simpa using e
  subst e'
  have key : ∀ X ∈ TEXTS, (PyData.strOk X && decide (X.length ≤ 20) && decide ((Txt.replace X QU QQ).length ≤ 50) && (QU ++ Txt.replace X QU QQ ++ QU == Str.ofString "\"" ++ Txt.join (Str.ofString "") (X.cps.toList.map gDbl) ++ Str.ofString "\"") && ((QU ++ Txt.replace X QU QQ ++ QU).cps.toList == 34 :: (dbl X.cps.toList ++ [34])) && decide ((QU ++ Txt.replace X QU QQ ++ QU).length ≤ 60)) = true := by decide +kernel
  have := key Y hY
  simp only [Bool.and_eq_true, decide_eq_true_eq, beq_iff_eq] at this
  obtain ⟨⟨⟨⟨⟨h1, h2⟩, h3⟩, h4⟩, h5⟩, h6⟩ := this
  refine ⟨QU ++ Txt.replace Y QU QQ ++ QU, ?_⟩
  rw [← h4]
  have hr : R1 (.str Y) (QU ++ Txt.replace Y QU QQ ++ QU).cps.toList := by rw [h5]; exact r_str Y
  exact good_mk h1 h6 h6 (.str Y h2 (by omega)) hr hr
theorem good_key {it : Item} {S : Str} (h : KeyP it S) : ∃ W, Good it S W := by
  obtain ⟨X, h, rfl, rfl⟩ := h
  obtain ⟨Y, hY, e⟩ := List.any_eq_true.mp h
  have e' : Y = X := by simpa using e
  subst e'
  have key : ∀ X ∈ KEYS, (PyData.strOk X && decide (X.length ≤ 20) && (!X.cps.toList.isEmpty && X.cps.toList.all (inS SIMP) && !inS DIGI (X.cps.toList.headD 48)) && ((Str.ofString ":" ++ X).cps.toList == 58 :: X.cps.toList) && decide ((Str.ofString ":" ++ X).length ≤ 60)) = true := by decide +kernel
  have := key Y hY
  rw [Bool.and_eq_true, Bool.and_eq_true, Bool.and_eq_true, Bool.and_eq_true, decide_eq_true_eq, decide_eq_true_eq, beq_iff_eq] at this
  obtain ⟨⟨⟨⟨h1, h2⟩, h3⟩, h4⟩, h5⟩ := this
  have hr : R1 (.key Y) (Str.ofString ":" ++ Y).cps.toList := by
    rw [h4]
    obtain ⟨⟨l⟩⟩ := Y
    cases l with
    | nil => simp at h3
    | cons c s =>
      simp only [Bool.and_eq_true, List.all_eq_true, Bool.not_eq_true', List.headD_cons] at h3
      exact r_key h3.1.2 h3.2
  exact ⟨_, good_mk h1 h5 h5 (.key Y h2) hr hr⟩
/-! QLs5 -/
/-- the signs of a number -/
noncomputable def digs (m : Nat) : List Nat := (Nat.toDigits 10 m).map Char.toNat
theorem digs_text (m : Nat) : (Str.ofString (toString ((m : Nat) : Int))).cps.toList = digs m := KIN.signs_num m
theorem digs_small {m : Nat} (h : m < 10) : digs m = [48 + m] := by
  have : ∀ d : Nat, d < 10 → (Nat.digitChar d).toNat = 48 + d := by decide
  unfold digs
  rw [Nat.toDigits_of_lt_base h]
  simp [this m h]
theorem digs_big {m : Nat} (h : 10 ≤ m) : digs m = digs (m / 10) ++ [48 + m % 10] := by
  have hm : m % 10 < 10 := Nat.mod_lt m (by decide)
  have t : Nat.toDigits 10 (m / 10) ++ Nat.toDigits 10 (m % 10) = Nat.toDigits 10 (10 * (m / 10) + m % 10) := Nat.toDigits_append_toDigits (by decide) (by omega) hm
  rw [Nat.div_add_mod] at t
  have := digs_small hm
  unfold digs at this ⊢
  rw [← t, List.map_append, this]
theorem digs_all (m : Nat) : NumText.AllDigits (digs m) := by
  induction m using Nat.strongRecOn with
  | _ m ih =>
    intro c hc
    by_cases h : m < 10
    · rw [digs_small h] at hc; simp at hc; omega
    · rw [digs_big (by omega)] at hc
      rcases List.mem_append.mp hc with hc | hc
      · exact ih (m / 10) (by omega) c hc
      · simp at hc; omega
theorem digs_ne (m : Nat) : digs m ≠ [] := by
  by_cases h : m < 10
  · rw [digs_small h]; simp
  · rw [digs_big (by omega)]; simp
theorem digs_val (m : Nat) : NumText.digitsVal (digs m) = m := KIN.val_back m
theorem digs_lead {m : Nat} : ∀ {l : List Nat}, digs m = 48 :: l → l = [] := by
  induction m using Nat.strongRecOn with
  | _ m ih =>
    intro l h
    by_cases hm : m < 10
    · rw [digs_small hm] at h
      injection h with _ h
      exact h.symm
    · rw [digs_big (by omega)] at h
      have h0 := digs_val (m / 10)
      cases e : digs (m / 10) with
      | nil => exact absurd e (digs_ne _)
      | cons c r =>
        rw [e] at h
        injection h with hc _
        subst hc
        rw [e, ih (m / 10) (by omega) e] at h0
        have : NumText.digitsVal [48] = 0 := rfl
        omega
theorem digs_len_le : ∀ (k : Nat) {m : Nat}, 1 ≤ k → m < 10 ^ k → (digs m).length ≤ k
  | 0, _, h, _ => absurd h (by decide)
  | k + 1, m, _, h => by
    by_cases hm : m < 10
    · rw [digs_small hm]; simp
    · rw [digs_big (by omega), List.length_append]
      have h1 : m / 10 < 10 ^ k := by
        rw [Nat.pow_succ] at h
        omega
      have hk : 1 ≤ k := by
        rcases Nat.eq_zero_or_pos k with rfl | hk
        · simp at h; omega
        · exact hk
      have := digs_len_le k hk h1
      simp
      omega
theorem dig_in {c : Nat} (h : 48 ≤ c ∧ c ≤ 57) : inS DIGI c = true := by
  have H : ∀ n : Fin 58, 48 ≤ n.val → inS DIGI n.val = true := by decide +kernel
  exact H ⟨c, Nat.lt_succ_of_le h.2⟩ h.1
theorem r_digs {m : Nat} (h : m < 10 ^ 40) : R1 (.num m) (digs m) := by
  have hl := digs_len_le 40 (by decide) h
  have ha := digs_all m
  have hv := digs_val m
  have hd := @digs_lead m
  have hi := @intText_digits ⟨(digs m).toArray⟩ (by simpa using ha) (by simpa using digs_ne m) (by simp [Str.length]; omega)
  simp only [hv] at hi
  cases e : digs m with
  | nil => exact absurd e (digs_ne m)
  | cons c s =>
    rw [e] at ha hl hi
    refine r_num (n := m) (fun d hd => dig_in (ha d hd)) hi ?_ (by omega)
    by_cases hc : c = 48
    · subst hc; exact .inl (hd e)
    · exact .inr hc
theorem good_num {it : Item} {S : Str} (h : NumP it S) : ∃ W, Good it S W := by
  obtain ⟨x, h0, h1, rfl, rfl⟩ := h
  obtain ⟨m, rfl⟩ := Int.eq_ofNat_of_zero_le h0
  have hm : m < 10 ^ 40 := by
    have : (10 : Nat) ^ 40 = 10 ^ 30 * 10 ^ 10 := by decide
    omega
  have hr : R1 (.num m) (Str.ofString (toString ((m : Nat) : Int))).cps.toList := by rw [digs_text]; exact r_digs hm
  have hl : (Str.ofString (toString ((m : Nat) : Int))).length ≤ 60 := by
    have := digs_len_le 40 (by decide) hm
    rw [← digs_text] at this
    simp [Str.length] at this ⊢
    omega
  exact ⟨_, good_mk rfl hl hl (.num _ (Int.natCast_nonneg m) (Int.lt_of_le_of_lt h1 (by decide +kernel))) hr hr⟩
/-! QLs6 -/
/-- f with p signs -/
noncomputable def pad (p f : Nat) : List Nat := List.replicate (p - (digs f).length) 48 ++ digs f
theorem digs_pos (m : Nat) : 1 ≤ (digs m).length := by
  have := digs_ne m
  cases h : digs m with
  | nil => exact absurd h this
  | cons c l => simp
theorem pad_len {p f : Nat} (hp : 1 ≤ p) (h : f < 10 ^ p) : (pad p f).length = p := by
  have := digs_len_le p hp h
  simp [pad]
  omega
theorem pad_small {p f : Nat} (h : f < 10) : pad (p + 1) f = List.replicate p 48 ++ [48 + f] := by
  unfold pad
  rw [digs_small h]
  rfl
theorem pad_step {p f : Nat} (hp : 1 ≤ p) (hf : f < 10 ^ (p + 1)) : pad (p + 1) f = pad p (f / 10) ++ [48 + f % 10] := by
  by_cases h : f < 10
  · rw [pad_small h, show f / 10 = 0 by omega, show f % 10 = f by omega]
    obtain ⟨q, rfl⟩ : ∃ q, p = q + 1 := ⟨p - 1, by omega⟩
    rw [pad_small (by decide), List.replicate_succ']
  · unfold pad
    rw [digs_big (by omega), List.length_append, ← List.append_assoc]
    simp
theorem digs_cut : ∀ (p : Nat) {v : Nat}, 1 ≤ p → 10 ^ p ≤ v → digs v = digs (v / 10 ^ p) ++ pad p (v % 10 ^ p)
  | 0, _, h, _ => absurd h (by decide)
  | p + 1, v, _, h => by
    rcases Nat.eq_zero_or_pos p with rfl | hp
    · rw [digs_big (by simpa using h)]
      simp only [Nat.zero_add, Nat.pow_one]
      rw [pad_small (p := 0) (Nat.mod_lt _ (by decide))]
      rfl
    · have hpos : 0 < 10 ^ p := Nat.pow_pos (by decide)
      have e : 10 ^ (p + 1) = 10 * 10 ^ p := by rw [Nat.pow_succ, Nat.mul_comm]
      have h10 : 10 ^ p ≤ v / 10 := by rw [Nat.le_div_iff_mul_le (by decide)]; omega
      have hge : 10 ≤ v := by omega
      rw [digs_big hge, digs_cut p hp h10, pad_step hp (Nat.mod_lt _ (by omega)), Nat.div_div_eq_div_mul, ← e, List.append_assoc]
      congr 2
      · congr 1
        rw [e, Nat.mod_mul_right_div_self]
      · rw [e, Nat.mod_mul_right_mod]
theorem digs_full {p v : Nat} (hp : 1 ≤ p) : List.replicate (p + 1 - (digs v).length) 48 ++ digs v = digs (v / 10 ^ p) ++ pad p (v % 10 ^ p) := by
  by_cases h : v < 10 ^ p
  · rw [Nat.div_eq_of_lt h, Nat.mod_eq_of_lt h, digs_small (by decide : 0 < 10)]
    have := digs_len_le p hp h
    unfold pad
    rw [show p + 1 - (digs v).length = (p - (digs v).length) + 1 by omega, List.replicate_succ]
    rfl
  · have h' : 10 ^ p ≤ v := by omega
    rw [← digs_cut p hp h']
    have h1 := digs_pos (v / 10 ^ p)
    have h2 := pad_len hp (Nat.mod_lt v (show 0 < 10 ^ p from Nat.pow_pos (by decide)))
    have h3 : (digs v).length = (digs (v / 10 ^ p)).length + p := by rw [digs_cut p hp h', List.length_append, h2]
    rw [show p + 1 - (digs v).length = 0 by omega]
    rfl
theorem mul0 {k : Int} (h : k ≤ 4) : (Txt.mul (Str.ofString "0") k).cps.toList = List.replicate k.toNat 48 := by
  by_cases h0 : k < 1
  · rw [Txt.mul, if_pos h0, show k.toNat = 0 by omega]; rfl
  · have : k = 1 ∨ k = 2 ∨ k = 3 ∨ k = 4 := by omega
    rcases this with rfl | rfl | rfl | rfl <;> decide +kernel
theorem ofs_len (v : Nat) : ((Str.ofString (toString ((v : Nat) : Int))).length : Int) = ((digs v).length : Int) := by
  rw [← digs_text]
  simp [Str.length]
theorem str_of {X : Str} {l : List Nat} (h : X.cps.toList = l) : X = ⟨l.toArray⟩ := by
  obtain ⟨⟨x⟩⟩ := X
  simp at h
  rw [h]
/-- what decimal_text writes, as signs -/
theorem decTxt_list {p v : Nat} (hp : 1 ≤ p) (hp3 : p ≤ 3) : (decTxt (p : Int) (v : Int)).cps.toList = digs (v / 10 ^ p) ++ 46 :: pad p (v % 10 ^ p) := by
  have hpd := pad_len hp (Nat.mod_lt v (show 0 < 10 ^ p from Nat.pow_pos (by decide)))
  have hD : (Txt.mul (Str.ofString "0") ((p : Int) + 1 - ((Str.ofString (toString ((v : Nat) : Int))).length : Int)) ++ Str.ofString (toString ((v : Nat) : Int))).cps.toList = digs (v / 10 ^ p) ++ pad p (v % 10 ^ p) := by
    rw [← digs_full hp]
    show (_ ++ _ : Array Nat).toList = _
    rw [Array.toList_append, mul0 (by have := digs_pos v; rw [ofs_len]; omega), digs_text, ofs_len]
    congr 2
    omega
  unfold decTxt
  generalize hX : (Txt.mul (Str.ofString "0") ((p : Int) + 1 - ((Str.ofString (toString ((v : Nat) : Int))).length : Int)) ++ Str.ofString (toString ((v : Nat) : Int))) = X at hD
  simp only []
  have hl : X.length = (digs (v / 10 ^ p)).length + p := by
    have : X.cps.toList.length = X.length := by simp [Str.length]
    rw [← this, hD, List.length_append, hpd]
  have s1 : Txt.slice X none (some (-(p : Int))) = ⟨(digs (v / 10 ^ p)).toArray⟩ := by
    show PySem.StrLaws.sliceText X none (some (-(p : Int))) = _
    rw [StrLaws.sliceText_to_neg (by omega) (by omega), List.drop_zero, hD, show (-(p : Int) + (X.length : Int) - 0).toNat = (digs (v / 10 ^ p)).length by omega, List.take_left]
  have s2 : Txt.slice X (some (-(p : Int))) none = ⟨(pad p (v % 10 ^ p)).toArray⟩ := by
    show PySem.StrLaws.sliceText X (some (-(p : Int))) none = _
    rw [StrLaws.sliceText_from_neg (by omega) (by omega), hD, show (-(p : Int) + (X.length : Int)).toNat = (digs (v / 10 ^ p)).length by omega, List.drop_left, List.take_of_length_le]
    simp only [List.length_append, hpd]
    omega
  rw [s1, s2, dot_eq]
  show ((digs (v / 10 ^ p)).toArray ++ #[46] ++ (pad p (v % 10 ^ p)).toArray).toList = _
  simp
theorem dv_app (l : List Nat) : ∀ a : Nat, l.foldl (fun acc c => acc * 10 + (c - 48)) a = a * 10 ^ l.length + NumText.digitsVal l := by
  unfold NumText.digitsVal
  induction l with
  | nil => intro a; simp
  | cons c l ih =>
    intro a
    rw [List.foldl_cons, List.foldl_cons, ih, ih (0 * 10 + (c - 48)), List.length_cons, Nat.pow_succ]
    have : a * 10 * 10 ^ l.length = a * (10 ^ l.length * 10) := by rw [Nat.mul_assoc, Nat.mul_comm 10]
    simp only [Nat.zero_mul, Nat.zero_add]
    rw [Nat.add_mul, this]
    omega
theorem dv_zero (n : Nat) : NumText.digitsVal (List.replicate n 48) = 0 := by
  induction n with
  | zero => rfl
  | succ n ih =>
    rw [List.replicate_succ]
    unfold NumText.digitsVal at ih ⊢
    exact ih
theorem dv_cat (l l' : List Nat) : NumText.digitsVal (l ++ l') = NumText.digitsVal l * 10 ^ l'.length + NumText.digitsVal l' := by
  have : NumText.digitsVal (l ++ l') = l'.foldl (fun acc c => acc * 10 + (c - 48)) (NumText.digitsVal l) := by
    unfold NumText.digitsVal
    rw [List.foldl_append]
  rw [this, dv_app]
theorem pad_val (p f : Nat) : NumText.digitsVal (pad p f) = f := by
  rw [pad, dv_cat, dv_zero, digs_val, Nat.zero_mul, Nat.zero_add]
theorem rep_all (n : Nat) : NumText.AllDigits (List.replicate n 48) := fun c hc => by
  rw [List.eq_of_mem_replicate hc]; decide
theorem all_app {l l' : List Nat} (h : NumText.AllDigits l) (h' : NumText.AllDigits l') : NumText.AllDigits (l ++ l') := fun c hc => by
  rcases List.mem_append.mp hc with hc | hc
  · exact h c hc
  · exact h' c hc
theorem int_of {l : List Nat} (h : NumText.AllDigits l) (h0 : l ≠ []) (hl : l.length ≤ 4300) : PySem.intText? ⟨l.toArray⟩ = some ((NumText.digitsVal l : Nat) : Int) :=
  @intText_digits ⟨l.toArray⟩ (by simpa using h) (by simpa using h0) (by simpa [Str.length] using hl)
/-- a decimal that is worth wo / 10 ^ m, with n noughts behind -/
theorem r_deci {wo m n : Nat} (hw : wo < 1000) (hm : 1 ≤ m) (hm3 : m ≤ 3) (hn : n ≤ 2) :
    R1 (.dec ((wo / Nat.gcd wo (10 ^ m) : Nat) : Int) ((10 ^ m / Nat.gcd wo (10 ^ m) : Nat) : Int)) (digs (wo / 10 ^ m) ++ 46 :: (pad m (wo % 10 ^ m) ++ List.replicate n 48)) := by
  have hpos : 0 < 10 ^ m := Nat.pow_pos (by decide)
  have hpos2 : 0 < 10 ^ n := Nat.pow_pos (by decide)
  have hf := Nat.mod_lt wo hpos
  have hpd := pad_len hm hf
  have ha1 : wo / 10 ^ m < 10 ^ 3 := Nat.lt_of_le_of_lt (Nat.div_le_self _ _) hw
  have hal := digs_len_le 3 (by decide) ha1
  have hA := digs_all (wo / 10 ^ m)
  have hAv := digs_val (wo / 10 ^ m)
  have hB : NumText.AllDigits (pad m (wo % 10 ^ m) ++ List.replicate n 48) := all_app (all_app (rep_all _) (digs_all _)) (rep_all _)
  have hBv : NumText.digitsVal (pad m (wo % 10 ^ m) ++ List.replicate n 48) = wo % 10 ^ m * 10 ^ n := by
    rw [dv_cat, pad_val, dv_zero, List.length_replicate, Nat.add_zero]
  have hBl : (pad m (wo % 10 ^ m) ++ List.replicate n 48).length = m + n := by rw [List.length_append, hpd, List.length_replicate]
  have hAi := int_of hA (digs_ne _) (by omega)
  have hBi := int_of hB (by intro e; rw [e] at hBl; simp at hBl; omega) (by omega)
  rw [hAv] at hAi
  rw [hBv] at hBi
  have hlead := @digs_lead (wo / 10 ^ m)
  have hval : wo / 10 ^ m * 10 ^ (m + n) + wo % 10 ^ m * 10 ^ n = wo * 10 ^ n := by
    rw [Nat.pow_add, ← Nat.mul_assoc, ← Nat.add_mul, Nat.mul_comm (wo / 10 ^ m), Nat.div_add_mod]
  have hy : wo % 10 ^ m * 10 ^ n ≤ 100000 := by
    have h1 : wo % 10 ^ m ≤ 999 := by have := Nat.mod_le wo (10 ^ m); omega
    have h2 : 10 ^ n ≤ 100 := Nat.pow_le_pow_right (n := 10) (by decide) hn
    calc wo % 10 ^ m * 10 ^ n ≤ 999 * 100 := Nat.mul_le_mul h1 h2
      _ ≤ 100000 := by decide
  revert hA hB hAi hBi hlead hBl hal
  generalize hgA : digs (wo / 10 ^ m) = lA
  generalize hgB : pad m (wo % 10 ^ m) ++ List.replicate n 48 = lB
  intro hal hA hB hBl hAi hBi hlead
  cases lA with
  | nil => exact absurd hgA (digs_ne _)
  | cons c s =>
    cases lB with
    | nil => simp at hBl; omega
    | cons c2 s2 =>
      have := r_dec (c := c) (s := s) (c2 := c2) (s2 := s2) (x := wo / 10 ^ m) (y := wo % 10 ^ m * 10 ^ n) (fun d hd => dig_in (hA d hd)) (fun d hd => dig_in (hB d hd)) hAi hBi
        (by
          by_cases hc : c = 48
          · subst hc; exact .inl (hlead rfl)
          · exact .inr hc) (by omega) hy (by omega) (by omega)
      rw [hBl, hval, Nat.pow_add, Nat.gcd_mul_right, Nat.mul_div_mul_right _ _ hpos2, Nat.mul_div_mul_right _ _ hpos2] at this
      exact this
/-! QLs7 -/
/-- the facts of a drawn decimal worth wo / 10 ^ m -/
noncomputable def chkD (m wo : Nat) : Bool :=
  let r := 10 ^ m
  let g := Nat.gcd wo r
  let t := wo / g
  let b := r / g
  let s2 := strip 2 10 wo r
  let s := strip 5 10 s2.1 s2.2
  let c2 := cnt 2 10 b 0
  let c5 := cnt 5 10 c2.1 0
  let p := (max 1 (max c2.2 c5.2)).toNat
  let v := t * 10 ^ p / b
  s == ((t : Int), (b : Int)) && c5.1 == 1 && decide (1 ≤ c2.1) && decide (c2.1 ≤ 1000) && decide (p ≤ 3) && decide (v < 1000) && v / Nat.gcd v (10 ^ p) == t && 10 ^ p / Nat.gcd v (10 ^ p) == b
theorem chk_all : ∀ m : Fin 3, ∀ wo : Fin 1000, chkD (m.val + 1) wo.val = true := by decide +kernel
theorem ten_nat {m : Nat} (h : 1 ≤ m) (h3 : m ≤ 3) : Ten (m : Int) ((10 ^ m : Nat) : Int) := by
  have : m = 1 ∨ m = 2 ∨ m = 3 := by omega
  rcases this with rfl | rfl | rfl
  · exact .inl ⟨rfl, rfl⟩
  · exact .inr (.inl ⟨rfl, rfl⟩)
  · exact .inr (.inr ⟨rfl, rfl⟩)
theorem ten_is {e r : Int} (h : Ten e r) : ∃ m : Nat, 1 ≤ m ∧ m ≤ 3 ∧ e = (m : Int) ∧ r = ((10 ^ m : Nat) : Int) := by
  rcases h with ⟨rfl, rfl⟩ | ⟨rfl, rfl⟩ | ⟨rfl, rfl⟩
  · exact ⟨1, by decide, by decide, rfl, rfl⟩
  · exact ⟨2, by decide, by decide, rfl, rfl⟩
  · exact ⟨3, by decide, by decide, rfl, rfl⟩
theorem list_len (X : Str) : X.cps.toList.length = X.length := by simp [Str.length]
theorem good_dec {it : Item} {S : Str} (h : DecP it S) : ∃ W, Good it S W := by
  obtain ⟨wo, many, r, n, h0, h1, hT, hn0, hn3, rfl, rfl⟩ := h
  obtain ⟨m, hm, hm3, rfl, rfl⟩ := ten_is hT
  obtain ⟨w, rfl⟩ := Int.eq_ofNat_of_zero_le h0
  obtain ⟨k, rfl⟩ := Int.eq_ofNat_of_zero_le hn0
  have hw : w < 1000 := by omega
  have hk : k ≤ 2 := by omega
  have hpos : 0 < 10 ^ m := Nat.pow_pos (by decide)
  have hf := Nat.mod_lt w hpos
  have hc : chkD m w = true := by
    have := chk_all ⟨m - 1, by omega⟩ ⟨w, hw⟩
    rwa [show m - 1 + 1 = m by omega] at this
  have hS : (Str.ofString (toString ((w : Int).fdiv ((10 ^ m : Nat) : Int))) ++ Str.ofString "." ++ Txt.mul (Str.ofString "0") ((m : Int) - ((Str.ofString (toString ((w : Int).fmod ((10 ^ m : Nat) : Int)))).length : Int)) ++ Str.ofString (toString ((w : Int).fmod ((10 ^ m : Nat) : Int))) ++ Txt.mul (Str.ofString "0") (k : Int)).cps.toList =
      digs (w / 10 ^ m) ++ 46 :: (pad m (w % 10 ^ m) ++ List.replicate k 48) := by
    have e1 : (w : Int).fdiv ((10 ^ m : Nat) : Int) = ((w / 10 ^ m : Nat) : Int) := by rw [Int.fdiv_eq_ediv_of_nonneg _ (Int.natCast_nonneg _)]; rfl
    have e2 : (w : Int).fmod ((10 ^ m : Nat) : Int) = ((w % 10 ^ m : Nat) : Int) := by rw [Int.fmod_eq_emod_of_nonneg _ (Int.natCast_nonneg _)]; rfl
    have hl := digs_len_le m hm hf
    have hp := digs_pos (w % 10 ^ m)
    rw [e1, e2, dot_eq]
    show (_ ++ _ ++ _ ++ _ ++ _ : Array Nat).toList = _
    rw [Array.toList_append, Array.toList_append, Array.toList_append, Array.toList_append, digs_text, digs_text, ofs_len, mul0 (by omega), mul0 (by omega)]
    unfold pad
    rw [show ((m : Int) - ((digs (w % 10 ^ m)).length : Int)).toNat = m - (digs (w % 10 ^ m)).length by omega]
    simp
  have hSr := r_deci hw hm hm3 hk
  rw [← hS] at hSr
  unfold chkD at hc
  simp only [Bool.and_eq_true, beq_iff_eq, decide_eq_true_eq] at hc
  obtain ⟨⟨⟨⟨⟨⟨⟨c1, c2⟩, c3⟩, c4⟩, c5⟩, c6⟩, c7⟩, c8⟩ := hc
  rw [c1]
  have hSl := congrArg List.length hS
  rw [list_len] at hSl
  have hpl := pad_len hm hf
  have ha := digs_len_le 3 (by decide) (show w / 10 ^ m < 10 ^ 3 from Nat.lt_of_le_of_lt (Nat.div_le_self _ _) hw)
  have hSl' : (Str.ofString (toString ((w : Int).fdiv ((10 ^ m : Nat) : Int))) ++ Str.ofString "." ++ Txt.mul (Str.ofString "0") ((m : Int) - ((Str.ofString (toString ((w : Int).fmod ((10 ^ m : Nat) : Int)))).length : Int)) ++ Str.ofString (toString ((w : Int).fmod ((10 ^ m : Nat) : Int))) ++ Txt.mul (Str.ofString "0") (k : Int)).length ≤ 60 := by
    rw [hSl]
    simp only [List.length_append, List.length_cons, List.length_replicate, hpl]
    omega
  have htw : w / Nat.gcd w (10 ^ m) ≤ 999 := by have := Nat.div_le_self w (Nat.gcd w (10 ^ m)); omega
  have hbl : 10 ^ m / Nat.gcd w (10 ^ m) ≤ 1000 := by
    have h1 := Nat.div_le_self (10 ^ m) (Nat.gcd w (10 ^ m))
    have h2 : 10 ^ m ≤ 10 ^ 3 := Nat.pow_le_pow_right (by decide) hm3
    omega
  have hbp : 1 ≤ 10 ^ m / Nat.gcd w (10 ^ m) := by
    have hg : Nat.gcd w (10 ^ m) ∣ 10 ^ m := Nat.gcd_dvd_right _ _
    exact Nat.div_pos (Nat.le_of_dvd hpos hg) (Nat.gcd_pos_of_pos_right _ hpos)
  generalize w / Nat.gcd w (10 ^ m) = t at c2 c3 c4 c5 c6 c7 c8 hSr htw ⊢
  generalize 10 ^ m / Nat.gcd w (10 ^ m) = b at c2 c3 c4 c5 c6 c7 c8 hSr hbl hbp ⊢
  rcases hci : cnt 2 10 (b : Int) 0 with ⟨b2, i⟩
  simp only [hci] at c2 c3 c4 c5 c6 c7 c8
  rcases hcj : cnt 5 10 b2 0 with ⟨o, j⟩
  simp only [hcj] at c2 c3 c4 c5 c6 c7 c8
  have hpz : 1 ≤ (max 1 (max i j)).toNat := by omega
  have hpi : max 1 (max i j) = (((max 1 (max i j)).toNat : Nat) : Int) := by omega
  generalize (max 1 (max i j)).toNat = p at c5 c6 c7 c8 hpz hpi
  have hv : ((t : Int) * ((10 ^ p : Nat) : Int)).fdiv (b : Int) = ((t * 10 ^ p / b : Nat) : Int) := by rw [Int.fdiv_eq_ediv_of_nonneg _ (Int.natCast_nonneg _)]; rfl
  have hW := Writes.dec (t : Int) (b : Int) b2 i j (p : Int) ((10 ^ p : Nat) : Int) (Int.natCast_nonneg _) (by omega) (by omega) (by omega) hci (by rw [hcj, c2]) c3 c4 hpi (ten_nat hpz c5) (by rw [hv]; exact Int.natCast_nonneg _) (by rw [hv]; omega)
  rw [hv] at hW
  have hWl := decTxt_list (v := t * 10 ^ p / b) hpz c5
  have hWr := r_deci (n := 0) c6 hpz c5 (by decide)
  rw [c7, c8] at hWr
  rw [show (pad p (t * 10 ^ p / b % 10 ^ p) ++ List.replicate 0 48) = pad p (t * 10 ^ p / b % 10 ^ p) by simp, ← hWl] at hWr
  refine ⟨_, good_mk rfl hSl' ?_ hW hSr hWr⟩
  rw [← list_len, hWl]
  have h1 := digs_len_le 3 (by decide) (show t * 10 ^ p / b / 10 ^ p < 10 ^ 3 from Nat.lt_of_le_of_lt (Nat.div_le_self _ _) c6)
  have h2 := pad_len hpz (Nat.mod_lt (t * 10 ^ p / b) (show 0 < 10 ^ p from Nat.pow_pos (by decide)))
  simp only [List.length_append, List.length_cons, h2]
  omega
/-! QLs8 -/
theorem dig01 : digV 48 = 0 ∧ digV 49 = 1 := by decide +kernel
noncomputable def binV (l : List Nat) : Int := l.foldl (fun (a : Int) (c : Nat) => a * 2 + ((c : Int) - 48)) 0
theorem in01 {d : Nat} (h : d = 48 ∨ d = 49) : inS BINA d = true := by
  rcases h with rfl | rfl <;> decide +kernel
theorem valF_bin : ∀ (l : List Nat) (a : Int), (∀ d ∈ l, d = 48 ∨ d = 49) → (l.map fun (c : Nat) => (c : Int)).foldl (fun a c => a * 2 + digV c) a = l.foldl (fun (a : Int) (c : Nat) => a * 2 + ((c : Int) - 48)) a
  | [], _, _ => rfl
  | c :: l, a, h => by
    rw [List.map_cons, List.foldl_cons, List.foldl_cons]
    have : digV (c : Int) = (c : Int) - 48 := by
      rcases h c (.head _) with rfl | rfl
      · exact dig01.1
      · exact dig01.2
    rw [this]
    exact valF_bin l _ fun d hd => h d (.tail _ hd)
/-- a row of bits, spelled by two -/
theorem r_bin0 {l : List Nat} (h : ∀ d ∈ l, d = 48 ∨ d = 49) (h0 : 1 ≤ l.length) : R1 (.bits (binV l) (l.length : Int)) (35 :: 98 :: l) := by
  cases l with
  | nil => simp at h0
  | cons c s =>
    have hr := r_bitb (c := c) (s := s) fun d hd => in01 (h d hd)
    have hst : KXs.Still ⟨(c :: s).toArray⟩ := fun d hd => by
      have := h d (by simpa using hd)
      omega
    rw [KXs.lower_still hst] at hr
    have e : valF 2 (KStt.codes ⟨(c :: s).toArray⟩) = binV (c :: s) := valF_bin (c :: s) 0 h
    rw [e] at hr
    exact hr
theorem hash_b : Str.ofString "#b" = ⟨#[35, 98]⟩ := by decide +kernel
theorem hash_x : Str.ofString "#x" = ⟨#[35, 120]⟩ := by decide +kernel
theorem bin_text (X : Str) : (Str.ofString "#b" ++ X).cps.toList = 35 :: 98 :: X.cps.toList := by
  rw [hash_b]
  show (#[35, 98] ++ X.cps).toList = _
  simp
theorem hex_text (X : Str) : (Str.ofString "#x" ++ X).cps.toList = 35 :: 120 :: X.cps.toList := by
  rw [hash_x]
  show (#[35, 120] ++ X.cps).toList = _
  simp
theorem downKs_succ (a : Int) (n : Nat) : downKs a (n + 1) = a :: downKs (a - 1) n := by
  unfold downKs
  rw [List.range_succ_eq_map, List.map_cons, List.map_map]
  congr 1
  · simp
  · refine List.map_congr_left fun i _ => ?_
    show a - ((i + 1 : Nat) : Int) = a - 1 - (i : Int)
    omega
noncomputable def bitC (x k : Int) : Nat := if Int.fmod (Int.fdiv x (2 ^ k.toNat)) 2 = 1 then 49 else 48
theorem bitC_01 (x k : Int) : bitC x k = 48 ∨ bitC x k = 49 := by unfold bitC; split <;> simp
theorem bitT_C (x k : Int) : (bitT x k).cps.toList = [bitC x k] := by
  unfold bitT bitC
  split <;> decide +kernel
theorem bits_list (x : Int) (ks : List Int) : (Txt.join (Str.ofString "") (ks.map (bitT x))).cps.toList = ks.map (bitC x) := by
  rw [join_flat]
  simp only [List.flatMap_map]
  induction ks with
  | nil => rfl
  | cons k ks ih =>
    simp only [List.flatMap_cons, List.map_cons, bitT_C] at ih ⊢
    rw [← ih]
    rfl
theorem bin_down (x : Nat) : ∀ (m : Nat) (a : Int), ((downKs ((m : Int) - 1) m).map (bitC x)).foldl (fun (a : Int) (c : Nat) => a * 2 + ((c : Int) - 48)) a = a * 2 ^ m + ((x % 2 ^ m : Nat) : Int)
  | 0, a => by simp [downKs, Nat.mod_one]
  | m + 1, a => by
    rw [downKs_succ, List.map_cons, List.foldl_cons, show (((m + 1 : Nat) : Int) - 1 - 1) = (m : Int) - 1 by omega, show (((m + 1 : Nat) : Int) - 1) = (m : Int) by omega, bin_down x m]
    have hb : ((bitC x (m : Int) : Int) - 48) = ((x / 2 ^ m % 2 : Nat) : Int) := by
      have e : Int.fmod (Int.fdiv (x : Int) (2 ^ (m : Int).toNat)) 2 = ((x / 2 ^ m % 2 : Nat) : Int) := by
        rw [Int.toNat_natCast, Int.fdiv_eq_ediv_of_nonneg _ (Int.pow_nonneg (by decide)), Int.fmod_eq_emod_of_nonneg _ (by decide)]
        simp
      unfold bitC
      rw [e]
      split
      · rename_i h; rw [h]; rfl
      · rename_i h
        have : x / 2 ^ m % 2 < 2 := Nat.mod_lt _ (by decide)
        omega
    rw [hb, Nat.mod_pow_succ]
    have e2 : (2 : Int) ^ (m + 1) = 2 ^ m * 2 := Int.pow_succ ..
    rw [e2, Int.add_mul, Int.mul_assoc, Int.mul_comm 2 (2 ^ m)]
    push_cast
    rw [Int.mul_comm ((2 : Int) ^ m) ((x : Int) / 2 ^ m % 2)]
    omega
/-- what bits_text writes is read to the same -/
theorem r_bin {x n : Nat} (hx : x < 2 ^ n) (h1 : 1 ≤ n) : R1 (.bits (x : Int) (n : Int)) (Str.ofString "#b" ++ Txt.join (Str.ofString "") ((downKs ((n : Int) - 1) n).map (bitT x))).cps.toList := by
  rw [bin_text, bits_list]
  have hl : ((downKs ((n : Int) - 1) n).map (bitC x)).length = n := by rw [List.length_map, downKs_length]
  have hv : binV ((downKs ((n : Int) - 1) n).map (bitC x)) = (x : Int) := by
    unfold binV
    rw [bin_down, Nat.mod_eq_of_lt hx]
    omega
  have := r_bin0 (l := (downKs ((n : Int) - 1) n).map (bitC x)) (fun d hd => by
    obtain ⟨k, _, rfl⟩ := List.mem_map.mp hd
    exact bitC_01 _ _) (by omega)
  rw [hl, hv] at this
  exact this
theorem bin_len (x : Nat) (n : Nat) : (Str.ofString "#b" ++ Txt.join (Str.ofString "") ((downKs ((n : Int) - 1) n).map (bitT x))).length = n + 2 := by
  rw [← list_len, bin_text, bits_list]
  simp [downKs_length]
theorem bits_good {x n : Nat} {S : Str} (hx : x < 2 ^ n) (h1 : 1 ≤ n) (h12 : n ≤ 12) (hS : S.length ≤ 60) (hr : R1 (.bits (x : Int) (n : Int)) S.cps.toList) : ∃ W, Good (.bits (x : Int) (n : Int)) S W := by
  have hx2 : x < 5000 := by
    have : 2 ^ n ≤ 2 ^ 12 := Nat.pow_le_pow_right (by decide) h12
    omega
  exact ⟨_, good_mk rfl hS (by rw [bin_len]; omega) (.bits x n (Int.natCast_nonneg _) (by omega) h1 h12) hr (r_bin hx h1)⟩
theorem hex_facts : ∀ (b : Bool) (d : Fin 16), (inS HEXD (hexC b (d.val : Int)) && decide (hexC b (d.val : Int) < 128) && (digV ((lo1 (hexC b (d.val : Int)) : Nat) : Int) == (d.val : Int))) = true := by decide +kernel
theorem hex_fact (b : Bool) {d : Int} (h0 : 0 ≤ d) (h1 : d < 16) : inS HEXD (hexC b d) = true ∧ hexC b d < 128 ∧ digV ((lo1 (hexC b d) : Nat) : Int) = d := by
  have := hex_facts b ⟨d.toNat, by omega⟩
  simp only [Bool.and_eq_true, decide_eq_true_eq, beq_iff_eq] at this
  rw [show ((d.toNat : Nat) : Int) = d by omega] at this
  exact ⟨this.1.1, this.1.2, this.2⟩
theorem valF_hex (b : Bool) : ∀ (ds : List Int) (a : Int), (∀ d ∈ ds, 0 ≤ d ∧ d < 16) → (((ds.map (hexC b)).map lo1).map fun (c : Nat) => (c : Int)).foldl (fun a c => a * 16 + digV c) a = ds.foldl (fun a d => 16 * a + d) a
  | [], _, _ => rfl
  | d :: ds, a, h => by
    rw [List.map_cons, List.map_cons, List.map_cons, List.foldl_cons, List.foldl_cons, (hex_fact b (h d (.head _)).1 (h d (.head _)).2).2.2, Int.mul_comm a 16]
    exact valF_hex b ds _ fun d hd => h d (.tail _ hd)
theorem r_hex {b : Bool} {ds : List Int} (h : ∀ d ∈ ds, 0 ≤ d ∧ d < 16) (h1 : 1 ≤ ds.length) : R1 (.bits (hexW ds) (4 * (ds.length : Int))) (Str.ofString "#x" ++ hexS b ds).cps.toList := by
  rw [hex_text]
  have hv : valF 16 (KStt.codes (Txt.lower (hexS b ds))) = hexW ds := by
    rw [lower_ascii (x := hexS b ds) (fun c hc => by
      simp only [hexS, List.mem_map] at hc
      obtain ⟨d, hd, rfl⟩ := hc
      exact (hex_fact b (h d hd).1 (h d hd).2).2.1)]
    unfold valF hexW KStt.codes hexS
    rw [Array.toList_map]
    exact valF_hex b ds 0 h
  have hall : ∀ d ∈ ds.map (hexC b), inS HEXD d = true := fun c hc => by
    obtain ⟨d, hd, rfl⟩ := List.mem_map.mp hc
    exact (hex_fact b (h d hd).1 (h d hd).2).1
  have hlen : (ds.map (hexC b)).length = ds.length := List.length_map ..
  have hS : hexS b ds = ⟨(ds.map (hexC b)).toArray⟩ := rfl
  rw [hS] at hv ⊢
  show R1 _ (35 :: 120 :: ds.map (hexC b))
  revert hv hall hlen
  generalize ds.map (hexC b) = l
  intro hv hall hlen
  cases l with
  | nil => simp at hlen; omega
  | cons c s =>
    have := r_bitx (c := c) (s := s) hall
    rw [hv, hlen] at this
    exact this
theorem hexW_lt : ∀ (ds : List Int) (a : Int), (∀ d ∈ ds, 0 ≤ d ∧ d < 16) → 0 ≤ a → 0 ≤ ds.foldl (fun a d => 16 * a + d) a ∧ ds.foldl (fun a d => 16 * a + d) a < (a + 1) * 16 ^ ds.length
  | [], a, _, h0 => by simp; omega
  | d :: ds, a, h, h0 => by
    rw [List.foldl_cons, List.length_cons]
    have hd := h d (.head _)
    obtain ⟨h1, h2⟩ := hexW_lt ds (16 * a + d) (fun d hd => h d (.tail _ hd)) (by omega)
    refine ⟨h1, Int.lt_of_lt_of_le h2 ?_⟩
    have e : (16 : Int) ^ (ds.length + 1) = 16 * 16 ^ ds.length := by rw [Int.pow_succ, Int.mul_comm]
    rw [e, ← Int.mul_assoc]
    exact Int.mul_le_mul_of_nonneg_right (by omega) (Int.pow_nonneg (by decide))
theorem pow_hex (k : Nat) : (16 : Int) ^ k = ((2 ^ (4 * k) : Nat) : Int) := by
  rw [Nat.pow_mul]
  simp
/-- the value of bits, the last one first -/
noncomputable def lsb (L : List Int) : Int := L.foldr (fun c a => a * 2 + c) 0
theorem lsb_lt : ∀ {L : List Int}, (∀ c ∈ L, c = 0 ∨ c = 1) → 0 ≤ lsb L ∧ lsb L < ((2 ^ L.length : Nat) : Int)
  | [], _ => by decide
  | c :: L, h => by
    have hc := h c (.head _)
    obtain ⟨h1, h2⟩ := lsb_lt (L := L) fun d hd => h d (.tail _ hd)
    have e : lsb (c :: L) = lsb L * 2 + c := rfl
    rw [e, List.length_cons, Nat.pow_succ]
    push_cast at h2 ⊢
    omega
theorem sum_two (g : Nat → Int) (l : List Nat) : (l.map fun i => g i * 2).sum = (l.map g).sum * 2 := by
  induction l with
  | nil => rfl
  | cons a l ih => simp only [List.map_cons, List.sum_cons, ih]; omega
theorem lsb_sum : ∀ L : List Int, ((List.range L.length).map fun i => L.getD i 0 * 2 ^ i).sum = lsb L
  | [] => rfl
  | c :: L => by
    rw [List.length_cons, List.range_succ_eq_map, List.map_cons, List.sum_cons, List.map_map]
    have e : (fun i => (c :: L).getD i 0 * 2 ^ i) ∘ Nat.succ = fun i => (L.getD i 0 * 2 ^ i) * 2 := by
      funext i
      show (c :: L).getD (i + 1) 0 * 2 ^ (i + 1) = _
      rw [List.getD_cons_succ, Int.pow_succ, Int.mul_assoc]
    rw [e, sum_two, lsb_sum L]
    show c * 1 + lsb L * 2 = lsb L * 2 + c
    omega
theorem bitsL_01 (W : Int) (n : Nat) : ∀ c ∈ bitsL W n, c = 0 ∨ c = 1 := fun c hc => bits01 (W := W) (ks := rangeKs 0 n) (List.mem_reverse.mpr hc)
theorem bitsL_len (W : Int) (n : Nat) : (bitsL W n).length = n := by rw [bitsL, List.length_map, rangeKs_length]
theorem bitsV_lsb (W : Int) (n : Nat) : bitsV W n = lsb (bitsL W n) := by
  rw [← lsb_sum, bitsL_len]
  unfold bitsV rangeKs
  rw [List.map_map]
  congr 1
  refine List.map_congr_left fun i _ => ?_
  show (bitsL W n).getD ((0 : Int) + (i : Int)).toNat 0 * 2 ^ ((0 : Int) + (i : Int)).toNat = _
  rw [show ((0 : Int) + (i : Int)).toNat = i by omega]
theorem one_text {k : Int} (h : k = 0 ∨ k = 1) : (Str.ofString (toString k)).cps.toList = [48 + k.toNat] := by
  rcases h with rfl | rfl <;> decide +kernel
theorem bitsS_list : ∀ {L : List Int}, (∀ c ∈ L, c = 0 ∨ c = 1) → (Txt.join (Str.ofString "") (L.map fun k => Str.ofString (toString k))).cps.toList = L.map fun k => 48 + k.toNat := by
  intro L h
  rw [join_flat]
  simp only [List.flatMap_map]
  induction L with
  | nil => rfl
  | cons k L ih =>
    have := ih fun c hc => h c (.tail _ hc)
    simp only [List.flatMap_cons, List.map_cons, one_text (h k (.head _))] at this ⊢
    rw [← this]
    rfl
theorem bin_foldl : ∀ (L : List Int) (a : Int), (∀ c ∈ L, c = 0 ∨ c = 1) → (L.map fun k => 48 + k.toNat).foldl (fun (a : Int) (c : Nat) => a * 2 + ((c : Int) - 48)) a = L.foldl (fun a c => a * 2 + c) a
  | [], _, _ => rfl
  | c :: L, a, h => by
    rw [List.map_cons, List.foldl_cons, List.foldl_cons]
    have : ((48 + c.toNat : Nat) : Int) - 48 = c := by have := h c (.head _); omega
    rw [this]
    exact bin_foldl L _ fun d hd => h d (.tail _ hd)
theorem good_bits {it : Item} {S : Str} (h : BitsP it S) : ∃ W, Good it S W := by
  rcases h with ⟨up, ds, h, h1, h3, rfl, rfl⟩ | ⟨W, n, h1, h12, rfl, rfl⟩
  · have hr := r_hex (b := up) h h1
    obtain ⟨l0, l1⟩ := hexW_lt ds 0 h (Int.le_refl _)
    have l1' : hexW ds < ((2 ^ (4 * ds.length) : Nat) : Int) := by
      rw [← pow_hex]
      have : (0 + 1 : Int) * 16 ^ ds.length = 16 ^ ds.length := by omega
      rw [← this]
      exact l1
    obtain ⟨x, hx⟩ := Int.eq_ofNat_of_zero_le (show 0 ≤ hexW ds from l0)
    rw [hx] at hr l1' ⊢
    have := bits_good (x := x) (n := 4 * ds.length) (S := Str.ofString "#x" ++ hexS up ds) (by omega) (by omega) (by omega)
      (by rw [← list_len, hex_text]; simp only [List.length_cons, list_len, hexS_len]; omega) (by push_cast; exact hr)
    push_cast at this
    exact this
  · have hL := bitsL_01 W n
    have hLr : ∀ c ∈ (bitsL W n).reverse, c = 0 ∨ c = 1 := fun c hc => hL c (List.mem_reverse.mp hc)
    obtain ⟨l0, l1⟩ := lsb_lt hL
    rw [bitsL_len] at l1
    obtain ⟨x, hx⟩ := Int.eq_ofNat_of_zero_le l0
    have hb : bitsV W n = (x : Int) := by rw [bitsV_lsb]; exact hx
    rw [hb]
    have e : (Str.ofString "#b" ++ bitsS W n).cps.toList = 35 :: 98 :: ((bitsL W n).reverse.map fun k => 48 + k.toNat) := by
      rw [bin_text]
      unfold bitsS
      rw [bitsS_list hLr]
    have hr := r_bin0 (l := (bitsL W n).reverse.map fun k => 48 + k.toNat) (fun d hd => by
      obtain ⟨k, hk, rfl⟩ := List.mem_map.mp hd
      have := hLr k hk
      omega) (by rw [List.length_map, List.length_reverse, bitsL_len]; exact h1)
    have hv : binV ((bitsL W n).reverse.map fun k => 48 + k.toNat) = (x : Int) := by
      unfold binV
      rw [bin_foldl _ 0 hLr, List.foldl_reverse]
      exact hx
    rw [hv, List.length_map, List.length_reverse, bitsL_len, ← e] at hr
    exact bits_good (by omega) h1 h12 (by rw [← list_len, e]; simp only [List.length_cons, List.length_map, List.length_reverse, bitsL_len]; omega) hr
theorem good_of {it : Item} {S : Str} (h : ItemP it S) : ∃ W, Good it S W := by
  rcases h with h | h | h | h | h | h
  · exact good_sym h
  · exact good_str h
  · exact good_key h
  · exact good_bits h
  · exact good_num h
  · exact good_dec h
/-! QBrk -/
theorem setBrk : True := by
  k_with_none
  (k_with "execs cons" => first | (k_here; k_made; walk_at "execs cons") | (k_here; (with_reducible refine wpAny_execs_cons ?_); (try dsimp only); (try (with_reducible refine anyTok ?_); intro tk9); (try k_fold)))
  (k_with "enter" => ((rename At _ _ _ _ _ _ _ _ _ => HA9); (have B9 := HA9.B); (have X9 := HA9.X); (have T9 := HA9.T); (have hk9 := HA9.hk); clear HA9; (refine wpAny_call ?_); (k_dflt ktr_enter)))
  trivial
noncomputable abbrev BROKEN : List (Str × Nat) := [(Str.ofString "\"abc", 0), (Str.ofString "|a", 0), (Str.ofString "#q", 0), (Str.ofString "#b", 0), (Str.ofString "#b12", 0), (Str.ofString "#xfg", 0), (Str.ofString ":", 0), (Str.ofString ":7", 0), (Str.ofString "07", 0), (Str.ofString "3.", 0), (Str.ofString "5x", 0), (Str.ofString "1.2.3", 0), (Str.ofString "|a\\b|", 2), (Str.ofString "'", 0)]
noncomputable abbrev brkT (b : Addr × (Str × Nat) × Tok × Tok) : Addr × Obj := (b.1, tupO [.str b.2.1.1 b.2.2.1, .int (b.2.1.2 : Int) b.2.2.2])
/-- the list of broken words, as it lies -/
noncomputable def BrokeL (w : World) (rest : List (Addr × Obj)) (r : Value) (news' : List (Addr × Obj)) : Prop :=
  ∃ (l : Addr) (vs : List Value) (c : Nat) (own : List (Addr × Obj)), r = .ref l ∧ vs.length = 14 ∧ (∀ (i : Nat) (v : Value), vs[i]? = some v → ∃ b, v = .ref b.1 ∧ b.2.1 ∈ BROKEN ∧ brkT b ∈ own) ∧ (∀ x ∈ own, ∀ y ∈ rest, @LT.lt Nat _ y.1 x.1) ∧ (∀ y ∈ rest, @LT.lt Nat _ y.1 l) ∧ news' = (l, W.listOf vs.toArray c) :: own ++ rest
theorem brk_gen {w : World} {rest : List (Addr × Obj)} {l : Addr} {c : Nat} (bs : List (Addr × (Str × Nat) × Tok × Tok)) (h1 : bs.length = 14) (h2 : ∀ b ∈ bs, b.2.1 ∈ BROKEN) (h3 : ∀ b ∈ bs, ∀ y ∈ rest, @LT.lt Nat _ y.1 b.1) (h4 : ∀ y ∈ rest, @LT.lt Nat _ y.1 l) :
    BrokeL w rest (.ref l) ((l, W.listOf (bs.map fun b => Value.ref b.1).toArray c) :: bs.reverse.map brkT ++ rest) := by
  refine ⟨l, _, c, _, rfl, by simpa using h1, fun i v hv => ?_, fun x hx => ?_, h4, rfl⟩
  · rw [List.getElem?_map] at hv
    cases e : bs[i]? with
    | none => rw [e] at hv; cases hv
    | some b =>
      rw [e] at hv
      injection hv with hv
      have hb := List.mem_of_getElem? e
      exact ⟨b, hv.symm, h2 b hb, List.mem_map.mpr ⟨b, List.mem_reverse.mpr hb, rfl⟩⟩
  · obtain ⟨b, hb, rfl⟩ := List.mem_map.mp hx
    exact h3 b (List.mem_reverse.mp hb)
theorem brk_list {w : World} {rest : List (Addr × Obj)} {l b0 b1 b2 b3 b4 b5 b6 b7 b8 b9 b10 b11 b12 b13 : Addr} {c : Nat} {t0 u0 t1 u1 t2 u2 t3 u3 t4 u4 t5 u5 t6 u6 t7 u7 t8 u8 t9 u9 t10 u10 t11 u11 t12 u12 t13 u13 : Tok} (k0 : ∀ y ∈ rest, y.1 < b0) (k1 : AllLt b1 ((b0, tupO [.str (Str.ofString "\"abc") t0, .int 0 u0]) :: rest)) (k2 : AllLt b2 ((b1, tupO [.str (Str.ofString "|a") t1, .int 0 u1]) :: (b0, tupO [.str (Str.ofString "\"abc") t0, .int 0 u0]) :: rest)) (k3 : AllLt b3 ((b2, tupO [.str (Str.ofString "#q") t2, .int 0 u2]) :: (b1, tupO [.str (Str.ofString "|a") t1, .int 0 u1]) :: (b0, tupO [.str (Str.ofString "\"abc") t0, .int 0 u0]) :: rest)) (k4 : AllLt b4 ((b3, tupO [.str (Str.ofString "#b") t3, .int 0 u3]) :: (b2, tupO [.str (Str.ofString "#q") t2, .int 0 u2]) :: (b1, tupO [.str (Str.ofString "|a") t1, .int 0 u1]) :: (b0, tupO [.str (Str.ofString "\"abc") t0, .int 0 u0]) :: rest)) (k5 : AllLt b5 ((b4, tupO [.str (Str.ofString "#b12") t4, .int 0 u4]) :: (b3, tupO [.str (Str.ofString "#b") t3, .int 0 u3]) :: (b2, tupO [.str (Str.ofString "#q") t2, .int 0 u2]) :: (b1, tupO [.str (Str.ofString "|a") t1, .int 0 u1]) :: (b0, tupO [.str (Str.ofString "\"abc") t0, .int 0 u0]) :: rest)) (k6 : AllLt b6 ((b5, tupO [.str (Str.ofString "#xfg") t5, .int 0 u5]) :: (b4, tupO [.str (Str.ofString "#b12") t4, .int 0 u4]) :: (b3, tupO [.str (Str.ofString "#b") t3, .int 0 u3]) :: (b2, tupO [.str (Str.ofString "#q") t2, .int 0 u2]) :: (b1, tupO [.str (Str.ofString "|a") t1, .int 0 u1]) :: (b0, tupO [.str (Str.ofString "\"abc") t0, .int 0 u0]) :: rest)) (k7 : AllLt b7 ((b6, tupO [.str (Str.ofString ":") t6, .int 0 u6]) :: (b5, tupO [.str (Str.ofString "#xfg") t5, .int 0 u5]) :: (b4, tupO [.str (Str.ofString "#b12") t4, .int 0 u4]) :: (b3, tupO [.str (Str.ofString "#b") t3, .int 0 u3]) :: (b2, tupO [.str (Str.ofString "#q") t2, .int 0 u2]) :: (b1, tupO [.str (Str.ofString "|a") t1, .int 0 u1]) :: (b0, tupO [.str (Str.ofString "\"abc") t0, .int 0 u0]) :: rest)) (k8 : AllLt b8 ((b7, tupO [.str (Str.ofString ":7") t7, .int 0 u7]) :: (b6, tupO [.str (Str.ofString ":") t6, .int 0 u6]) :: (b5, tupO [.str (Str.ofString "#xfg") t5, .int 0 u5]) :: (b4, tupO [.str (Str.ofString "#b12") t4, .int 0 u4]) :: (b3, tupO [.str (Str.ofString "#b") t3, .int 0 u3]) :: (b2, tupO [.str (Str.ofString "#q") t2, .int 0 u2]) :: (b1, tupO [.str (Str.ofString "|a") t1, .int 0 u1]) :: (b0, tupO [.str (Str.ofString "\"abc") t0, .int 0 u0]) :: rest)) (k9 : AllLt b9 ((b8, tupO [.str (Str.ofString "07") t8, .int 0 u8]) :: (b7, tupO [.str (Str.ofString ":7") t7, .int 0 u7]) :: (b6, tupO [.str (Str.ofString ":") t6, .int 0 u6]) :: (b5, tupO [.str (Str.ofString "#xfg") t5, .int 0 u5]) :: (b4, tupO [.str (Str.ofString "#b12") t4, .int 0 u4]) :: (b3, tupO [.str (Str.ofString "#b") t3, .int 0 u3]) :: (b2, tupO [.str (Str.ofString "#q") t2, .int 0 u2]) :: (b1, tupO [.str (Str.ofString "|a") t1, .int 0 u1]) :: (b0, tupO [.str (Str.ofString "\"abc") t0, .int 0 u0]) :: rest)) (k10 : AllLt b10 ((b9, tupO [.str (Str.ofString "3.") t9, .int 0 u9]) :: (b8, tupO [.str (Str.ofString "07") t8, .int 0 u8]) :: (b7, tupO [.str (Str.ofString ":7") t7, .int 0 u7]) :: (b6, tupO [.str (Str.ofString ":") t6, .int 0 u6]) :: (b5, tupO [.str (Str.ofString "#xfg") t5, .int 0 u5]) :: (b4, tupO [.str (Str.ofString "#b12") t4, .int 0 u4]) :: (b3, tupO [.str (Str.ofString "#b") t3, .int 0 u3]) :: (b2, tupO [.str (Str.ofString "#q") t2, .int 0 u2]) :: (b1, tupO [.str (Str.ofString "|a") t1, .int 0 u1]) :: (b0, tupO [.str (Str.ofString "\"abc") t0, .int 0 u0]) :: rest)) (k11 : AllLt b11 ((b10, tupO [.str (Str.ofString "5x") t10, .int 0 u10]) :: (b9, tupO [.str (Str.ofString "3.") t9, .int 0 u9]) :: (b8, tupO [.str (Str.ofString "07") t8, .int 0 u8]) :: (b7, tupO [.str (Str.ofString ":7") t7, .int 0 u7]) :: (b6, tupO [.str (Str.ofString ":") t6, .int 0 u6]) :: (b5, tupO [.str (Str.ofString "#xfg") t5, .int 0 u5]) :: (b4, tupO [.str (Str.ofString "#b12") t4, .int 0 u4]) :: (b3, tupO [.str (Str.ofString "#b") t3, .int 0 u3]) :: (b2, tupO [.str (Str.ofString "#q") t2, .int 0 u2]) :: (b1, tupO [.str (Str.ofString "|a") t1, .int 0 u1]) :: (b0, tupO [.str (Str.ofString "\"abc") t0, .int 0 u0]) :: rest)) (k12 : AllLt b12 ((b11, tupO [.str (Str.ofString "1.2.3") t11, .int 0 u11]) :: (b10, tupO [.str (Str.ofString "5x") t10, .int 0 u10]) :: (b9, tupO [.str (Str.ofString "3.") t9, .int 0 u9]) :: (b8, tupO [.str (Str.ofString "07") t8, .int 0 u8]) :: (b7, tupO [.str (Str.ofString ":7") t7, .int 0 u7]) :: (b6, tupO [.str (Str.ofString ":") t6, .int 0 u6]) :: (b5, tupO [.str (Str.ofString "#xfg") t5, .int 0 u5]) :: (b4, tupO [.str (Str.ofString "#b12") t4, .int 0 u4]) :: (b3, tupO [.str (Str.ofString "#b") t3, .int 0 u3]) :: (b2, tupO [.str (Str.ofString "#q") t2, .int 0 u2]) :: (b1, tupO [.str (Str.ofString "|a") t1, .int 0 u1]) :: (b0, tupO [.str (Str.ofString "\"abc") t0, .int 0 u0]) :: rest)) (k13 : AllLt b13 ((b12, tupO [.str (Str.ofString "|a\\b|") t12, .int 2 u12]) :: (b11, tupO [.str (Str.ofString "1.2.3") t11, .int 0 u11]) :: (b10, tupO [.str (Str.ofString "5x") t10, .int 0 u10]) :: (b9, tupO [.str (Str.ofString "3.") t9, .int 0 u9]) :: (b8, tupO [.str (Str.ofString "07") t8, .int 0 u8]) :: (b7, tupO [.str (Str.ofString ":7") t7, .int 0 u7]) :: (b6, tupO [.str (Str.ofString ":") t6, .int 0 u6]) :: (b5, tupO [.str (Str.ofString "#xfg") t5, .int 0 u5]) :: (b4, tupO [.str (Str.ofString "#b12") t4, .int 0 u4]) :: (b3, tupO [.str (Str.ofString "#b") t3, .int 0 u3]) :: (b2, tupO [.str (Str.ofString "#q") t2, .int 0 u2]) :: (b1, tupO [.str (Str.ofString "|a") t1, .int 0 u1]) :: (b0, tupO [.str (Str.ofString "\"abc") t0, .int 0 u0]) :: rest)) (kl : AllLt l ((b13, tupO [.str (Str.ofString "'") t13, .int 0 u13]) :: (b12, tupO [.str (Str.ofString "|a\\b|") t12, .int 2 u12]) :: (b11, tupO [.str (Str.ofString "1.2.3") t11, .int 0 u11]) :: (b10, tupO [.str (Str.ofString "5x") t10, .int 0 u10]) :: (b9, tupO [.str (Str.ofString "3.") t9, .int 0 u9]) :: (b8, tupO [.str (Str.ofString "07") t8, .int 0 u8]) :: (b7, tupO [.str (Str.ofString ":7") t7, .int 0 u7]) :: (b6, tupO [.str (Str.ofString ":") t6, .int 0 u6]) :: (b5, tupO [.str (Str.ofString "#xfg") t5, .int 0 u5]) :: (b4, tupO [.str (Str.ofString "#b12") t4, .int 0 u4]) :: (b3, tupO [.str (Str.ofString "#b") t3, .int 0 u3]) :: (b2, tupO [.str (Str.ofString "#q") t2, .int 0 u2]) :: (b1, tupO [.str (Str.ofString "|a") t1, .int 0 u1]) :: (b0, tupO [.str (Str.ofString "\"abc") t0, .int 0 u0]) :: rest)) :
    BrokeL w rest (.ref l) ((l, W.listOf #[.ref b0, .ref b1, .ref b2, .ref b3, .ref b4, .ref b5, .ref b6, .ref b7, .ref b8, .ref b9, .ref b10, .ref b11, .ref b12, .ref b13] c) :: (b13, tupO [.str (Str.ofString "'") t13, .int 0 u13]) :: (b12, tupO [.str (Str.ofString "|a\\b|") t12, .int 2 u12]) :: (b11, tupO [.str (Str.ofString "1.2.3") t11, .int 0 u11]) :: (b10, tupO [.str (Str.ofString "5x") t10, .int 0 u10]) :: (b9, tupO [.str (Str.ofString "3.") t9, .int 0 u9]) :: (b8, tupO [.str (Str.ofString "07") t8, .int 0 u8]) :: (b7, tupO [.str (Str.ofString ":7") t7, .int 0 u7]) :: (b6, tupO [.str (Str.ofString ":") t6, .int 0 u6]) :: (b5, tupO [.str (Str.ofString "#xfg") t5, .int 0 u5]) :: (b4, tupO [.str (Str.ofString "#b12") t4, .int 0 u4]) :: (b3, tupO [.str (Str.ofString "#b") t3, .int 0 u3]) :: (b2, tupO [.str (Str.ofString "#q") t2, .int 0 u2]) :: (b1, tupO [.str (Str.ofString "|a") t1, .int 0 u1]) :: (b0, tupO [.str (Str.ofString "\"abc") t0, .int 0 u0]) :: rest) := by
  refine brk_gen [(b0, (Str.ofString "\"abc", 0), t0, u0), (b1, (Str.ofString "|a", 0), t1, u1), (b2, (Str.ofString "#q", 0), t2, u2), (b3, (Str.ofString "#b", 0), t3, u3), (b4, (Str.ofString "#b12", 0), t4, u4), (b5, (Str.ofString "#xfg", 0), t5, u5), (b6, (Str.ofString ":", 0), t6, u6), (b7, (Str.ofString ":7", 0), t7, u7), (b8, (Str.ofString "07", 0), t8, u8), (b9, (Str.ofString "3.", 0), t9, u9), (b10, (Str.ofString "5x", 0), t10, u10), (b11, (Str.ofString "1.2.3", 0), t11, u11), (b12, (Str.ofString "|a\\b|", 2), t12, u12), (b13, (Str.ofString "'", 0), t13, u13)] rfl ?_ ?_ (fun y hy => allLt_all kl y (.tail _ (.tail _ (.tail _ (.tail _ (.tail _ (.tail _ (.tail _ (.tail _ (.tail _ (.tail _ (.tail _ (.tail _ (.tail _ (.tail _ (hy))))))))))))))))
  · intro b hb
    simp only [List.mem_cons, List.not_mem_nil, or_false] at hb
    rcases hb with rfl | rfl | rfl | rfl | rfl | rfl | rfl | rfl | rfl | rfl | rfl | rfl | rfl | rfl
    · exact .head _
    · exact .tail _ (.head _)
    · exact .tail _ (.tail _ (.head _))
    · exact .tail _ (.tail _ (.tail _ (.head _)))
    · exact .tail _ (.tail _ (.tail _ (.tail _ (.head _))))
    · exact .tail _ (.tail _ (.tail _ (.tail _ (.tail _ (.head _)))))
    · exact .tail _ (.tail _ (.tail _ (.tail _ (.tail _ (.tail _ (.head _))))))
    · exact .tail _ (.tail _ (.tail _ (.tail _ (.tail _ (.tail _ (.tail _ (.head _)))))))
    · exact .tail _ (.tail _ (.tail _ (.tail _ (.tail _ (.tail _ (.tail _ (.tail _ (.head _))))))))
    · exact .tail _ (.tail _ (.tail _ (.tail _ (.tail _ (.tail _ (.tail _ (.tail _ (.tail _ (.head _)))))))))
    · exact .tail _ (.tail _ (.tail _ (.tail _ (.tail _ (.tail _ (.tail _ (.tail _ (.tail _ (.tail _ (.head _))))))))))
    · exact .tail _ (.tail _ (.tail _ (.tail _ (.tail _ (.tail _ (.tail _ (.tail _ (.tail _ (.tail _ (.tail _ (.head _)))))))))))
    · exact .tail _ (.tail _ (.tail _ (.tail _ (.tail _ (.tail _ (.tail _ (.tail _ (.tail _ (.tail _ (.tail _ (.tail _ (.head _))))))))))))
    · exact .tail _ (.tail _ (.tail _ (.tail _ (.tail _ (.tail _ (.tail _ (.tail _ (.tail _ (.tail _ (.tail _ (.tail _ (.tail _ (.head _)))))))))))))
  · intro b hb
    simp only [List.mem_cons, List.not_mem_nil, or_false] at hb
    rcases hb with rfl | rfl | rfl | rfl | rfl | rfl | rfl | rfl | rfl | rfl | rfl | rfl | rfl | rfl
    · exact k0
    · exact (fun y hy => allLt_all k1 y (.tail _ (hy)))
    · exact (fun y hy => allLt_all k2 y (.tail _ (.tail _ (hy))))
    · exact (fun y hy => allLt_all k3 y (.tail _ (.tail _ (.tail _ (hy)))))
    · exact (fun y hy => allLt_all k4 y (.tail _ (.tail _ (.tail _ (.tail _ (hy))))))
    · exact (fun y hy => allLt_all k5 y (.tail _ (.tail _ (.tail _ (.tail _ (.tail _ (hy)))))))
    · exact (fun y hy => allLt_all k6 y (.tail _ (.tail _ (.tail _ (.tail _ (.tail _ (.tail _ (hy))))))))
    · exact (fun y hy => allLt_all k7 y (.tail _ (.tail _ (.tail _ (.tail _ (.tail _ (.tail _ (.tail _ (hy)))))))))
    · exact (fun y hy => allLt_all k8 y (.tail _ (.tail _ (.tail _ (.tail _ (.tail _ (.tail _ (.tail _ (.tail _ (hy))))))))))
    · exact (fun y hy => allLt_all k9 y (.tail _ (.tail _ (.tail _ (.tail _ (.tail _ (.tail _ (.tail _ (.tail _ (.tail _ (hy)))))))))))
    · exact (fun y hy => allLt_all k10 y (.tail _ (.tail _ (.tail _ (.tail _ (.tail _ (.tail _ (.tail _ (.tail _ (.tail _ (.tail _ (hy))))))))))))
    · exact (fun y hy => allLt_all k11 y (.tail _ (.tail _ (.tail _ (.tail _ (.tail _ (.tail _ (.tail _ (.tail _ (.tail _ (.tail _ (.tail _ (hy)))))))))))))
    · exact (fun y hy => allLt_all k12 y (.tail _ (.tail _ (.tail _ (.tail _ (.tail _ (.tail _ (.tail _ (.tail _ (.tail _ (.tail _ (.tail _ (.tail _ (hy))))))))))))))
    · exact (fun y hy => allLt_all k13 y (.tail _ (.tail _ (.tail _ (.tail _ (.tail _ (.tail _ (.tail _ (.tail _ (.tail _ (.tail _ (.tail _ (.tail _ (.tail _ (hy)))))))))))))))
theorem broken_says (w : World) (rest : List (Addr × Obj)) : Says w 900 900 303 [] rest (BrokeL w rest) := by
  intro mean mg mb gd cn cs a ccd cl outer A₀ base h₀ L m hS gS dS oS tS Q E HA F N hret
  walk_at "enter"
  k_steps
  refine hret _ _ _ _ (by k_asm) (by k_asm) ?_
  exact brk_list (by assumption) (by assumption) (by assumption) (by assumption) (by assumption) (by assumption) (by assumption) (by assumption) (by assumption) (by assumption) (by assumption) (by assumption) (by assumption) (by assumption) (by assumption)
/-! QLs3 -/
/-- no double quote and no bar stands in it -/
noncomputable def plainB (b : List Nat) : Bool := stopB b && !b.contains 34 && !b.contains 124
noncomputable def B1 (s : List Nat) (late : Nat) : Prop := ∀ (T : Str) (p : Nat) (b : List Nat), sfx T p = s ++ b → plainB b = true → Breaks T p (p + late)
theorem plain_of {b : List Nat} (h : plainB b = true) : stopB b = true ∧ 34 ∉ b ∧ 124 ∉ b := by
  simp [plainB] at h
  exact ⟨h.1.1, h.1.2, h.2⟩
theorem quo_eq : Str.ofString "\"" = ⟨#[34]⟩ := by decide +kernel
theorem barF_eq : Str.ofString "|" = ⟨#[124]⟩ := by decide +kernel
theorem bslF_eq : Str.ofString "\\" = ⟨#[92]⟩ := by decide +kernel
theorem b_str {s : List Nat} (h : 34 ∉ s) : B1 (34 :: s) 0 := by
  intro T p b hs hb
  obtain ⟨h1, h2, h3⟩ := plain_of hb
  exact .str (at_sfx hs) (by rw [quo_eq]; exact find3_no (sfx_tl hs) (by simp [h, h2]))
theorem b_quo1 {s : List Nat} (h : 124 ∉ s) : B1 (124 :: s) 0 := by
  intro T p b hs hb
  obtain ⟨h1, h2, h3⟩ := plain_of hb
  exact .quo1 (at_sfx hs) (by rw [barF_eq]; exact find3_no (sfx_tl hs) (by simp [h, h3]))
theorem b_quo2 : B1 [124, 97, 92, 98, 124] 2 := by
  intro T p b hs hb
  have ht := sfx_tl (l := [97, 92, 98] ++ 124 :: b) hs
  have hl := sfx_le hs (by simp)
  simp at hl
  have hf := find3_at ht (by decide)
  exact .quo2 (p + 1 + 3) 1 ⟨#[97, 92, 98]⟩ (at_sfx hs) (by rw [barF_eq]; exact hf) (by omega) (by omega)
    (by rw [show ((p : Int) + 1) = ((p + 1 : Nat) : Int) from rfl, slice_nat T (by omega) (by omega), ht, Nat.add_sub_cancel_left]; rfl)
    (by rw [bslF_eq]; decide +kernel)
theorem emp_eq : (⟨([] : List Nat).toArray⟩ : Str) = Str.ofString "" := by decide +kernel
theorem run_emp {T S : Str} {p : Nat} {b : List Nat} (h : sfx T p = b) (hb : ∀ c, b.head? = some c → inS S c = false) : (runStr T S p == Str.ofString "") = true := by
  have := (run_cat (s := []) h (fun _ h => nomatch h) hb).1
  rw [this, emp_eq, beq_self_eq_true]
theorem b_key1 : B1 [58] 0 := by
  intro T p b hs hb
  obtain ⟨h1, h2, h3⟩ := plain_of hb
  exact .key1 (at_sfx hs) (run_emp (sfx_tl hs) (stop_simp h1))
theorem busy_of {T : Str} {q c : Nat} {b : List Nat} (h : sfx T q = c :: b) (hc : inS SIMP c = true) : busy T q := ⟨c, at_sfx h, hc⟩
theorem b_key2 : B1 [58, 55] 0 := by
  intro T p b hs hb
  obtain ⟨h1, h2, h3⟩ := plain_of hb
  have hr := (run_cat (s := [55]) (sfx_tl hs) (by decide +kernel) (stop_simp h1)).1
  exact .key2 (at_sfx hs) (by rw [hr]; decide +kernel) (by rw [hr]; decide +kernel)
theorem b_bits1 : B1 [35, 113] 0 := by
  intro T p b hs hb
  exact .bits1 (at_sfx hs) (at_sfx (sfx_tl hs))
theorem b_bits2 : B1 [35, 98] 0 := by
  intro T p b hs hb
  obtain ⟨h1, h2, h3⟩ := plain_of hb
  exact .bits2 (at_sfx hs) (at_sfx (sfx_tl hs)) (run_emp (sfx_tl (sfx_tl hs)) (stop_of h1 fun _ => sub_bin))
theorem b_bits3 : B1 [35, 98, 49, 50] 0 := by
  intro T p b hs hb
  have ht := sfx_tl (sfx_tl hs)
  obtain ⟨r1, r2⟩ := run_cat (S := BINf) (s := [49]) (b := 50 :: b) ht (by decide +kernel) (fun c hc => by cases hc; decide +kernel)
  exact .bits3 (at_sfx hs) (at_sfx (sfx_tl hs)) (by rw [show p + 2 = p + 1 + 1 by omega, r1]; decide +kernel) (by rw [show p + 2 = p + 1 + 1 by omega, r2]; exact busy_of (sfx_tl ht) (by decide +kernel))
theorem b_bits4 : B1 [35, 120, 102, 103] 0 := by
  intro T p b hs hb
  have ht := sfx_tl (sfx_tl hs)
  obtain ⟨r1, r2⟩ := run_cat (S := HEXD) (s := [102]) (b := 103 :: b) ht (by decide +kernel) (fun c hc => by cases hc; decide +kernel)
  exact .bits4 (at_sfx hs) (at_sfx (sfx_tl hs)) (by rw [show p + 2 = p + 1 + 1 by omega, r1]; decide +kernel) (by rw [show p + 2 = p + 1 + 1 by omega, r2]; exact busy_of (sfx_tl ht) (by decide +kernel))
theorem b_num1 : B1 [48, 55] 0 := by
  intro T p b hs hb
  obtain ⟨h1, h2, h3⟩ := plain_of hb
  have hr := (run_cat (S := DIGI) (s := [48, 55]) hs (by decide +kernel) (stop_of h1 fun _ => sub_dig)).1
  exact .num1 48 (at_sfx hs) (by decide +kernel) (by rw [hr]; decide +kernel) (by rw [hr]; decide +kernel)
theorem b_num2 : B1 [53, 120] 0 := by
  intro T p b hs hb
  obtain ⟨r1, r2⟩ := run_cat (S := DIGI) (s := [53]) (b := 120 :: b) hs (by decide +kernel) (fun c hc => by cases hc; decide +kernel)
  exact .num2 53 (at_sfx hs) (by decide +kernel) (by rw [r1]; decide +kernel)
    (by rw [r2, show p + [53].length = p + 1 from rfl, sign_some (at_sfx (sfx_tl hs))]; decide +kernel)
    (by rw [r2]; exact busy_of (sfx_tl hs) (by decide +kernel))
theorem b_num3 : B1 [51, 46] 0 := by
  intro T p b hs hb
  obtain ⟨h1, h2, h3⟩ := plain_of hb
  obtain ⟨r1, r2⟩ := run_cat (S := DIGI) (s := [51]) (b := 46 :: b) hs (by decide +kernel) (fun c hc => by cases hc; decide +kernel)
  have hl := sfx_le hs (by simp)
  simp at hl
  exact .num3 51 (at_sfx hs) (by decide +kernel) (by rw [r1]; decide +kernel)
    (by rw [r2, show p + [51].length = p + 1 from rfl, sign_some (at_sfx (sfx_tl hs))]; decide +kernel)
    (by rw [r2]; simp only [List.length_cons, List.length_nil]; omega)
    (by rw [r2]; exact run_emp (sfx_tl (sfx_tl hs)) (stop_of h1 fun _ => sub_dig))
theorem b_num4 : B1 [49, 46, 50, 46, 51] 0 := by
  intro T p b hs hb
  obtain ⟨r1, r2⟩ := run_cat (S := DIGI) (s := [49]) (b := 46 :: 50 :: 46 :: 51 :: b) hs (by decide +kernel) (fun c hc => by cases hc; decide +kernel)
  have ht := sfx_tl (sfx_tl hs)
  obtain ⟨r3, r4⟩ := run_cat (S := DIGI) (s := [50]) (b := 46 :: 51 :: b) ht (by decide +kernel) (fun c hc => by cases hc; decide +kernel)
  have hl := sfx_le hs (by simp)
  simp at hl
  exact .num4 49 (at_sfx hs) (by decide +kernel) (by rw [r1]; decide +kernel)
    (by rw [r2, show p + [49].length = p + 1 from rfl, sign_some (at_sfx (sfx_tl hs))]; decide +kernel)
    (by rw [r2]; simp only [List.length_cons, List.length_nil]; omega)
    (by rw [r2]; simp only [List.length_cons, List.length_nil]; rw [r3]; decide +kernel)
    (by rw [r2]; simp only [List.length_cons, List.length_nil]; rw [r4]; exact busy_of (sfx_tl ht) (by decide +kernel))
theorem b_odd : B1 [39] 0 := by
  intro T p b hs hb
  exact .odd (at_sfx hs)
theorem broken_b1 {x : Str × Nat} (h : x ∈ BROKEN) : B1 x.1.cps.toList x.2 := by
  simp only [List.mem_cons, List.not_mem_nil, or_false] at h
  rcases h with rfl | rfl | rfl | rfl | rfl | rfl | rfl | rfl | rfl | rfl | rfl | rfl | rfl | rfl
  · exact (show (Str.ofString "\"abc").cps.toList = [34, 97, 98, 99] by decide +kernel) ▸ b_str (by decide)
  · exact (show (Str.ofString "|a").cps.toList = [124, 97] by decide +kernel) ▸ b_quo1 (by decide)
  · exact (show (Str.ofString "#q").cps.toList = [35, 113] by decide +kernel) ▸ b_bits1
  · exact (show (Str.ofString "#b").cps.toList = [35, 98] by decide +kernel) ▸ b_bits2
  · exact (show (Str.ofString "#b12").cps.toList = [35, 98, 49, 50] by decide +kernel) ▸ b_bits3
  · exact (show (Str.ofString "#xfg").cps.toList = [35, 120, 102, 103] by decide +kernel) ▸ b_bits4
  · exact (show (Str.ofString ":").cps.toList = [58] by decide +kernel) ▸ b_key1
  · exact (show (Str.ofString ":7").cps.toList = [58, 55] by decide +kernel) ▸ b_key2
  · exact (show (Str.ofString "07").cps.toList = [48, 55] by decide +kernel) ▸ b_num1
  · exact (show (Str.ofString "3.").cps.toList = [51, 46] by decide +kernel) ▸ b_num3
  · exact (show (Str.ofString "5x").cps.toList = [53, 120] by decide +kernel) ▸ b_num2
  · exact (show (Str.ofString "1.2.3").cps.toList = [49, 46, 50, 46, 51] by decide +kernel) ▸ b_num4
  · exact (show (Str.ofString "|a\\b|").cps.toList = [124, 97, 92, 98, 124] by decide +kernel) ▸ b_quo2
  · exact (show (Str.ofString "'").cps.toList = [39] by decide +kernel) ▸ b_odd
/-! QBrk2 -/
section
variable {prog : Program} {w : World} {A : Around} {E : Value → Shared → Prop} {s : Shared}
theorem brk_item {value slice : Expr} {l : Addr} {vs : List Value} {own : List (Addr × Obj)} {k : Int} {u : Tok} {Q : Value → Shared → Prop} (hl : s.heap.IsList l vs.toArray) (hn : vs.length = 14) (hv : ∀ (i : Nat) (v : Value), vs[i]? = some v → ∃ b, v = .ref b.1 ∧ b.2.1 ∈ BROKEN ∧ brkT b ∈ own) (h0 : 0 ≤ k) (h1 : k < 14)
    (h : ∀ b, b.2.1 ∈ BROKEN → brkT b ∈ own → Q (.ref b.1) s) (hs : subscripted slice false (.ref l) (.int k u) = operate [.ref l, .int k u] (getItem (.ref l) (.int k u)) := by with_unfolding_all rfl) :
    wpAny (model prog w) A (subscriptTail value slice (.ref l) (.int k u)) Q E s := by
  have hlt : k.toNat < vs.length := by omega
  obtain ⟨b, e, hb1, hb2⟩ := hv k.toNat _ (List.getElem?_eq_getElem hlt)
  refine tail_any hl.typeIs slot_list_getitem.lookup (wpAny_getItem_list hl h0 (by omega) (x := .ref b.1) ?_ (h b hb1 hb2)) hs
  simp [← e, hlt]
end
theorem brk_led {w : World} {h₀ h : Heap} {L fa ca : Addr} {k : Int} {o c : Obj} {x : Addr × Obj} {rest l : List (Addr × Obj)} (_ : FeedO w ca k o) (N : News h₀ L h l) (hx : x ∈ rest) (hm : ∀ p ∈ (fa, o) :: (ca, c) :: rest, p ∈ l) : News h₀ L h ((fa, o) :: (ca, c) :: x :: rest) := fun p hp => N p (by
  simp only [List.mem_cons] at hp
  rcases hp with hp | hp | hp | hp
  · exact hm p (hp ▸ .head _)
  · exact hm p (hp ▸ .tail _ (.head _))
  · exact hm p (.tail _ (.tail _ (hp ▸ hx)))
  · exact hm p (.tail _ (.tail _ hp)))
theorem heardF_use {w : World} {T : Str} {t tw : Tok} {p q : Nat} {rest : List (Addr × Obj)} (hT : T.length ≤ 1000) (hB : Breaks T p q) {dp un : Nat} {mean : ExcName → Option Value} {mg mb : Str → Option Value} {gd : Option (List Code)} {cn : Str} {cs : Scope} {a : Addr} {ccd : Value} {A₀ : Around} {base h₀ : Heap} {L : Addr} {m : Str → Option Value} {hS : Heap} {gS : Array GenState} {dS : PySem.Drawn} {oS : OsState} {tS : Nat} {Q E : Value → Shared → Prop}
    (B : Below A₀ base [] h₀) (X : (hd.heap_1 w.params).In h₀) (Tp : Top vw LS mean mg mb h₀) (hk : cs.kind = .function) (F : Fr h₀ L hS m) (N : News h₀ L hS rest) (hd : dp ≤ 400) (hu : un ≤ 200)
    (ret : ∀ t h' tk', Fr h₀ L h' m → News h₀ L h' rest → Q (.int (q : Int) t) ⟨h', gS, dS, tk', oS⟩) :
    wpAny (model PR w) (ktrTop dp un gd cn cs L a ccd [] []) (call (.ref 341) [.str T t, .int (p : Int) tw]) Q E ⟨hS, gS, dS, tS, oS⟩ :=
  shallower (heard_faults w T t tw p p rest rfl hT q hB mean mg mb gd cn cs a ccd A₀ base h₀ L m ⟨hS, gS, dS, tS, oS⟩ Q E ⟨B, X, Tp, hk⟩ F N fun _ h' tk' f n ⟨t, e⟩ => e ▸ ret t h' tk' f n) hd hu
noncomputable abbrev BEHS : List Str := [Str.ofString "", Str.ofString " ", Str.ofString ")", Str.ofString "(", Str.ofString "; 1", Str.ofString "\n", Str.ofString " a)"]
theorem brk_in {F X B : Str} {late : Nat} (h : (X, late) ∈ BROKEN) (hB : B ∈ BEHS) : Breaks (F ++ X ++ B) F.length (F.length + late) := by
  have hb : ∀ B ∈ BEHS, plainB B.cps.toList = true := by decide +kernel
  exact broken_b1 h (F ++ X ++ B) F.length B.cps.toList (sfx_cat F X B) (hb B hB)
theorem brk_alone {X : Str} {late : Nat} (h : (X, late) ∈ BROKEN) : Breaks X 0 late := by
  have := broken_b1 h X 0 [] (sfx_zero X) rfl
  rwa [Nat.zero_add] at this
theorem brk_len {X : Str} {late : Nat} (h : (X, late) ∈ BROKEN) : X.length ≤ 8 := by
  have : ∀ x ∈ BROKEN, x.1.length ≤ 8 := by decide +kernel
  exact this _ h
/-! QLaw -/
section
theorem setLaw : True := by
  k_with_none
  (k_with "k_in" => first | assumption | exact Frag.In.keeps (by k_asm) (Fr.keep (by k_asm)))
  (k_with "execs cons" => first | (k_here; k_made; walk_at "execs cons") | (k_here; (with_reducible refine wpAny_execs_cons ?_); (try dsimp only); (try (with_reducible refine anyTok ?_); intro tk9); (try k_fold)))
  (k_with "enter" => ((rename At _ _ _ _ _ _ _ _ _ => HA9); (have B9 := HA9.B); (have X9 := HA9.X); (have T9 := HA9.T); (have hk9 := HA9.hk); clear HA9; (refine wpAny_call ?_); (k_dflt ktr_enter)))
  (k_with "ite" => (k_here; first
    | refine ite_pos (by with_reducible assumption) ?_
    | refine ite_neg (not_true_of (by with_reducible assumption)) ?_
    | refine ite_pos (by first | omega | ((simp only [decide_eq_true_eq, beq_iff_eq, bne_iff_ne, ne_eq, Bool.not_eq_true', decide_eq_false_iff_not]); omega)) ?_
    | refine ite_neg (by first | omega | ((simp only [decide_eq_true_eq, beq_iff_eq, bne_iff_ne, ne_eq, Bool.not_eq_true', decide_eq_false_iff_not]); omega)) ?_))
  (k_with "binaryOp FloorDiv int int" => (k_here; refine floordiv_int (by omega) ?_))
  (k_with "compareOp In str ref" => (k_here; k_dflt (refine' in_tup (ys := RES) (tupK (Frag.In.keeps (by k_asm) (Fr.keep (by k_asm))) (by k_is)) (by repeat (first | exact StrsAre.nil | refine StrsAre.cons _ _ ?_)) ?_)))
  (k_with "call ref" => (k_here; (with_reducible show wpAny _ _ (call (Value.ref 310) _) _ _ _); k_dflt (refine' says_go (by k_asm) (by first | k_asm | exact news_rot (by k_asm) | exact news_rot2 (by k_asm) | exact news_rot3 (by k_asm)) (draw_says _ _ _ _ _ _ _ _ _ _ _ (by assumption) (by assumption) (by assumption) (by assumption) (by omega) (by omega) (by decide) (by decide) (by k_all) (by assumption)) elD (by k_asm) (by k_asm) (by k_asm) (by first | rfl | assumption) (Nat.le_of_ble_eq_true rfl) (Nat.le_of_ble_eq_true rfl) ?_); intro d9 t9 o9 hlo9 hhi9 hfo9 h9 tk9 F9 N9; (try k_sweep)))
  (k_with "allLt" => first
    | assumption
    | exact (by assumption : _ ∧ AllLt _ _).2
    | exact (by assumption : _ ∧ _ ∧ AllLt _ _).2.2
    | exact (by assumption : _ ∧ _ ∧ _ ∧ AllLt _ _).2.2.2
    | exact (by assumption : _ ∧ _ ∧ _ ∧ _ ∧ AllLt _ _).2.2.2.2
    | exact (by assumption : _ ∧ _ ∧ _ ∧ _ ∧ _ ∧ AllLt _ _).2.2.2.2.2
    | exact (by assumption : _ ∧ _ ∧ _ ∧ _ ∧ _ ∧ _ ∧ AllLt _ _).2.2.2.2.2.2)
  (k_with "inNews" => (intro p9 hp9; simp only [List.mem_cons] at hp9 ⊢; rcases hp9 with hp9 | hp9 | hp9 <;> simp only [hp9, true_or, or_true]))
  (k_with "call ref" => ((with_reducible show wpAny _ _ (call (Value.ref 334) _) _ _ _); (refine stuck ?_)))
  (k_with "call ref" => ((with_reducible show wpAny _ _ (call (Value.ref 341) _) _ _ _); (refine stuck ?_)))
  (k_with "call ref" => ((with_reducible show wpAny _ _ (call (Value.ref 261) _) _ _ _); (refine stuck ?_)))
  (k_with "call ref" => ((with_reducible show wpAny _ _ (call (Value.ref 282) _) _ _ _); (refine stuck ?_)))
  (k_with "call ref" => ((with_reducible show wpAny _ _ (call (Value.ref 303) _) _ _ _); (refine stuck ?_)))
  trivial
local macro_rules | `(tactic| k_in) => `(tactic| walk_at "k_in")
local macro_rules | `(tactic| k_qdec) => `(tactic| decide +kernel)
structure BrokenDone : Prop where
theorem setLawb : True := by
  (k_with "subscriptTail" => ((rename BrokenDone => x9); (with_reducible show wpAny _ _ (subscriptTail _ _ (Value.ref _) (Value.int _ _)) _ _ _); refine stuck ?_))
  (k_with "compareOp NotEq ref ref" => (refine stuck ?_))
  trivial
theorem strs_in {l : List Str} {d : Int} {N : Str} (h : l.getD d.toNat Str.empty = N) (h0 : 0 ≤ d) (h1 : d < l.length) : N ∈ l := by
  have hlt : d.toNat < l.length := by omega
  rw [← h, List.getD_eq_getElem?_getD, List.getElem?_eq_getElem hlt]
  exact List.getElem_mem hlt
theorem short_of {l : List Str} {N : Str} (h : N ∈ l) (hl : (l.all fun x => decide (x.length ≤ 8)) = true) : N.length ≤ 8 := by
  simpa using List.all_eq_true.mp hl N h
theorem setLawc : True := by
  (k_with "subscriptTail" => (k_here; (with_reducible show wpAny _ _ (subscriptTail _ _ (Value.ref _) (Value.int _ _)) _ _ _); first
    | (k_dflt (refine' item_strsR (ys := FRONTS) (News.isList (by k_asm) (by k_mem)) (by repeat (first | exact StrsAre.nil | refine StrsAre.cons _ _ ?_)) (by assumption) (by assumption) (by omega) ?_ (by with_unfolding_all rfl)); intro t9; (generalize hgN9 : List.getD FRONTS _ _ = N9); (have hFm := strs_in hgN9 (by assumption) (by assumption)); (have hFl := short_of hFm (by decide +kernel)); clear hgN9)
    | (k_dflt (refine' item_strsR (ys := BEHINDS) (News.isList (by k_asm) (by k_mem)) (by repeat (first | exact StrsAre.nil | refine StrsAre.cons _ _ ?_)) (by assumption) (by assumption) (by omega) ?_ (by with_unfolding_all rfl)); intro t9; (generalize hgN9 : List.getD BEHINDS _ _ = N9); (have hBm := strs_in hgN9 (by assumption) (by assumption)); (have hBl := short_of hBm (by decide +kernel)); clear hgN9)))
  (k_with "pyIter ref" => (refine stuck ?_))
  trivial
structure LS9 where
  o : Obj
  k : Int
theorem law_led {w : World} {h₀ h : Heap} {L D x d : Addr} {y o : Obj} {vs : List Value} {c : Nat} {l : List Int} {t : Tok} (N : News h₀ L h [(D, W.listOf vs.toArray c), (x, y), (d, o)]) (hI : IntsAre vs (List.take 60 l))
    (hD : o.IsDictOf (PySem.strKind PR w) [(Str.ofString "cells", Value.ref D), (Str.ofString "at", Value.int 0 t)]) (hlt : x < D ∧ d < D) :
    ∃ ca fa cs cn ns w9, ca = D ∧ fa = d ∧ cs = vs ∧ cn = c ∧ w9 = w ∧ IntsAre vs ns ∧ ns.length ≤ 63 ∧ @LT.lt Nat _ d D ∧ FeedO w D 0 o ∧ News h₀ L h [(d, o), (D, W.listOf vs.toArray c)] :=
  ⟨D, d, vs, c, _, w, rfl, rfl, rfl, rfl, rfl, hI, by rw [List.length_take]; omega, hlt.2, ⟨t, hD⟩, fun p hp => N p (by
    simp only [List.mem_cons, List.not_mem_nil, or_false] at hp ⊢
    rcases hp with hp | hp <;> simp [hp])⟩
section
variable {w : World} {dp un : Nat} {mean : ExcName → Option Value} {mg mb : Str → Option Value} {gd : Option (List Code)} {cn : Str} {cs : Scope} {a : Addr} {ccd : Value} {cl : List (Str × Addr)} {outer : List Env} {A₀ : Around} {base h₀ : Heap} {L : Addr} {m : Str → Option Value} {hS : Heap} {gS : Array GenState} {dS : PySem.Drawn} {oS : OsState} {tS : Nat} {Q E : Value → Shared → Prop} {fa ca : Addr} {o l : Obj} {own : List (Addr × Obj)}
theorem heard_goL {T : Str} {t tw : Tok} {pI : Int} {p e : Nat} {it : Item} (F : Fr h₀ L hS m) (N : News h₀ L hS ((fa, o) :: (ca, l) :: own)) (hpI : pI = (p : Int)) (hT : T.length ≤ 1000) (hR : Reads T p it e) (ho1 : ∀ p ∈ own, p.1 ≠ fa) (ho2 : ∀ p ∈ own, p.1 ≠ ca)
    (B : Below A₀ base outer h₀) (X : (hd.heap_1 w.params).In h₀) (Tp : Top vw LS mean mg mb h₀) (hk : cs.kind = .function) (hd : dp ≤ 400) (hu : un ≤ 200)
    (ret : ∀ q1 a1 own1 tq1 rest1, itemL it q1 own1 → (∀ p ∈ own1, p ∈ rest1) → (∀ p ∈ own, p ∈ rest1) → (∀ p ∈ rest1, p.1 ≠ fa) → (∀ p ∈ rest1, p.1 ≠ ca) → @Ne Nat a1 fa → @Ne Nat a1 ca → ∀ h' tk', Fr h₀ L h' m → News h₀ L h' ((fa, o) :: (ca, l) :: (a1, tupO [.ref q1, .int e tq1]) :: rest1) → Q (.ref a1) ⟨h', gS, dS, tk', oS⟩) :
    wpAny (model PR w) (ktrTop dp un gd cn cs L a ccd cl outer) (call (.ref 341) [.str T t, .int pI tw]) Q E ⟨hS, gS, dS, tS, oS⟩ := by
  refine says_use F N (heard_says w T t tw pI p _ hpI hT it e hR) B X Tp hk hd hu ?_
  rintro r n h' tk' F9 N9 ⟨q1, a1, own1, tq1, rfl, hi1, hx1, hx2, hx3, rfl⟩
  obtain ⟨rest1, g1, g2, g3, g4, g5, g6, N6⟩ := heard_led N9 hx1 hx3 ho1 ho2
  exact ret q1 a1 own1 tq1 rest1 hi1 g1 g2 g3 g4 g5 g6 h' tk' F9 N6
theorem item_goL {vs : List Value} {ns : List Int} {c : Nat} {k : Int} (F : Fr h₀ L hS m) (N : News h₀ L hS ((fa, o) :: (ca, l) :: own)) (hl9 : l = W.listOf vs.toArray c) (hfo : FeedO w ca k o) (hI : IntsAre vs ns) (hl : ns.length ≤ 63) (hk0 : 0 ≤ k) (hk1 : k ≤ 180) (ho1 : ∀ p ∈ own, p.1 ≠ fa) (ho2 : ∀ p ∈ own, p.1 ≠ ca) (hca : @Ne Nat ca fa)
    (B : Below A₀ base outer h₀) (X : (hd.heap_1 w.params).In h₀) (Tp : Top vw LS mean mg mb h₀) (hk : cs.kind = .function) (hd : dp ≤ 700) (hu : un ≤ 700)
    (ret : ∀ it S Wt q qi oi ts o1 k2 rest, Good it S Wt → itemL it qi oi → FeedO w ca k2 o1 → k ≤ k2 → k2 ≤ k + 11 → (∀ p ∈ oi, p ∈ rest) → (∀ p ∈ own, p ∈ rest) → (∀ p ∈ rest, p.1 ≠ fa) → (∀ p ∈ rest, p.1 ≠ ca) → @Ne Nat q fa → @Ne Nat q ca → ∀ h' tk', Fr h₀ L h' m → News h₀ L h' ((fa, o1) :: (ca, l) :: (q, tupO [.ref qi, .str S ts]) :: rest) → Q (.ref q) ⟨h', gS, dS, tk', oS⟩) :
    wpAny (model PR w) (ktrTop dp un gd cn cs L a ccd cl outer) (call (.ref 334) [.ref fa]) Q E ⟨hS, gS, dS, tS, oS⟩ := by
  refine says_use F N (item_says w fa ca o vs ns c k own hl9 hfo hI hl hk0 hk1 ho1 hca) B X Tp hk hd hu ?_
  rintro r n h' tk' F9 N9 ⟨k1, hk1a, hk1b, it, S, q, qi, oi, ts, o1, k2, hP, rfl, hi, hx1, hx2, hx3, hfo1, hk2a, hk2b, rfl⟩
  obtain ⟨rest1, g1, g2, g3, g4, g5, g6, N6⟩ := lap_led N9 hx1 hx3 ho1 ho2
  obtain ⟨Wt, G⟩ := good_of hP
  exact ret it S Wt q qi oi ts o1 k2 rest1 G hi hfo1 (by omega) (by omega) g1 g2 g3 g4 g5 g6 h' tk' F9 N6
theorem broken_goL (F : Fr h₀ L hS m) (N : News h₀ L hS ((fa, o) :: (ca, l) :: own)) (ho1 : ∀ p ∈ own, p.1 ≠ fa) (ho2 : ∀ p ∈ own, p.1 ≠ ca)
    (B : Below A₀ base outer h₀) (X : (hd.heap_1 w.params).In h₀) (Tp : Top vw LS mean mg mb h₀) (hk : cs.kind = .function) (hd : dp ≤ 900) (hu : un ≤ 900)
    (ret : ∀ (bl : Addr) (bvs : List Value) (bc : Nat) (bown rest1 : List (Addr × Obj)), bvs.length = 14 → (∀ (i : Nat) (v : Value), bvs[i]? = some v → ∃ b, v = .ref b.1 ∧ b.2.1 ∈ BROKEN ∧ brkT b ∈ bown) → (∀ p ∈ bown, p ∈ rest1) → (∀ p ∈ own, p ∈ rest1) → (∀ p ∈ rest1, p.1 ≠ fa) → (∀ p ∈ rest1, p.1 ≠ ca) → @Ne Nat bl fa → @Ne Nat bl ca → ∀ h' tk', Fr h₀ L h' m → News h₀ L h' ((fa, o) :: (ca, l) :: (bl, W.listOf bvs.toArray bc) :: rest1) → Q (.ref bl) ⟨h', gS, dS, tk', oS⟩) :
    wpAny (model PR w) (ktrTop dp un gd cn cs L a ccd cl outer) (call (.ref 303) []) Q E ⟨hS, gS, dS, tS, oS⟩ := by
  refine says_use F N (broken_says w _) B X Tp hk hd hu ?_
  rintro r n h' tk' F9 N9 ⟨bl, bvs, bc, bown, rfl, hbl, hbv, hx1, hx2, rfl⟩
  obtain ⟨rest1, g1, g2, g3, g4, g5, g6, N6⟩ := heard_led N9 hx1 hx2 ho1 ho2
  exact ret bl bvs bc bown rest1 hbl hbv g1 g2 g3 g4 g5 g6 h' tk' F9 N6
end
/-- what stands behind a lap -/
noncomputable def LapP (w : World) (fa ca : Addr) (l : Obj) (own : List (Addr × Obj)) (k : Int) (h₀ : Heap) (L : Addr) (m : Str → Option Value) (h' : Heap) : Prop :=
  ∃ o' k' m', k ≤ k' ∧ k' ≤ k + 20 ∧ FeedO w ca k' o' ∧ (∀ z, z ≠ Str.ofString "lap" → [Str.ofString "item", Str.ofString "spelled", Str.ofString "front", Str.ofString "behind", Str.ofString "again", Str.ofString "broken", Str.ofString "late"].contains z = false → m' z = m z) ∧ Fr h₀ L h' m' ∧ News h₀ L h' ((fa, o') :: (ca, l) :: own)
theorem cut_lap {M : Model} {A : Around} {E : Value → Shared → Prop} {hS : Heap} {gS : Array GenState} {dS : PySem.Drawn} {oS : OsState} {tS : Nat} {t : Sem Flow} {Q : Flow → Shared → Prop} (w : World) (fa ca : Addr) (l : Obj) (own : List (Addr × Obj)) (i : Int) {h₀ h : Heap} {L : Addr} {m : Str → Option Value} (_ : Fr h₀ L h m)
    (h : ∀ Q' E', (∀ h' tk, LapP w fa ca l own i h₀ L m h' → Q' Flow.next ⟨h', gS, dS, tk, oS⟩) → wpAny M A t Q' E' ⟨hS, gS, dS, tS, oS⟩)
    (k : ∀ h' tk, LapP w fa ca l own i h₀ L m h' → Q .next ⟨h', gS, dS, tk, oS⟩) : wpAny M A t Q E ⟨hS, gS, dS, tS, oS⟩ := h Q E k
theorem law_holds : PySem.Challenge.rw_qz0010_01.Holds := by
  refine hd ?_
  k_go0
  all_goals (try k_fold)
  k_steps
  unfold Stuck
  (rename Fr _ _ _ _ => F9)
  (rename News _ _ _ _ => N9)
  (rename IsRange _ _ _ _ _ _ _ _ => R9)
  (rename IntsAre _ (List.take 60 _) => hI9)
  (rename Obj.IsDictOf _ _ (strPairs _) => hD9)
  (rename (_ < _ ∧ _ < _) => hl9)
  obtain ⟨ca, fa, cs, cn, ns, w9, eca, efa, ecs, ecn, ew9, hI, hl, hlt, hfo, N8⟩ := law_led N9 hI9 hD9 hl9
  subst eca efa ecs ecn ew9
  generalize hlo9 : W.listOf cs.toArray cn = lo9 at N8
  replace hlo9 := hlo9.symm
  clear N9 hI9 hD9 hl9
  have hfc : @Ne Nat ca fa := Ne.symm (Nat.ne_of_lt hlt)
  k_dflt (refine' kst_range (fun c : LS9 => [(fa, c.o), (ca, lo9)]) (fun _ => []) (fun c => FeedO w9 ca c.k c.o ∧ 0 ≤ c.k) [Str.ofString "item", Str.ofString "spelled", Str.ofString "front", Str.ofString "behind", Str.ofString "again", Str.ofString "broken", Str.ofString "late"] (fun pre c => c.k ≤ 20 * pre.length) ⟨_, 0⟩ rfl R9 (by decide) (show _ = ((4 : Nat) : Int) by decide) F9 N8 ⟨hfo, Int.le_refl _⟩ ?hk (by simp) ?turn ?done)
  case hk => intro p hp; cases hp
  case turn =>
    clear F9 N8 R9 hfo
    rintro ⟨o, k⟩ pre lap tn u h tk own he hlen hoff ⟨hfo, hk0⟩ hk F1 N1
    (try dsimp only at F1 N1 hfo hk0 hk ⊢)
    have hro : ∀ p ∈ own, p.1 ≠ fa := OwnOff.ne hoff (by simp)
    have hrc : ∀ p ∈ own, p.1 ≠ ca := OwnOff.ne hoff (by simp)
    have hk1 : k ≤ 60 := by omega
    replace N1 : News _ _ _ ((fa, o) :: (ca, lo9) :: own) := N1
    refine cut_lap w9 fa ca (lo9) own k F1 ?lw ?lc
    case lc =>
      rintro h8 tk8 ⟨o8, k8, m8, hk8, hk9, hf8, hm8, F8, N8⟩
      refine' kst_end (⟨o8, k8⟩ : LS9) F8 N8 ?hn ?ho ?ha ⟨hf8, ?h0⟩ ?hk ?hr ?hp
      case hn => intro p hp; simp only [List.mem_cons, List.not_mem_nil, or_false] at hp ⊢; rcases hp with hp | hp <;> simp [hp]
      case ho => exact fun p hp => .tail _ (.tail _ hp)
      case ha => rfl
      case h0 => (try dsimp only); omega
      case hk => intro p hp; cases hp
      case hr =>
        intro z hz _ h2
        rw [hm8 z hz h2]
        show (if z = Str.ofString "lap" then _ else _) = _
        rw [if_neg hz]
        show (if _ then _ else _) = _
        rw [h2]
        rfl
      case hp => (try dsimp only); (simp only [List.length_append, List.length_cons, List.length_nil]; omega)
    intro Q8 E8 hret8
    k_steps
    unfold Stuck
    k_dflt (refine' item_goL (by k_asm) ?kN hlo9 hfo hI hl hk0 (by omega) hro hrc hfc (by k_asm) (by k_asm) (by k_asm) (by first | rfl | assumption) (Nat.le_of_ble_eq_true rfl) (Nat.le_of_ble_eq_true rfl) ?_)
    case kN => k_asm
    intro it S Wt q qi oi ts o1 k2 rest G hi hfo1 hk2a hk2b hs1 hs2 hr1 hr2 hr3 hr4 h9 tk9 F9 N8
    have hSl := G.len
    have hWl := G.lenW
    clear hoff F1 N1 hro hrc hfo
    k_steps
    unfold Stuck
    (rename _ ∈ FRONTS => hF)
    (rename _ ∈ BEHINDS => hB)
    (rename FeedO w9 ca _ _ => hfo7)
    have hsub : ∀ p ∈ oi, p ∈ rest := hs1
    have hown : ∀ p ∈ own, p ∈ rest := hs2
    (rename News _ _ _ _ => N7)
    have N8 := feed_pick (fa := fa) (c := lo9) (rest := rest) hfo7 N7 (by intro p hp; simp only [List.mem_cons] at hp ⊢; rcases hp with hp | hp | hp <;> simp [hp])
    clear N7
    (repeat ((rename (_ ∧ _) => z9); clear z9))
    k_dflt (refine' heard_goL (by k_asm) ?kN rfl ?hT (G.read _ hF _ hB) hr1 hr2 (by k_asm) (by k_asm) (by k_asm) (by first | rfl | assumption) (Nat.le_of_ble_eq_true rfl) (Nat.le_of_ble_eq_true rfl) ?_)
    case kN => exact N8
    case hT => first | omega | (simp only [Str.length_append]; omega)
    intro q1 a1 own1 tq1 rest1 hi1 gs1 gt1 gr1 gq1 gu1 gv1 h9 tk9 F9 N9
    k_steps
    unfold Stuck
    (rename News _ _ _ _ => N7)
    have hsub : ∀ p ∈ oi, p ∈ rest1 := fun p hp => gt1 p (hsub p hp)
    have hown : ∀ p ∈ own, p ∈ rest1 := fun p hp => gt1 p (hown p hp)
    k_dflt (refine' ne_item N7 (by k_mem) (by k_mem) hi1 hi (fun p hp => List.mem_cons_of_mem _ (List.mem_cons_of_mem _ (List.mem_cons_of_mem _ (List.mem_cons_of_mem _ (gs1 p hp))))) (fun p hp => List.mem_cons_of_mem _ (List.mem_cons_of_mem _ (List.mem_cons_of_mem _ (List.mem_cons_of_mem _ (hsub p hp))))) ?he G.ok (by ke_room) ?_)
    case he => omega
    k_steps
    unfold Stuck
    (rename News _ _ _ _ => N7)
    have N8 := feed_pick (fa := fa) (c := lo9) (rest := rest1) hfo7 N7 (by intro p hp; simp only [List.mem_cons] at hp ⊢; rcases hp with hp | hp | hp <;> simp [hp])
    clear N7
    (repeat ((rename (_ ∧ _) => z9); clear z9))
    k_dflt (refine' says_go (by k_asm) ?kN (writes_says w9 G.writes hi ?hm) el1 (by k_asm) (by k_asm) (by k_asm) (by first | rfl | assumption) (Nat.le_of_ble_eq_true rfl) (Nat.le_of_ble_eq_true rfl) ?_)
    case kN => exact N8
    case hm => exact fun p hp => List.mem_cons_of_mem _ (List.mem_cons_of_mem _ (hsub p hp))
    intro tw h9 tk9 F9 N9
    k_steps
    unfold Stuck
    (rename News _ _ _ _ => N7)
    have N8 := feed_pick (fa := fa) (c := lo9) (rest := rest1) hfo7 N7 (by intro p hp; simp only [List.mem_cons] at hp ⊢; rcases hp with hp | hp | hp <;> simp [hp])
    clear N7
    (repeat ((rename (_ ∧ _) => z9); clear z9))
    k_dflt (refine' heard_goL (by k_asm) ?kN rfl ?hT (G.read0) gr1 gq1 (by k_asm) (by k_asm) (by k_asm) (by first | rfl | assumption) (Nat.le_of_ble_eq_true rfl) (Nat.le_of_ble_eq_true rfl) ?_)
    case kN => exact N8
    case hT => first | omega | (simp only [Str.length_append]; omega)
    intro q2 a2 own2 tq2 rest2 hi2 gs2 gt2 gr2 gq2 gu2 gv2 h9 tk9 F9 N9
    k_steps
    unfold Stuck
    (rename News _ _ _ _ => N7)
    have hsub : ∀ p ∈ oi, p ∈ rest2 := fun p hp => gt2 p (hsub p hp)
    have hown : ∀ p ∈ own, p ∈ rest2 := fun p hp => gt2 p (hown p hp)
    k_dflt (refine' ne_item N7 (by k_mem) (by k_mem) hi2 hi (fun p hp => List.mem_cons_of_mem _ (List.mem_cons_of_mem _ (List.mem_cons_of_mem _ (List.mem_cons_of_mem _ (gs2 p hp))))) (fun p hp => List.mem_cons_of_mem _ (List.mem_cons_of_mem _ (List.mem_cons_of_mem _ (List.mem_cons_of_mem _ (hsub p hp))))) ?he G.ok (by ke_room) ?_)
    case he => rfl
    k_steps
    unfold Stuck
    (rename News _ _ _ _ => N7)
    have N8 := feed_pick (fa := fa) (c := lo9) (rest := rest2) hfo7 N7 (by intro p hp; simp only [List.mem_cons] at hp ⊢; rcases hp with hp | hp | hp <;> simp [hp])
    clear N7
    (repeat ((rename (_ ∧ _) => z9); clear z9))
    k_dflt (refine' heard_goL (by k_asm) ?kN rfl ?hT (G.readW _ hF _ hB) gr2 gq2 (by k_asm) (by k_asm) (by k_asm) (by first | rfl | assumption) (Nat.le_of_ble_eq_true rfl) (Nat.le_of_ble_eq_true rfl) ?_)
    case kN => exact N8
    case hT => first | omega | (simp only [Str.length_append]; omega)
    intro q3 a3 own3 tq3 rest3 hi3 gs3 gt3 gr3 gq3 gu3 gv3 h9 tk9 F9 N9
    k_steps
    unfold Stuck
    (rename News _ _ _ _ => N7)
    have hsub : ∀ p ∈ oi, p ∈ rest3 := fun p hp => gt3 p (hsub p hp)
    have hown : ∀ p ∈ own, p ∈ rest3 := fun p hp => gt3 p (hown p hp)
    k_dflt (refine' ne_item N7 (by k_mem) (by k_mem) hi3 hi (fun p hp => List.mem_cons_of_mem _ (List.mem_cons_of_mem _ (List.mem_cons_of_mem _ (List.mem_cons_of_mem _ (gs3 p hp))))) (fun p hp => List.mem_cons_of_mem _ (List.mem_cons_of_mem _ (List.mem_cons_of_mem _ (List.mem_cons_of_mem _ (hsub p hp))))) ?he G.ok (by ke_room) ?_)
    case he => omega
    k_steps
    unfold Stuck
    (rename News _ _ _ _ => N7)
    have N8 := feed_pick (fa := fa) (c := lo9) (rest := rest3) hfo7 N7 (by intro p hp; simp only [List.mem_cons] at hp ⊢; rcases hp with hp | hp | hp <;> simp [hp])
    clear N7
    (repeat ((rename (_ ∧ _) => z9); clear z9))
    k_dflt (refine' broken_goL (by k_asm) ?kN gr3 gq3 (by k_asm) (by k_asm) (by k_asm) (by first | rfl | assumption) (Nat.le_of_ble_eq_true rfl) (Nat.le_of_ble_eq_true rfl) ?_)
    case kN => exact N8
    intro bl bvs bc bown rest4 hbl hbv gs4 gt4 gr4 gq4 gu4 gv4 h9 tk9 F9 N9
    have hsub : ∀ p ∈ oi, p ∈ rest4 := fun p hp => gt4 p (hsub p hp)
    have hown : ∀ p ∈ own, p ∈ rest4 := fun p hp => gt4 p (hown p hp)
    have mk9 : BrokenDone := {}
    k_steps
    unfold Stuck
    (rename News _ _ _ _ => N7)
    (rename FeedO w9 ca _ _ => hfo8)
    k_dflt (refine' brk_item (News.isList N7 (by k_mem)) hbl hbv (by assumption) (by assumption) ?_ (by with_unfolding_all rfl))
    rintro ⟨ba, ⟨X, late⟩, bt, bu⟩ hX hbo
    have hXl := brk_len hX
    have hbo' : (ba, tupO [.str X bt, .int (late : Int) bu]) ∈ rest4 := gs4 _ hbo
    have N8 := brk_led (fa := fa) (c := lo9) (rest := rest4) hfo8 N7 hbo' (by intro p hp; simp only [List.mem_cons] at hp ⊢; rcases hp with hp | hp | hp <;> simp [hp])
    clear N7
    (try dsimp only)
    k_steps
    unfold Stuck
    (rename News _ _ _ _ => N7)
    k_dflt (refine' heardF_use ?hT (brk_in hX hB) (by k_asm) (by k_asm) (by k_asm) (by first | rfl | assumption) (by k_asm) ?kN (Nat.le_of_ble_eq_true rfl) (Nat.le_of_ble_eq_true rfl) ?_)
    case kN => exact N7
    case hT => first | omega | (simp only [Str.length_append]; omega)
    intro tb9 h9 tk9 F9 N9
    clear N7
    k_steps
    unfold Stuck
    (rename News _ _ _ _ => N7)
    k_dflt (refine' heardF_use ?hT (brk_alone hX) (by k_asm) (by k_asm) (by k_asm) (by first | rfl | assumption) (by k_asm) ?kN (Nat.le_of_ble_eq_true rfl) (Nat.le_of_ble_eq_true rfl) ?_)
    case kN => exact N7
    case hT => first | omega | (simp only [Str.length_append]; omega)
    intro tb9 h9 tk9 F9 N9
    clear N7
    k_steps
    · exact absurd rfl (by assumption)
    (rename News _ _ _ _ => N7)
    refine hret8 _ _ ⟨_, _, _, ?g1, ?g2, hfo8, ?g3, by k_asm, ?g4⟩
    case g1 => omega
    case g2 => omega
    case g3 =>
      intro z hz h2
      simp only [List.contains_cons, List.contains_nil, Bool.or_eq_false_iff, beq_eq_false_iff_ne, ne_eq, Bool.or_false] at h2
      obtain ⟨b1, b2, b3, b4, b5, b6, b7⟩ := h2
      simp [hz, b1, b2, b3, b4, b5, b6, b7, kstB]
    case g4 => exact feed_pick hfo8 N7 (by
      intro p hp
      simp only [List.mem_cons] at hp ⊢
      rcases hp with hp | hp | hp
      · simp [hp]
      · simp [hp]
      · exact .inr (.inr (.inr (hown p hp))))
  case done =>
    clear F9 N8 R9
    rintro ⟨o, k⟩ u h tk ⟨hfo, hk0⟩ hk F1 N1
    (try dsimp only at F1 N1 ⊢)
    k_steps
end
end Mine
theorem PySem.Challenge.cw_qz0010_01_holds : PySem.Challenge.rw_qz0010_01.Holds := by
  exact Mine.law_holds
