/- croupierlaw22.SandwichSteps returns true for every input. (part 8 of 8.) Conditions: none beyond the given row. -/
import Derived.Test.YtknflgfkhkdomaaGreatDoorLaw7
import Derived.Test.YtknflgfkhkdomaaGreatDoorTie
import Derived.Test.YtknflgfkhkdomaaGreatDoorCards
import Derived.ChangeSame
import Derived.Deep.Slices
import Derived.JoinedOf
import Derived.RowKit
import Derived.LaidLaws
import Derived.LaidHandle
import Derived.LaidSub
import Derived.MakeChecks
import Derived.Lib.LaidTab
import Derived.Stop.Joined
import Derived.Carry
import Derived.Shelf.Vars
import Derived.SevenTiedAt
import Derived.OpenShut
import Derived.LaidOnce
import Derived.LaidByTextLater
import Derived.LaidMore
/-! MonoCd -/
set_option linter.unusedVariables false
set_option linter.unusedSimpArgs false
namespace Go.Proofs.YtknflgfkhkdomaaGreatDoor.Mono
open Go Go.RowKit
structure Pk where
  st : Nat
  act : Nat
  gain : Nat
  to0 : Nat
  to1 : Nat
  to2 : Nat
  pa : Nat
  pb : Nat
structure Dr where
  states : Nat
  owners : Nat
  grain : Nat
  cents : Nat
  picks : List Pk
def dN (d : Dr) : Nat := 1 + d.states % 5
def wholes : List Int := [1, 2, 3, 4, 6, 10, 100, 5]
def dW (d : Dr) : Nat := ([1, 2, 3, 4, 6, 10, 100, 5] : List Nat).getD (d.grain % 8) 1
def centsL : List Int := [1, 2, 3, 1]
def dC (d : Dr) : Nat := ([1, 2, 3, 1] : List Nat).getD (d.cents % 4) 1
def namesL : List (List UInt8) := [[], [97], [103, 111], [97, 98, 99, 100, 101, 102, 103, 104]]
theorem dN_bd (d : Dr) : 1 ≤ dN d ∧ dN d ≤ 5 := by unfold dN; omega
theorem mod8 {n : Nat} (h : n < 8) : n = 0 ∨ n = 1 ∨ n = 2 ∨ n = 3 ∨ n = 4 ∨ n = 5 ∨ n = 6 ∨ n = 7 := by omega
theorem dW_bd (d : Dr) : 1 ≤ dW d ∧ dW d ≤ 100 := by
  unfold dW
  rcases mod8 (Nat.mod_lt d.grain (show 0 < 8 by decide)) with h | h | h | h | h | h | h | h <;> rw [h] <;> decide
theorem dW_at {d : Dr} {k : Nat} (hk : k = d.grain % 8) : wholes[k]? = some ((dW d : Nat) : Int) := by
  subst hk
  unfold dW wholes
  rcases mod8 (Nat.mod_lt d.grain (show 0 < 8 by decide)) with h | h | h | h | h | h | h | h <;> rw [h] <;> rfl
theorem mod4 {n : Nat} (h : n < 4) : n = 0 ∨ n = 1 ∨ n = 2 ∨ n = 3 := by omega
theorem dC_bd (d : Dr) : 1 ≤ dC d ∧ dC d ≤ 3 := by
  unfold dC
  rcases mod4 (Nat.mod_lt d.cents (show 0 < 4 by decide)) with h | h | h | h <;> rw [h] <;> decide
theorem dC_at {d : Dr} {k : Nat} (hk : k = d.cents % 4) : centsL[k]? = some ((dC d : Nat) : Int) := by
  subst hk
  unfold dC centsL
  rcases mod4 (Nat.mod_lt d.cents (show 0 < 4 by decide)) with h | h | h | h <;> rw [h] <;> rfl
def nameOf (k : Nat) : List UInt8 := namesL.getD (k % 4) []
theorem name_at {a k : Nat} (hk : k = a % 4) : namesL[k]? = some (nameOf a) := by
  subst hk
  unfold nameOf namesL
  rcases mod4 (Nat.mod_lt a (show 0 < 4 by decide)) with h | h | h | h <;> rw [h] <;> rfl
theorem name_ok (k : Nat) : (nameOf k).length ≤ 8 ∧ ∀ b ∈ nameOf k, 97 ≤ b.toNat ∧ b.toNat ≤ 122 := by
  unfold nameOf namesL
  rcases mod4 (Nat.mod_lt k (show 0 < 4 by decide)) with h | h | h | h <;> rw [h] <;> decide
def addAt (l : List Nat) (i k : Nat) : List Nat := l.set i (l.getD i 0 + k)
theorem addAt_len (l : List Nat) (i k : Nat) : (addAt l i k).length = l.length := by simp [addAt]
theorem sum_set : ∀ (l : List Nat) (i k : Nat), i < l.length → (l.set i (l.getD i 0 + k)).sum = l.sum + k
  | x :: l, 0, k, _ => by simp; omega
  | x :: l, i + 1, k, h => by
    have := sum_set l i k (by simpa using h)
    simp at this ⊢; omega
theorem addAt_sum {l : List Nat} {i : Nat} (k : Nat) (h : i < l.length) : (addAt l i k).sum = l.sum + k := sum_set l i k h
def p1 (d : Dr) (p : Pk) : Nat := p.pa % (dW d + 1)
def p2 (d : Dr) (p : Pk) : Nat := p.pb % (dW d - p1 d p + 1)
def parts0 (d : Dr) (p : Pk) : List Nat := addAt (List.replicate (dN d) 0) (p.to0 % dN d) (p1 d p)
def parts1 (d : Dr) (p : Pk) : List Nat := addAt (parts0 d p) (p.to1 % dN d) (p2 d p)
def partsL (d : Dr) (p : Pk) : List Nat := addAt (parts1 d p) (p.to2 % dN d) (dW d - p1 d p - p2 d p)
theorem p_bd (d : Dr) (p : Pk) : p1 d p ≤ dW d ∧ p2 d p ≤ dW d - p1 d p := by
  have h1 := Nat.mod_lt p.pa (show 0 < dW d + 1 by omega)
  have h2 := Nat.mod_lt p.pb (show 0 < dW d - p1 d p + 1 by omega)
  unfold p2
  unfold p1 at *
  omega
theorem parts0_len (d : Dr) (p : Pk) : (parts0 d p).length = dN d := by simp [parts0, addAt_len]
theorem parts1_len (d : Dr) (p : Pk) : (parts1 d p).length = dN d := by simp [parts1, addAt_len, parts0_len]
theorem parts_len (d : Dr) (p : Pk) : (partsL d p).length = dN d := by simp [partsL, addAt_len, parts1_len]
theorem parts_sum (d : Dr) (p : Pk) : (partsL d p).sum = dW d := by
  have hn := (dN_bd d).1
  have hb := p_bd d p
  have e0 : (List.replicate (dN d) 0).sum = 0 := by simp
  unfold partsL
  rw [addAt_sum _ (by rw [parts1_len]; exact Nat.mod_lt _ hn)]
  unfold parts1
  rw [addAt_sum _ (by rw [parts0_len]; exact Nat.mod_lt _ hn)]
  unfold parts0
  rw [addAt_sum _ (by rw [List.length_replicate]; exact Nat.mod_lt _ hn), e0]
  omega
theorem mem_le_sum : ∀ {l : List Nat} {x : Nat}, x ∈ l → x ≤ l.sum
  | y :: l, x, h => by
    rcases List.mem_cons.1 h with rfl | h
    · simp
    · have := mem_le_sum h; simp; omega
theorem parts_le (d : Dr) (p : Pk) (i : Nat) : (partsL d p).getD i 0 ≤ dW d := by
  rw [List.getD_eq_getElem?_getD]
  by_cases h : i < (partsL d p).length
  · rw [List.getElem?_eq_getElem h, ← parts_sum d p]; exact mem_le_sum (List.getElem_mem h)
  · rw [List.getElem?_eq_none (by omega)]; exact Nat.zero_le _
def brOf (L : List Nat) (W t : Nat) : Br := ⟨t, Rat.divInt ((L.getD t 0 : Nat) : Int) W⟩
def nextK (L : List Nat) (W k : Nat) : List Br := ((List.range k).filter (fun t => decide (0 < L.getD t 0))).map (brOf L W)
theorem nextK_zero (L : List Nat) (W : Nat) : nextK L W 0 = [] := rfl
theorem nextK_on {L : List Nat} {W k : Nat} (h : 0 < L.getD k 0) : nextK L W (k + 1) = nextK L W k ++ [brOf L W k] := by
  unfold nextK; rw [List.range_succ, List.filter_append, List.map_append, show [k].filter (fun t => decide (0 < L.getD t 0)) = [k] by simp only [List.filter_cons, h, decide_true, if_true, List.filter_nil]]; rfl
theorem nextK_off {L : List Nat} {W k : Nat} (h : ¬ 0 < L.getD k 0) : nextK L W (k + 1) = nextK L W k := by
  unfold nextK; rw [List.range_succ, List.filter_append, List.map_append, show [k].filter (fun t => decide (0 < L.getD t 0)) = [] by simp only [List.filter_cons, h, decide_false, List.filter_nil]; rfl]; exact List.append_nil _
theorem nextK_len (L : List Nat) (W k : Nat) : (nextK L W k).length ≤ k := by
  unfold nextK; rw [List.length_map]; exact Nat.le_trans (List.length_filter_le _ _) (by simp)
def choiceOf (d : Dr) (p : Pk) : Ch := ⟨nameOf p.act, Rat.divInt ((p.gain % 20 : Nat) : Int) (dC d), nextK (partsL d p) (dW d) (dN d)⟩
theorem small_q {a b : Nat} (hb : 0 < b) (ha : a < 10000) (hb2 : b < 10000) : Dz 4 (Rat.divInt a b) ∧ 0 ≤ (Rat.divInt a b).num ∧ (Rat.divInt a b).den ∣ b ∧ (0 < a → 0 < (Rat.divInt a b).num) := by
  obtain ⟨h1, h2⟩ := make_q (a := a) hb
  have hg : 0 < Nat.gcd a b := Nat.gcd_pos_of_pos_right a hb
  have ha2 : a / Nat.gcd a b ≤ a := Nat.div_le_self _ _
  have hb3 : b / Nat.gcd a b ≤ b := Nat.div_le_self _ _
  refine ⟨⟨?_, ?_⟩, by rw [h1]; exact Int.natCast_nonneg _, ?_, fun h => ?_⟩
  · rw [h1, Int.natAbs_natCast]; exact dec_le 3 _ (by omega)
  · rw [h2]; exact dec_le 3 _ (by omega)
  · rw [h2]; exact Nat.div_dvd_of_dvd (Nat.gcd_dvd_right a b)
  · rw [h1]
    have : 0 < a / Nat.gcd a b := Nat.div_pos (Nat.le_of_dvd h (Nat.gcd_dvd_left a b)) hg
    omega
theorem divInt_add' {a b W : Nat} (hW : 0 < W) : Rat.divInt ((a : Nat) : Int) W + Rat.divInt ((b : Nat) : Int) W = Rat.divInt (((a + b : Nat)) : Int) W := by
  have hw : (W : Int) ≠ 0 := by omega
  rw [Rat.divInt_add_divInt _ _ hw hw, ← Int.add_mul, Rat.divInt_mul_right hw, Int.natCast_add]
theorem nextK_sum {L : List Nat} {W : Nat} (hW : 0 < W) : ∀ k, k ≤ L.length → sumQ ((nextK L W k).map (·.p)) = Rat.divInt (((L.take k).sum : Nat) : Int) W
  | 0, _ => by
    have hw : (W : Int) ≠ 0 := by omega
    show (0 : Rat) = Rat.divInt ((0 : Nat) : Int) W
    simp [Rat.zero_divInt]
  | k + 1, hk => by
    have ih := nextK_sum (L := L) hW k (by omega)
    have hg : L.getD k 0 = L[k] := by rw [List.getD_eq_getElem?_getD, List.getElem?_eq_getElem (by omega)]; rfl
    rw [List.take_succ_eq_append_getElem (by omega), List.sum_append, List.sum_singleton]
    by_cases h : 0 < L.getD k 0
    · rw [nextK_on h, List.map_append]
      show sumQ (_ ++ [_]) = _
      rw [sumQ_snoc, ih]
      show _ + Rat.divInt ((L.getD k 0 : Nat) : Int) W = _
      rw [divInt_add' hW, hg]
    · rw [nextK_off h, ih, show L[k] = 0 by omega]; rfl
theorem pair_get {l : List Nat} (h : l.Pairwise (· < ·)) {i : Nat} (hi : i + 1 < l.length) : l.getD i 0 < l.getD (i + 1) 0 := by
  rw [List.getD_eq_getElem?_getD, List.getD_eq_getElem?_getD, List.getElem?_eq_getElem hi, List.getElem?_eq_getElem (by omega)]
  exact List.pairwise_iff_getElem.1 h i (i + 1) (by omega) hi (by omega)
theorem choice_CM (d : Dr) (p : Pk) : CM (dN d) (dW d) (dC d) (choiceOf d p) := by
  have hn := dN_bd d
  have hw := dW_bd d
  have hc := dC_bd d
  have hto : (nextK (partsL d p) (dW d) (dN d)).map (·.to) = (List.range (dN d)).filter (fun t => decide (0 < (partsL d p).getD t 0)) := by
    unfold nextK; rw [List.map_map]; exact List.map_id _
  refine ⟨name_ok _, ?_, fun b hb => ?_, fun i hi => ?_, nextK_len _ _ _, ?_⟩
  · have := small_q (a := p.gain % 20) (b := dC d) (by omega) (by omega) (by omega)
    exact ⟨this.1, this.2.1, this.2.2.1⟩
  · obtain ⟨t, ht, rfl⟩ := List.mem_map.1 hb
    rw [List.mem_filter] at ht
    have ht1 := List.mem_range.1 ht.1
    have ht2 : 0 < (partsL d p).getD t 0 := by simpa using ht.2
    have hle := parts_le d p t
    have := small_q (a := (partsL d p).getD t 0) (b := dW d) (by omega) (by omega) (by omega)
    exact ⟨ht1, this.1, this.2.2.2 ht2, this.2.2.1⟩
  · show ((nextK (partsL d p) (dW d) (dN d)).map (·.to)).getD i 0 < ((nextK (partsL d p) (dW d) (dN d)).map (·.to)).getD (i + 1) 0
    rw [hto]
    refine pair_get (List.Pairwise.filter _ List.pairwise_lt_range) ?_
    rw [← hto, List.length_map]; exact hi
  · show sumQ ((nextK (partsL d p) (dW d) (dN d)).map (·.p)) = 1
    rw [nextK_sum (by omega) _ (by rw [parts_len]; exact Nat.le_refl _), ← parts_len d p, List.take_length, parts_sum]
    have hwi : ((dW d : Nat) : Int) ≠ 0 := by omega
    have := Rat.divInt_mul_right (n := 1) (d := 1) hwi
    rw [Int.one_mul] at this
    rw [this]; decide
def castL (l : List Nat) : List Int := l.map (fun (x : Nat) => (x : Int))
theorem castL_len (l : List Nat) : (castL l).length = l.length := by simp [castL]
theorem castL_at {l : List Nat} {k i : Nat} (hk : k = i) (h : k < (castL l).length) : (castL l)[k] = ((l.getD i 0 : Nat) : Int) := by
  subst hk
  have h2 : k < l.length := by rw [castL_len] at h; exact h
  rw [List.getD_eq_getElem?_getD, List.getElem?_eq_getElem h2]
  simp [castL]
theorem castL_zero {n : Nat} {N : Int} (h : N.toNat = n) : List.replicate N.toNat (0 : Int) = castL (List.replicate n 0) := by subst h; simp [castL]
theorem castL_bd {l : List Nat} {k : Nat} (h : k < (castL l).length) : 0 ≤ (castL l)[k] ∧ (castL l)[k] ≤ (l.sum : Int) := by
  have h2 : k < l.length := by rw [castL_len] at h; exact h
  have := mem_le_sum (List.getElem_mem h2)
  have e : (castL l)[k] = ((l[k] : Nat) : Int) := by simp [castL]
  rw [e]; omega
theorem castL_add {l : List Nat} {k i x : Nat} {y : Int} (hk : k = i) (h : k < (castL l).length) (hy : y = (x : Int)) : (castL l).set k ((castL l)[k] + y) = castL (addAt l i x) := by
  subst hk; subst hy
  rw [castL_at rfl h]
  unfold addAt castL
  rw [List.map_set, Int.natCast_add]
theorem natmodI {a b : Nat} {B : Int} (h : B = (b : Int)) : (a : Int) % B = ((a % b : Nat) : Int) := by subst h; exact (Int.natCast_emod a b).symm
/-! Models -/
def addP (d : Dr) (xss : List (List Ch)) (p : Pk) : List (List Ch) := if (xss.getD (p.st % dN d) []).length < 3 then xss.set (p.st % dN d) (xss.getD (p.st % dN d) [] ++ [choiceOf d p]) else xss
def pickK (d : Dr) (k : Nat) : List (List Ch) := (d.picks.take k).foldl (addP d) (List.replicate (dN d) [])
theorem addP_len (d : Dr) (xss : List (List Ch)) (p : Pk) : (addP d xss p).length = xss.length := by unfold addP; split <;> simp
theorem pickK_succ {d : Dr} {k : Nat} (h : k < d.picks.length) : pickK d (k + 1) = addP d (pickK d k) d.picks[k] := by
  unfold pickK; rw [List.take_succ_eq_append_getElem h, List.foldl_append]; rfl
theorem pickK_len (d : Dr) : ∀ k, k ≤ d.picks.length → (pickK d k).length = dN d
  | 0, _ => by simp [pickK]
  | k + 1, h => by rw [pickK_succ (by omega), addP_len, pickK_len d k (by omega)]
def stayC (s : Nat) : Ch := ⟨[], 0, [⟨s, 1⟩]⟩
def fillE (xss : List (List Ch)) (k : Nat) : List (List Ch) := (List.range xss.length).map (fun s => if s < k ∧ xss.getD s [] = [] then [stayC s] else xss.getD s [])
theorem fillE_len (xss : List (List Ch)) (k : Nat) : (fillE xss k).length = xss.length := by simp [fillE]
theorem fillE_zero (xss : List (List Ch)) : fillE xss 0 = xss := by
  refine List.ext_getElem (by simp [fillE]) (fun i h1 h2 => ?_)
  simp [fillE, List.getD_eq_getElem?_getD, List.getElem?_eq_getElem h2]
theorem fillE_get {xss : List (List Ch)} {k : Nat} (h : k < xss.length) : (fillE xss k)[k]'(by rw [fillE_len]; exact h) = xss.getD k [] := by
  simp [fillE]
theorem fillE_on {xss : List (List Ch)} {k : Nat} (h : k < xss.length) (he : xss.getD k [] = []) : (fillE xss k).set k [stayC k] = fillE xss (k + 1) := by
  refine List.ext_getElem (by simp [fillE]) (fun i h1 h2 => ?_)
  rw [List.getElem_set]
  simp only [fillE, List.getElem_map, List.getElem_range]
  by_cases e : k = i
  · subst e; rw [if_pos rfl, if_pos ⟨by omega, he⟩]
  · rw [if_neg e]
    have : (i < k ∧ xss.getD i [] = []) ↔ (i < k + 1 ∧ xss.getD i [] = []) := by constructor <;> rintro ⟨h3, h4⟩ <;> exact ⟨by omega, h4⟩
    simp only [this]
theorem fillE_off {xss : List (List Ch)} {k : Nat} (he : xss.getD k [] ≠ []) : fillE xss k = fillE xss (k + 1) := by
  refine List.ext_getElem (by simp [fillE]) (fun i h1 h2 => ?_)
  simp only [fillE, List.getElem_map, List.getElem_range]
  have : (i < k ∧ xss.getD i [] = []) ↔ (i < k + 1 ∧ xss.getD i [] = []) := by
    constructor <;> rintro ⟨h3, h4⟩
    · exact ⟨by omega, h4⟩
    · by_cases e : i = k
      · subst e; exact absurd h4 he
      · exact ⟨by omega, h4⟩
  simp only [this]
def dKn (d : Dr) : Nat := min d.picks.length 20
def modelOf (d : Dr) : Mo := ⟨List.replicate (dN d) 0, fillE (pickK d (dKn d)) (dN d)⟩
theorem pick_ok (d : Dr) : ∀ k, k ≤ d.picks.length → ∀ l ∈ pickK d k, l.length ≤ 3 ∧ ∀ c ∈ l, CM (dN d) (dW d) (dC d) c
  | 0, _, l, hl => by
    have : l = [] := by simp [pickK] at hl; exact hl.2
    subst this; exact ⟨by simp, fun c hc => by cases hc⟩
  | k + 1, hk, l, hl => by
    have ih := pick_ok d k (by omega)
    rw [pickK_succ (by omega)] at hl
    unfold addP at hl
    split at hl
    · rename_i h3
      rcases List.mem_or_eq_of_mem_set hl with h | rfl
      · exact ih l h
      · have hs : d.picks[k].st % dN d < (pickK d k).length := by rw [pickK_len d k (by omega)]; exact Nat.mod_lt _ (dN_bd d).1
        have hm : (pickK d k).getD (d.picks[k].st % dN d) [] ∈ pickK d k := by rw [List.getD_eq_getElem?_getD, List.getElem?_eq_getElem hs]; exact List.getElem_mem hs
        have := ih _ hm
        refine ⟨by rw [List.length_append, List.length_singleton]; omega, fun c hc => ?_⟩
        rcases List.mem_append.1 hc with hc | hc
        · exact this.2 c hc
        · rw [List.mem_singleton.1 hc]; exact choice_CM d _
    · exact ih l hl
theorem dz0 : Dz 4 0 := ⟨dec_le 3 _ (by decide), dec_le 3 _ (by decide)⟩
theorem dz1 : Dz 4 1 := ⟨dec_le 3 _ (by decide), dec_le 3 _ (by decide)⟩
theorem stay_CM {n W C s : Nat} (hs : s < n) (hW : 0 < W) (hC : 0 < C) : CM n W C (stayC s) := by
  refine ⟨⟨by simp [stayC], fun b hb => by cases hb⟩, ⟨dz0, Int.le_refl 0, Nat.one_dvd _⟩, fun b hb => ?_, fun i hi => ?_, by simp [stayC]; omega, Rat.zero_add 1⟩
  · rw [List.mem_singleton.1 hb]
    exact ⟨hs, dz1, Int.one_pos, Nat.one_dvd _⟩
  · simp [stayC] at hi
theorem model_GM (d : Dr) : GM (modelOf d) := by
  have hn := dN_bd d
  have hw := dW_bd d
  have hc := dC_bd d
  have hkn : dKn d ≤ d.picks.length := Nat.min_le_left _ _
  have hpl := pickK_len d _ hkn
  have hmem : ∀ l ∈ (modelOf d).choices, ∃ s, s < dN d ∧ (l = [stayC s] ∨ (l ∈ pickK d (dKn d) ∧ l ≠ [])) := fun l hl => by
    obtain ⟨s, hs, rfl⟩ := List.mem_map.1 hl
    have hs1 := List.mem_range.1 hs
    refine ⟨s, by omega, ?_⟩
    split
    · exact .inl rfl
    · rename_i hne
      right
      have : (pickK d (dKn d)).getD s [] ≠ [] := fun e => hne ⟨by omega, e⟩
      refine ⟨?_, this⟩
      rw [List.getD_eq_getElem?_getD, List.getElem?_eq_getElem hs1]; exact List.getElem_mem hs1
  refine ⟨?_, ?_, ?_, fun o ho => List.eq_of_mem_replicate ho, fun l hl => ?_, dW d, dC d, hw.1, by omega, hc.1, by omega, fun l hl c hc' => ?_⟩
  · show 1 ≤ (List.replicate (dN d) (0 : Int)).length; rw [List.length_replicate]; exact hn.1
  · show (List.replicate (dN d) (0 : Int)).length ≤ 12; rw [List.length_replicate]; omega
  · show (fillE _ _).length = (List.replicate (dN d) (0 : Int)).length; rw [fillE_len, List.length_replicate, hpl]
  · obtain ⟨s, _, h⟩ := hmem l hl
    rcases h with rfl | ⟨h1, h2⟩
    · simp
    · have := (pick_ok d _ hkn l h1).1
      have : 0 < l.length := List.length_pos_iff.2 h2
      omega
  · show CM (List.replicate (dN d) (0 : Int)).length _ _ c
    rw [List.length_replicate]
    obtain ⟨s, hs, h⟩ := hmem l hl
    rcases h with rfl | ⟨h1, h2⟩
    · rw [List.mem_singleton.1 hc']; exact stay_CM hs (by omega) (by omega)
    · exact (pick_ok d _ hkn l h1).2 c hc'
end Go.Proofs.YtknflgfkhkdomaaGreatDoor.Mono

/-! WlB -/
set_option linter.unusedVariables false
set_option linter.unusedSimpArgs false
set_option maxRecDepth 4000
set_option maxHeartbeats 4000000
namespace Go.Proofs.YtknflgfkhkdomaaGreatDoor.Mono
open Go Go.RowKit

abbrev Kd.pk : Kd Pk := Kd.st (fun p => [Seg.of (Kd.nat .u8) p.st, Seg.of (Kd.nat .u8) p.act, Seg.of (Kd.nat .u8) p.gain, Seg.of (Kd.arr 3 (Kd.nat .u8)) [p.to0, p.to1, p.to2], Seg.of (Kd.arr 2 (Kd.nat .u8)) [p.pa, p.pb]]) 8 (fun _ => rfl)
abbrev Kd.dr : Kd Dr := Kd.st (fun d => [Seg.of (Kd.nat .u8) d.states, Seg.of (Kd.nat .u8) d.owners, Seg.of (Kd.nat .u8) d.grain, Seg.of (Kd.nat .u8) d.cents, Seg.of (Kd.slice Kd.pk) d.picks]) 5 (fun _ => rfl)

def PkOk (p : Pk) : Prop := p.st < 256 ∧ p.act < 256 ∧ p.gain < 256 ∧ p.to0 < 256 ∧ p.to1 < 256 ∧ p.to2 < 256 ∧ p.pa < 256 ∧ p.pb < 256
def DrOk (d : Dr) : Prop := d.states < 256 ∧ d.owners < 256 ∧ d.grain < 256 ∧ d.cents < 256 ∧ ∀ p ∈ d.picks, PkOk p

theorem fa24_0 : FieldAt Tryz.prog 24 0 0 := by unfold FieldAt; kernel_rfl

theorem w23 {d : Dr} : Spec CC 23 [Ty.of Kd.dr d] (Ty.val (.int .i64 ((dN d : Nat) : Int))) := by
  refine spec_of_JS Tryz.func23 rfl (Nat.le_of_ble_eq_true rfl) (fun gh0 wd0 => ?_)
  refine JS_seq ?_
  -- region 0
  refine sR ?_
  refine kO (T_box rfl (ol rfl (Ty.le.refl _))) rfl ?_
  refine kA rfl rfl ?_
  refine kE ?_
  refine JS_seq ?_
  -- region 1
  refine sR ?_
  refine kO (T_fieldAddr rfl fa24_0 (st_sub (i := 0) rfl rfl) rfl) rfl ?_
  refine kO (T_load_nat rfl ti5 rfl) rfl ?_
  refine kO (T_rem rfl rfl rfl (by omega) (rem_nn (by omega))) rfl ?_
  refine kO (T_conv rfl u5 u3 rfl (wrap_i64 (by omega) (by omega))) rfl ?_
  refine kO (T_add rfl rfl rfl (wrap_i64 (by omega) (by omega))) rfl ?_
  refine kA rfl rfl ?_
  refine kE ?_
  exact JS_ret (JE_ret_one rfl rfl (.tmp rfl .nil) ((int_eq (by unfold dN; omega))))

theorem u25 : Tryz.prog.underlying 25 = some (.int .u16) := by kernel_rfl

theorem w6 {n bits : Nat} (hn : n ≤ 12) (hb : bits < 65536) : Spec CC 6 [Ty.val (.int .i64 (n : Int)), Ty.val (.int .u16 (bits : Int))] (Ty.val (.int .u64 ((bits &&& (2 ^ n - 1) : Nat) : Int))) := by
  refine spec_of_JS Tryz.func6 rfl (Nat.le_of_ble_eq_true rfl) (fun gh0 wd0 => ?_)
  have hp : 2 ^ n ≤ 2 ^ 12 := Nat.pow_le_pow_right (by decide) hn
  rw [show (2 : Nat) ^ 12 = 4096 by decide] at hp
  have h1p : 1 ≤ 2 ^ n := Nat.one_le_two_pow
  have e1 : (2 ^ ((n : Int)).toNat : Nat) = 2 ^ n := rfl
  refine JS_seq ?_
  -- region 0
  refine sR ?_
  refine kA rfl rfl ?_
  refine kE ?_
  refine JS_seq ?_
  -- region 1
  refine sR ?_
  refine kM rfl rfl ?_
  refine kO (T_conv rfl u25 u33 rfl (wrap_u64 (by omega) (by omega))) rfl ?_
  refine kM rfl rfl ?_
  refine kO (T_shl rfl rfl rfl (by omega) (shl1_u64 (by omega) (by omega))) rfl ?_
  refine kO (T_subI rfl rfl rfl ((wrap_u64 (by rw [e1]; omega) (by rw [e1]; omega)).trans (show _ = ((2 ^ n - 1 : Nat) : Int) by rw [e1]; omega))) rfl ?_
  refine kO (T_bits rfl (.inl rfl) rfl rfl (and_u64 (by omega) (by omega))) rfl ?_
  refine kA rfl rfl ?_
  refine kE ?_
  exact JS_ret (JE_ret_one rfl rfl (.tmp rfl .nil) (int_eq (rfl)))

theorem ti24 : TI Tryz.prog 24 true 5 := ⟨by kernel_rfl, by kernel_rfl⟩

theorem en23 : Enters Tryz.prog 23 := enters_fn Tryz.func23 (by kernel_rfl) rfl

theorem h0_94 : ∀ m, (Seg.cat [Seg.of (Kd.int .i64) 0, Seg.of (Kd.int .i64) 0, Seg.of (Kd.int .i64) 0, Seg.of (Kd.int .i64) 0, Seg.of (Kd.int .i64) 0, Seg.of (Kd.int .i64) 0, Seg.of (Kd.int .i64) 0, Seg.of (Kd.int .i64) 0]).p m (Value.cells (.agg #[.int .i64 (0), .int .i64 (0), .int .i64 (0), .int .i64 (0), .int .i64 (0), .int .i64 (0), .int .i64 (0), .int .i64 (0)])).toList := fun m => ⟨_, _, rfl, (fun _ => rfl) m, ⟨_, _, rfl, (fun _ => rfl) m, ⟨_, _, rfl, (fun _ => rfl) m, ⟨_, _, rfl, (fun _ => rfl) m, ⟨_, _, rfl, (fun _ => rfl) m, ⟨_, _, rfl, (fun _ => rfl) m, ⟨_, _, rfl, (fun _ => rfl) m, ⟨_, _, rfl, (fun _ => rfl) m, rfl⟩⟩⟩⟩⟩⟩⟩⟩

theorem u94 : Tryz.prog.underlying 94 = some (.array 8 3) := by kernel_rfl

theorem z94 : ZeroOf Tryz.prog 94 (.agg #[.int .i64 (0), .int .i64 (0), .int .i64 (0), .int .i64 (0), .int .i64 (0), .int .i64 (0), .int .i64 (0), .int .i64 (0)]) := by unfold ZeroOf; kernel_rfl

theorem fa24_2 : FieldAt Tryz.prog 24 2 2 := by unfold FieldAt; kernel_rfl

theorem fa70_4 : FieldAt Tryz.prog 70 4 6 := by unfold FieldAt; kernel_rfl

theorem u68 : Tryz.prog.underlying 68 = some (.array 2 5) := by kernel_rfl

theorem fa70_3 : FieldAt Tryz.prog 70 3 3 := by unfold FieldAt; kernel_rfl

theorem u67 : Tryz.prog.underlying 67 = some (.array 3 5) := by kernel_rfl

theorem h0_95 : ∀ m, (Seg.cat [Seg.of Kd.str [], Seg.of Kd.str [], Seg.of Kd.str [], Seg.of Kd.str []]).p m (Value.cells (.agg #[.string ⟨#[]⟩, .string ⟨#[]⟩, .string ⟨#[]⟩, .string ⟨#[]⟩])).toList := fun m => ⟨_, _, rfl, (fun _ => rfl) m, ⟨_, _, rfl, (fun _ => rfl) m, ⟨_, _, rfl, (fun _ => rfl) m, ⟨_, _, rfl, (fun _ => rfl) m, rfl⟩⟩⟩⟩

theorem u95 : Tryz.prog.underlying 95 = some (.array 4 9) := by kernel_rfl

theorem z95 : ZeroOf Tryz.prog 95 (.agg #[.string ⟨#[]⟩, .string ⟨#[]⟩, .string ⟨#[]⟩, .string ⟨#[]⟩]) := by unfold ZeroOf; kernel_rfl

theorem fa70_1 : FieldAt Tryz.prog 70 1 1 := by unfold FieldAt; kernel_rfl

theorem fa70_2 : FieldAt Tryz.prog 70 2 2 := by unfold FieldAt; kernel_rfl

theorem h0_97 : ∀ m, (Seg.cat [Seg.of (Kd.int .i64) 0, Seg.of (Kd.int .i64) 0, Seg.of (Kd.int .i64) 0, Seg.of (Kd.int .i64) 0]).p m (Value.cells (.agg #[.int .i64 (0), .int .i64 (0), .int .i64 (0), .int .i64 (0)])).toList := fun m => ⟨_, _, rfl, (fun _ => rfl) m, ⟨_, _, rfl, (fun _ => rfl) m, ⟨_, _, rfl, (fun _ => rfl) m, ⟨_, _, rfl, (fun _ => rfl) m, rfl⟩⟩⟩⟩

theorem u97 : Tryz.prog.underlying 97 = some (.array 4 3) := by kernel_rfl

theorem z97 : ZeroOf Tryz.prog 97 (.agg #[.int .i64 (0), .int .i64 (0), .int .i64 (0), .int .i64 (0)]) := by unfold ZeroOf; kernel_rfl

theorem fa24_3 : FieldAt Tryz.prog 24 3 3 := by unfold FieldAt; kernel_rfl

theorem en38 : Enters Tryz.prog 38 := enters_fn Tryz.func38 (by kernel_rfl) rfl

theorem h0_60str_str_val : ∀ m, (Seg.cat [Seg.of Kd.str [], Seg.of Kd.str [], Seg.of Kd.val (.slice none 0 0)]).p m (Value.cells (.agg #[.string ⟨#[]⟩, .string ⟨#[]⟩, .slice none 0 0])).toList := fun m => ⟨_, _, rfl, (fun _ => rfl) m, ⟨_, _, rfl, (fun _ => rfl) m, ⟨_, _, rfl, (fun _ => ⟨rfl, rfl⟩) m, rfl⟩⟩⟩

theorem fk60 : FieldsKnown Tryz.prog 60 := by unfold FieldsKnown; kernel_rfl

theorem fk62 : FieldsKnown Tryz.prog 62 := by unfold FieldsKnown; kernel_rfl

theorem ei62 : EI Tryz.prog 62 2 24 (.agg #[.int .i64 (0), .string ⟨#[]⟩]) := by unfold EI; kernel_rfl

theorem sz58 : (Tryz.prog.info? 58).map (·.size) = some 1 := by kernel_rfl

theorem w24 {d : Dr} {p : Pk} (hp : PkOk p) : Spec CC 24 [Ty.of Kd.dr d, Ty.of Kd.pk p] (Ty.of Kd.ch (choiceOf d p)) := by
  refine spec_of_JS Tryz.func24 rfl (Nat.le_of_ble_eq_true rfl) (fun gh0 wd0 => ?_)
  obtain ⟨hq1, hq2, hq3, hq4, hq5, hq6, hq7, hq8⟩ := hp
  have hn := dN_bd d
  have hw := dW_bd d
  have hc := dC_bd d
  have hpb := p_bd d p
  have hi0 : ((p.to0 : Int) % ((dN d : Nat) : Int)).toNat = p.to0 % dN d := by rw [natmodI (a := p.to0) (b := dN d) rfl]; rfl
  have hi1 : ((p.to1 : Int) % ((dN d : Nat) : Int)).toNat = p.to1 % dN d := by rw [natmodI (a := p.to1) (b := dN d) rfl]; rfl
  have hi2 : ((p.to2 : Int) % ((dN d : Nat) : Int)).toNat = p.to2 % dN d := by rw [natmodI (a := p.to2) (b := dN d) rfl]; rfl
  have hm0 := Nat.mod_lt p.to0 hn.1
  have hm1 := Nat.mod_lt p.to1 hn.1
  have hm2 := Nat.mod_lt p.to2 hn.1
  have hl0 := parts0_len d p
  have hl1 := parts1_len d p
  have hl2 := parts_len d p
  have hs0 : (parts0 d p).sum = p1 d p := by unfold parts0; rw [addAt_sum _ (by rw [List.length_replicate]; exact hm0)]; simp
  have hs1 : (parts1 d p).sum = p1 d p + p2 d p := by unfold parts1; rw [addAt_sum _ (by rw [hl0]; exact hm1), hs0]
  have hr : (List.replicate (dN d) 0).length = dN d := List.length_replicate ..
  have hz0 : 0 ≤ (p.to0 : Int) % ((dN d : Nat) : Int) := by rw [natmodI (a := p.to0) (b := dN d) rfl]; omega
  have hz1 : 0 ≤ (p.to1 : Int) % ((dN d : Nat) : Int) := by rw [natmodI (a := p.to1) (b := dN d) rfl]; omega
  have hz2 : 0 ≤ (p.to2 : Int) % ((dN d : Nat) : Int) := by rw [natmodI (a := p.to2) (b := dN d) rfl]; omega
  refine JS_seq ?_
  -- region 0
  refine sR ?_
  refine kO (T_box rfl (ol rfl (Ty.le.refl _))) rfl ?_
  refine kO (T_box rfl (ol rfl (Ty.le.refl _))) rfl ?_
  refine kT ?_
  refine JT_alloc (S0 := Seg.cat [Seg.of Kd.str [], Seg.of Kd.str [], Seg.of (Kd.slice Kd.br) []]) rfl rfl rfl rfl z60 h0_60 (fun g4 => ?_)
  refine JT_done ?_
  refine JS_seq ?_
  -- region 1
  refine sR ?_
  refine kO (T_ld rfl rfl ti24) rfl ?_
  refine kO (T_callL rfl en23 (w23 ) (oa (ol rfl (Ty.le.refl _)) oa0)) rfl ?_
  refine kA rfl rfl ?_
  refine kE ?_
  refine JS_seq ?_
  -- region 2
  refine sR ?_
  refine kO (T_sub (T_buildArr (S0 := Seg.cat [Seg.of (Kd.int .i64) 0, Seg.of (Kd.int .i64) 0, Seg.of (Kd.int .i64) 0, Seg.of (Kd.int .i64) 0, Seg.of (Kd.int .i64) 0, Seg.of (Kd.int .i64) 0, Seg.of (Kd.int .i64) 0, Seg.of (Kd.int .i64) 0]) rfl u94 ti3 z94 h0_94 (fc (ol rfl (val_int _ _)) (uc (i := 0) rfl rfl rfl) rfl (fc (ol rfl (val_int _ _)) (uc (i := 1) rfl rfl rfl) rfl (fc (ol rfl (val_int _ _)) (uc (i := 2) rfl rfl rfl) rfl (fc (ol rfl (val_int _ _)) (uc (i := 3) rfl rfl rfl) rfl (fc (ol rfl (val_int _ _)) (uc (i := 4) rfl rfl rfl) rfl (fc (ol rfl (val_int _ _)) (uc (i := 5) rfl rfl rfl) rfl (fc (ol rfl (val_int _ _)) (uc (i := 6) rfl rfl rfl) rfl (fc (ol rfl (val_int _ _)) (uc (i := 7) rfl rfl rfl) rfl (Fill.nil _))))))))) rfl) (arr_mk wholes rfl rfl)) rfl ?_
  refine kO (T_fieldAddr rfl fa24_2 (st_sub (i := 2) rfl rfl) rfl) rfl ?_
  refine kO (T_load_nat rfl ti5 rfl) rfl ?_
  refine kO (T_rem rfl rfl rfl (by omega) ((rem_nn (by omega)).trans (natmodI (a := d.grain) (b := 8) rfl))) rfl ?_
  refine kO (T_sub (T_index_arr rfl rfl rfl u94 ti3 (by omega) (Nat.mod_lt d.grain (by decide)) (dW_at (d := d) rfl)) (int_val _ _)) rfl ?_
  refine kA rfl rfl ?_
  refine kE ?_
  refine JS_seq ?_
  -- region 3
  refine sR ?_
  refine kO (T_fieldAddr rfl fa70_4 (st_sub (i := 4) rfl rfl) rfl) rfl ?_
  refine kO (T_ia_arr rfl rfl rfl u68 ti5 (by omega) (by omega) rfl) rfl ?_
  refine kO (T_load_nat rfl ti5 rfl) rfl ?_
  refine kO (T_conv rfl u5 u3 rfl (wrap_i64 (by omega) (by omega))) rfl ?_
  refine kM rfl rfl ?_
  refine kO (T_add rfl rfl rfl (wrap_i64 (by omega) (by omega))) rfl ?_
  refine kO (T_rem rfl rfl rfl (by omega) (rem_nn (by omega))) rfl ?_
  refine kA rfl rfl ?_
  refine kE ?_
  refine JS_seq ?_
  -- region 4
  refine JS_re (s := 7) (T := Ty.val (.int .i64 ((p1 d p : Nat) : Int))) rfl (int_eq (natmodI rfl)) ?_
  refine sR ?_
  refine kO (T_fieldAddr rfl fa70_4 (st_sub (i := 4) rfl rfl) rfl) rfl ?_
  refine kO (T_ia_arr rfl rfl rfl u68 ti5 (by omega) (by omega) rfl) rfl ?_
  refine kO (T_load_nat rfl ti5 rfl) rfl ?_
  refine kO (T_conv rfl u5 u3 rfl (wrap_i64 (by omega) (by omega))) rfl ?_
  refine kM rfl rfl ?_
  refine kM rfl rfl ?_
  refine kO (T_subI rfl rfl rfl (wrap_i64 (by omega) (by omega))) rfl ?_
  refine kO (T_add rfl rfl rfl (wrap_i64 (by omega) (by omega))) rfl ?_
  refine kO (T_rem rfl rfl rfl (by omega) (rem_nn (by omega))) rfl ?_
  refine kA rfl rfl ?_
  refine kE ?_
  refine JS_seq ?_
  -- region 5
  refine JS_re (s := 8) (T := Ty.val (.int .i64 ((p2 d p : Nat) : Int))) rfl (int_eq (natmodI (b := dW d - p1 d p + 1) (by omega))) ?_
  refine sR ?_
  refine kM rfl rfl ?_
  refine kT ?_
  refine JT_make (K := (Kd.int .i64)) (z0 := 0) rfl rfl rfl rfl u27 ei3 rfl (by decide) (fun _ => rfl) rfl rfl (by omega) (by omega) (by omega) (by omega) (fun v36 => ?_)
  refine jA rfl rfl ?_
  refine JT_done ?_
  refine JS_seq ?_
  -- region 6
  refine JS_eqD (Δ' := [Res.sl v36 3 (Kd.int .i64) (castL (List.replicate (dN d) 0)), Res.box g4 60 (Seg.cat [Seg.of Kd.str [], Seg.of Kd.str [], Seg.of (Kd.slice Kd.br) []])]) (by rw [castL_zero (N := ((dN d : Nat) : Int)) rfl]; rfl) ?_
  have hqa := castL_bd (l := List.replicate (dN d) 0) (k := ((p.to0 : Int) % ((dN d : Nat) : Int)).toNat) (by rw [castL_len, hi0, hr]; exact hm0)
  rw [show (List.replicate (dN d) 0).sum = 0 by simp] at hqa
  refine sR ?_
  refine kM rfl rfl ?_
  refine kO (T_fieldAddr rfl fa70_3 (st_sub (i := 3) rfl rfl) rfl) rfl ?_
  refine kO (T_ia_arr rfl rfl rfl u67 ti5 (by omega) (by omega) rfl) rfl ?_
  refine kO (T_load_nat rfl ti5 rfl) rfl ?_
  refine kO (T_conv rfl u5 u3 rfl (wrap_i64 (by omega) (by omega))) rfl ?_
  refine kM rfl rfl ?_
  refine kO (T_rem rfl rfl rfl (by omega) (rem_nn (by omega))) rfl ?_
  refine kO (T_ixo (ix := 0) (d := (Kd.int .i64)) rfl rfl rfl rfl u27 ti3 hz0 (by rw [castL_len, hi0, hr]; exact hm0)) rfl ?_
  refine kO (T_lde_int (i := 0) rfl rfl rfl ti3 (by rw [castL_len, hi0, hr]; exact hm0) rfl) rfl ?_
  refine kM rfl rfl ?_
  refine kO (T_add rfl rfl rfl (wrap_i64 (by omega) (by omega))) rfl ?_
  refine kO (T_ixo (ix := 0) (d := (Kd.int .i64)) rfl rfl rfl rfl u27 ti3 hz0 (by rw [castL_len, hi0, hr]; exact hm0)) rfl ?_
  refine kT ?_
  refine JT_store_elt (i := 0) rfl rfl rfl rfl rfl (by rw [castL_len, hi0, hr]; exact hm0) (ol rfl (val_int _ _)) sz3 ?_
  refine JT_done ?_
  refine JS_seq ?_
  -- region 7
  refine JS_eqD (Δ' := [Res.sl v36 3 (Kd.int .i64) (castL (parts0 d p)), Res.box g4 60 (Seg.cat [Seg.of Kd.str [], Seg.of Kd.str [], Seg.of (Kd.slice Kd.br) []])]) (by rw [castL_add (l := List.replicate (dN d) 0) (x := p1 d p) (k := ((p.to0 : Int) % ((dN d : Nat) : Int)).toNat) hi0 (by rw [castL_len, hi0, hr]; omega) rfl]; rfl) ?_
  have hqb := castL_bd (l := parts0 d p) (k := ((p.to1 : Int) % ((dN d : Nat) : Int)).toNat) (by rw [castL_len, hi1, hl0]; exact hm1)
  refine sR ?_
  refine kM rfl rfl ?_
  refine kO (T_fieldAddr rfl fa70_3 (st_sub (i := 3) rfl rfl) rfl) rfl ?_
  refine kO (T_ia_arr rfl rfl rfl u67 ti5 (by omega) (by omega) rfl) rfl ?_
  refine kO (T_load_nat rfl ti5 rfl) rfl ?_
  refine kO (T_conv rfl u5 u3 rfl (wrap_i64 (by omega) (by omega))) rfl ?_
  refine kM rfl rfl ?_
  refine kO (T_rem rfl rfl rfl (by omega) (rem_nn (by omega))) rfl ?_
  refine kO (T_ixo (ix := 0) (d := (Kd.int .i64)) rfl rfl rfl rfl u27 ti3 hz1 (by rw [castL_len, hi1, hl0]; exact hm1)) rfl ?_
  refine kO (T_lde_int (i := 0) rfl rfl rfl ti3 (by rw [castL_len, hi1, hl0]; exact hm1) rfl) rfl ?_
  refine kM rfl rfl ?_
  refine kO (T_add rfl rfl rfl (wrap_i64 (by omega) (by omega))) rfl ?_
  refine kO (T_ixo (ix := 0) (d := (Kd.int .i64)) rfl rfl rfl rfl u27 ti3 hz1 (by rw [castL_len, hi1, hl0]; exact hm1)) rfl ?_
  refine kT ?_
  refine JT_store_elt (i := 0) rfl rfl rfl rfl rfl (by rw [castL_len, hi1, hl0]; exact hm1) (ol rfl (val_int _ _)) sz3 ?_
  refine JT_done ?_
  refine JS_seq ?_
  -- region 8
  refine JS_eqD (Δ' := [Res.sl v36 3 (Kd.int .i64) (castL (parts1 d p)), Res.box g4 60 (Seg.cat [Seg.of Kd.str [], Seg.of Kd.str [], Seg.of (Kd.slice Kd.br) []])]) (by rw [castL_add (l := parts0 d p) (x := p2 d p) (k := ((p.to1 : Int) % ((dN d : Nat) : Int)).toNat) hi1 (by rw [castL_len, hi1, hl0]; omega) rfl]; rfl) ?_
  have hqc := castL_bd (l := parts1 d p) (k := ((p.to2 : Int) % ((dN d : Nat) : Int)).toNat) (by rw [castL_len, hi2, hl1]; exact hm2)
  refine sR ?_
  refine kM rfl rfl ?_
  refine kO (T_fieldAddr rfl fa70_3 (st_sub (i := 3) rfl rfl) rfl) rfl ?_
  refine kO (T_ia_arr rfl rfl rfl u67 ti5 (by omega) (by omega) rfl) rfl ?_
  refine kO (T_load_nat rfl ti5 rfl) rfl ?_
  refine kO (T_conv rfl u5 u3 rfl (wrap_i64 (by omega) (by omega))) rfl ?_
  refine kM rfl rfl ?_
  refine kO (T_rem rfl rfl rfl (by omega) (rem_nn (by omega))) rfl ?_
  refine kO (T_ixo (ix := 0) (d := (Kd.int .i64)) rfl rfl rfl rfl u27 ti3 hz2 (by rw [castL_len, hi2, hl1]; exact hm2)) rfl ?_
  refine kO (T_lde_int (i := 0) rfl rfl rfl ti3 (by rw [castL_len, hi2, hl1]; exact hm2) rfl) rfl ?_
  refine kM rfl rfl ?_
  refine kM rfl rfl ?_
  refine kO (T_subI rfl rfl rfl (wrap_i64 (by omega) (by omega))) rfl ?_
  refine kM rfl rfl ?_
  refine kO (T_subI rfl rfl rfl (wrap_i64 (by omega) (by omega))) rfl ?_
  refine kO (T_add rfl rfl rfl (wrap_i64 (by omega) (by omega))) rfl ?_
  refine kO (T_ixo (ix := 0) (d := (Kd.int .i64)) rfl rfl rfl rfl u27 ti3 hz2 (by rw [castL_len, hi2, hl1]; exact hm2)) rfl ?_
  refine kT ?_
  refine JT_store_elt (i := 0) rfl rfl rfl rfl rfl (by rw [castL_len, hi2, hl1]; exact hm2) (ol rfl (val_int _ _)) sz3 ?_
  refine JT_done ?_
  refine JS_seq ?_
  -- region 9
  refine JS_eqD (Δ' := [Res.sl v36 3 (Kd.int .i64) (castL (partsL d p)), Res.box g4 60 (Seg.cat [Seg.of Kd.str [], Seg.of Kd.str [], Seg.of (Kd.slice Kd.br) []])]) (by rw [castL_add (l := parts1 d p) (x := dW d - p1 d p - p2 d p) (y := ((dW d : Nat) : Int) - ((p1 d p : Nat) : Int) - ((p2 d p : Nat) : Int)) (k := ((p.to2 : Int) % ((dN d : Nat) : Int)).toNat) hi2 (by rw [castL_len, hi2, hl1]; exact hm2) (by omega)]; rfl) ?_
  refine JS_drawT [16, 17] (fun (Δ0 : List Res) (sd : List Nat) (Γd : Env) (Δ1 : List Res) => (sd = [] ∧ Γd = [] ∧ Δ1 = Δ0) ∨ (∃ (g10 : Nat), sd = [16] ∧ Γd = [(10, Ty.val (ptr g10 0))] ∧ Δ1 = Res.box g10 60 (Seg.cat [Seg.of Kd.str [], Seg.of Kd.str [], Seg.of (Kd.slice Kd.br) []]) :: Δ0) ∨ (∃ (g10 : Nat), sd = [17, 16] ∧ Γd = [(10, Ty.val (ptr g10 0))] ∧ Δ1 = Res.box g10 60 (Seg.cat [Seg.of Kd.str (nameOf p.act), Seg.of Kd.str (qtext (Rat.divInt ((p.gain % 20 : Nat) : Int) (dC d))), Seg.of Kd.val (.slice none 0 0)]) :: Δ0)) (fun i => if i = 16 then [] else if i = 17 then [92] else []) mixed (by decide) (by decide) (.inl ⟨rfl, rfl, rfl⟩) (fun sd Γd Δ1 hs => by rcases hs with ⟨rfl, rfl, rfl⟩ | ⟨g10, rfl, rfl, rfl⟩ | ⟨g10, rfl, rfl, rfl⟩ <;> rfl) ?_
  refine dOpA (fun _ => T_sub (T_buildArr (S0 := Seg.cat [Seg.of Kd.str [], Seg.of Kd.str [], Seg.of Kd.str [], Seg.of Kd.str []]) rfl u95 ti9 z95 h0_95 (fc (ol rfl (val_str [])) (uc (i := 0) rfl rfl rfl) rfl (fc (ol rfl (val_str [97])) (uc (i := 1) rfl rfl rfl) rfl (fc (ol rfl (val_str [103, 111])) (uc (i := 2) rfl rfl rfl) rfl (fc (ol rfl (val_str [97, 98, 99, 100, 101, 102, 103, 104])) (uc (i := 3) rfl rfl rfl) rfl (Fill.nil _))))) rfl) (arr_mk namesL rfl rfl)) rfl rfl rfl ?_
  refine dOpA (fun _ => T_fieldAddr rfl fa70_1 (st_sub (i := 1) rfl rfl) rfl) rfl rfl rfl ?_
  refine dOpA (fun _ => T_load_nat rfl ti5 rfl) rfl rfl rfl ?_
  refine dOpA (fun _ => T_rem rfl rfl rfl (by omega) ((rem_nn (by omega)).trans (natmodI (a := p.act) (b := 4) rfl))) rfl rfl rfl ?_
  refine dOpA (fun _ => T_index_arr rfl rfl rfl u95 ti9 (by omega) (Nat.mod_lt p.act (by decide)) (name_at (a := p.act) rfl)) rfl rfl rfl ?_
  refine dOpA (fun _ => T_fieldAddr rfl fa70_2 (st_sub (i := 2) rfl rfl) rfl) rfl rfl rfl ?_
  refine dOpA (fun _ => T_load_nat rfl ti5 rfl) rfl rfl rfl ?_
  refine dOpA (fun _ => T_rem rfl rfl rfl (by omega) (rem_nn (by omega))) rfl rfl rfl ?_
  refine dOpA (fun _ => T_conv rfl u5 u3 rfl ((wrap_i64 (by omega) (by omega)).trans (natmodI (a := p.gain) (b := 20) rfl))) rfl rfl rfl ?_
  refine dOpA (fun _ => T_sub (T_buildArr (S0 := Seg.cat [Seg.of (Kd.int .i64) 0, Seg.of (Kd.int .i64) 0, Seg.of (Kd.int .i64) 0, Seg.of (Kd.int .i64) 0]) rfl u97 ti3 z97 h0_97 (fc (ol rfl (val_int _ _)) (uc (i := 0) rfl rfl rfl) rfl (fc (ol rfl (val_int _ _)) (uc (i := 1) rfl rfl rfl) rfl (fc (ol rfl (val_int _ _)) (uc (i := 2) rfl rfl rfl) rfl (fc (ol rfl (val_int _ _)) (uc (i := 3) rfl rfl rfl) rfl (Fill.nil _))))) rfl) (arr_mk centsL rfl rfl)) rfl rfl rfl ?_
  refine dOpA (fun _ => T_fieldAddr rfl fa24_3 (st_sub (i := 3) rfl rfl) rfl) rfl rfl rfl ?_
  refine dOpA (fun _ => T_load_nat rfl ti5 rfl) rfl rfl rfl ?_
  refine dOpA (fun _ => T_rem rfl rfl rfl (by omega) ((rem_nn (by omega)).trans (natmodI (a := d.cents) (b := 4) rfl))) rfl rfl rfl ?_
  refine dOpA (fun _ => T_sub (T_index_arr rfl rfl rfl u97 ti3 (by omega) (Nat.mod_lt d.cents (by decide)) (dC_at (d := d) rfl)) (int_val _ _)) rfl rfl rfl ?_
  refine dOpA (fun _ => T_callL rfl en38 (w38 (n := p.gain % 20) (d := dC d) (by omega) (by omega) (by omega)) (oa (ol rfl (Ty.le.refl _)) (oa (ol rfl (Ty.le.refl _)) oa0))) rfl rfl rfl ?_
  refine dOpA (fun _ => T_build (S0 := Seg.cat [Seg.of Kd.str [], Seg.of Kd.str [], Seg.of Kd.val (.slice none 0 0)]) rfl fk60 z60 h0_60str_str_val (fc (ol rfl (Ty.le.refl _)) (uc (i := 0) rfl rfl rfl) rfl (fc (ol rfl (Ty.le.refl _)) (uc (i := 1) rfl rfl rfl) rfl (Fill.nil _))) rfl) rfl rfl rfl ?_
  refine dDyn rfl ?_
  refine dDyn rfl ?_
  refine dEnd ⟨?_, ?_⟩
  · intro Q1 cs1 i o sd Γd Δ1 Γx hi ho hn hb hinv hk
    simp only [List.mem_cons, List.not_mem_nil, or_false] at hi
    rcases hi with rfl | rfl
    · obtain rfl := Option.some.inj ho
      rcases hinv with ⟨rfl, rfl, rfl⟩ | ⟨g10, rfl, rfl, rfl⟩ | ⟨g10, rfl, rfl, rfl⟩
      · refine JT_alloc (S0 := Seg.cat [Seg.of Kd.str [], Seg.of Kd.str [], Seg.of (Kd.slice Kd.br) []]) rfl rfl rfl rfl z60 h0_60 (fun g10 => ?_)
        exact JT_done (hk [(10, _)] _ (.inr (.inl ⟨g10, rfl, rfl, rfl⟩)))
      · exact absurd (by simp) hn
      · exact absurd (by simp) hn
    · obtain rfl := Option.some.inj ho
      rcases hinv with ⟨rfl, rfl, rfl⟩ | ⟨g10, rfl, rfl, rfl⟩ | ⟨g10, rfl, rfl, rfl⟩
      · exact absurd (hb 16 rfl (by decide)) (by simp)
      · refine JT_store (i := 0) rfl rfl rfl rfl rfl (ol rfl (Ty.le.refl _)) (Upd.self _ _ rfl) sz60 ?_
        exact JT_done (hk [(10, _)] _ (.inr (.inr ⟨g10, rfl, rfl, rfl⟩)))
      · exact absurd (by simp) hn
  · intro sd Γd Δ1 hinv hall
    rcases hinv with ⟨rfl, rfl, rfl⟩ | ⟨g10, rfl, rfl, rfl⟩ | ⟨g10, rfl, rfl, rfl⟩
    · exact absurd (hall 16 (by decide) rfl) (by simp)
    · exact absurd (hall 17 (by decide) rfl) (by simp)
    · refine JS_seq ?_
      refine JS_seq ?_
      -- region 10
      refine JS_own_nil 62 Kd.br ?_
      refine JS_perm (List.Perm.swap _ _ _) ?_
      refine sR ?_
      refine kA rfl rfl ?_
      refine kE ?_
      refine JS_block ?_
      refine sLoop2 (fun (k : Nat) (v : Value) => [(11, Ty.val (.int .i64 (k : Int)))]) [4, 5, 6, 9, 10] (fun (k : Nat) (v : Value) => [(0, Res.box g10 60 (Seg.cat [Seg.of Kd.str (nameOf p.act), Seg.of Kd.str (qtext (Rat.divInt ((p.gain % 20 : Nat) : Int) (dC d))), Seg.of Kd.val v])), (1, Res.sl v 62 Kd.br (nextK (partsL d p) (dW d) k)), (2, Res.sl v36 3 (Kd.int .i64) (castL (partsL d p)))]) (fun (k : Nat) (v : Value) => k ≤ dN d) (fun (k : Nat) (v : Value) => dN d - k) 0 (.slice none 0 0) (Nat.zero_le _) rfl (EnvSub.consLe rfl (int_eq (rfl)) (EnvSub.nil _)) (fun k v (hI : k ≤ dN d) => ?_)
      refine JS_seq ?_
      refine JS_seq ?_
      -- region 11
      refine sR ?_
      refine kM rfl rfl ?_
      refine kM rfl rfl ?_
      refine kO (T_lt rfl rfl rfl) rfl ?_
      refine kE ?_
      refine JS_if rfl (fun c95 => ?_) (fun c95 => ?_)
      · have hk1 : k < dN d := by omega
        have hnl := nextK_len (partsL d p) (dW d) k
        have hple := parts_le d p k
        refine JS_skip ?_
        refine JS_seq ?_
        refine JS_block ?_
        refine JS_seq ?_
        -- region 13
        refine sR ?_
        refine kM rfl rfl ?_
        refine kM rfl rfl ?_
        refine kO (T_ixo (ix := 2) (d := (Kd.int .i64)) rfl rfl rfl rfl u27 ti3 (by omega) (by rw [castL_len]; omega)) rfl ?_
        refine kO (T_lde_int (i := 2) rfl rfl rfl ti3 (by rw [castL_len]; omega) (castL_at (i := k) rfl (by rw [castL_len]; omega))) rfl ?_
        refine kO (T_gt rfl rfl rfl) rfl ?_
        refine kE ?_
        refine JS_if rfl (fun c102 => ?_) (fun c102 => ?_)
        · -- region 14
          refine sRD mixed ?_
          refine kO (T_fieldAddr_ptr rfl fa60_2 rfl rfl) rfl ?_
          refine kO (T_load_own_val (i := 0) rfl rfl rfl (sc (i := 2) rfl rfl) ti58) rfl ?_
          refine kM rfl rfl ?_
          refine kM rfl rfl ?_
          refine kM rfl rfl ?_
          refine kO (T_ixo (ix := 2) (d := (Kd.int .i64)) rfl rfl rfl rfl u27 ti3 (by omega) (by rw [castL_len]; omega)) rfl ?_
          refine kO (T_lde_int (i := 2) rfl rfl rfl ti3 (by rw [castL_len]; omega) (castL_at (i := k) rfl (by rw [castL_len]; omega))) rfl ?_
          refine kM rfl rfl ?_
          refine kO (T_callL rfl en38 (w38 (n := (partsL d p).getD k 0) (d := dW d) (by omega) (by omega) (by omega)) (oa (ol rfl (Ty.le.refl _)) (oa (ol rfl (Ty.le.refl _)) oa0))) rfl ?_
          refine kO (T_sub (T_build (S0 := Seg.cat [Seg.of (Kd.int .i64) 0, Seg.of Kd.str []]) rfl fk62 z62 h0_62 (fc (ol rfl (val_int _ _)) (uc (i := 0) rfl rfl rfl) rfl (fc (ol rfl (Ty.le.refl _)) (uc (i := 1) rfl rfl rfl) rfl (Fill.nil _))) rfl) (br_mk (brOf (partsL d p) (dW d) k) rfl rfl)) rfl ?_
          refine kO (T_lits (xs := [.tmp 112]) (d := Kd.br) [brOf (partsL d p) (dW d) k] rfl rfl u58 ti62 z62 rfl rfl (by decide) (by decide) (oa (ol rfl (Ty.le.refl _)) oa0) rfl) rfl ?_
          refine kTD (by decide) ?_
          refine JT_append (i := 1) rfl rfl rfl rfl u58 ei62 rfl rfl (by decide) rfl rfl (ol rfl (Ty.le.refl _)) (by simp only [List.length_cons, List.length_nil, maxLen]; omega) (by simp only [List.length_cons, List.length_nil]; omega) (fun v114 => ?_)
          refine jO (T_fieldAddr_ptr rfl fa60_2 rfl rfl) rfl ?_
          refine JT_one (i := 1) rfl (fun ov114 => ?_)
          refine JT_store (i := 0) rfl rfl rfl rfl rfl (ol rfl (to_kval ov114)) (uc (i := 2) rfl rfl rfl) sz58 ?_
          refine JT_done ?_
          refine JS_end_inB ?_
          -- region 12
          refine sR ?_
          refine kM rfl rfl ?_
          refine kO (T_add rfl rfl rfl (wrap_i64 (by omega) (by omega))) rfl ?_
          refine kA rfl rfl ?_
          refine kE ?_
          exact JS_round ((k + 1), v114) (by try dsimp only; exact (by omega)) (by try dsimp only; exact (by omega)) (by rw [nextK_on (by omega)]; rfl) (EnvSub.consLe rfl (int_eq (rfl)) (EnvSub.pick1 rfl (EnvSub.pick1 rfl (EnvSub.pick1 rfl (EnvSub.pick1 rfl (EnvSub.pick1 rfl (EnvSub.nil _)))))))
        · refine JS_skip ?_
          refine JS_end_inB ?_
          -- region 12
          refine sR ?_
          refine kM rfl rfl ?_
          refine kO (T_add rfl rfl rfl (wrap_i64 (by omega) (by omega))) rfl ?_
          refine kA rfl rfl ?_
          refine kE ?_
          exact JS_round ((k + 1), v) (by try dsimp only; exact (by omega)) (by try dsimp only; exact (by omega)) (by rw [nextK_off (by omega)]) (EnvSub.consLe rfl (int_eq (rfl)) (EnvSub.pick1 rfl (EnvSub.pick1 rfl (EnvSub.pick1 rfl (EnvSub.pick1 rfl (EnvSub.pick1 rfl (EnvSub.nil _)))))))
      · obtain rfl : k = dN d := by omega
        refine JS_exit (JE_loop_exit (JE_inB_here ?_))
        refine JS_seq ?_
        -- region 15
        refine JS_freeze_fld (i := 0) (j := 1) (k := 2) rfl rfl rfl rfl ?_
        refine sR ?_
        refine kO (T_load_own (i := 0) rfl rfl rfl (Sub.self _) ti60) rfl ?_
        refine kT ?_
        refine JT_store (i := 2) rfl rfl rfl rfl rfl (ol rfl (Ty.le.refl _)) (Upd.self _ _ rfl) sz60 ?_
        refine JT_done ?_
        exact JS_ret (JE_ret_one rfl rfl (.cell (i := 2) rfl rfl ti60 .nil) (ch_mk (choiceOf d p) rfl rfl rfl))

end Go.Proofs.YtknflgfkhkdomaaGreatDoor.Mono

/-! WlC -/
set_option linter.unusedVariables false
set_option linter.unusedSimpArgs false
set_option maxRecDepth 4000
set_option maxHeartbeats 4000000
namespace Go.Proofs.YtknflgfkhkdomaaGreatDoor.Mono
open Go Go.RowKit

theorem pick_on {d : Dr} {i sx : Nat} (hi : ((i : Int)).toNat < d.picks.length) (hs : sx = d.picks[((i : Int)).toNat].st % dN d) {h : sx < (pickK d i).length} (hc : (((pickK d i)[sx].length : Nat) : Int) < 3) : pickK d (i + 1) = (pickK d i).set sx ((pickK d i)[sx] ++ [choiceOf d d.picks[((i : Int)).toNat]]) := by
  subst hs
  have hi2 : i < d.picks.length := hi
  rw [pickK_succ hi2]
  have h' : d.picks[i].st % dN d < (pickK d i).length := h
  have e : (pickK d i).getD (d.picks[i].st % dN d) [] = (pickK d i)[d.picks[i].st % dN d]'h' := by rw [List.getD_eq_getElem?_getD, List.getElem?_eq_getElem h']; rfl
  unfold addP
  rw [e, if_pos (by have : (((pickK d i)[d.picks[i].st % dN d]'h).length : Int) < 3 := hc
                    omega)]
  rfl
theorem pick_off {d : Dr} {i sx : Nat} (hi : ((i : Int)).toNat < d.picks.length) (hs : sx = d.picks[((i : Int)).toNat].st % dN d) {h : sx < (pickK d i).length} (hc : ¬ (((pickK d i)[sx].length : Nat) : Int) < 3) : pickK d (i + 1) = pickK d i := by
  subst hs
  have hi2 : i < d.picks.length := hi
  rw [pickK_succ hi2]
  have h' : d.picks[i].st % dN d < (pickK d i).length := h
  have e : (pickK d i).getD (d.picks[i].st % dN d) [] = (pickK d i)[d.picks[i].st % dN d]'h' := by rw [List.getD_eq_getElem?_getD, List.getElem?_eq_getElem h']; rfl
  unfold addP
  rw [e, if_neg (by have : ¬ (((pickK d i)[d.picks[i].st % dN d]'h).length : Int) < 3 := hc
                    omega)]
theorem fill_nil {xss : List (List Ch)} {k : Nat} {h : ((k : Int)).toNat < (fillE xss k).length} (hk : k < xss.length) (hc : (((fillE xss k)[((k : Int)).toNat].length : Nat) : Int) = 0) : xss.getD k [] = [] := by
  have e : (fillE xss k)[((k : Int)).toNat] = xss.getD k [] := fillE_get hk
  rw [e] at hc
  exact List.length_eq_zero_iff.1 (by omega)
theorem fill_some {xss : List (List Ch)} {k : Nat} {h : ((k : Int)).toNat < (fillE xss k).length} (hk : k < xss.length) (hc : ¬ (((fillE xss k)[((k : Int)).toNat].length : Nat) : Int) = 0) : xss.getD k [] ≠ [] := fun e => hc (by
  have e2 : (fillE xss k)[((k : Int)).toNat] = xss.getD k [] := fillE_get hk
  rw [e2, e]; rfl)

theorem h0_30 : ∀ m, (Seg.cat [Seg.of (Kd.slice (Kd.int .i64)) [], Seg.of (Kd.slice (Kd.slice Kd.ch)) []]).p m (Value.cells (.agg #[.slice none 0 0, .slice none 0 0])).toList := fun m => ⟨_, _, rfl, (z_slice _) m, ⟨_, _, rfl, (z_slice _) m, rfl⟩⟩

theorem z30 : ZeroOf Tryz.prog 30 (.agg #[.slice none 0 0, .slice none 0 0]) := by unfold ZeroOf; kernel_rfl

theorem ei65 : EI Tryz.prog 65 1 24 (.slice none 0 0) := by unfold EI; kernel_rfl

theorem h0_30Li64_val : ∀ m, (Seg.cat [Seg.of (Kd.slice (Kd.int .i64)) [], Seg.of Kd.val (.slice none 0 0)]).p m (Value.cells (.agg #[.slice none 0 0, .slice none 0 0])).toList := fun m => ⟨_, _, rfl, (z_slice _) m, ⟨_, _, rfl, (fun _ => ⟨rfl, rfl⟩) m, rfl⟩⟩

theorem fk30 : FieldsKnown Tryz.prog 30 := by unfold FieldsKnown; kernel_rfl

theorem sz30 : (Tryz.prog.info? 30).map (·.size) = some 2 := by kernel_rfl

theorem fa24_1 : FieldAt Tryz.prog 24 1 1 := by unfold FieldAt; kernel_rfl

theorem fa24_4 : FieldAt Tryz.prog 24 4 4 := by unfold FieldAt; kernel_rfl

theorem ti22 : TI Tryz.prog 22 false 1 := ⟨by kernel_rfl, by kernel_rfl⟩

theorem u22 : Tryz.prog.underlying 22 = some (.slice 70) := by kernel_rfl

theorem ti70 : TI Tryz.prog 70 true 8 := ⟨by kernel_rfl, by kernel_rfl⟩

theorem fa70_0 : FieldAt Tryz.prog 70 0 0 := by unfold FieldAt; kernel_rfl

theorem en24 : Enters Tryz.prog 24 := enters_fn Tryz.func24 (by kernel_rfl) rfl

theorem ei60 : EI Tryz.prog 60 3 56 (.agg #[.string ⟨#[]⟩, .string ⟨#[]⟩, .slice none 0 0]) := by unfold EI; kernel_rfl

theorem sz65 : (Tryz.prog.info? 65).map (·.size) = some 1 := by kernel_rfl

theorem w12 {d : Dr} (hd : DrOk d) (h0 : d.owners = 0) : Spec CC 12 [Ty.of Kd.dr d] (Ty.of Kd.mo (modelOf d)) := by
  refine spec_of_JS Tryz.func12 rfl (Nat.le_of_ble_eq_true rfl) (fun gh0 wd0 => ?_)
  have hn := dN_bd d
  have hdp := hd.2.2.2.2
  have hpl0 := pickK_len d
  refine JS_seq ?_
  -- region 0
  refine sR ?_
  refine kO (T_box rfl (ol rfl (Ty.le.refl _))) rfl ?_
  refine kT ?_
  refine JT_alloc (S0 := Seg.cat [Seg.of (Kd.slice (Kd.int .i64)) [], Seg.of (Kd.slice (Kd.slice Kd.ch)) []]) rfl rfl rfl rfl z30 h0_30 (fun g2 => ?_)
  refine JT_done ?_
  refine JS_seq ?_
  -- region 1
  refine sR ?_
  refine kO (T_ld rfl rfl ti24) rfl ?_
  refine kO (T_callL rfl en23 (w23 ) (oa (ol rfl (Ty.le.refl _)) oa0)) rfl ?_
  refine kA rfl rfl ?_
  refine kE ?_
  refine JS_seq ?_
  refine JS_joinD2 (fun (v14 : Value) (g4 : Nat) => [(4, Ty.val (ptr g4 0))]) [1, 2, 3] (fun (v14 : Value) (g4 : Nat) => [Res.box g4 30 (Seg.cat [Seg.of (Kd.slice (Kd.int .i64)) (List.replicate (((dN d : Nat) : Int)).toNat 0), Seg.of Kd.val v14]), Res.sl v14 65 Kd.val (List.replicate (((dN d : Nat) : Int)).toNat (.slice none 0 0)), Res.box g2 30 (Seg.cat [Seg.of (Kd.slice (Kd.int .i64)) [], Seg.of (Kd.slice (Kd.slice Kd.ch)) []])]) (fun (v14 : Value) (g4 : Nat) => True) ?_ (fun v14 g4 (hJ : True) => ?_)
  · -- region 2
    refine JS_drawT [3, 4, 5, 6] (fun (Δ0 : List Res) (sd : List Nat) (Γd : Env) (Δ1 : List Res) => (sd = [] ∧ Γd = [] ∧ Δ1 = Δ0) ∨ (∃ (v14 : Value), sd = [3] ∧ Γd = [(14, Ty.val v14)] ∧ Δ1 = Res.sl v14 65 Kd.val (List.replicate (((dN d : Nat) : Int)).toNat (.slice none 0 0)) :: Δ0) ∨ (∃ (g4 : Nat), sd = [5] ∧ Γd = [(4, Ty.val (ptr g4 0))] ∧ Δ1 = Res.box g4 30 (Seg.cat [Seg.of (Kd.slice (Kd.int .i64)) [], Seg.of (Kd.slice (Kd.slice Kd.ch)) []]) :: Δ0) ∨ (∃ (v14 : Value), sd = [4, 3] ∧ Γd = [(15, Ty.seg (Seg.cat [Seg.of (Kd.slice (Kd.int .i64)) (List.replicate (((dN d : Nat) : Int)).toNat 0), Seg.of Kd.val v14])), (14, Ty.val v14)] ∧ Δ1 = Res.sl v14 65 Kd.val (List.replicate (((dN d : Nat) : Int)).toNat (.slice none 0 0)) :: Δ0) ∨ (∃ (g4 : Nat), ∃ (v14 : Value), sd = [5, 3] ∧ Γd = [(4, Ty.val (ptr g4 0)), (14, Ty.val v14)] ∧ Δ1 = Res.box g4 30 (Seg.cat [Seg.of (Kd.slice (Kd.int .i64)) [], Seg.of (Kd.slice (Kd.slice Kd.ch)) []]) :: Res.sl v14 65 Kd.val (List.replicate (((dN d : Nat) : Int)).toNat (.slice none 0 0)) :: Δ0) ∨ (∃ (g4 : Nat), ∃ (v14 : Value), sd = [3, 5] ∧ Γd = [(14, Ty.val v14), (4, Ty.val (ptr g4 0))] ∧ Δ1 = Res.sl v14 65 Kd.val (List.replicate (((dN d : Nat) : Int)).toNat (.slice none 0 0)) :: Res.box g4 30 (Seg.cat [Seg.of (Kd.slice (Kd.int .i64)) [], Seg.of (Kd.slice (Kd.slice Kd.ch)) []]) :: Δ0) ∨ (∃ (g4 : Nat), ∃ (v14 : Value), sd = [5, 4, 3] ∧ Γd = [(4, Ty.val (ptr g4 0)), (15, Ty.seg (Seg.cat [Seg.of (Kd.slice (Kd.int .i64)) (List.replicate (((dN d : Nat) : Int)).toNat 0), Seg.of Kd.val v14])), (14, Ty.val v14)] ∧ Δ1 = Res.box g4 30 (Seg.cat [Seg.of (Kd.slice (Kd.int .i64)) [], Seg.of (Kd.slice (Kd.slice Kd.ch)) []]) :: Res.sl v14 65 Kd.val (List.replicate (((dN d : Nat) : Int)).toNat (.slice none 0 0)) :: Δ0) ∨ (∃ (g4 : Nat), ∃ (v14 : Value), sd = [4, 5, 3] ∧ Γd = [(15, Ty.seg (Seg.cat [Seg.of (Kd.slice (Kd.int .i64)) (List.replicate (((dN d : Nat) : Int)).toNat 0), Seg.of Kd.val v14])), (4, Ty.val (ptr g4 0)), (14, Ty.val v14)] ∧ Δ1 = Res.box g4 30 (Seg.cat [Seg.of (Kd.slice (Kd.int .i64)) [], Seg.of (Kd.slice (Kd.slice Kd.ch)) []]) :: Res.sl v14 65 Kd.val (List.replicate (((dN d : Nat) : Int)).toNat (.slice none 0 0)) :: Δ0) ∨ (∃ (g4 : Nat), ∃ (v14 : Value), sd = [4, 3, 5] ∧ Γd = [(15, Ty.seg (Seg.cat [Seg.of (Kd.slice (Kd.int .i64)) (List.replicate (((dN d : Nat) : Int)).toNat 0), Seg.of Kd.val v14])), (14, Ty.val v14), (4, Ty.val (ptr g4 0))] ∧ Δ1 = Res.sl v14 65 Kd.val (List.replicate (((dN d : Nat) : Int)).toNat (.slice none 0 0)) :: Res.box g4 30 (Seg.cat [Seg.of (Kd.slice (Kd.int .i64)) [], Seg.of (Kd.slice (Kd.slice Kd.ch)) []]) :: Δ0) ∨ (∃ (g4 : Nat), ∃ (v14 : Value), sd = [6, 5, 4, 3] ∧ Γd = [(4, Ty.val (ptr g4 0)), (15, Ty.seg (Seg.cat [Seg.of (Kd.slice (Kd.int .i64)) (List.replicate (((dN d : Nat) : Int)).toNat 0), Seg.of Kd.val v14])), (14, Ty.val v14)] ∧ Δ1 = Res.box g4 30 (Seg.cat [Seg.of (Kd.slice (Kd.int .i64)) (List.replicate (((dN d : Nat) : Int)).toNat 0), Seg.of Kd.val v14]) :: Res.sl v14 65 Kd.val (List.replicate (((dN d : Nat) : Int)).toNat (.slice none 0 0)) :: Δ0) ∨ (∃ (g4 : Nat), ∃ (v14 : Value), sd = [6, 4, 5, 3] ∧ Γd = [(15, Ty.seg (Seg.cat [Seg.of (Kd.slice (Kd.int .i64)) (List.replicate (((dN d : Nat) : Int)).toNat 0), Seg.of Kd.val v14])), (4, Ty.val (ptr g4 0)), (14, Ty.val v14)] ∧ Δ1 = Res.box g4 30 (Seg.cat [Seg.of (Kd.slice (Kd.int .i64)) (List.replicate (((dN d : Nat) : Int)).toNat 0), Seg.of Kd.val v14]) :: Res.sl v14 65 Kd.val (List.replicate (((dN d : Nat) : Int)).toNat (.slice none 0 0)) :: Δ0) ∨ (∃ (g4 : Nat), ∃ (v14 : Value), sd = [6, 4, 3, 5] ∧ Γd = [(15, Ty.seg (Seg.cat [Seg.of (Kd.slice (Kd.int .i64)) (List.replicate (((dN d : Nat) : Int)).toNat 0), Seg.of Kd.val v14])), (14, Ty.val v14), (4, Ty.val (ptr g4 0))] ∧ Δ1 = Res.sl v14 65 Kd.val (List.replicate (((dN d : Nat) : Int)).toNat (.slice none 0 0)) :: Res.box g4 30 (Seg.cat [Seg.of (Kd.slice (Kd.int .i64)) (List.replicate (((dN d : Nat) : Int)).toNat 0), Seg.of Kd.val v14]) :: Δ0)) (fun i => if i = 3 then [13] else if i = 4 then [12] else if i = 5 then [] else if i = 6 then [] else []) mixed (by decide) (by decide) (.inl ⟨rfl, rfl, rfl⟩) (fun sd Γd Δ1 hs => by rcases hs with ⟨rfl, rfl, rfl⟩ | ⟨v14, rfl, rfl, rfl⟩ | ⟨g4, rfl, rfl, rfl⟩ | ⟨v14, rfl, rfl, rfl⟩ | ⟨g4, v14, rfl, rfl, rfl⟩ | ⟨g4, v14, rfl, rfl, rfl⟩ | ⟨g4, v14, rfl, rfl, rfl⟩ | ⟨g4, v14, rfl, rfl, rfl⟩ | ⟨g4, v14, rfl, rfl, rfl⟩ | ⟨g4, v14, rfl, rfl, rfl⟩ | ⟨g4, v14, rfl, rfl, rfl⟩ | ⟨g4, v14, rfl, rfl, rfl⟩ <;> rfl) ?_
    refine dOpA (fun _ => T_move (.inl rfl) rfl) rfl rfl rfl ?_
    refine dOpA (fun _ => T_make (K := (Kd.int .i64)) (z0 := 0) rfl u27 ei3 rfl (by decide) (fun _ => rfl) rfl rfl (by omega) (by omega) (by omega) (by omega)) rfl rfl rfl ?_
    refine dOpA (fun _ => T_move (.inl rfl) rfl) rfl rfl rfl ?_
    refine dDyn rfl ?_
    refine dDyn rfl ?_
    refine dDyn rfl ?_
    refine dDyn rfl ?_
    refine dEnd ⟨?_, ?_⟩
    · intro Q1 cs1 i o sd Γd Δ1 Γx hi ho hn hb hinv hk
      simp only [List.mem_cons, List.not_mem_nil, or_false] at hi
      rcases hi with rfl | rfl | rfl | rfl
      · obtain rfl := Option.some.inj ho
        rcases hinv with ⟨rfl, rfl, rfl⟩ | ⟨v14, rfl, rfl, rfl⟩ | ⟨g4, rfl, rfl, rfl⟩ | ⟨v14, rfl, rfl, rfl⟩ | ⟨g4, v14, rfl, rfl, rfl⟩ | ⟨g4, v14, rfl, rfl, rfl⟩ | ⟨g4, v14, rfl, rfl, rfl⟩ | ⟨g4, v14, rfl, rfl, rfl⟩ | ⟨g4, v14, rfl, rfl, rfl⟩ | ⟨g4, v14, rfl, rfl, rfl⟩ | ⟨g4, v14, rfl, rfl, rfl⟩ | ⟨g4, v14, rfl, rfl, rfl⟩
        · refine JT_make (K := Kd.val) (z0 := (.slice none 0 0)) rfl rfl rfl rfl u28 ei65 rfl (by decide) (fun _ => ⟨rfl, rfl⟩) rfl rfl (by omega) (by omega) (by omega) (by omega) (fun v14 => ?_)
          exact JT_done (hk [(14, _)] _ (.inr (.inl ⟨v14, rfl, rfl, rfl⟩)))
        · exact absurd (by simp) hn
        · refine JT_make (K := Kd.val) (z0 := (.slice none 0 0)) rfl rfl rfl rfl u28 ei65 rfl (by decide) (fun _ => ⟨rfl, rfl⟩) rfl rfl (by omega) (by omega) (by omega) (by omega) (fun v14 => ?_)
          exact JT_done (hk [(14, _), (4, _)] _ (.inr (.inr (.inr (.inr (.inr (.inl ⟨g4, v14, rfl, rfl, rfl⟩)))))))
        · exact absurd (by simp) hn
        · exact absurd (by simp) hn
        · exact absurd (by simp) hn
        · exact absurd (by simp) hn
        · exact absurd (by simp) hn
        · exact absurd (by simp) hn
        · exact absurd (by simp) hn
        · exact absurd (by simp) hn
        · exact absurd (by simp) hn
      · obtain rfl := Option.some.inj ho
        rcases hinv with ⟨rfl, rfl, rfl⟩ | ⟨v14, rfl, rfl, rfl⟩ | ⟨g4, rfl, rfl, rfl⟩ | ⟨v14, rfl, rfl, rfl⟩ | ⟨g4, v14, rfl, rfl, rfl⟩ | ⟨g4, v14, rfl, rfl, rfl⟩ | ⟨g4, v14, rfl, rfl, rfl⟩ | ⟨g4, v14, rfl, rfl, rfl⟩ | ⟨g4, v14, rfl, rfl, rfl⟩ | ⟨g4, v14, rfl, rfl, rfl⟩ | ⟨g4, v14, rfl, rfl, rfl⟩ | ⟨g4, v14, rfl, rfl, rfl⟩
        · exact absurd (hb 3 rfl (by decide)) (by simp)
        · refine JT_one (i := 0) rfl (fun ov14 => ?_)
          refine JT_op rfl rfl (T_build (S0 := Seg.cat [Seg.of (Kd.slice (Kd.int .i64)) [], Seg.of Kd.val (.slice none 0 0)]) rfl fk30 z30 h0_30Li64_val (fc (ol rfl (Ty.le.refl _)) (uc (i := 0) rfl rfl rfl) rfl (fc (ol rfl (to_kval ov14)) (uc (i := 1) rfl rfl rfl) rfl (Fill.nil _))) rfl) ?_
          exact JT_done (hk [(15, _), (14, _)] _ (.inr (.inr (.inr (.inl ⟨v14, rfl, rfl, rfl⟩)))))
        · exact absurd (hb 3 rfl (by decide)) (by simp)
        · exact absurd (by simp) hn
        · refine JT_one (i := 1) rfl (fun ov14 => ?_)
          refine JT_op rfl rfl (T_build (S0 := Seg.cat [Seg.of (Kd.slice (Kd.int .i64)) [], Seg.of Kd.val (.slice none 0 0)]) rfl fk30 z30 h0_30Li64_val (fc (ol rfl (Ty.le.refl _)) (uc (i := 0) rfl rfl rfl) rfl (fc (ol rfl (to_kval ov14)) (uc (i := 1) rfl rfl rfl) rfl (Fill.nil _))) rfl) ?_
          exact JT_done (hk [(15, _), (4, _), (14, _)] _ (.inr (.inr (.inr (.inr (.inr (.inr (.inr (.inl ⟨g4, v14, rfl, rfl, rfl⟩)))))))))
        · refine JT_one (i := 0) rfl (fun ov14 => ?_)
          refine JT_op rfl rfl (T_build (S0 := Seg.cat [Seg.of (Kd.slice (Kd.int .i64)) [], Seg.of Kd.val (.slice none 0 0)]) rfl fk30 z30 h0_30Li64_val (fc (ol rfl (Ty.le.refl _)) (uc (i := 0) rfl rfl rfl) rfl (fc (ol rfl (to_kval ov14)) (uc (i := 1) rfl rfl rfl) rfl (Fill.nil _))) rfl) ?_
          exact JT_done (hk [(15, _), (14, _), (4, _)] _ (.inr (.inr (.inr (.inr (.inr (.inr (.inr (.inr (.inl ⟨g4, v14, rfl, rfl, rfl⟩))))))))))
        · exact absurd (by simp) hn
        · exact absurd (by simp) hn
        · exact absurd (by simp) hn
        · exact absurd (by simp) hn
        · exact absurd (by simp) hn
        · exact absurd (by simp) hn
      · obtain rfl := Option.some.inj ho
        rcases hinv with ⟨rfl, rfl, rfl⟩ | ⟨v14, rfl, rfl, rfl⟩ | ⟨g4, rfl, rfl, rfl⟩ | ⟨v14, rfl, rfl, rfl⟩ | ⟨g4, v14, rfl, rfl, rfl⟩ | ⟨g4, v14, rfl, rfl, rfl⟩ | ⟨g4, v14, rfl, rfl, rfl⟩ | ⟨g4, v14, rfl, rfl, rfl⟩ | ⟨g4, v14, rfl, rfl, rfl⟩ | ⟨g4, v14, rfl, rfl, rfl⟩ | ⟨g4, v14, rfl, rfl, rfl⟩ | ⟨g4, v14, rfl, rfl, rfl⟩
        · refine JT_alloc (S0 := Seg.cat [Seg.of (Kd.slice (Kd.int .i64)) [], Seg.of (Kd.slice (Kd.slice Kd.ch)) []]) rfl rfl rfl rfl z30 h0_30 (fun g4 => ?_)
          exact JT_done (hk [(4, _)] _ (.inr (.inr (.inl ⟨g4, rfl, rfl, rfl⟩))))
        · refine JT_alloc (S0 := Seg.cat [Seg.of (Kd.slice (Kd.int .i64)) [], Seg.of (Kd.slice (Kd.slice Kd.ch)) []]) rfl rfl rfl rfl z30 h0_30 (fun g4 => ?_)
          exact JT_done (hk [(4, _), (14, _)] _ (.inr (.inr (.inr (.inr (.inl ⟨g4, v14, rfl, rfl, rfl⟩))))))
        · exact absurd (by simp) hn
        · refine JT_alloc (S0 := Seg.cat [Seg.of (Kd.slice (Kd.int .i64)) [], Seg.of (Kd.slice (Kd.slice Kd.ch)) []]) rfl rfl rfl rfl z30 h0_30 (fun g4 => ?_)
          exact JT_done (hk [(4, _), (15, _), (14, _)] _ (.inr (.inr (.inr (.inr (.inr (.inr (.inl ⟨g4, v14, rfl, rfl, rfl⟩))))))))
        · exact absurd (by simp) hn
        · exact absurd (by simp) hn
        · exact absurd (by simp) hn
        · exact absurd (by simp) hn
        · exact absurd (by simp) hn
        · exact absurd (by simp) hn
        · exact absurd (by simp) hn
        · exact absurd (by simp) hn
      · obtain rfl := Option.some.inj ho
        rcases hinv with ⟨rfl, rfl, rfl⟩ | ⟨v14, rfl, rfl, rfl⟩ | ⟨g4, rfl, rfl, rfl⟩ | ⟨v14, rfl, rfl, rfl⟩ | ⟨g4, v14, rfl, rfl, rfl⟩ | ⟨g4, v14, rfl, rfl, rfl⟩ | ⟨g4, v14, rfl, rfl, rfl⟩ | ⟨g4, v14, rfl, rfl, rfl⟩ | ⟨g4, v14, rfl, rfl, rfl⟩ | ⟨g4, v14, rfl, rfl, rfl⟩ | ⟨g4, v14, rfl, rfl, rfl⟩ | ⟨g4, v14, rfl, rfl, rfl⟩
        · exact absurd (hb 3 rfl (by decide)) (by simp)
        · exact absurd (hb 4 rfl (by decide)) (by simp)
        · exact absurd (hb 3 rfl (by decide)) (by simp)
        · exact absurd (hb 5 rfl (by decide)) (by simp)
        · exact absurd (hb 4 rfl (by decide)) (by simp)
        · exact absurd (hb 4 rfl (by decide)) (by simp)
        · refine JT_store (i := 0) rfl rfl rfl rfl rfl (ol rfl (Ty.le.refl _)) (Upd.self _ _ rfl) sz30 ?_
          exact JT_done (hk [(4, _), (15, _), (14, _)] _ (.inr (.inr (.inr (.inr (.inr (.inr (.inr (.inr (.inr (.inl ⟨g4, v14, rfl, rfl, rfl⟩)))))))))))
        · refine JT_store (i := 0) rfl rfl rfl rfl rfl (ol rfl (Ty.le.refl _)) (Upd.self _ _ rfl) sz30 ?_
          exact JT_done (hk [(15, _), (4, _), (14, _)] _ (.inr (.inr (.inr (.inr (.inr (.inr (.inr (.inr (.inr (.inr (.inl ⟨g4, v14, rfl, rfl, rfl⟩))))))))))))
        · refine JT_store (i := 1) rfl rfl rfl rfl rfl (ol rfl (Ty.le.refl _)) (Upd.self _ _ rfl) sz30 ?_
          exact JT_done (hk [(15, _), (14, _), (4, _)] _ (.inr (.inr (.inr (.inr (.inr (.inr (.inr (.inr (.inr (.inr (.inr ⟨g4, v14, rfl, rfl, rfl⟩))))))))))))
        · exact absurd (by simp) hn
        · exact absurd (by simp) hn
        · exact absurd (by simp) hn
    · intro sd Γd Δ1 hinv hall
      rcases hinv with ⟨rfl, rfl, rfl⟩ | ⟨v14, rfl, rfl, rfl⟩ | ⟨g4, rfl, rfl, rfl⟩ | ⟨v14, rfl, rfl, rfl⟩ | ⟨g4, v14, rfl, rfl, rfl⟩ | ⟨g4, v14, rfl, rfl, rfl⟩ | ⟨g4, v14, rfl, rfl, rfl⟩ | ⟨g4, v14, rfl, rfl, rfl⟩ | ⟨g4, v14, rfl, rfl, rfl⟩ | ⟨g4, v14, rfl, rfl, rfl⟩ | ⟨g4, v14, rfl, rfl, rfl⟩ | ⟨g4, v14, rfl, rfl, rfl⟩
      · exact absurd (hall 3 (by decide) rfl) (by simp)
      · exact absurd (hall 4 (by decide) rfl) (by simp)
      · exact absurd (hall 3 (by decide) rfl) (by simp)
      · exact absurd (hall 5 (by decide) rfl) (by simp)
      · exact absurd (hall 4 (by decide) rfl) (by simp)
      · exact absurd (hall 4 (by decide) rfl) (by simp)
      · exact absurd (hall 6 (by decide) rfl) (by simp)
      · exact absurd (hall 6 (by decide) rfl) (by simp)
      · exact absurd (hall 6 (by decide) rfl) (by simp)
      · exact JS_meet (v14, g4) (by trivial) rfl (EnvSub.consLe rfl (Ty.le.refl _) (EnvSub.pick1 rfl (EnvSub.pick1 rfl (EnvSub.pick1 rfl (EnvSub.nil _)))))
      · exact JS_meet (v14, g4) (by trivial) rfl (EnvSub.consLe rfl (Ty.le.refl _) (EnvSub.pick1 rfl (EnvSub.pick1 rfl (EnvSub.pick1 rfl (EnvSub.nil _)))))
      · refine JS_perm (List.Perm.swap _ _ _) ?_
        exact JS_meet (v14, g4) (by trivial) rfl (EnvSub.consLe rfl (Ty.le.refl _) (EnvSub.pick1 rfl (EnvSub.pick1 rfl (EnvSub.pick1 rfl (EnvSub.nil _)))))
  · refine JS_seq ?_
    refine JS_seq ?_
    -- region 3
    refine sR ?_
    refine kA rfl rfl ?_
    refine kE ?_
    refine JS_block ?_
    refine sLoop1 (fun (s : Nat) => [(5, Ty.val (.int .i64 (s : Int)))]) [1, 2, 3, 4] (fun (s : Nat) => []) (fun (s : Nat) => s ≤ dN d) (fun (s : Nat) => dN d - s) 0 (Nat.zero_le _) rfl (EnvSub.consLe rfl (int_eq (rfl)) (EnvSub.nil _)) (fun s (hI : s ≤ dN d) => ?_)
    refine JS_seq ?_
    refine JS_seq ?_
    -- region 4
    refine sR ?_
    refine kM rfl rfl ?_
    refine kM rfl rfl ?_
    refine kO (T_lt rfl rfl rfl) rfl ?_
    refine kE ?_
    refine JS_if rfl (fun c18 => ?_) (fun c18 => ?_)
    · refine JS_skip ?_
      refine JS_seq ?_
      refine JS_block ?_
      refine JS_seq ?_
      -- region 6
      refine sR ?_
      refine kO (T_fieldAddr rfl fa24_1 (st_sub (i := 1) rfl rfl) rfl) rfl ?_
      refine kO (T_load_nat rfl ti5 rfl) rfl ?_
      refine kM rfl rfl ?_
      refine kO (T_shr rfl rfl rfl (by omega) (show _ = (0 : Int) by rw [h0]; exact Int.zero_fdiv _)) rfl ?_
      refine kO (T_bits rfl (.inl rfl) rfl rfl (show _ = (0 : Int) by rfl)) rfl ?_
      refine kO (T_eq rfl rfl rfl) rfl ?_
      refine kE ?_
      refine JS_if rfl (fun c26 => ?_) (fun c26 => ?_)
      · exact absurd c26 (by decide)
      · refine JS_skip ?_
        refine JS_end_inB ?_
        -- region 5
        refine sR ?_
        refine kM rfl rfl ?_
        refine kO (T_add rfl rfl rfl (wrap_i64 (by omega) (by omega))) rfl ?_
        refine kA rfl rfl ?_
        refine kE ?_
        exact JS_round (s + 1) (by omega) (by omega) rfl (EnvSub.consLe rfl (int_eq (rfl)) (EnvSub.pick1 rfl (EnvSub.pick1 rfl (EnvSub.pick1 rfl (EnvSub.pick1 rfl (EnvSub.nil _))))))
    · refine JS_exit (JE_loop_exit (JE_inB_here ?_))
      refine JS_seq ?_
      refine JS_seq ?_
      -- region 8
      refine JS_own_nils 60 Kd.ch (dN d) ?_
      refine JS_perm (perm_rows _ _ _ _) ?_
      refine sR ?_
      refine kA rfl rfl ?_
      refine kE ?_
      refine JS_block ?_
      refine sLoopD2 (fun (i : Nat) (vs : List Value) => [(6, Ty.val (.int .i64 (i : Int)))]) [1, 2, 3, 4] (fun (i : Nat) (vs : List Value) => Res.box g4 30 (Seg.cat [Seg.of (Kd.slice (Kd.int .i64)) (List.replicate (((dN d : Nat) : Int)).toNat 0), Seg.of Kd.val v14]) :: Res.sl v14 65 Kd.val (vs) :: (rowsR 60 Kd.ch vs (pickK d i) ++ [Res.box g2 30 (Seg.cat [Seg.of (Kd.slice (Kd.int .i64)) [], Seg.of (Kd.slice (Kd.slice Kd.ch)) []])])) (fun (i : Nat) (vs : List Value) => i ≤ dKn d ∧ vs.length = dN d) (fun (i : Nat) (vs : List Value) => dKn d - i) 0 (List.replicate (dN d) (.slice none 0 0)) (⟨Nat.zero_le _, List.length_replicate ..⟩) rfl (EnvSub.consLe rfl (int_eq (rfl)) (EnvSub.nil _)) (fun i vs (hI : i ≤ dKn d ∧ vs.length = dN d) => ?_)
      obtain ⟨hI1, hvs⟩ := hI
      refine JS_seq ?_
      refine JS_seq ?_
      -- region 9
      refine sR ?_
      refine kM rfl rfl ?_
      refine kO (T_fieldAddr rfl fa24_4 (st_sub (i := 4) rfl rfl) rfl) rfl ?_
      refine kO (T_ld rfl rfl ti22) rfl ?_
      refine kO (T_len_slice rfl rfl u22 rfl) rfl ?_
      refine kO (T_lt rfl rfl rfl) rfl ?_
      refine kM rfl rfl ?_
      refine tk_if (d := 36) rfl (fun g36 => ?_) (fun g36 => ?_)
      · refine kG (wTD g36 rfl rfl rfl) (T_move (.inl rfl) rfl) rfl ?_
        refine kG (wTD g36 rfl rfl rfl) (T_lt rfl rfl rfl) rfl ?_
        refine kO (T_pickD g36 rfl rfl rfl) rfl ?_
        refine kE ?_
        refine JS_if rfl (fun c39 => ?_) (fun c39 => ?_)
        · refine JS_skip ?_
          refine JS_seq ?_
          refine JS_block ?_
          refine JS_seq ?_
          -- region 11
          have hst := (hdp _ (List.getElem_mem (show ((i : Int)).toNat < d.picks.length by omega))).1
          refine sR ?_
          refine kO (T_fieldAddr rfl fa24_4 (st_sub (i := 4) rfl rfl) rfl) rfl ?_
          refine kO (T_ld rfl rfl ti22) rfl ?_
          refine kM rfl rfl ?_
          refine kO (T_ix rfl rfl rfl u22 ti70 (by omega) (by omega) rfl) rfl ?_
          refine kO (T_fieldAddr rfl fa70_0 (st_sub (i := 0) rfl rfl) rfl) rfl ?_
          refine kO (T_load_nat rfl ti5 rfl) rfl ?_
          refine kO (T_conv rfl u5 u3 rfl (wrap_i64 (by omega) (by omega))) rfl ?_
          refine kM rfl rfl ?_
          refine kO (T_rem rfl rfl rfl (by omega) (rem_nn (by omega))) rfl ?_
          refine kA rfl rfl ?_
          refine kE ?_
          refine JS_seq ?_
          -- region 12
          obtain ⟨sx, hsx⟩ : ∃ sx, sx = (d.picks[((i : Int)).toNat]'(by omega)).st % dN d := ⟨_, rfl⟩
          refine JS_re (s := 7) (T := Ty.val (.int .i64 ((sx : Nat) : Int))) rfl (int_eq (by rw [hsx]; exact natmodI rfl)) ?_
          have hsn : sx < dN d := by rw [hsx]; exact Nat.mod_lt _ hn.1
          have hpl := hpl0 i (by omega)
          refine sR ?_
          refine kO (T_fieldAddr_ptr rfl fa30_1 rfl rfl) rfl ?_
          refine kO (T_load_own_val (i := 0) rfl rfl rfl (sc (i := 1) rfl rfl) ti28) rfl ?_
          refine kM rfl rfl ?_
          refine kO (T_ixo (ix := 1) (d := Kd.val) rfl rfl rfl rfl u28 ti65 (by omega) (by show sx < vs.length; omega)) rfl ?_
          refine kO (T_sub (T_lde (i := 1) (d := Kd.val) rfl rfl rfl ti65 (by show sx < vs.length; omega) rfl) (of_kval _)) rfl ?_
          refine kO (T_len_own (i := sx + 2) rfl rfl u65 rfl (row_at (s := sx) (by omega) (by omega) (by omega) _ _ _)) rfl ?_
          refine kO (T_lt rfl rfl rfl) rfl ?_
          refine kE ?_
          refine JS_if rfl (fun c57 => ?_) (fun c57 => ?_)
          · -- region 13
            refine JS_drawT [7, 16, 18] (fun (Δ0 : List Res) (sd : List Nat) (Γd : Env) (Δ1 : List Res) => (sd = [] ∧ Γd = [] ∧ Δ1 = Δ0) ∨ (sd = [7] ∧ Γd = [(65, Ty.val (vs[((sx : Int)).toNat]'(by show sx < vs.length; omega)))] ∧ Δ1 = Δ0) ∨ (∃ (v74 : Value), sd = [16, 7] ∧ Γd = [(74, Ty.val v74), (65, Ty.val (vs[((sx : Int)).toNat]'(by show sx < vs.length; omega)))] ∧ Δ1 = Δ0.set (sx + 2) (Res.sl v74 60 Kd.ch (((pickK d i)[sx]'(by omega)) ++ [choiceOf d (d.picks[((i : Int)).toNat]'(by omega))]))) ∨ (∃ (v74 : Value), sd = [18, 16, 7] ∧ Γd = [(74, Ty.val v74), (65, Ty.val (vs[((sx : Int)).toNat]'(by show sx < vs.length; omega)))] ∧ Δ1 = (Δ0.set (sx + 2) (Res.sl v74 60 Kd.ch (((pickK d i)[sx]'(by omega)) ++ [choiceOf d (d.picks[((i : Int)).toNat]'(by omega))]))).set 1 (Res.sl v14 65 Kd.val (vs.set ((sx : Int)).toNat v74)))) (fun i => if i = 7 then [64] else if i = 16 then [73] else if i = 18 then [75] else []) mixed (by decide) (by decide) (.inl ⟨rfl, rfl, rfl⟩) (fun sd Γd Δ1 hs => by rcases hs with ⟨rfl, rfl, rfl⟩ | ⟨rfl, rfl, rfl⟩ | ⟨v74, rfl, rfl, rfl⟩ | ⟨v74, rfl, rfl, rfl⟩ <;> rfl) ?_
            refine dOpA (fun _ => T_fieldAddr_ptr rfl fa30_1 rfl rfl) rfl rfl rfl ?_
            refine dOp (T := Ty.val v14) (fun sd Γd Δ1 hs => by rcases hs with ⟨rfl, rfl, rfl⟩ | ⟨rfl, rfl, rfl⟩ | ⟨v74, rfl, rfl, rfl⟩ | ⟨v74, rfl, rfl, rfl⟩ <;> exact (T_load_own_val (i := 0) rfl rfl rfl (sc (i := 1) rfl rfl) ti28)) rfl rfl rfl ?_
            refine dOpA (fun _ => T_move (.inl rfl) rfl) rfl rfl rfl ?_
            refine dOpA (fun _ => T_fieldAddr_ptr rfl fa30_1 rfl rfl) rfl rfl rfl ?_
            refine dOp (T := Ty.val v14) (fun sd Γd Δ1 hs => by rcases hs with ⟨rfl, rfl, rfl⟩ | ⟨rfl, rfl, rfl⟩ | ⟨v74, rfl, rfl, rfl⟩ | ⟨v74, rfl, rfl, rfl⟩ <;> exact (T_load_own_val (i := 0) rfl rfl rfl (sc (i := 1) rfl rfl) ti28)) rfl rfl rfl ?_
            refine dOpA (fun _ => T_move (.inl rfl) rfl) rfl rfl rfl ?_
            refine dOp (T := Ty.val (eltPtr v14 Kd.val.sz ((sx : Int)).toNat)) (fun sd Γd Δ1 hs => by rcases hs with ⟨rfl, rfl, rfl⟩ | ⟨rfl, rfl, rfl⟩ | ⟨v74, rfl, rfl, rfl⟩ | ⟨v74, rfl, rfl, rfl⟩ <;> exact (T_ixo (ix := 1) (d := Kd.val) rfl rfl rfl rfl u28 ti65 (by omega) (by first | (show sx < vs.length; omega) | (rw [List.length_set]; show sx < vs.length; omega)))) rfl rfl rfl ?_
            refine dDyn rfl ?_
            refine dOpA (fun _ => T_ld rfl rfl ti24) rfl rfl rfl ?_
            refine dOpA (fun _ => T_fieldAddr rfl fa24_4 (st_sub (i := 4) rfl rfl) rfl) rfl rfl rfl ?_
            refine dOpA (fun _ => T_ld rfl rfl ti22) rfl rfl rfl ?_
            refine dOpA (fun _ => T_move (.inl rfl) rfl) rfl rfl rfl ?_
            refine dOpA (fun _ => T_ix rfl rfl rfl u22 ti70 (by omega) (by omega) rfl) rfl rfl rfl ?_
            refine dOpA (fun _ => T_ld rfl rfl ti70) rfl rfl rfl ?_
            refine dOpA (fun _ => T_callL rfl en24 (w24 (hdp _ (List.getElem_mem _))) (oa (ol rfl (Ty.le.refl _)) (oa (ol rfl (Ty.le.refl _)) oa0))) rfl rfl rfl ?_
            refine dOp (T := Ty.of (Kd.slice Kd.ch) [choiceOf d (d.picks[((i : Int)).toNat]'(by omega))]) (fun sd Γd Δ1 hs => by rcases hs with ⟨rfl, rfl, rfl⟩ | ⟨rfl, rfl, rfl⟩ | ⟨v74, rfl, rfl, rfl⟩ | ⟨v74, rfl, rfl, rfl⟩ <;> exact (T_lits (xs := [.tmp 72]) (d := Kd.ch) [choiceOf d (d.picks[((i : Int)).toNat]'(by omega))] rfl rfl u65 ti60 z60 rfl rfl (by decide) (by decide) (oa (ol rfl (Ty.le.refl _)) oa0) rfl)) rfl rfl rfl ?_
            refine dDyn rfl ?_
            refine dOp (T := Ty.val (eltPtr v14 Kd.val.sz ((sx : Int)).toNat)) (fun sd Γd Δ1 hs => by rcases hs with ⟨rfl, rfl, rfl⟩ | ⟨rfl, rfl, rfl⟩ | ⟨v74, rfl, rfl, rfl⟩ | ⟨v74, rfl, rfl, rfl⟩ <;> exact (T_ixo (ix := 1) (d := Kd.val) rfl rfl rfl rfl u28 ti65 (by omega) (by first | (show sx < vs.length; omega) | (rw [List.length_set]; show sx < vs.length; omega)))) rfl rfl rfl ?_
            refine dDyn rfl ?_
            refine dEnd ⟨?_, ?_⟩
            · intro Q1 cs1 i o sd Γd Δ1 Γx hi ho hn hb hinv hk
              simp only [List.mem_cons, List.not_mem_nil, or_false] at hi
              rcases hi with rfl | rfl | rfl
              · obtain rfl := Option.some.inj ho
                rcases hinv with ⟨rfl, rfl, rfl⟩ | ⟨rfl, rfl, rfl⟩ | ⟨v74, rfl, rfl, rfl⟩ | ⟨v74, rfl, rfl, rfl⟩
                · refine JT_op rfl rfl (T_sub (T_lde (i := 1) (d := Kd.val) rfl rfl rfl ti65 (by show sx < vs.length; omega) rfl) (of_kval _)) ?_
                  exact JT_done (hk [(65, _)] _ (.inr (.inl ⟨rfl, rfl, rfl⟩)))
                · exact absurd (by simp) hn
                · exact absurd (by simp) hn
                · exact absurd (by simp) hn
              · obtain rfl := Option.some.inj ho
                rcases hinv with ⟨rfl, rfl, rfl⟩ | ⟨rfl, rfl, rfl⟩ | ⟨v74, rfl, rfl, rfl⟩ | ⟨v74, rfl, rfl, rfl⟩
                · exact absurd (hb 7 rfl (by decide)) (by simp)
                · refine JT_append (i := sx + 2) rfl rfl rfl rfl u65 ei60 rfl rfl (by decide) rfl (row_at (s := sx) (by omega) (by omega) (by omega) _ _ _) (ol rfl (Ty.le.refl _)) (by simp only [List.length_cons, List.length_nil, maxLen]; omega) (by simp only [List.length_cons, List.length_nil]; omega) (fun v74 => ?_)
                  exact JT_done (hk [(74, _), (65, _)] _ (.inr (.inr (.inl ⟨v74, rfl, rfl, rfl⟩))))
                · exact absurd (by simp) hn
                · exact absurd (by simp) hn
              · obtain rfl := Option.some.inj ho
                rcases hinv with ⟨rfl, rfl, rfl⟩ | ⟨rfl, rfl, rfl⟩ | ⟨v74, rfl, rfl, rfl⟩ | ⟨v74, rfl, rfl, rfl⟩
                · exact absurd (hb 7 rfl (by decide)) (by simp)
                · exact absurd (hb 16 rfl (by decide)) (by simp)
                · refine JT_one (i := sx + 2) (row_set (s := sx) (by omega) (by omega) _ _ _ _) (fun ov74 => ?_)
                  refine JT_store_elt (i := 1) rfl rfl rfl rfl rfl (by show sx < vs.length; omega) (ol rfl (to_kval ov74)) sz65 ?_
                  exact JT_done (hk [(74, _), (65, _)] _ (.inr (.inr (.inr ⟨v74, rfl, rfl, rfl⟩))))
                · exact absurd (by simp) hn
            · intro sd Γd Δ1 hinv hall
              rcases hinv with ⟨rfl, rfl, rfl⟩ | ⟨rfl, rfl, rfl⟩ | ⟨v74, rfl, rfl, rfl⟩ | ⟨v74, rfl, rfl, rfl⟩
              · exact absurd (hall 7 (by decide) rfl) (by simp)
              · exact absurd (hall 16 (by decide) rfl) (by simp)
              · exact absurd (hall 18 (by decide) rfl) (by simp)
              · refine JS_end_inB ?_
                -- region 10
                refine sR ?_
                refine kM rfl rfl ?_
                refine kO (T_add rfl rfl rfl (wrap_i64 (by omega) (by omega))) rfl ?_
                refine kA rfl rfl ?_
                refine kE ?_
                exact JS_round ((i + 1), (vs.set sx v74)) (by try dsimp only; exact (⟨by unfold dKn at *; omega, by rw [List.length_set]; exact hvs⟩)) (by try dsimp only; exact (by unfold dKn at *; omega)) (by rw [pick_on (by omega) hsx c57, ← rows_stepT (by omega) (by omega)]; rfl) (EnvSub.consLe rfl (int_eq (rfl)) (EnvSub.pick1 rfl (EnvSub.pick1 rfl (EnvSub.pick1 rfl (EnvSub.pick1 rfl (EnvSub.nil _))))))
          · refine JS_skip ?_
            refine JS_end_inB ?_
            -- region 10
            refine sR ?_
            refine kM rfl rfl ?_
            refine kO (T_add rfl rfl rfl (wrap_i64 (by omega) (by omega))) rfl ?_
            refine kA rfl rfl ?_
            refine kE ?_
            exact JS_round ((i + 1), vs) (by try dsimp only; exact (⟨by unfold dKn at *; omega, hvs⟩)) (by try dsimp only; exact (by unfold dKn at *; omega)) (by rw [pick_off (by omega) hsx c57]) (EnvSub.consLe rfl (int_eq (rfl)) (EnvSub.pick1 rfl (EnvSub.pick1 rfl (EnvSub.pick1 rfl (EnvSub.pick1 rfl (EnvSub.nil _))))))
        · refine JS_exit (JE_loop_exit (JE_inB_here ?_))
          refine JS_seq ?_
          refine JS_seq ?_
          -- region 14
          have hpl := hpl0 i (by unfold dKn at *; omega)
          obtain rfl : i = dKn d := by unfold dKn at *; omega
          refine JS_freeze_rows (by rw [hvs, hpl]) ?_
          have hpl2 : (pickK d (dKn d)).length = dN d := hpl
          refine sR ?_
          refine kA rfl rfl ?_
          refine kE ?_
          refine JS_block ?_
          refine sLoop1 (fun (s : Nat) => [(8, Ty.val (.int .i64 (s : Int)))]) [2, 3, 4] (fun (s : Nat) => [(1, Res.sl v14 65 (Kd.slice Kd.ch) (fillE (pickK d (dKn d)) s))]) (fun (s : Nat) => s ≤ dN d) (fun (s : Nat) => dN d - s) 0 (Nat.zero_le _) (by rw [fillE_zero]; rfl) (EnvSub.consLe rfl (int_eq (rfl)) (EnvSub.nil _)) (fun s (hI2 : s ≤ dN d) => ?_)
          refine JS_seq ?_
          refine JS_seq ?_
          -- region 15
          refine sR ?_
          refine kM rfl rfl ?_
          refine kM rfl rfl ?_
          refine kO (T_lt rfl rfl rfl) rfl ?_
          refine kE ?_
          refine JS_if rfl (fun c78 => ?_) (fun c78 => ?_)
          · refine JS_skip ?_
            refine JS_seq ?_
            refine JS_block ?_
            refine JS_seq ?_
            -- region 17
            refine sR ?_
            refine kO (T_fieldAddr_ptr rfl fa30_1 rfl rfl) rfl ?_
            refine kO (T_load_own_val (i := 0) rfl rfl rfl (sc (i := 1) rfl rfl) ti28) rfl ?_
            refine kM rfl rfl ?_
            refine kO (T_ixo (ix := 1) (d := (Kd.slice Kd.ch)) rfl rfl rfl rfl u28 ti65 (by omega) (by rw [fillE_len]; omega)) rfl ?_
            refine kO (T_lde (i := 1) (d := (Kd.slice Kd.ch)) rfl rfl rfl ti65 (by rw [fillE_len]; omega) rfl) rfl ?_
            refine kO (T_len_slice rfl rfl u65 rfl) rfl ?_
            refine kO (T_eq rfl rfl rfl) rfl ?_
            refine kE ?_
            refine JS_if rfl (fun c87 => ?_) (fun c87 => ?_)
            · -- region 18
              refine sR ?_
              refine kO (T_fieldAddr_ptr rfl fa30_1 rfl rfl) rfl ?_
              refine kO (T_load_own_val (i := 0) rfl rfl rfl (sc (i := 1) rfl rfl) ti28) rfl ?_
              refine kM rfl rfl ?_
              refine kM rfl rfl ?_
              refine kO (T_sub (T_build (S0 := Seg.cat [Seg.of (Kd.int .i64) 0, Seg.of Kd.str []]) rfl fk62 z62 h0_62 (fc (ol rfl (val_int _ _)) (uc (i := 0) rfl rfl rfl) rfl (fc (ol rfl (val_str [49])) (uc (i := 1) rfl rfl rfl) rfl (Fill.nil _))) rfl) (br_mk ⟨s, 1⟩ rfl qtext_1.symm)) rfl ?_
              refine kO (T_lits (xs := [.tmp 92]) (d := Kd.br) [⟨s, 1⟩] rfl rfl u58 ti62 z62 rfl rfl (by decide) (by decide) (oa (ol rfl (Ty.le.refl _)) oa0) rfl) rfl ?_
              refine kO (T_sub (T_build (S0 := Seg.cat [Seg.of Kd.str [], Seg.of Kd.str [], Seg.of (Kd.slice Kd.br) []]) rfl fk60 z60 h0_60 (fc (ol rfl (val_str [48])) (uc (i := 1) rfl rfl rfl) rfl (fc (ol rfl (Ty.le.refl _)) (uc (i := 2) rfl rfl rfl) rfl (Fill.nil _))) rfl) (ch_mk (stayC s) rfl qtext_0.symm rfl)) rfl ?_
              refine kO (T_lits (xs := [.tmp 94]) (d := Kd.ch) [stayC s] rfl rfl u65 ti60 z60 rfl rfl (by decide) (by decide) (oa (ol rfl (Ty.le.refl _)) oa0) rfl) rfl ?_
              refine kO (T_ixo (ix := 1) (d := (Kd.slice Kd.ch)) rfl rfl rfl rfl u28 ti65 (by omega) (by rw [fillE_len]; omega)) rfl ?_
              refine kT ?_
              refine JT_store_elt (i := 1) rfl rfl rfl rfl rfl (by rw [fillE_len]; omega) (ol rfl (Ty.le.refl _)) sz65 ?_
              refine JT_done ?_
              refine JS_end_inB ?_
              -- region 16
              refine sR ?_
              refine kM rfl rfl ?_
              refine kO (T_add rfl rfl rfl (wrap_i64 (by omega) (by omega))) rfl ?_
              refine kA rfl rfl ?_
              refine kE ?_
              exact JS_round (s + 1) (by omega) (by omega) (by rw [← fillE_on (k := s) (by omega) (fill_nil (by omega) c87)]; rfl) (EnvSub.consLe rfl (int_eq (rfl)) (EnvSub.pick1 rfl (EnvSub.pick1 rfl (EnvSub.pick1 rfl (EnvSub.nil _)))))
            · refine JS_skip ?_
              refine JS_end_inB ?_
              -- region 16
              refine sR ?_
              refine kM rfl rfl ?_
              refine kO (T_add rfl rfl rfl (wrap_i64 (by omega) (by omega))) rfl ?_
              refine kA rfl rfl ?_
              refine kE ?_
              exact JS_round (s + 1) (by omega) (by omega) (by rw [← fillE_off (fill_some (by omega) c87)]) (EnvSub.consLe rfl (int_eq (rfl)) (EnvSub.pick1 rfl (EnvSub.pick1 rfl (EnvSub.pick1 rfl (EnvSub.nil _)))))
          · have hsn : s = dN d := by omega
            refine JS_exit (JE_loop_exit (JE_inB_here ?_))
            refine JS_seq ?_
            -- region 19
            refine JS_freeze_fld (i := 0) (j := 1) (k := 1) rfl rfl rfl rfl ?_
            refine sR ?_
            refine kO (T_load_own (i := 0) rfl rfl rfl (Sub.self _) ti30) rfl ?_
            refine kT ?_
            refine JT_store (i := 1) rfl rfl rfl rfl rfl (ol rfl (Ty.le.refl _)) (Upd.self _ _ rfl) sz30 ?_
            refine JT_done ?_
            exact JS_ret (JE_ret_one rfl rfl (.cell (i := 1) rfl rfl ti30 .nil) (mo_mk (modelOf d) rfl (by rw [hsn]; rfl)))
      · refine kS (uFD g36 rfl rfl rfl) rfl ?_
        refine kS (uFD g36 rfl rfl rfl) rfl ?_
        refine kO (T_pickN g36 rfl rfl rfl) rfl ?_
        refine kE ?_
        refine JS_cf rfl ?_
        refine JS_exit (JE_loop_exit (JE_inB_here ?_))
        refine JS_seq ?_
        refine JS_seq ?_
        -- region 14
        have hpl := hpl0 i (by unfold dKn at *; omega)
        obtain rfl : i = dKn d := by unfold dKn at *; omega
        refine JS_freeze_rows (by rw [hvs, hpl]) ?_
        have hpl2 : (pickK d (dKn d)).length = dN d := hpl
        refine sR ?_
        refine kA rfl rfl ?_
        refine kE ?_
        refine JS_block ?_
        refine sLoop1 (fun (s : Nat) => [(8, Ty.val (.int .i64 (s : Int)))]) [2, 3, 4] (fun (s : Nat) => [(1, Res.sl v14 65 (Kd.slice Kd.ch) (fillE (pickK d (dKn d)) s))]) (fun (s : Nat) => s ≤ dN d) (fun (s : Nat) => dN d - s) 0 (Nat.zero_le _) (by rw [fillE_zero]; rfl) (EnvSub.consLe rfl (int_eq (rfl)) (EnvSub.nil _)) (fun s (hI2 : s ≤ dN d) => ?_)
        refine JS_seq ?_
        refine JS_seq ?_
        -- region 15
        refine sR ?_
        refine kM rfl rfl ?_
        refine kM rfl rfl ?_
        refine kO (T_lt rfl rfl rfl) rfl ?_
        refine kE ?_
        refine JS_if rfl (fun c78 => ?_) (fun c78 => ?_)
        · refine JS_skip ?_
          refine JS_seq ?_
          refine JS_block ?_
          refine JS_seq ?_
          -- region 17
          refine sR ?_
          refine kO (T_fieldAddr_ptr rfl fa30_1 rfl rfl) rfl ?_
          refine kO (T_load_own_val (i := 0) rfl rfl rfl (sc (i := 1) rfl rfl) ti28) rfl ?_
          refine kM rfl rfl ?_
          refine kO (T_ixo (ix := 1) (d := (Kd.slice Kd.ch)) rfl rfl rfl rfl u28 ti65 (by omega) (by rw [fillE_len]; omega)) rfl ?_
          refine kO (T_lde (i := 1) (d := (Kd.slice Kd.ch)) rfl rfl rfl ti65 (by rw [fillE_len]; omega) rfl) rfl ?_
          refine kO (T_len_slice rfl rfl u65 rfl) rfl ?_
          refine kO (T_eq rfl rfl rfl) rfl ?_
          refine kE ?_
          refine JS_if rfl (fun c87 => ?_) (fun c87 => ?_)
          · -- region 18
            refine sR ?_
            refine kO (T_fieldAddr_ptr rfl fa30_1 rfl rfl) rfl ?_
            refine kO (T_load_own_val (i := 0) rfl rfl rfl (sc (i := 1) rfl rfl) ti28) rfl ?_
            refine kM rfl rfl ?_
            refine kM rfl rfl ?_
            refine kO (T_sub (T_build (S0 := Seg.cat [Seg.of (Kd.int .i64) 0, Seg.of Kd.str []]) rfl fk62 z62 h0_62 (fc (ol rfl (val_int _ _)) (uc (i := 0) rfl rfl rfl) rfl (fc (ol rfl (val_str [49])) (uc (i := 1) rfl rfl rfl) rfl (Fill.nil _))) rfl) (br_mk ⟨s, 1⟩ rfl qtext_1.symm)) rfl ?_
            refine kO (T_lits (xs := [.tmp 92]) (d := Kd.br) [⟨s, 1⟩] rfl rfl u58 ti62 z62 rfl rfl (by decide) (by decide) (oa (ol rfl (Ty.le.refl _)) oa0) rfl) rfl ?_
            refine kO (T_sub (T_build (S0 := Seg.cat [Seg.of Kd.str [], Seg.of Kd.str [], Seg.of (Kd.slice Kd.br) []]) rfl fk60 z60 h0_60 (fc (ol rfl (val_str [48])) (uc (i := 1) rfl rfl rfl) rfl (fc (ol rfl (Ty.le.refl _)) (uc (i := 2) rfl rfl rfl) rfl (Fill.nil _))) rfl) (ch_mk (stayC s) rfl qtext_0.symm rfl)) rfl ?_
            refine kO (T_lits (xs := [.tmp 94]) (d := Kd.ch) [stayC s] rfl rfl u65 ti60 z60 rfl rfl (by decide) (by decide) (oa (ol rfl (Ty.le.refl _)) oa0) rfl) rfl ?_
            refine kO (T_ixo (ix := 1) (d := (Kd.slice Kd.ch)) rfl rfl rfl rfl u28 ti65 (by omega) (by rw [fillE_len]; omega)) rfl ?_
            refine kT ?_
            refine JT_store_elt (i := 1) rfl rfl rfl rfl rfl (by rw [fillE_len]; omega) (ol rfl (Ty.le.refl _)) sz65 ?_
            refine JT_done ?_
            refine JS_end_inB ?_
            -- region 16
            refine sR ?_
            refine kM rfl rfl ?_
            refine kO (T_add rfl rfl rfl (wrap_i64 (by omega) (by omega))) rfl ?_
            refine kA rfl rfl ?_
            refine kE ?_
            exact JS_round (s + 1) (by omega) (by omega) (by rw [← fillE_on (k := s) (by omega) (fill_nil (by omega) c87)]; rfl) (EnvSub.consLe rfl (int_eq (rfl)) (EnvSub.pick1 rfl (EnvSub.pick1 rfl (EnvSub.pick1 rfl (EnvSub.nil _)))))
          · refine JS_skip ?_
            refine JS_end_inB ?_
            -- region 16
            refine sR ?_
            refine kM rfl rfl ?_
            refine kO (T_add rfl rfl rfl (wrap_i64 (by omega) (by omega))) rfl ?_
            refine kA rfl rfl ?_
            refine kE ?_
            exact JS_round (s + 1) (by omega) (by omega) (by rw [← fillE_off (fill_some (by omega) c87)]) (EnvSub.consLe rfl (int_eq (rfl)) (EnvSub.pick1 rfl (EnvSub.pick1 rfl (EnvSub.pick1 rfl (EnvSub.nil _)))))
        · have hsn : s = dN d := by omega
          refine JS_exit (JE_loop_exit (JE_inB_here ?_))
          refine JS_seq ?_
          -- region 19
          refine JS_freeze_fld (i := 0) (j := 1) (k := 1) rfl rfl rfl rfl ?_
          refine sR ?_
          refine kO (T_load_own (i := 0) rfl rfl rfl (Sub.self _) ti30) rfl ?_
          refine kT ?_
          refine JT_store (i := 1) rfl rfl rfl rfl rfl (ol rfl (Ty.le.refl _)) (Upd.self _ _ rfl) sz30 ?_
          refine JT_done ?_
          exact JS_ret (JE_ret_one rfl rfl (.cell (i := 1) rfl rfl ti30 .nil) (mo_mk (modelOf d) rfl (by rw [hsn]; rfl)))

end Go.Proofs.YtknflgfkhkdomaaGreatDoor.Mono

/-! MonoCf -/
set_option linter.unusedVariables false
set_option linter.unusedSimpArgs false
namespace Go.Proofs.YtknflgfkhkdomaaGreatDoor.Mono
open Go Go.RowKit
def d0 (d : Dr) : Dr := ⟨d.states, 0, d.grain, d.cents, d.picks⟩
theorem d0_ok {d : Dr} (h : DrOk d) : DrOk (d0 d) := ⟨h.1, by show 0 < 256; decide, h.2.2.1, h.2.2.2.1, h.2.2.2.2⟩
def hf : Rat := Rat.divInt 1 2
def halfC (a b : Nat) : Ch := ⟨[], 0, [⟨a, hf⟩, ⟨b, hf⟩]⟩
def sampleM : Mo := ⟨List.replicate 3 0, [[halfC 0 1, stayC 0], [halfC 1 2], [stayC 2]]⟩
theorem hf_text : qtext hf = [49, 47, 50] := by
  have := make_text (a := 1) (b := 2) (by decide)
  rw [if_neg (by decide)] at this
  rw [show hf = Rat.divInt ((1 : Nat) : Int) ((2 : Nat) : Int) from rfl, this]
  rw [show dec (1 / Nat.gcd 1 2) = [49] from dec_small (n := 1) (by decide), show dec (2 / Nat.gcd 1 2) = [50] from dec_small (n := 2) (by decide)]; rfl
theorem q34_text : qtext (Rat.divInt 3 4) = [51, 47, 52] := by
  have := make_text (a := 3) (b := 4) (by decide)
  rw [if_neg (by decide)] at this
  rw [show Rat.divInt 3 4 = Rat.divInt ((3 : Nat) : Int) ((4 : Nat) : Int) from rfl, this]
  rw [show dec (3 / Nat.gcd 3 4) = [51] from dec_small (n := 3) (by decide), show dec (4 / Nat.gcd 3 4) = [52] from dec_small (n := 4) (by decide)]; rfl
theorem hf_num : hf.num = 1 ∧ hf.den = 2 := by
  obtain ⟨h1, h2⟩ := make_q (a := 1) (b := 2) (by decide)
  exact ⟨h1, h2⟩
theorem hf_dz : Dz 4 hf := ⟨dec_le 3 _ (by rw [hf_num.1]; decide), dec_le 3 _ (by rw [hf_num.2]; decide)⟩
theorem half_sum : sumQ [hf, hf] = 1 := of_decide_eq_true (by kernel_rfl)
theorem half_CM {a b : Nat} (h1 : a < b) (h2 : b < 3) : CM 3 2 1 (halfC a b) := by
  refine ⟨⟨by simp [halfC], fun b hb => by cases hb⟩, ⟨dz0, Int.le_refl 0, Nat.one_dvd _⟩, fun x hx => ?_, fun i hi => ?_, by simp [halfC], half_sum⟩
  · have hx' : x = ⟨a, hf⟩ ∨ x = ⟨b, hf⟩ := by simpa [halfC] using hx
    rcases hx' with rfl | rfl
    · exact ⟨by show a < 3; omega, hf_dz, by show 0 < hf.num; rw [hf_num.1]; decide, by show hf.den ∣ 2; rw [hf_num.2]; exact Nat.dvd_refl 2⟩
    · exact ⟨by show b < 3; omega, hf_dz, by show 0 < hf.num; rw [hf_num.1]; decide, by show hf.den ∣ 2; rw [hf_num.2]; exact Nat.dvd_refl 2⟩
  · have : i = 0 := by simp [halfC] at hi; omega
    subst this; exact h1
theorem CM.up2 {n G G' H : Nat} {c : Ch} (h : CM n G H c) (hG : G ∣ G') : CM n G' H c := ⟨h.act, h.gain, fun b hb => ⟨(h.next b hb).1, (h.next b hb).2.1, (h.next b hb).2.2.1, Nat.dvd_trans (h.next b hb).2.2.2 hG⟩, h.sorted, h.len, h.sum⟩
theorem sample_GM : GM sampleM := by
  have s : ∀ k, k < 3 → CM 3 2 1 (stayC k) := fun k hk => stay_CM hk (by decide) (by decide)
  refine ⟨by decide, by decide, by decide, fun o ho => List.eq_of_mem_replicate ho, fun l hl => ?_, 2, 1, by decide, by decide, by decide, by decide, fun l hl c hc => ?_⟩
  · have : l = [halfC 0 1, stayC 0] ∨ l = [halfC 1 2] ∨ l = [stayC 2] := by simpa [sampleM] using hl
    rcases this with rfl | rfl | rfl <;> exact ⟨by simp, by simp⟩
  · have : l = [halfC 0 1, stayC 0] ∨ l = [halfC 1 2] ∨ l = [stayC 2] := by simpa [sampleM] using hl
    show CM 3 2 1 c
    rcases this with rfl | rfl | rfl
    · have : c = halfC 0 1 ∨ c = stayC 0 := by simpa using hc
      rcases this with rfl | rfl
      · exact half_CM (by decide) (by decide)
      · exact s 0 (by decide)
    · rw [List.mem_singleton.1 hc]; exact half_CM (by decide) (by decide)
    · rw [List.mem_singleton.1 hc]; exact s 2 (by decide)
def rats (S : So) (k : Nat) (a b : List Rat) : Bool := decide (lowK S k = a ∧ highK S k = b)
theorem wake0 : rats (beginS sampleM 4 true) 0 [0, 0, 1] [1, 1, 1] = true := by kernel_rfl
theorem wake1 : rats (beginS sampleM 4 true) 1 [0, hf, 1] [1, 1, 1] = true := by kernel_rfl
theorem wake2 : rats (beginS sampleM 4 false) 2 [0, Rat.divInt 3 4, 1] [0, 1, 1] = true := by kernel_rfl
theorem wake3 : rats (beginS sampleM 1 true) 5 [1, 0, 0] [1, 0, 0] = true := by kernel_rfl
theorem rats_texts {S : So} {k : Nat} {a b : List Rat} {x y : List (List UInt8)} (h : rats S k a b = true) (ha : a.map qtext = x) (hb : b.map qtext = y) : (lowK S k).map qtext = x ∧ (highK S k).map qtext = y := by
  obtain ⟨h1, h2⟩ := of_decide_eq_true h
  rw [h1, h2]; exact ⟨ha, hb⟩
theorem texts3 (a b c : Rat) {x y z : List UInt8} (h1 : qtext a = x) (h2 : qtext b = y) (h3 : qtext c = z) : [a, b, c].map qtext = [x, y, z] := by simp [h1, h2, h3]
end Go.Proofs.YtknflgfkhkdomaaGreatDoor.Mono

/-! WlD -/
set_option linter.unusedVariables false
set_option linter.unusedSimpArgs false
set_option maxRecDepth 4000
set_option maxHeartbeats 4000000
namespace Go.Proofs.YtknflgfkhkdomaaGreatDoor.Mono
open Go Go.RowKit

theorem sz5 : (Tryz.prog.info? 5).map (·.size) = some 1 := by kernel_rfl

theorem en12 : Enters Tryz.prog 12 := enters_fn Tryz.func12 (by kernel_rfl) rfl

theorem w5 {d : Dr} (hd : DrOk d) : Spec CC 5 [Ty.of Kd.dr d] (Ty.of Kd.mo (modelOf (d0 d))) := by
  refine spec_of_JS Tryz.func5 rfl (Nat.le_of_ble_eq_true rfl) (fun gh0 wd0 => ?_)
  refine JS_seq ?_
  -- region 0
  refine sR ?_
  refine kT ?_
  refine JT_box rfl rfl rfl rfl (ol rfl (Ty.le.refl _)) (fun g1 => ?_)
  refine JT_alloc (S0 := Seg.cat [Seg.of (Kd.slice (Kd.int .i64)) [], Seg.of (Kd.slice (Kd.slice Kd.ch)) []]) rfl rfl rfl rfl z30 h0_30 (fun g2 => ?_)
  refine JT_done ?_
  refine JS_seq ?_
  -- region 1
  refine JS_eqD (Δ' := [Res.box g2 30 (Seg.cat [Seg.of (Kd.slice (Kd.int .i64)) [], Seg.of (Kd.slice (Kd.slice Kd.ch)) []]), Res.box g1 24 (Seg.cat [Seg.of (Kd.nat .u8) d.states, Seg.of (Kd.nat .u8) d.owners, Seg.of (Kd.nat .u8) d.grain, Seg.of (Kd.nat .u8) d.cents, Seg.of (Kd.slice Kd.pk) d.picks])]) (by rfl) ?_
  refine sR ?_
  refine kO (T_fieldAddr_ptr rfl fa24_1 rfl rfl) rfl ?_
  refine kT ?_
  refine JT_store (i := 1) rfl rfl rfl rfl rfl (ol rfl (val_nat .u8 rfl)) (uc (i := 1) rfl rfl rfl) sz5 ?_
  refine JT_done ?_
  refine JS_seq ?_
  -- region 2
  refine JS_eqD (Δ' := [Res.box g2 30 (Seg.cat [Seg.of (Kd.slice (Kd.int .i64)) [], Seg.of (Kd.slice (Kd.slice Kd.ch)) []]), Res.box g1 24 (Seg.of Kd.dr (d0 d))]) (by rfl) ?_
  refine sR ?_
  refine kO (T_load_own (i := 1) rfl rfl rfl (Sub.self _) ti24) rfl ?_
  refine kO (T_callL rfl en12 (w12 (d0_ok hd) rfl) (oa (ol rfl (Ty.le.refl _)) oa0)) rfl ?_
  refine kT ?_
  refine JT_store (i := 0) rfl rfl rfl rfl rfl (ol rfl (Ty.le.refl _)) (Upd.self _ _ rfl) sz30 ?_
  refine JT_done ?_
  exact JS_ret (JE_ret_one rfl rfl (.cell (i := 0) rfl rfl ti30 .nil) (of_eq (rfl)))

theorem w21 {t : Nat} : Spec CC 21 [Ty.val (.int .i64 (t : Int))] (Ty.of Kd.ch (stayC t)) := by
  refine spec_of_JS Tryz.func21 rfl (Nat.le_of_ble_eq_true rfl) (fun gh0 wd0 => ?_)
  refine JS_seq ?_
  -- region 0
  refine sR ?_
  refine kT ?_
  refine JT_alloc (S0 := Seg.cat [Seg.of Kd.str [], Seg.of Kd.str [], Seg.of (Kd.slice Kd.br) []]) rfl rfl rfl rfl z60 h0_60 (fun g2 => ?_)
  refine JT_done ?_
  refine JS_seq ?_
  -- region 1
  refine sR ?_
  refine kM rfl rfl ?_
  refine kO (T_sub (T_build (S0 := Seg.cat [Seg.of (Kd.int .i64) 0, Seg.of Kd.str []]) rfl fk62 z62 h0_62 (fc (ol rfl (val_int _ _)) (uc (i := 0) rfl rfl rfl) rfl (fc (ol rfl (val_str [49])) (uc (i := 1) rfl rfl rfl) rfl (Fill.nil _))) rfl) (br_mk ⟨t, 1⟩ rfl qtext_1.symm)) rfl ?_
  refine kO (T_lits (xs := [.tmp 4]) (d := Kd.br) [⟨t, 1⟩] rfl rfl u58 ti62 z62 rfl rfl (by decide) (by decide) (oa (ol rfl (Ty.le.refl _)) oa0) rfl) rfl ?_
  refine kO (T_sub (T_build (S0 := Seg.cat [Seg.of Kd.str [], Seg.of Kd.str [], Seg.of (Kd.slice Kd.br) []]) rfl fk60 z60 h0_60 (fc (ol rfl (val_str [48])) (uc (i := 1) rfl rfl rfl) rfl (fc (ol rfl (Ty.le.refl _)) (uc (i := 2) rfl rfl rfl) rfl (Fill.nil _))) rfl) (ch_mk (stayC t) rfl qtext_0.symm rfl)) rfl ?_
  refine kT ?_
  refine JT_store (i := 0) rfl rfl rfl rfl rfl (ol rfl (Ty.le.refl _)) (Upd.self _ _ rfl) sz60 ?_
  refine JT_done ?_
  exact JS_ret (JE_ret_one rfl rfl (.cell (i := 0) rfl rfl ti60 .nil) (of_eq (rfl)))

theorem w22 {a b : Nat} : Spec CC 22 [Ty.val (.int .i64 (a : Int)), Ty.val (.int .i64 (b : Int))] (Ty.of Kd.ch (halfC a b)) := by
  refine spec_of_JS Tryz.func22 rfl (Nat.le_of_ble_eq_true rfl) (fun gh0 wd0 => ?_)
  refine JS_seq ?_
  -- region 0
  refine sR ?_
  refine kT ?_
  refine JT_alloc (S0 := Seg.cat [Seg.of Kd.str [], Seg.of Kd.str [], Seg.of (Kd.slice Kd.br) []]) rfl rfl rfl rfl z60 h0_60 (fun g4 => ?_)
  refine JT_done ?_
  refine JS_seq ?_
  -- region 1
  refine sR ?_
  refine kM rfl rfl ?_
  refine kO (T_sub (T_build (S0 := Seg.cat [Seg.of (Kd.int .i64) 0, Seg.of Kd.str []]) rfl fk62 z62 h0_62 (fc (ol rfl (val_int _ _)) (uc (i := 0) rfl rfl rfl) rfl (fc (ol rfl (val_str [49, 47, 50])) (uc (i := 1) rfl rfl rfl) rfl (Fill.nil _))) rfl) (br_mk ⟨a, hf⟩ rfl hf_text.symm)) rfl ?_
  refine kM rfl rfl ?_
  refine kO (T_sub (T_build (S0 := Seg.cat [Seg.of (Kd.int .i64) 0, Seg.of Kd.str []]) rfl fk62 z62 h0_62 (fc (ol rfl (val_int _ _)) (uc (i := 0) rfl rfl rfl) rfl (fc (ol rfl (val_str [49, 47, 50])) (uc (i := 1) rfl rfl rfl) rfl (Fill.nil _))) rfl) (br_mk ⟨b, hf⟩ rfl hf_text.symm)) rfl ?_
  refine kO (T_lits (xs := [.tmp 6, .tmp 8]) (d := Kd.br) [⟨a, hf⟩, ⟨b, hf⟩] rfl rfl u58 ti62 z62 rfl rfl (by decide) (by decide) (oa (ol rfl (Ty.le.refl _)) (oa (ol rfl (Ty.le.refl _)) oa0)) rfl) rfl ?_
  refine kO (T_sub (T_build (S0 := Seg.cat [Seg.of Kd.str [], Seg.of Kd.str [], Seg.of (Kd.slice Kd.br) []]) rfl fk60 z60 h0_60 (fc (ol rfl (val_str [48])) (uc (i := 1) rfl rfl rfl) rfl (fc (ol rfl (Ty.le.refl _)) (uc (i := 2) rfl rfl rfl) rfl (Fill.nil _))) rfl) (ch_mk (halfC a b) rfl qtext_0.symm rfl)) rfl ?_
  refine kT ?_
  refine JT_store (i := 0) rfl rfl rfl rfl rfl (ol rfl (Ty.le.refl _)) (Upd.self _ _ rfl) sz60 ?_
  refine JT_done ?_
  exact JS_ret (JE_ret_one rfl rfl (.cell (i := 0) rfl rfl ti60 .nil) (of_eq (rfl)))

def toIn (t : Nat) : List Ty := [Ty.val (.int .i64 (t : Int))]
def toOut (t : Nat) : Ty := Ty.of Kd.ch (stayC t)
def halfIn (p : Nat × Nat) : List Ty := [Ty.val (.int .i64 (p.1 : Int)), Ty.val (.int .i64 (p.2 : Int))]
def halfOut (p : Nat × Nat) : Ty := Ty.of Kd.ch (halfC p.1 p.2)

theorem en21 : Enters Tryz.prog 21 := enters_fn Tryz.func21 (by kernel_rfl) rfl

theorem en22 : Enters Tryz.prog 22 := enters_fn Tryz.func22 (by kernel_rfl) rfl

theorem z65 : ZeroOf Tryz.prog 65 (.slice none 0 0) := by unfold ZeroOf; kernel_rfl

theorem w10  : Spec CC 10 [] (Ty.of Kd.mo sampleM) := by
  refine spec_of_JS Tryz.func10 rfl (Nat.le_of_ble_eq_true rfl) (fun gh0 wd0 => ?_)
  refine JS_seq ?_
  -- region 0
  refine sR ?_
  refine kT ?_
  refine JT_alloc (S0 := Seg.cat [Seg.of (Kd.slice (Kd.int .i64)) [], Seg.of (Kd.slice (Kd.slice Kd.ch)) []]) rfl rfl rfl rfl z30 h0_30 (fun g0 => ?_)
  refine JT_done ?_
  refine JS_seq ?_
  -- region 1
  refine sR ?_
  refine kA rfl rfl ?_
  refine kE ?_
  refine JS_seq ?_
  -- region 2
  refine sR ?_
  refine kA rfl rfl ?_
  refine kE ?_
  refine JS_seq ?_
  -- region 3
  refine JS_re (s := 1) (T := Ty.fn CC toIn toOut) rfl (T_fnval (Γ := []) (T := Ty.any) en21 (fun x => w21)) ?_
  refine JS_re (s := 2) (T := Ty.fn CC halfIn halfOut) rfl (T_fnval (Γ := []) (T := Ty.any) en22 (fun x => w22)) ?_
  refine sRD mixed ?_
  refine kO (T_make (K := (Kd.int .i64)) (z0 := 0) rfl u27 ei3 rfl (by decide) (fun _ => rfl) rfl rfl (by omega) (by omega) (by omega) (by omega)) rfl ?_
  refine kM rfl rfl ?_
  refine kO (T_callvL ((0, 1) : Nat × Nat) rfl rfl (oa (ol rfl (Ty.le.refl _)) (oa (ol rfl (Ty.le.refl _)) oa0))) rfl ?_
  refine kM rfl rfl ?_
  refine kO (T_callvL (0 : Nat) rfl rfl (oa (ol rfl (Ty.le.refl _)) oa0)) rfl ?_
  refine kO (T_lits (xs := [.tmp 5, .tmp 7]) (d := Kd.ch) [halfC 0 1, stayC 0] rfl rfl u65 ti60 z60 rfl rfl (by decide) (by decide) (oa (ol rfl (Ty.le.refl _)) (oa (ol rfl (Ty.le.refl _)) oa0)) rfl) rfl ?_
  refine kM rfl rfl ?_
  refine kO (T_callvL ((1, 2) : Nat × Nat) rfl rfl (oa (ol rfl (Ty.le.refl _)) (oa (ol rfl (Ty.le.refl _)) oa0))) rfl ?_
  refine kO (T_lits (xs := [.tmp 10]) (d := Kd.ch) [halfC 1 2] rfl rfl u65 ti60 z60 rfl rfl (by decide) (by decide) (oa (ol rfl (Ty.le.refl _)) oa0) rfl) rfl ?_
  refine kM rfl rfl ?_
  refine kO (T_callvL (2 : Nat) rfl rfl (oa (ol rfl (Ty.le.refl _)) oa0)) rfl ?_
  refine kO (T_lits (xs := [.tmp 13]) (d := Kd.ch) [stayC 2] rfl rfl u65 ti60 z60 rfl rfl (by decide) (by decide) (oa (ol rfl (Ty.le.refl _)) oa0) rfl) rfl ?_
  refine kO (T_lits (xs := [.tmp 8, .tmp 11, .tmp 14]) (d := (Kd.slice Kd.ch)) [[halfC 0 1, stayC 0], [halfC 1 2], [stayC 2]] rfl rfl u28 ti65 z65 rfl rfl (by decide) (by decide) (oa (ol rfl (Ty.le.refl _)) (oa (ol rfl (Ty.le.refl _)) (oa (ol rfl (Ty.le.refl _)) oa0))) rfl) rfl ?_
  refine kO (T_sub (T_build (S0 := Seg.cat [Seg.of (Kd.slice (Kd.int .i64)) [], Seg.of (Kd.slice (Kd.slice Kd.ch)) []]) rfl fk30 z30 h0_30 (fc (ol rfl (Ty.le.refl _)) (uc (i := 0) rfl rfl rfl) rfl (fc (ol rfl (Ty.le.refl _)) (uc (i := 1) rfl rfl rfl) rfl (Fill.nil _))) rfl) (mo_mk sampleM rfl rfl)) rfl ?_
  refine kTD (by decide) ?_
  refine JT_store (i := 0) rfl rfl rfl rfl rfl (ol rfl (Ty.le.refl _)) (Upd.self _ _ rfl) sz30 ?_
  refine JT_done ?_
  exact JS_ret (JE_ret_one rfl rfl (.cell (i := 0) rfl rfl ti30 .nil) (of_eq (rfl)))

theorem en7 : Enters Tryz.prog 7 := enters_fn Tryz.func7 (by kernel_rfl) rfl

theorem en9 : Enters Tryz.prog 9 := enters_fn Tryz.func9 (by kernel_rfl) rfl

theorem w11 {M : Mo} {T K : Nat} {most : Bool} {lo hi : List (List UInt8)} (hM : GM M) (hT : T < 2 ^ M.owner.length) (hK : K ≤ 60) (h : (lowK (beginS M T most) K).map qtext = lo ∧ (highK (beginS M T most) K).map qtext = hi) (hl1 : lo.length ≤ 12) (hl2 : hi.length ≤ 12) : Spec CC 11 [Ty.of Kd.mo M, Ty.val (.int .u64 (T : Int)), Ty.val (.bool most), Ty.val (.int .i64 (K : Int)), Ty.of (Kd.slice Kd.str) lo, Ty.of (Kd.slice Kd.str) hi] (Ty.val (.bool true)) := by
  refine spec_of_JS Tryz.func11 rfl (Nat.le_of_ble_eq_true rfl) (fun gh0 wd0 => ?_)
  refine JS_bound (s := 4) rfl (fun b4 => ?_)
  refine JS_bound (s := 5) rfl (fun b5 => ?_)
  unfold maxLen at b4 b5
  obtain ⟨e1, e2⟩ := h
  subst e1
  subst e2
  have n1 := hM.n1
  rw [List.length_map] at hl1 hl2
  refine JS_seq ?_
  -- region 0
  refine sR ?_
  refine kO (T_box rfl (ol rfl (Ty.le.refl _))) rfl ?_
  refine kA rfl rfl ?_
  refine kE ?_
  refine JS_seq ?_
  -- region 1
  refine sR ?_
  refine kO (T_ld rfl rfl ti30) rfl ?_
  refine kM rfl rfl ?_
  refine kM rfl rfl ?_
  refine kM rfl rfl ?_
  refine kO (T_callL rfl en7 (w7 hM hT hK) (oa (ol rfl (Ty.le.refl _)) (oa (ol rfl (Ty.le.refl _)) (oa (ol rfl (Ty.le.refl _)) (oa (ol rfl (Ty.le.refl _)) oa0))))) rfl ?_
  refine kM rfl rfl ?_
  refine kO (T_extract rfl rfl rfl) rfl ?_
  refine kO (T_extract rfl rfl rfl) rfl ?_
  refine kO (T_extract rfl rfl rfl) rfl ?_
  refine kA rfl rfl ?_
  refine kA rfl rfl ?_
  refine kA rfl rfl ?_
  refine kE ?_
  refine JS_seq ?_
  -- region 2
  refine sR ?_
  refine kM rfl rfl ?_
  refine kO (T_eq rfl rfl rfl) rfl ?_
  refine kM rfl rfl ?_
  refine tk_if (d := 27) rfl (fun g27 => ?_) (fun g27 => ?_)
  · refine kG (wTD g27 rfl rfl rfl) (T_move (.inl rfl) rfl) rfl ?_
    refine kG (wTD g27 rfl rfl rfl) (T_move (.inl rfl) rfl) rfl ?_
    refine kG (wTD g27 rfl rfl rfl) (T_callL rfl en9 (w9 (by rw [List.length_map]; omega) (by rw [List.length_map]; omega)) (oa (ol rfl (Ty.le.refl _)) (oa (ol rfl (Ty.le.refl _)) oa0))) rfl ?_
    refine kO (T_pickD g27 rfl rfl rfl) rfl ?_
    refine kM rfl rfl ?_
    refine tk_if (d := 32) rfl (fun g32 => ?_) (fun g32 => ?_)
    · refine kG (wTD g32 rfl rfl rfl) (T_move (.inl rfl) rfl) rfl ?_
      refine kG (wTD g32 rfl rfl rfl) (T_move (.inl rfl) rfl) rfl ?_
      refine kG (wTD g32 rfl rfl rfl) (T_callL rfl en9 (w9 (by rw [List.length_map]; omega) (by rw [List.length_map]; omega)) (oa (ol rfl (Ty.le.refl _)) (oa (ol rfl (Ty.le.refl _)) oa0))) rfl ?_
      refine kO (T_pickD g32 rfl rfl rfl) rfl ?_
      refine kA rfl rfl ?_
      refine kE ?_
      exact JS_ret (JE_ret_one rfl rfl (.tmp rfl .nil) (bool_eq (decide_eq_true rfl)))
    · exact absurd rfl g32
  · exact absurd rfl g27

theorem en10 : Enters Tryz.prog 10 := enters_fn Tryz.func10 (by kernel_rfl) rfl

theorem en11 : Enters Tryz.prog 11 := enters_fn Tryz.func11 (by kernel_rfl) rfl

theorem w4  : Spec CC 4 [] (Ty.val (.bool true)) := by
  refine spec_of_JS Tryz.func4 rfl (Nat.le_of_ble_eq_true rfl) (fun gh0 wd0 => ?_)
  refine JS_seq ?_
  -- region 0
  refine sR ?_
  refine kA rfl rfl ?_
  refine kE ?_
  refine JS_seq ?_
  -- region 1
  refine sR ?_
  refine kO (T_callL rfl en10 (w10 ) oa0) rfl ?_
  refine kT ?_
  refine JT_alloc (S0 := Seg.cat [Seg.of (Kd.slice (Kd.int .i64)) [], Seg.of (Kd.slice (Kd.slice Kd.ch)) []]) rfl rfl rfl rfl z30 h0_30 (fun g1 => ?_)
  refine JT_store (i := 0) rfl rfl rfl rfl rfl (ol rfl (Ty.le.refl _)) (Upd.self _ _ rfl) sz30 ?_
  refine JT_done ?_
  refine JS_seq ?_
  -- region 2
  refine sR ?_
  refine kO (T_lits (xs := [.const (.string (ByteArray.mk #[49])), .const (.string (ByteArray.mk #[49])), .const (.string (ByteArray.mk #[49]))]) (d := Kd.str) [[49], [49], [49]] rfl rfl u35 ti43 z43 rfl rfl (by decide) (by decide) (oa (ol rfl (val_str [49])) (oa (ol rfl (val_str [49])) (oa (ol rfl (val_str [49])) oa0))) rfl) rfl ?_
  refine kA rfl rfl ?_
  refine kE ?_
  refine JS_seq ?_
  -- region 3
  refine sR ?_
  refine kO (T_load_own (i := 0) rfl rfl rfl (Sub.self _) ti30) rfl ?_
  refine kO (T_lits (xs := [.const (.string (ByteArray.mk #[48])), .const (.string (ByteArray.mk #[48])), .const (.string (ByteArray.mk #[49]))]) (d := Kd.str) [[48], [48], [49]] rfl rfl u35 ti43 z43 rfl rfl (by decide) (by decide) (oa (ol rfl (val_str [48])) (oa (ol rfl (val_str [48])) (oa (ol rfl (val_str [49])) oa0))) rfl) rfl ?_
  refine kM rfl rfl ?_
  refine kO (T_callL rfl en11 (w11 sample_GM (T := 4) (by decide) (by decide) (rats_texts wake0 (texts3 _ _ _ qtext_0 qtext_0 qtext_1) (texts3 _ _ _ qtext_1 qtext_1 qtext_1)) (by decide) (by decide)) (oa (ol rfl (Ty.le.refl _)) (oa (ol rfl (Ty.le.refl _)) (oa (ol rfl (Ty.le.refl _)) (oa (ol rfl (Ty.le.refl _)) (oa (ol rfl (Ty.le.refl _)) (oa (ol rfl (Ty.le.refl _)) oa0))))))) rfl ?_
  refine kM rfl rfl ?_
  refine kG (wT rfl rfl rfl rfl) (T_load_own (i := 0) rfl rfl rfl (Sub.self _) ti30) rfl ?_
  refine kG (wT rfl rfl rfl rfl) (T_lits (xs := [.const (.string (ByteArray.mk #[48])), .const (.string (ByteArray.mk #[49, 47, 50])), .const (.string (ByteArray.mk #[49]))]) (d := Kd.str) [[48], [49, 47, 50], [49]] rfl rfl u35 ti43 z43 rfl rfl (by decide) (by decide) (oa (ol rfl (val_str [48])) (oa (ol rfl (val_str [49, 47, 50])) (oa (ol rfl (val_str [49])) oa0))) rfl) rfl ?_
  refine kG (wT rfl rfl rfl rfl) (T_move (.inl rfl) rfl) rfl ?_
  refine kG (wT rfl rfl rfl rfl) (T_callL rfl en11 (w11 sample_GM (T := 4) (by decide) (by decide) (rats_texts wake1 (texts3 _ _ _ qtext_0 hf_text qtext_1) (texts3 _ _ _ qtext_1 qtext_1 qtext_1)) (by decide) (by decide)) (oa (ol rfl (Ty.le.refl _)) (oa (ol rfl (Ty.le.refl _)) (oa (ol rfl (Ty.le.refl _)) (oa (ol rfl (Ty.le.refl _)) (oa (ol rfl (Ty.le.refl _)) (oa (ol rfl (Ty.le.refl _)) oa0))))))) rfl ?_
  refine kO (T_pickT rfl rfl rfl rfl) rfl ?_
  refine kM rfl rfl ?_
  refine kG (wT rfl rfl rfl rfl) (T_load_own (i := 0) rfl rfl rfl (Sub.self _) ti30) rfl ?_
  refine kG (wT rfl rfl rfl rfl) (T_lits (xs := [.const (.string (ByteArray.mk #[48])), .const (.string (ByteArray.mk #[51, 47, 52])), .const (.string (ByteArray.mk #[49]))]) (d := Kd.str) [[48], [51, 47, 52], [49]] rfl rfl u35 ti43 z43 rfl rfl (by decide) (by decide) (oa (ol rfl (val_str [48])) (oa (ol rfl (val_str [51, 47, 52])) (oa (ol rfl (val_str [49])) oa0))) rfl) rfl ?_
  refine kG (wT rfl rfl rfl rfl) (T_lits (xs := [.const (.string (ByteArray.mk #[48])), .const (.string (ByteArray.mk #[49])), .const (.string (ByteArray.mk #[49]))]) (d := Kd.str) [[48], [49], [49]] rfl rfl u35 ti43 z43 rfl rfl (by decide) (by decide) (oa (ol rfl (val_str [48])) (oa (ol rfl (val_str [49])) (oa (ol rfl (val_str [49])) oa0))) rfl) rfl ?_
  refine kG (wT rfl rfl rfl rfl) (T_callL rfl en11 (w11 sample_GM (T := 4) (by decide) (by decide) (rats_texts wake2 (texts3 _ _ _ qtext_0 q34_text qtext_1) (texts3 _ _ _ qtext_0 qtext_1 qtext_1)) (by decide) (by decide)) (oa (ol rfl (Ty.le.refl _)) (oa (ol rfl (Ty.le.refl _)) (oa (ol rfl (Ty.le.refl _)) (oa (ol rfl (Ty.le.refl _)) (oa (ol rfl (Ty.le.refl _)) (oa (ol rfl (Ty.le.refl _)) oa0))))))) rfl ?_
  refine kO (T_pickT rfl rfl rfl rfl) rfl ?_
  refine kM rfl rfl ?_
  refine kG (wT rfl rfl rfl rfl) (T_load_own (i := 0) rfl rfl rfl (Sub.self _) ti30) rfl ?_
  refine kG (wT rfl rfl rfl rfl) (T_lits (xs := [.const (.string (ByteArray.mk #[49])), .const (.string (ByteArray.mk #[48])), .const (.string (ByteArray.mk #[48]))]) (d := Kd.str) [[49], [48], [48]] rfl rfl u35 ti43 z43 rfl rfl (by decide) (by decide) (oa (ol rfl (val_str [49])) (oa (ol rfl (val_str [48])) (oa (ol rfl (val_str [48])) oa0))) rfl) rfl ?_
  refine kG (wT rfl rfl rfl rfl) (T_lits (xs := [.const (.string (ByteArray.mk #[49])), .const (.string (ByteArray.mk #[48])), .const (.string (ByteArray.mk #[48]))]) (d := Kd.str) [[49], [48], [48]] rfl rfl u35 ti43 z43 rfl rfl (by decide) (by decide) (oa (ol rfl (val_str [49])) (oa (ol rfl (val_str [48])) (oa (ol rfl (val_str [48])) oa0))) rfl) rfl ?_
  refine kG (wT rfl rfl rfl rfl) (T_callL rfl en11 (w11 sample_GM (T := 1) (by decide) (by decide) (rats_texts wake3 (texts3 _ _ _ qtext_1 qtext_0 qtext_0) (texts3 _ _ _ qtext_1 qtext_0 qtext_0)) (by decide) (by decide)) (oa (ol rfl (Ty.le.refl _)) (oa (ol rfl (Ty.le.refl _)) (oa (ol rfl (Ty.le.refl _)) (oa (ol rfl (Ty.le.refl _)) (oa (ol rfl (Ty.le.refl _)) (oa (ol rfl (Ty.le.refl _)) oa0))))))) rfl ?_
  refine kO (T_pickT rfl rfl rfl rfl) rfl ?_
  refine kA rfl rfl ?_
  refine kE ?_
  exact JS_ret (JE_ret_one rfl rfl (.tmp rfl .nil) (Ty.le.refl _))

theorem en4 : Enters Tryz.prog 4 := enters_fn Tryz.func4 (by kernel_rfl) rfl

theorem en5 : Enters Tryz.prog 5 := enters_fn Tryz.func5 (by kernel_rfl) rfl

theorem en6 : Enters Tryz.prog 6 := enters_fn Tryz.func6 (by kernel_rfl) rfl

theorem en8 : Enters Tryz.prog 8 := enters_fn Tryz.func8 (by kernel_rfl) rfl

theorem w3 {d : Dr} {bits k : Nat} (hd : DrOk d) (hb : bits < 65536) (hk : k < 256) : Spec CC 3 [Ty.of Kd.dr d, Ty.val (.int .u16 (bits : Int)), Ty.val (.int .u8 (k : Int))] (Ty.val (.bool true)) := by
  refine spec_of_JS Tryz.func3 rfl (Nat.le_of_ble_eq_true rfl) (fun gh0 wd0 => ?_)
  obtain ⟨M, hMe⟩ : ∃ M, M = modelOf (d0 d) := ⟨_, rfl⟩
  have hM : GM M := by rw [hMe]; exact model_GM _
  have n1 := hM.n1
  obtain ⟨T, hTe⟩ : ∃ T, T = bits &&& (2 ^ M.owner.length - 1) := ⟨_, rfl⟩
  have hT : T < 2 ^ M.owner.length := by rw [hTe]; exact Nat.and_lt_two_pow _ (by have := Nat.one_le_two_pow (n := M.owner.length); omega)
  have hlw := lowK_within (M := M) (T := T) (k % 8)
  refine JS_seq ?_
  -- region 0
  refine sR ?_
  refine kO (T_box rfl (ol rfl (Ty.le.refl _))) rfl ?_
  refine kA rfl rfl ?_
  refine kE ?_
  refine JS_seq ?_
  refine JS_seq ?_
  -- region 1
  refine sR ?_
  refine kO (T_callL rfl en4 (w4 ) oa0) rfl ?_
  refine kO (T_not rfl rfl) rfl ?_
  refine kE ?_
  refine JS_cf rfl ?_
  refine JS_skip ?_
  refine JS_seq ?_
  -- region 3
  refine sR ?_
  refine kO (T_ld rfl rfl ti24) rfl ?_
  refine kO (T_callL rfl en5 (w5 hd) (oa (ol rfl (Ty.le.refl _)) oa0)) rfl ?_
  refine kT ?_
  refine JT_alloc (S0 := Seg.cat [Seg.of (Kd.slice (Kd.int .i64)) [], Seg.of (Kd.slice (Kd.slice Kd.ch)) []]) rfl rfl rfl rfl z30 h0_30 (fun g7 => ?_)
  refine JT_store (i := 0) rfl rfl rfl rfl rfl (ol rfl (Ty.le.refl _)) (Upd.self _ _ rfl) sz30 ?_
  refine JT_done ?_
  refine JS_seq ?_
  -- region 4
  refine JS_eqD (Δ' := [Res.box g7 30 (Seg.of Kd.mo M)]) (by rw [hMe]; rfl) ?_
  refine sR ?_
  refine kO (T_fieldAddr_ptr rfl fa30_0 rfl rfl) rfl ?_
  refine kO (T_load_own (i := 0) rfl rfl rfl (st_sub (i := 0) rfl rfl) ti27) rfl ?_
  refine kO (T_len_slice rfl rfl u27 rfl) rfl ?_
  refine kM rfl rfl ?_
  refine kO (T_callL rfl en6 (w6 (n := M.owner.length) (bits := bits) n1 hb) (oa (ol rfl (Ty.le.refl _)) (oa (ol rfl (Ty.le.refl _)) oa0))) rfl ?_
  refine kA rfl rfl ?_
  refine kE ?_
  refine JS_seq ?_
  -- region 5
  refine JS_re (s := 8) (T := Ty.val (.int .u64 (T : Int))) rfl (int_eq (by rw [hTe])) ?_
  refine sR ?_
  refine kO (T_load_own (i := 0) rfl rfl rfl (Sub.self _) ti30) rfl ?_
  refine kM rfl rfl ?_
  refine kM rfl rfl ?_
  refine kO (T_rem rfl rfl rfl (by omega) ((rem_nn (by omega)).trans (natmodI (a := k) (b := 8) rfl))) rfl ?_
  refine kO (T_conv rfl u5 u3 rfl (wrap_i64 (by omega) (by omega))) rfl ?_
  refine kO (T_callL rfl en7 (w7 hM hT (K := k % 8) (by omega)) (oa (ol rfl (Ty.le.refl _)) (oa (ol rfl (Ty.le.refl _)) (oa (ol rfl (Ty.le.refl _)) (oa (ol rfl (Ty.le.refl _)) oa0))))) rfl ?_
  refine kM rfl rfl ?_
  refine kO (T_extract rfl rfl rfl) rfl ?_
  refine kO (T_extract rfl rfl rfl) rfl ?_
  refine kO (T_extract rfl rfl rfl) rfl ?_
  refine kA rfl rfl ?_
  refine kA rfl rfl ?_
  refine kA rfl rfl ?_
  refine kE ?_
  refine JS_seq ?_
  -- region 6
  refine sR ?_
  refine kO (T_load_own (i := 0) rfl rfl rfl (Sub.self _) ti30) rfl ?_
  refine kM rfl rfl ?_
  refine kM rfl rfl ?_
  refine kO (T_rem rfl rfl rfl (by omega) ((rem_nn (by omega)).trans (natmodI (a := k) (b := 8) rfl))) rfl ?_
  refine kO (T_conv rfl u5 u3 rfl (wrap_i64 (by omega) (by omega))) rfl ?_
  refine kO (T_callL rfl en8 (w8 hM hT (n := k % 8) (by omega)) (oa (ol rfl (Ty.le.refl _)) (oa (ol rfl (Ty.le.refl _)) (oa (ol rfl (Ty.le.refl _)) oa0)))) rfl ?_
  refine kM rfl rfl ?_
  refine kO (T_extract rfl rfl rfl) rfl ?_
  refine kO (T_extract rfl rfl rfl) rfl ?_
  refine kA rfl rfl ?_
  refine kA rfl rfl ?_
  refine kE ?_
  refine JS_seq ?_
  -- region 7
  refine sR ?_
  refine kM rfl rfl ?_
  refine kO (T_eq rfl rfl rfl) rfl ?_
  refine kM rfl rfl ?_
  refine tk_if (d := 44) rfl (fun g44 => ?_) (fun g44 => ?_)
  · refine kG (wTD g44 rfl rfl rfl) (T_move (.inl rfl) rfl) rfl ?_
    refine kG (wTD g44 rfl rfl rfl) (T_eq rfl rfl rfl) rfl ?_
    refine kO (T_pickD g44 rfl rfl rfl) rfl ?_
    refine kM rfl rfl ?_
    refine tk_if (d := 48) rfl (fun g48 => ?_) (fun g48 => ?_)
    · refine kG (wTD g48 rfl rfl rfl) (T_move (.inl rfl) rfl) rfl ?_
      refine kG (wTD g48 rfl rfl rfl) (T_move (.inl rfl) rfl) rfl ?_
      refine kG (wTD g48 rfl rfl rfl) (T_callL rfl en9 (w9 (by rw [List.length_map, lowK_len]; exact Nat.le_trans n1 (by decide)) (by rw [List.length_map, withinW_len]; omega)) (oa (ol rfl (Ty.le.refl _)) (oa (ol rfl (Ty.le.refl _)) oa0))) rfl ?_
      refine kO (T_pickD g48 rfl rfl rfl) rfl ?_
      refine kA rfl rfl ?_
      refine kE ?_
      exact JS_ret (JE_ret_one rfl rfl (.tmp rfl .nil) (bool_eq (decide_eq_true (by rw [hlw]))))
    · exact absurd rfl g48
  · exact absurd rfl g44

end Go.Proofs.YtknflgfkhkdomaaGreatDoor.Mono

/-! WlE -/
set_option linter.unusedVariables false
set_option linter.unusedSimpArgs false
set_option maxRecDepth 4000
set_option maxHeartbeats 4000000
namespace Go.Proofs.YtknflgfkhkdomaaGreatDoor.Mono
open Go Go.RowKit


open Go.ChangeShapes
/-! What comes in, as the contracts say it -/
def allH (W : World) : GH := fun k => W.heap[k]?
theorem sat_all (W : World) : Sat W (allH W) := fun k o h => h
section opens
variable {H : Type} {enc : TypeId × Value → H} {W : World}
theorem c5 : Tryz.prog.cellsOf 5 = 1 := by kernel_rfl
theorem c22 : Tryz.prog.cellsOf 22 = 1 := by kernel_rfl
theorem c67 : Tryz.prog.cellsOf 67 = 3 := by kernel_rfl
theorem c68 : Tryz.prog.cellsOf 68 = 2 := by kernel_rfl
theorem c70 : Tryz.prog.cellsOf 70 = 8 := by kernel_rfl
theorem c24 : Tryz.prog.cellsOf 24 = 5 := by kernel_rfl
theorem ct24 : Tryz.prog.cellTypes Tryz.prog.depth 24 = some [5, 5, 5, 5, 22] := by kernel_rfl
theorem u8_of {b : Nat} {sp : Nat → Bool} {hd : Bool} {fuel : Nat} {cs : List Value} {x : DataW H × List MemPlace} (h : DataW.trod enc Tryz.prog W b sp hd fuel 5 cs = some x) : ∃ n : Nat, cs = [.int .u8 (n : Int)] ∧ n < 256 := by
  obtain ⟨n, rfl, _, hw⟩ := DataW.trod_int Tryz.underlying5 h
  have hw' : (decide (IntKind.u8.min ≤ n) && decide (n ≤ IntKind.u8.max)) = true := hw
  simp only [Bool.and_eq_true, decide_eq_true_eq] at hw'
  have h0 : IntKind.u8.min = 0 := rfl
  have h1 : IntKind.u8.max = 255 := rfl
  rw [h0, h1] at hw'
  exact ⟨n.toNat, by rw [Int.toNat_of_nonneg hw'.1], by omega⟩
theorem arr3_of {b : Nat} {sp : Nat → Bool} {hd : Bool} {fuel : Nat} {cs : List Value} {x : DataW H × List MemPlace} (h : DataW.trod enc Tryz.prog W b sp hd fuel 67 cs = some x) : ∃ p q r : Nat, cs = [.int .u8 (p : Int), .int .u8 (q : Int), .int .u8 (r : Int)] ∧ p < 256 ∧ q < 256 ∧ r < 256 := by
  obtain ⟨xs, m, _, _, hl, hx, hf⟩ := DataW.trod_array Tryz.underlying67 h
  rw [c67] at hl
  simp only [c5] at hf
  match cs, hl, xs, hx with
  | [v0, v1, v2], _, [x0, x1, x2], _ =>
    have g0 : DataW.trod enc Tryz.prog W b sp hd m 5 [v0] = some x0 := hf 0 (by decide)
    have g1 : DataW.trod enc Tryz.prog W b sp hd m 5 [v1] = some x1 := hf 1 (by decide)
    have g2 : DataW.trod enc Tryz.prog W b sp hd m 5 [v2] = some x2 := hf 2 (by decide)
    obtain ⟨p, e0, l0⟩ := u8_of g0
    obtain ⟨q, e1, l1⟩ := u8_of g1
    obtain ⟨r, e2, l2⟩ := u8_of g2
    cases e0; cases e1; cases e2
    exact ⟨p, q, r, rfl, l0, l1, l2⟩
theorem arr2_of {b : Nat} {sp : Nat → Bool} {hd : Bool} {fuel : Nat} {cs : List Value} {x : DataW H × List MemPlace} (h : DataW.trod enc Tryz.prog W b sp hd fuel 68 cs = some x) : ∃ p q : Nat, cs = [.int .u8 (p : Int), .int .u8 (q : Int)] ∧ p < 256 ∧ q < 256 := by
  obtain ⟨xs, m, _, _, hl, hx, hf⟩ := DataW.trod_array Tryz.underlying68 h
  rw [c68] at hl
  simp only [c5] at hf
  match cs, hl, xs, hx with
  | [v0, v1], _, [x0, x1], _ =>
    have g0 : DataW.trod enc Tryz.prog W b sp hd m 5 [v0] = some x0 := hf 0 (by decide)
    have g1 : DataW.trod enc Tryz.prog W b sp hd m 5 [v1] = some x1 := hf 1 (by decide)
    obtain ⟨p, e0, l0⟩ := u8_of g0
    obtain ⟨q, e1, l1⟩ := u8_of g1
    cases e0; cases e1
    exact ⟨p, q, rfl, l0, l1⟩
theorem pick_of {b : Nat} {sp : Nat → Bool} {hd : Bool} {fuel : Nat} {cs : List Value} {x : DataW H × List MemPlace} (h : DataW.trod enc Tryz.prog W b sp hd fuel 70 cs = some x) : ∃ p : Pk, PkOk p ∧ ∀ m : GH, Kd.pk.K m p cs := by
  obtain ⟨xs, n, _, _, hl, hxl, hf⟩ := DataW.trod_struct Tryz.underlying70 h
  rw [c70] at hl
  match cs, hl, xs, hxl with
  | [v0, v1, v2, v3, v4, v5, v6, v7], _, [x0, x1, x2, x3, x4], _ =>
    have g0 : DataW.trod enc Tryz.prog W b sp hd n 5 (List.take (Tryz.prog.cellsOf 5) (List.drop 0 [v0, v1, v2, v3, v4, v5, v6, v7])) = some x0 := hf 0 _ rfl
    have g1 : DataW.trod enc Tryz.prog W b sp hd n 5 (List.take (Tryz.prog.cellsOf 5) (List.drop 1 [v0, v1, v2, v3, v4, v5, v6, v7])) = some x1 := hf 1 _ rfl
    have g2 : DataW.trod enc Tryz.prog W b sp hd n 5 (List.take (Tryz.prog.cellsOf 5) (List.drop 2 [v0, v1, v2, v3, v4, v5, v6, v7])) = some x2 := hf 2 _ rfl
    have g3 : DataW.trod enc Tryz.prog W b sp hd n 67 (List.take (Tryz.prog.cellsOf 67) (List.drop 3 [v0, v1, v2, v3, v4, v5, v6, v7])) = some x3 := hf 3 _ rfl
    have g4 : DataW.trod enc Tryz.prog W b sp hd n 68 (List.take (Tryz.prog.cellsOf 68) (List.drop 6 [v0, v1, v2, v3, v4, v5, v6, v7])) = some x4 := hf 4 _ rfl
    rw [c5] at g0 g1 g2
    rw [c67] at g3
    rw [c68] at g4
    have g0 : DataW.trod enc Tryz.prog W b sp hd n 5 [v0] = some x0 := g0
    have g1 : DataW.trod enc Tryz.prog W b sp hd n 5 [v1] = some x1 := g1
    have g2 : DataW.trod enc Tryz.prog W b sp hd n 5 [v2] = some x2 := g2
    have g3 : DataW.trod enc Tryz.prog W b sp hd n 67 [v3, v4, v5] = some x3 := g3
    have g4 : DataW.trod enc Tryz.prog W b sp hd n 68 [v6, v7] = some x4 := g4
    obtain ⟨a0, e0, l0⟩ := u8_of g0
    obtain ⟨a1, e1, l1⟩ := u8_of g1
    obtain ⟨a2, e2, l2⟩ := u8_of g2
    obtain ⟨t0, t1, t2, e3, m0, m1, m2⟩ := arr3_of g3
    obtain ⟨q0, q1, e4, k0, k1⟩ := arr2_of g4
    cases e0; cases e1; cases e2; cases e3; cases e4
    exact ⟨⟨a0, a1, a2, t0, t1, t2, q0, q1⟩, ⟨l0, l1, l2, m0, m1, m2, k0, k1⟩, fun m => ⟨[_], _, rfl, rfl, [_], _, rfl, rfl, [_], _, rfl, rfl, [_, _, _], _, rfl, ⟨rfl, [_], _, rfl, rfl, [_], _, rfl, rfl, [_], _, rfl, rfl, rfl⟩, [_, _], _, rfl, ⟨rfl, [_], _, rfl, rfl, [_], _, rfl, rfl, rfl⟩, rfl⟩⟩
theorem reps_chunks {α : Type} {m : GH} {d : Kd α} {k : Nat} : ∀ (xs : List α) (L : List Value), L.length = xs.length * k → (∀ (i : Nat) (h : i < xs.length), d.K m xs[i] ((L.drop (i * k)).take k)) → Reps m d xs L
  | [], L, hl, _ => by rw [List.length_nil, Nat.zero_mul] at hl; exact List.length_eq_zero_iff.1 hl
  | x :: xs, L, hl, h => by
    rw [List.length_cons, Nat.add_mul, Nat.one_mul] at hl
    refine ⟨L.take k, L.drop k, (List.take_append_drop k L).symm, ?_, reps_chunks (k := k) xs (L.drop k) (by rw [List.length_drop]; omega) (fun i hi => ?_)⟩
    · have := h 0 (by simp)
      rw [Nat.zero_mul, List.drop_zero] at this; exact this
    · have := h (i + 1) (by simpa using hi)
      rw [List.drop_drop]
      rw [show k + i * k = (i + 1) * k by rw [Nat.add_mul]; omega]
      exact this
theorem cell_row {w : World} {b o : Nat} {u : Value} (h : w.cell? ⟨b, o, none⟩ = some u) : ∃ cur t fr, w.heap[b]? = some (.cells cur t fr) ∧ cur[o]? = some u := by
  unfold World.cell? at h
  split at h
  · rename_i c e f he
    exact ⟨c, e, f, he, by simpa using h⟩
  · cases h
theorem picks_of {b : Nat} {sp : Nat → Bool} {hd : Bool} {fuel : Nat} {v : Value} {x : DataW H × List MemPlace} (hsp : ∀ k, sp k = true) (hok : Cell.okWide Tryz.prog W .any b 22 v) {b0 : Nat} (h : DataW.trod enc Tryz.prog W b0 sp hd fuel 22 [v] = some x) : ∃ ps : List Pk, (∀ p ∈ ps, PkOk p) ∧ (Kd.slice Kd.pk).K (allH W) ps [v] := by
  rcases Go.Deep.open_slice Tryz.underlying22 h with ⟨hv, _⟩ | ⟨a, len, cap, mm, n, D, Pl, hv, _, hl, hm, hmm, _, hx⟩
  · cases hv
    exact ⟨[], (fun p hp => by cases hp), _, rfl, none, 0, rfl, Nat.le_refl _, by unfold maxLen; omega, .inl rfl⟩
  · cases hv
    rw [hsp, if_pos rfl] at hmm
    subst hmm
    have hok' : W.has Tryz.prog .any b a 70 mm := by
      have := hok
      unfold Cell.okWide at this
      rw [Tryz.underlying22] at this
      simp only [Cell.ok, Tryz.underlying22] at this
      exact this.2.2
    obtain ⟨blk, off, spot⟩ := a
    obtain rfl : spot = none := hok'.2.1
    have each : ∀ i, ∃ p : Pk, i < len → PkOk p ∧ ∀ (m : GH) (j : Nat), j < 8 → ∃ cs' : List Value, cs'.length = 8 ∧ Kd.pk.K m p cs' ∧ ∀ j, j < 8 → W.cell? ⟨blk, off + (i * 8 + j), none⟩ = cs'[j]? := fun i => by
      by_cases hi : i < len
      · obtain ⟨cs', h1, h2⟩ := hx i (by omega)
        rw [c70] at h1
        obtain ⟨_, hlen, hcell⟩ := World.cells?_some h1
        obtain ⟨p, hp, hk⟩ := pick_of h2
        refine ⟨p, fun _ => ⟨hp, fun m _ _ => ⟨cs', hlen, hk m, fun j hj => ?_⟩⟩⟩
        rw [← hcell j hj]
        rw [add_none, add_none, Nat.add_assoc]
      · exact ⟨⟨0, 0, 0, 0, 0, 0, 0, 0⟩, fun h => absurd h hi⟩
    obtain ⟨f, hf⟩ := Classical.skolem.1 each
    refine ⟨(List.range len).map f, fun p hp => ?_, _, rfl, some ⟨blk, off, none⟩, mm, by simp, by simp; omega, by omega, ?_⟩
    · obtain ⟨i, hi, rfl⟩ := List.mem_map.1 hp
      exact (hf i (List.mem_range.1 hi)).1
    · by_cases h0 : len = 0
      · left; rw [h0]; rfl
      · right
        obtain ⟨cs0, hc0, _, hcell0⟩ := (hf 0 (by omega)).2 (allH W) 0 (by decide)
        have e0 := hcell0 0 (by decide)
        rw [List.getElem?_eq_getElem (by omega)] at e0
        obtain ⟨cur, t, fr, hh, _⟩ := cell_row e0
        have at_ : ∀ i j, i < len → j < 8 → ∀ cs' : List Value, (∀ j, j < 8 → W.cell? ⟨blk, off + (i * 8 + j), none⟩ = cs'[j]?) → cs'.length = 8 → cur[off + (i * 8 + j)]? = cs'[j]? := fun i j hi hj cs' hc hl => by
          have e := hc j hj
          rw [List.getElem?_eq_getElem (by omega)] at e ⊢
          obtain ⟨cur2, t2, fr2, hh2, hc2⟩ := cell_row e
          rw [hh] at hh2
          cases hh2
          exact hc2
        have hsz : off + len * 8 ≤ cur.toList.length := by
          obtain ⟨cs1, hc1, _, hcell1⟩ := (hf (len - 1) (by omega)).2 (allH W) 0 (by decide)
          have e1 := at_ (len - 1) 7 (by omega) (by decide) cs1 hcell1 hc1
          rw [List.getElem?_eq_getElem (by omega)] at e1
          have := (Array.getElem?_eq_some_iff.1 e1).1
          rw [Array.length_toList]
          omega
        refine ⟨blk, off, (cur.toList.drop off).take (len * 8), rfl, ⟨cur, t, fr, cur.toList.take off, cur.toList.drop (off + len * 8), hh, ?_, by rw [List.length_take]; omega⟩, reps_chunks (k := 8) _ _ (by rw [List.length_take, List.length_drop, List.length_map, List.length_range]; omega) (fun i hi => ?_)⟩
        · rw [List.append_assoc, ← List.drop_drop, List.take_append_drop, List.take_append_drop]
        · rw [List.length_map, List.length_range] at hi
          obtain ⟨cs1, hc1, hk1, hcell1⟩ := (hf i hi).2 (allH W) 0 (by decide)
          have e : ((((cur.toList.drop off).take (len * 8)).drop (i * 8)).take 8) = cs1 := by
            refine List.ext_getElem? (fun j => ?_)
            by_cases hj : j < 8
            · rw [List.getElem?_take_of_lt hj, List.getElem?_drop, List.getElem?_take_of_lt (by omega), List.getElem?_drop, ← at_ i j hi hj cs1 hcell1 hc1, Array.getElem?_toList]
            · rw [List.getElem?_eq_none (by rw [List.length_take]; omega), List.getElem?_eq_none (by omega)]
          rw [e]
          simpa using hk1
theorem draft_of {v : Value} {d : DataW H} {ps : List MemPlace} {base : Nat} (hv : Value.okWide Tryz.prog W .any base 24 v) (h : DataW.Trod enc Tryz.prog W 0 (fun _ => true) true 24 v d ps) : ∃ dr : Dr, DrOk dr ∧ (Ty.of Kd.dr dr).p (allH W) v := by
  unfold Value.okWide at hv
  rw [Tryz.underlying24] at hv
  obtain ⟨cs, rfl, hsz, ts, hts, _, hall⟩ := hv
  rw [ct24] at hts
  cases hts
  obtain ⟨fuel, hf0⟩ := h
  have hf0 : DataW.trod enc Tryz.prog W 0 (fun _ => true) true fuel 24 cs.toList = some (d, ps) := hf0
  obtain ⟨xs, n, _, _, hl, hxl, hf⟩ := DataW.trod_struct Tryz.underlying24 hf0
  rw [c24] at hl
  obtain ⟨L, hL⟩ : ∃ L, L = cs.toList := ⟨_, rfl⟩
  rw [← hL] at hl hf
  match L, hl, xs, hxl, hL with
  | [v0, v1, v2, v3, v4], _, [x0, x1, x2, x3, x4], _, hL =>
    have g0 : DataW.trod enc Tryz.prog W 0 (fun _ => true) true n 5 (List.take (Tryz.prog.cellsOf 5) (List.drop 0 [v0, v1, v2, v3, v4])) = some x0 := hf 0 _ rfl
    have g1 : DataW.trod enc Tryz.prog W 0 (fun _ => true) true n 5 (List.take (Tryz.prog.cellsOf 5) (List.drop 1 [v0, v1, v2, v3, v4])) = some x1 := hf 1 _ rfl
    have g2 : DataW.trod enc Tryz.prog W 0 (fun _ => true) true n 5 (List.take (Tryz.prog.cellsOf 5) (List.drop 2 [v0, v1, v2, v3, v4])) = some x2 := hf 2 _ rfl
    have g3 : DataW.trod enc Tryz.prog W 0 (fun _ => true) true n 5 (List.take (Tryz.prog.cellsOf 5) (List.drop 3 [v0, v1, v2, v3, v4])) = some x3 := hf 3 _ rfl
    have g4 : DataW.trod enc Tryz.prog W 0 (fun _ => true) true n 22 (List.take (Tryz.prog.cellsOf 22) (List.drop 4 [v0, v1, v2, v3, v4])) = some x4 := hf 4 _ rfl
    rw [c5] at g0 g1 g2 g3
    rw [c22] at g4
    have g0 : DataW.trod enc Tryz.prog W 0 (fun _ => true) true n 5 [v0] = some x0 := g0
    have g1 : DataW.trod enc Tryz.prog W 0 (fun _ => true) true n 5 [v1] = some x1 := g1
    have g2 : DataW.trod enc Tryz.prog W 0 (fun _ => true) true n 5 [v2] = some x2 := g2
    have g3 : DataW.trod enc Tryz.prog W 0 (fun _ => true) true n 5 [v3] = some x3 := g3
    have g4 : DataW.trod enc Tryz.prog W 0 (fun _ => true) true n 22 [v4] = some x4 := g4
    have hcs : cs = #[v0, v1, v2, v3, v4] := by rw [← Array.toArray_toList (xs := cs), ← hL]
    obtain ⟨u, hu, hok⟩ := hall 4 v4 (by rw [hcs]; rfl)
    obtain rfl : 22 = u := Option.some.inj hu
    obtain ⟨a0, e0, l0⟩ := u8_of g0
    obtain ⟨a1, e1, l1⟩ := u8_of g1
    obtain ⟨a2, e2, l2⟩ := u8_of g2
    obtain ⟨a3, e3, l3⟩ := u8_of g3
    obtain ⟨pl, hp, hk⟩ := picks_of (fun _ => rfl) hok g4
    cases e0; cases e1; cases e2; cases e3
    exact ⟨⟨a0, a1, a2, a3, pl⟩, ⟨l0, l1, l2, l3, hp⟩, _, ⟨[_], _, rfl, rfl, [_], _, rfl, rfl, [_], _, rfl, rfl, [_], _, rfl, rfl, [_], _, rfl, hk, rfl⟩, by rw [hcs]; rfl⟩
end opens


end Go.Proofs.YtknflgfkhkdomaaGreatDoor.Mono

/-! WlF -/
set_option linter.unusedVariables false
set_option linter.unusedSimpArgs false
set_option maxRecDepth 4000
set_option maxHeartbeats 4000000
namespace Go.Proofs.YtknflgfkhkdomaaGreatDoor.Mono
open Go Go.RowKit


open Go.ChangeShapes
theorem ownK : ownKnob Tryz.prog.godebug = none := by kernel_rfl
theorem laidOutT : laidOutB Tryz.prog = true := by kernel_rfl
theorem gMax : Tryz.prog.globalNamed "internal/bytealg.MaxLen" = some 0 := by kernel_rfl
theorem gPow : Tryz.prog.globalNamed "internal/strconv.uint64pow10" = some 1 := by kernel_rfl
theorem rowMax : ((begin Tryz.prog (fun _ _ => 0) default).world.heap[0]?).bind Obj.row? = some (#[.int .i64 0], 3) := by kernel_rfl
theorem ctInt : Tryz.prog.cellTypes Tryz.prog.depth 3 = some [3] := by kernel_rfl
def pows : List Int := (List.range 20).map fun i => ((10 ^ i : Nat) : Int)
theorem laidPow : Rows.sandwichStepsRow.laid.filter (fun x => x.1 == "internal/strconv.uint64pow10") = [("internal/strconv.uint64pow10", Lib.tabData .u64 pows)] := by kernel_rfl
theorem ctx_of {W : World} (hsh : W.ShapedOpen Tryz.prog) (hL : laidMetH Tryz.prog Rows.sandwichStepsRow.laid W) : CC.G (allH W) := by
  refine ⟨?_, ?_⟩
  · obtain ⟨cs, hh, hs, hr⟩ := hsh.1 0 _ _ (of_decide_eq_true (by kernel_rfl)) rowMax
    obtain ⟨ts, hts, _, hall⟩ := hr (by kernel_rfl)
    rw [ctInt] at hts
    cases hts
    have hs1 : cs.size = 1 := hs
    obtain ⟨v, hv⟩ : ∃ v, cs = #[v] := ⟨cs[0], by
      refine Array.ext (by simp [hs1]) (fun i h1 h2 => ?_)
      have : i = 0 := by omega
      subst this; rfl⟩
    obtain ⟨u, hu, hok⟩ := hall 0 v (by rw [hv]; rfl)
    obtain rfl : 3 = u := Option.some.inj hu
    unfold Cell.ok at hok
    rw [Tryz.underlying3] at hok
    cases v with
    | int k n =>
      simp only at hok
      obtain ⟨rfl, _⟩ := hok
      exact ⟨_, hh, n, _, _, by rw [hv]⟩
    | _ => exact hok.elim
  · have h3 := laidMetH.filter (fun x => x.1 == "internal/strconv.uint64pow10") hL
    rw [laidPow, MakeChecks.laidMetH_plain _ _ _ (by kernel_rfl)] at h3
    have ht := Lib.tabIs_of_head gPow (t := 223) (by kernel_rfl) Tryz.underlying223 Tryz.underlying32 (by kernel_rfl) (by kernel_rfl) h3
    unfold Lib.TabIs World.var? at ht
    rw [gPow] at ht
    simp only [Option.bind_some] at ht
    split at ht
    · rename_i cs t fr he
      cases ht
      exact ⟨_, he, t, fr, rfl⟩
    · cases ht
/-- The form's wrap, with the world's shape and what is laid. -/
theorem returns_shaped {H : Type} {enc : TypeId × Value → H} {a : Assume} {C : Checked} {os : Os} {f : FuncId} {fn : Func} {s : ChangeSpec} {conds : List PathCond} {apart fresh handsOn again : Bool} {X : World → Array Value → Prop}
    (hX : ∀ (w w' : World) (args : Array Value), w.heap = w'.heap → X w args → X w' args)
    (own : ownKnob C.prog.godebug = none) (started : os.Started) (noInit : C.prog.inits.idxOf? f = none) (hfn : C.prog.funcs[f]? = some fn)
    (witness : ∃ (w : World) (tape : Tape) (i : Input), w.os = os ∧ (w.forCall tape i).Shaped C.prog ∧ i.vars = [] ∧ Input.okWide C.prog (w.forCall tape i) .any w.heap.size f i ∧
      ((s.pre enc C.prog fn conds apart (w.forCall tape i).memory i.args ∧ X (w.forCall tape i).memory i.args) ∧ sizedMet enc C.prog fn (OpenSpec.ofChange s) apart (w.forCall tape i).memory i.args) ∧ a.holds C.prog (lone (Frame.enter C.prog f i.args .normal) [] (w.forCall tape i)))
    (contract : ∀ (W : World) (base : Nat) (args : Array Value) (ds gs : List (DataW H)) (before : List MemPlace),
      (∀ (j : Nat) t v, fn.params[j]? = some t → args[j]? = some v → Value.okWide C.prog W .any base t v) →
      DataW.Whole enc C.prog fn.params.toList s.vars apart W args.toList ds gs before → X W args → W.ShapedOpen C.prog →
      Calls C.prog f args W fun e W' => ∃ v, e = .returned v ∧ s.post enc C.prog fn apart fresh handsOn again W args v W') :
    ReturnsInHanded a C os f .any (fun w args => (s.pre enc C.prog fn conds apart w args ∧ X w args) ∧ sizedMet enc C.prog fn (OpenSpec.ofChange s) apart w args) (s.post enc C.prog fn apart fresh handsOn again) := by
  refine returnsInHanded_of_calls own started noInit witness ?_
  intro w tape i _ hsh _ hok hpre _
  obtain ⟨_, _, _, fn', hfn', _, _, _, _, hval⟩ := hok
  have e : fn' = fn := Option.some.inj (hfn'.symm.trans hfn)
  subst e
  obtain ⟨⟨⟨ds, gs, before, hw, hc⟩, hx⟩, hz⟩ := hpre
  have hw' := DataW.Whole.of_heap (w' := w.forCall tape i) (by rfl) hw
  refine (contract (w.forCall tape i) w.heap.size i.args ds gs before hval hw' (hX _ _ _ (by rfl) hx) hsh).mono fun e W' ⟨v, he, hp⟩ => ?_
  subst he
  exact ChangeSpec.post_blind hp
theorem door_met (os : Os) (args : Array Value) : laidMetH Tryz.prog Rows.sandwichStepsRow.laid ((World.doorLaid Tryz.prog 62 os).forCall (fun _ _ => 0) ⟨#[], args, []⟩).memory :=
  laidMetH_of_parts3 (fuel := 8) (laidMet_of_run' 8 (by kernel_rfl) (by kernel_rfl)) (by kernel_rfl) (by kernel_rfl)
set_option maxRecDepth 100000 in
theorem law_lifted (os : Os) (started : os.Started) (H : Type) (enc : TypeId × Value → H) :
    ReturnsInHanded {} Tryz.checked os 3 .any (fun w args => (Rows.sandwichStepsSpec.pre enc Tryz.prog Tryz.f3 [] false w args ∧ laidMetH Tryz.prog Rows.sandwichStepsRow.laid w) ∧ sizedMet enc Tryz.prog Tryz.f3 (OpenSpec.ofChange Rows.sandwichStepsSpec) false w args)
      (Rows.sandwichStepsSpec.post enc Tryz.prog Tryz.f3 false true false false) := by
  refine returns_shaped (C := Tryz.checked) (X := fun w _ => laidMetH Tryz.prog Rows.sandwichStepsRow.laid w) (fun _ _ _ hh h => h.of_heap hh) ownK started (by kernel_rfl) Tryz.func3
    (ChangeSpec.witness_shaped (enc := enc) (C := Tryz.checked) (os := os) (X := fun w _ => laidMetH Tryz.prog Rows.sandwichStepsRow.laid w) false (World.doorLaid Tryz.prog 62 os) #[.agg #[.int .u8 0, .int .u8 0, .int .u8 0, .int .u8 0, .slice none 0 0], .int .u16 0, .int .u8 0] 8 rfl (World.shaped_of_RefB (by kernel_rfl) (by kernel_rfl)) (by kernel_rfl) (by kernel_rfl) (by kernel_rfl) (door_met os _)) ?_
  intro W base args ds gs before hval0 hW hL hsh
  have hval : ∀ (j : Nat) t v, Tryz.f3.params[j]? = some t → args[j]? = some v → Value.okWide Tryz.prog W .any base t v := hval0
  have hW' := hW
  have hlt : ∀ x ∈ before, x.block < W.heap.size := fun x hx => hW'.lt x hx
  obtain ⟨p, q, hA0, hV0, rfl, hfz, hnd⟩ := hW
  have hA : DataW.TrodAll enc Tryz.prog W 0 (fun _ => true) true Tryz.f3.params.toList args.toList ds p := hA0
  rw [Tryz.params3] at hA hval
  obtain ⟨v0, v1, v2, d0, d1, d2, p0, p1, p2, rfl, rfl, rfl, h0, h1, h2⟩ := trodAll_three hA
  obtain ⟨rfl, rfl⟩ := trodVars_none hV0
  obtain ⟨b, rfl, rfl, rfl, wb⟩ := open_int Tryz.underlying25 (hval 1 25 v1 rfl rfl) h1
  obtain ⟨c, rfl, rfl, rfl, wc⟩ := open_int Tryz.underlying5 (hval 2 5 v2 rfl rfl) h2
  obtain ⟨dr, hdr, hty⟩ := draft_of (hval 0 24 v0 rfl rfl) h0
  have wb' : (decide (IntKind.u16.min ≤ b) && decide (b ≤ IntKind.u16.max)) = true := wb
  have wc' : (decide (IntKind.u8.min ≤ c) && decide (c ≤ IntKind.u8.max)) = true := wc
  simp only [Bool.and_eq_true, decide_eq_true_eq] at wb' wc'
  rw [show IntKind.u16.min = 0 from rfl, show IntKind.u16.max = 65535 from rfl] at wb'
  rw [show IntKind.u8.min = 0 from rfl, show IntKind.u8.max = 255 from rfl] at wc'
  have call := w3 (d := dr) (bits := b.toNat) (k := c.toNat) hdr (by omega) (by omega) (allH W) W #[v0, .int .u16 b, .int .u8 c] (sat_all W) (ctx_of hsh hL)
    ⟨hty, by show Value.int .u16 b = Value.int .u16 _; rw [Int.toNat_of_nonneg wb'.1], by show Value.int .u8 c = Value.int .u8 _; rw [Int.toNat_of_nonneg wc'.1], trivial⟩
  refine Calls.mono call ?_
  rintro e W' ⟨v, m', rfl, hx, _, hv⟩
  obtain rfl : v = .bool true := hv
  have bel : Below W.heap.size W W' := ⟨hx.os, hx.tape, hx.out, hx.size, fun k hk => hx.same k hk (by simp)⟩
  refine ⟨_, rfl, _, _, _, [], p0 ++ ([] ++ []), [], hW', ?_, ?_, ?_, bel.frame _, fun h => by cases h⟩
  · exact trodAll_mk1 (shut_bool Tryz.underlying4 true)
  · exact trodAll_mk3 (Below.trod laidOutT (by kernel_rfl) (of_decide_eq_true (by kernel_rfl)) h0 bel (fun x hx => hlt x (by simp [hx]))) (shut_int Tryz.underlying25 wb) (shut_int Tryz.underlying5 wc)
  · rfl
theorem law_holds : Rows.SandwichStepsSaid :=
  OpenClaim.holds_of_wide 3 Tryz.f3 rfl rfl rfl rfl rfl rfl rfl ⟨rfl, rfl, rfl, rfl, rfl⟩ rfl rfl rfl rfl rfl (by kernel_rfl) Tryz.func3 (by kernel_rfl)
    (of_decide_eq_true (by kernel_rfl)) (by unfold Func.isWrapper; rw [if_neg (of_decide_eq_false (by kernel_rfl))]; exact ⟨rfl, rfl⟩)
    (fun os started H enc _ => law_lifted os started H enc)


end Go.Proofs.YtknflgfkhkdomaaGreatDoor.Mono

/-! WlG -/
set_option linter.unusedVariables false
set_option linter.unusedSimpArgs false
set_option maxRecDepth 4000
set_option maxHeartbeats 4000000
namespace Go.Proofs.YtknflgfkhkdomaaGreatDoor.Mono
open Go Go.RowKit

theorem card_holds : Rows.SandwichStepsCardSaid :=
  Claim7.holds_tied_plain_at .later [] [.data, .data, .data, .sentinel, .sentinel] true (true, "b996595ae78ac4bb5a9cb240bbfa74248480c32d19bd0ed046c29046e392a09e") true
    law_holds (fun _ h => by cases h) (by kernel_rfl) (fun _ h => by cases h) sandwichSteps_row_tie rfl ⟨rfl, rfl⟩ (by kernel_rfl) rfl
    (fun f fn hf hfn => by
      obtain rfl : f = 3 := Option.some.inj ((show Tryz.prog.funcNamed "croupier/croupierlaw22.SandwichSteps" = some 3 by kernel_rfl).symm.trans hf) |>.symm
      obtain rfl : fn = Tryz.f3 := (Option.some.inj (Tryz.func3.symm.trans hfn)).symm
      exact ⟨by kernel_rfl, fun j t ht => by
        rw [Tryz.params3] at ht
        match j, ht with
        | 0, ht => cases ht; exact (show Tryz.prog.wantsStandIn 24 = false by kernel_rfl)
        | 1, ht => cases ht; exact (show Tryz.prog.wantsStandIn 25 = false by kernel_rfl)
        | 2, ht => cases ht; exact (show Tryz.prog.wantsStandIn 5 = false by kernel_rfl)
        | j + 3, ht => simp at ht⟩)
    (by kernel_rfl)
#print axioms card_holds

end Go.Proofs.YtknflgfkhkdomaaGreatDoor.Mono
