/- croupierlaw22.SandwichSteps returns true for every input. (part 7 of 8.) Conditions: none beyond the given row. -/
import Derived.Test.YtknflgfkhkdomaaGreatDoorLaw6
/-! WkW -/
set_option linter.unusedVariables false
set_option linter.unusedSimpArgs false
set_option maxRecDepth 4000
set_option maxHeartbeats 4000000
namespace Go.Proofs.YtknflgfkhkdomaaGreatDoor.Mono
open Go Go.RowKit

theorem stay_step {c : Ch} {x i : Nat} (hi : i < c.next.length) (h : ∀ j (hj : j < c.next.length), j < i → x.testBit c.next[j].to = true) (hb : x.testBit c.next[i].to = true) : ∀ j (hj : j < c.next.length), j < i + 1 → x.testBit c.next[j].to = true := fun j hj hlt => by
  rcases Nat.lt_or_ge j i with h1 | h1
  · exact h j hj h1
  · obtain rfl : j = i := by omega
    exact hb
theorem stay_no {c : Ch} {x i : Nat} (hi : i < c.next.length) (hb : x.testBit c.next[i].to = false) : false = staysB c x := by
  symm; unfold staysB; rw [List.all_eq_false]
  exact ⟨_, List.getElem_mem hi, by rw [hb]; decide⟩
theorem stay_yes {c : Ch} {x : Nat} (h : ∀ j (hj : j < c.next.length), x.testBit c.next[j].to = true) : true = staysB c x := by
  symm; unfold staysB; rw [List.all_eq_true]
  intro b hb
  obtain ⟨j, hj, rfl⟩ := List.getElem_of_mem hb
  exact h j hj
def stayK (M : Mo) (s x i : Nat) : Nat := (((M.choices.getD s []).take i).filter (fun c => staysB c x)).length
theorem stayK_step {M : Mo} {s x i : Nat} {L : List Ch} {c : Ch} (hL : L = M.choices.getD s []) (hi : i < L.length) (hc : c = L[i]) : (stayK M s x (i + 1) : Int) = if staysB c x = true then (stayK M s x i : Int) + 1 else stayK M s x i := by
  unfold stayK
  rw [← hL, List.take_succ_eq_append_getElem hi, List.filter_append, List.length_append, ← hc]
  by_cases h : staysB c x = true
  · rw [if_pos h]; simp [h]
  · rw [if_neg h]; simp [h]
theorem stayK_end {M : Mo} {s x i : Nat} (h : i = (M.choices.getD s []).length) : stayK M s x i = stayN M s x := by subst h; unfold stayK stayN; rw [List.take_length]
theorem stayK_le (M : Mo) (s x i : Nat) : stayK M s x i ≤ i := Nat.le_trans (List.length_filter_le _ _) (by rw [List.length_take]; exact Nat.min_le_left _ _)

theorem w66 {c : Ch} {x : Nat} (hc : ∀ b ∈ c.next, b.to < 12) (hx : x < 18446744073709551616) : Spec CC 66 [Ty.of Kd.ch c, Ty.val (.int .u64 (x : Int))] (Ty.val (.bool (staysB c x))) := by
  refine spec_of_JS Tryz.func66 rfl (Nat.le_of_ble_eq_true rfl) (fun gh0 wd0 => ?_)
  refine JS_seq ?_
  -- region 0
  refine sR ?_
  refine kO (T_box rfl (ol rfl (Ty.le.refl _))) rfl ?_
  refine kA rfl rfl ?_
  refine kE ?_
  refine JS_seq ?_
  refine JS_seq ?_
  -- region 1
  refine sR ?_
  refine kO (T_fieldAddr rfl fa60_2 (st_sub (i := 2) rfl rfl) rfl) rfl ?_
  refine kO (T_ld rfl rfl ti58) rfl ?_
  refine kO (T_len_slice rfl rfl u58 rfl) rfl ?_
  refine kM rfl rfl ?_
  refine kE ?_
  refine JS_block ?_
  refine JS_bound (s := 8) rfl (fun b8 => ?_)
  unfold maxLen at b8
  refine sLoop1 (fun (i : Nat) => [(10, Ty.val (.int .i64 (i : Int)))]) [1, 8, 9] (fun (i : Nat) => []) (fun (i : Nat) => i ≤ c.next.length ∧ ∀ j (hj : j < c.next.length), j < i → x.testBit c.next[j].to = true) (fun (i : Nat) => c.next.length - i) 0 (⟨Nat.zero_le _, fun j _ h => absurd h (by omega)⟩) rfl (EnvSub.consLe rfl (int_eq (rfl)) (EnvSub.nil _)) (fun i (hI : i ≤ c.next.length ∧ ∀ j (hj : j < c.next.length), j < i → x.testBit c.next[j].to = true) => ?_)
  obtain ⟨hI1, hI2⟩ := hI
  refine JS_seq ?_
  -- region 2
  refine sR ?_
  refine kO (T_lt rfl rfl rfl) rfl ?_
  refine kE ?_
  refine JS_seq ?_
  refine JS_if rfl (fun c11 => ?_) (fun c11 => ?_)
  · have hi1 : i < c.next.length := by omega
    have hb := hc _ (List.getElem_mem hi1)
    have et := toNat_get (l := c.next) (i := i) (by omega)
    have hbt : ((c.next[((i : Int)).toNat]'(by omega)).to : Int).toNat = c.next[i].to := by rw [et]; rfl
    refine JS_skip ?_
    refine JS_seq ?_
    refine JS_block ?_
    refine JS_seq ?_
    -- region 3
    refine sR ?_
    refine kO (T_ix rfl rfl rfl u58 ti62 (by omega) (by omega) rfl) rfl ?_
    refine kO (T_ld rfl rfl ti62) rfl ?_
    refine kT ?_
    refine JT_alloc (S0 := Seg.cat [Seg.of (Kd.int .i64) 0, Seg.of Kd.str []]) rfl rfl rfl rfl z62 h0_62 (fun g6 => ?_)
    refine JT_store (i := 0) rfl rfl rfl rfl rfl (ol rfl (Ty.le.refl _)) (Upd.self _ _ rfl) sz62 ?_
    refine JT_done ?_
    refine JS_seq ?_
    -- region 4
    refine sR ?_
    refine kM rfl rfl ?_
    refine kO (T_fieldAddr_ptr rfl fa62_0 rfl rfl) rfl ?_
    refine kO (T_load_own_int (i := 0) rfl rfl rfl (st_sub (i := 0) rfl rfl) ti3) rfl ?_
    refine kO (T_shr rfl rfl rfl (by omega) (shr_u64 (by omega) (by rw [et]; omega))) rfl ?_
    refine kO (T_bits rfl (.inl rfl) rfl rfl (and1_u64 (Nat.lt_of_le_of_lt (Nat.shiftRight_le _ _) (by omega)))) rfl ?_
    refine kO (T_eq rfl rfl rfl) rfl ?_
    refine kE ?_
    refine JS_if rfl (fun c19 => ?_) (fun c19 => ?_)
    · rw [hbt] at c19
      refine JS_seq ?_
      -- region 5
      refine sR ?_
      refine kA rfl rfl ?_
      refine kE ?_
      exact JS_ret (JE_inB_ret (JE_loop_ret (JE_inB_ret (JE_ret_one rfl rfl (.tmp rfl .nil) ((bool_eq (stay_no hi1 (bit_off (n := c.next[i].to) c19))))))))
    · rw [hbt] at c19
      refine JS_skip ?_
      refine JS_end_inB ?_
      -- region 6
      refine sR ?_
      refine kO (T_add rfl rfl rfl (wrap_i64 (by omega) (by omega))) rfl ?_
      refine kM rfl rfl ?_
      refine kE ?_
      refine JS_drop 0 ?_
      exact JS_round (i + 1) (⟨by omega, stay_step hi1 hI2 (bit_non (n := c.next[i].to) c19)⟩) (by omega) rfl (EnvSub.consLe rfl (int_eq (rfl)) (EnvSub.pick1 rfl (EnvSub.pick1 rfl (EnvSub.pick1 rfl (EnvSub.nil _)))))
  · refine JS_exit (JE_loop_exit (JE_inB_here ?_))
    refine JS_seq ?_
    -- region 7
    refine sR ?_
    refine kA rfl rfl ?_
    refine kE ?_
    exact JS_ret (JE_ret_one rfl rfl (.tmp rfl .nil) ((bool_eq (stay_yes (fun j hj => hI2 j hj (by omega))))))

theorem fa76_0 : FieldAt Tryz.prog 76 0 0 := by unfold FieldAt; kernel_rfl

theorem m29 {M : Mo} {g T Z : Nat} {most : Bool} {B : List Nat} (h12 : M.owner.length ≤ 12) : SpecM CC 29 [Ty.val (ptr g 0)] [Res.box g 76 (Seg.cat [Seg.of Kd.mo M, Seg.of (Kd.nat .u64) T, Seg.of Kd.bool most, Seg.of (Kd.nat .u64) Z, Seg.of (Kd.slice (Kd.nat .u64)) B])] (Y := Unit) (fun _ => Ty.val (.int .u64 ((2 ^ M.owner.length - 1 : Nat) : Int))) (fun _ => [Res.box g 76 (Seg.cat [Seg.of Kd.mo M, Seg.of (Kd.nat .u64) T, Seg.of Kd.bool most, Seg.of (Kd.nat .u64) Z, Seg.of (Kd.slice (Kd.nat .u64)) B])]) := by
  refine specM_of_JS Tryz.func29 rfl (Nat.le_of_ble_eq_true rfl) (fun gh0 wd0 => ?_)
  have hp : 2 ^ M.owner.length ≤ 2 ^ 12 := Nat.pow_le_pow_right (by decide) h12
  rw [show (2 : Nat) ^ 12 = 4096 by decide] at hp
  have e1 : (2 ^ ((M.owner.length : Int)).toNat : Nat) = 2 ^ M.owner.length := rfl
  have h1p : 1 ≤ 2 ^ M.owner.length := Nat.one_le_two_pow
  refine JS_seq ?_
  -- region 0
  refine sR ?_
  refine kA rfl rfl ?_
  refine kE ?_
  refine JS_seq ?_
  -- region 1
  refine sR ?_
  refine kM rfl rfl ?_
  refine kO (T_nilCheckO rfl rfl) rfl ?_
  refine kO (T_fieldAddr_ptr rfl fa76_0 rfl rfl) rfl ?_
  refine kO (T_fieldAddr_ptr rfl fa30_0 rfl rfl) rfl ?_
  refine kO (T_load_own (i := 0) rfl rfl rfl (Sub.in_ (sc (i := 0) rfl rfl) (st_sub (i := 0) rfl rfl)) ti27) rfl ?_
  refine kO (T_len_slice rfl rfl u27 rfl) rfl ?_
  refine kO (T_shl rfl rfl rfl (by omega) (shl1_u64 (by omega) (by omega))) rfl ?_
  refine kO (T_subI rfl rfl rfl ((wrap_u64 (by rw [e1]; omega) (by rw [e1]; omega)).trans (show _ = ((2 ^ M.owner.length - 1 : Nat) : Int) by rw [e1]; omega))) rfl ?_
  refine kA rfl rfl ?_
  refine kE ?_
  exact JS_ret (JE_retM1 () rfl rfl (.tmp rfl .nil) (int_eq (rfl)) rfl rfl rfl)

theorem en66 : Enters Tryz.prog 66 := enters_fn Tryz.func66 (by kernel_rfl) rfl

theorem m43 {M : Mo} {g T Z : Nat} {most : Bool} {B : List Nat} {s x : Nat} (hM : Low M) (hs : s < M.choices.length) (hx : x < 4096) : SpecM CC 43 [Ty.val (ptr g 0), Ty.val (.int .i64 (s : Int)), Ty.val (.int .u64 (x : Int))] [Res.box g 76 (Seg.cat [Seg.of Kd.mo M, Seg.of (Kd.nat .u64) T, Seg.of Kd.bool most, Seg.of (Kd.nat .u64) Z, Seg.of (Kd.slice (Kd.nat .u64)) B])] (Y := Unit) (fun _ => Ty.val (.int .i64 (stayN M s x : Int))) (fun _ => [Res.box g 76 (Seg.cat [Seg.of Kd.mo M, Seg.of (Kd.nat .u64) T, Seg.of Kd.bool most, Seg.of (Kd.nat .u64) Z, Seg.of (Kd.slice (Kd.nat .u64)) B])]) := by
  refine specM_of_JS Tryz.func43 rfl (Nat.le_of_ble_eq_true rfl) (fun gh0 wd0 => ?_)
  have hg := getD_choices hs
  have hgl : (M.choices[((s : Int)).toNat]'(by omega)) = M.choices.getD s [] := by rw [hg]; exact toNat_get _
  have hml : (M.choices[((s : Int)).toNat]'(by omega)) ∈ M.choices := List.getElem_mem _
  have hle := fun i => stayK_le M s x i
  refine JS_seq ?_
  -- region 0
  refine sR ?_
  refine kA rfl rfl ?_
  refine kE ?_
  refine JS_seq ?_
  -- region 1
  refine sR ?_
  refine kA rfl rfl ?_
  refine kE ?_
  refine JS_seq ?_
  refine JS_seq ?_
  -- region 2
  refine sR ?_
  refine kM rfl rfl ?_
  refine kO (T_nilCheckO rfl rfl) rfl ?_
  refine kO (T_fieldAddr_ptr rfl fa76_0 rfl rfl) rfl ?_
  refine kO (T_fieldAddr_ptr rfl fa30_1 rfl rfl) rfl ?_
  refine kO (T_load_own (i := 0) rfl rfl rfl (Sub.in_ (sc (i := 0) rfl rfl) (st_sub (i := 1) rfl rfl)) ti28) rfl ?_
  refine kM rfl rfl ?_
  refine kO (T_ix rfl rfl rfl u28 ti65 (by omega) (by omega) rfl) rfl ?_
  refine kO (T_ld rfl rfl ti65) rfl ?_
  refine kO (T_len_slice rfl rfl u65 rfl) rfl ?_
  refine kM rfl rfl ?_
  refine kE ?_
  refine JS_block ?_
  refine JS_bound (s := 17) rfl (fun b17 => ?_)
  unfold maxLen at b17
  refine sLoop1 (fun (i : Nat) => [(19, Ty.val (.int .i64 (i : Int))), (7, Ty.val (.int .i64 (stayK M s x i : Int)))]) [2, 17, 18] (fun (i : Nat) => [(0, Res.box g 76 (Seg.cat [Seg.of Kd.mo M, Seg.of (Kd.nat .u64) T, Seg.of Kd.bool most, Seg.of (Kd.nat .u64) Z, Seg.of (Kd.slice (Kd.nat .u64)) B]))]) (fun (i : Nat) => i ≤ (M.choices[((s : Int)).toNat]'(by omega)).length) (fun (i : Nat) => (M.choices[((s : Int)).toNat]'(by omega)).length - i) 0 (Nat.zero_le _) rfl (EnvSub.consLe rfl (int_eq (rfl)) (EnvSub.consLe rfl (int_eq (rfl)) (EnvSub.nil _))) (fun i (hI : i ≤ (M.choices[((s : Int)).toNat]'(by omega)).length) => ?_)
  refine JS_seq ?_
  -- region 3
  refine sR ?_
  refine kO (T_lt rfl rfl rfl) rfl ?_
  refine kE ?_
  refine JS_seq ?_
  refine JS_if rfl (fun c20 => ?_) (fun c20 => ?_)
  · have hlk := hle i
    refine JS_skip ?_
    refine JS_seq ?_
    refine JS_block ?_
    refine JS_seq ?_
    -- region 4
    refine sR ?_
    refine kO (T_ix rfl rfl rfl u65 ti60 (by omega) (by omega) rfl) rfl ?_
    refine kO (T_ld rfl rfl ti60) rfl ?_
    refine kT ?_
    refine JT_alloc (S0 := Seg.cat [Seg.of Kd.str [], Seg.of Kd.str [], Seg.of (Kd.slice Kd.br) []]) rfl rfl rfl rfl z60 h0_60 (fun g9 => ?_)
    refine JT_store (i := 0) rfl rfl rfl rfl rfl (ol rfl (Ty.le.refl _)) (Upd.self _ _ rfl) sz60 ?_
    refine JT_done ?_
    refine JS_seq ?_
    -- region 5
    refine sR ?_
    refine kO (T_load_own (i := 0) rfl rfl rfl (Sub.self _) ti60) rfl ?_
    refine kM rfl rfl ?_
    refine kO (T_callL rfl en66 (w66 (hM _ hml _ (List.getElem_mem _)) (by omega)) (oa (ol rfl (Ty.le.refl _)) (oa (ol rfl (Ty.le.refl _)) oa0))) rfl ?_
    refine kE ?_
    refine JS_cond rfl (fun c25 => ?_) (fun c25 => ?_)
    · -- region 6
      refine sR ?_
      refine kM rfl rfl ?_
      refine kO (T_add rfl rfl rfl (wrap_i64 (by omega) (by omega))) rfl ?_
      refine kA rfl rfl ?_
      refine kE ?_
      refine JS_end_inB ?_
      -- region 7
      refine sR ?_
      refine kO (T_add rfl rfl rfl (wrap_i64 (by omega) (by omega))) rfl ?_
      refine kM rfl rfl ?_
      refine kE ?_
      refine JS_drop 0 ?_
      exact JS_round (i + 1) (by omega) (by omega) rfl (EnvSub.consLe rfl (int_eq (rfl)) (EnvSub.consLe rfl (int_eq (by rw [stayK_step (c := (M.choices[((s : Int)).toNat]'(by omega))[((i : Int)).toNat]'(by omega)) hgl (by omega) (toNat_get _), if_pos c25])) (EnvSub.pick1 rfl (EnvSub.pick1 rfl (EnvSub.pick1 rfl (EnvSub.nil _))))))
    · refine JS_skip ?_
      refine JS_end_inB ?_
      -- region 7
      refine sR ?_
      refine kO (T_add rfl rfl rfl (wrap_i64 (by omega) (by omega))) rfl ?_
      refine kM rfl rfl ?_
      refine kE ?_
      refine JS_drop 0 ?_
      exact JS_round (i + 1) (by omega) (by omega) rfl (EnvSub.consLe rfl (int_eq (rfl)) (EnvSub.consLe rfl (int_eq (by rw [stayK_step (c := (M.choices[((s : Int)).toNat]'(by omega))[((i : Int)).toNat]'(by omega)) hgl (by omega) (toNat_get _), if_neg (by rw [c25]; decide)])) (EnvSub.pick1 rfl (EnvSub.pick1 rfl (EnvSub.pick1 rfl (EnvSub.nil _))))))
  · refine JS_exit (JE_loop_exit (JE_inB_here ?_))
    refine JS_seq ?_
    -- region 8
    refine sR ?_
    refine kM rfl rfl ?_
    refine kA rfl rfl ?_
    refine kE ?_
    exact JS_ret (JE_retM1 () rfl rfl (.tmp rfl .nil) (int_eq (by rw [stayK_end (by rw [← hgl]; omega)])) rfl rfl rfl)

def KeepX (M : Mo) : Type := {p : Nat × Nat // p.1 < M.owner.length ∧ p.2 < 4096}
def keepIn (M : Mo) (p : KeepX M) : List Ty := [Ty.val (.int .i64 (p.1.1 : Int)), Ty.val (.int .u64 (p.1.2 : Int))]
def keepOut (M : Mo) (kf : Nat → Nat → Bool) (p : KeepX M) : Ty := Ty.val (.bool (kf p.1.1 p.1.2))
noncomputable def keepTy (M : Mo) (Δ : List Res) (kf : Nat → Nat → Bool) : Ty := Ty.fnM CC (keepIn M) Δ (keepOut M kf)

theorem m41 {M : Mo} {g T Z : Nat} {most : Bool} {B : List Nat} {kf : Nat → Nat → Bool} {x0 f0 : Nat} (h12 : M.owner.length ≤ 12) (hx0 : x0 < 4096) (hf0 : x0 ≤ f0) : SpecM CC 41 [Ty.val (ptr g 0), Ty.val (.int .u64 (x0 : Int)), keepTy M [Res.box g 76 (Seg.cat [Seg.of Kd.mo M, Seg.of (Kd.nat .u64) T, Seg.of Kd.bool most, Seg.of (Kd.nat .u64) Z, Seg.of (Kd.slice (Kd.nat .u64)) B])] kf] [Res.box g 76 (Seg.cat [Seg.of Kd.mo M, Seg.of (Kd.nat .u64) T, Seg.of Kd.bool most, Seg.of (Kd.nat .u64) Z, Seg.of (Kd.slice (Kd.nat .u64)) B])] (Y := Unit) (fun _ => Ty.val (.int .u64 ((shrinkF M.owner.length kf f0 x0 : Nat) : Int))) (fun _ => [Res.box g 76 (Seg.cat [Seg.of Kd.mo M, Seg.of (Kd.nat .u64) T, Seg.of Kd.bool most, Seg.of (Kd.nat .u64) Z, Seg.of (Kd.slice (Kd.nat .u64)) B])]) := by
  refine specM_of_JS Tryz.func41 rfl (Nat.le_of_ble_eq_true rfl) (fun gh0 wd0 => ?_)
  refine JS_seq ?_
  -- region 0
  refine sR ?_
  refine kA rfl rfl ?_
  refine kE ?_
  refine JS_scopeL1 (fun (x : Nat) => [(1, Ty.val (.int .u64 (x : Int)))]) [0, 2] (fun (x : Nat) => [(0, Res.box g 76 (Seg.cat [Seg.of Kd.mo M, Seg.of (Kd.nat .u64) T, Seg.of Kd.bool most, Seg.of (Kd.nat .u64) Z, Seg.of (Kd.slice (Kd.nat .u64)) B]))]) (fun (x : Nat) => ShrinkTo M.owner.length kf (shrinkF M.owner.length kf f0 x0) x) (fun (x : Nat) => x) x0 (⟨hx0, f0, hf0, rfl⟩) rfl rfl (EnvSub.consLe rfl (int_eq (rfl)) (EnvSub.nil _)) (fun x (hS : ShrinkTo M.owner.length kf (shrinkF M.owner.length kf f0 x0) x) => ?_)
  refine JS_seq ?_
  refine JS_seq ?_
  -- region 1
  refine sR ?_
  refine kM rfl rfl ?_
  refine kO (T_nilCheckO rfl rfl) rfl ?_
  refine kO (T_fieldAddr_ptr rfl fa76_0 rfl rfl) rfl ?_
  refine kO (T_fieldAddr_ptr rfl fa30_0 rfl rfl) rfl ?_
  refine kO (T_load_own (i := 0) rfl rfl rfl (Sub.in_ (sc (i := 0) rfl rfl) (st_sub (i := 0) rfl rfl)) ti27) rfl ?_
  refine kO (T_len_slice rfl rfl u27 rfl) rfl ?_
  refine kM rfl rfl ?_
  refine kE ?_
  refine JS_block ?_
  refine sLoop1 (fun (i : Nat) => [(14, Ty.val (.int .i64 (i : Int))), (1, Ty.val (.int .u64 (x : Int)))]) [0, 2, 13] (fun (i : Nat) => [(0, Res.box g 76 (Seg.cat [Seg.of Kd.mo M, Seg.of (Kd.nat .u64) T, Seg.of Kd.bool most, Seg.of (Kd.nat .u64) Z, Seg.of (Kd.slice (Kd.nat .u64)) B]))]) (fun (i : Nat) => i ≤ M.owner.length ∧ ∀ j, j < i → (x.testBit j && !kf j x) = false) (fun (i : Nat) => M.owner.length - i) 0 (⟨Nat.zero_le _, fun j h => absurd h (by omega)⟩) rfl (EnvSub.consLe rfl (int_eq (rfl)) (EnvSub.consLe rfl (int_eq (rfl)) (EnvSub.nil _))) (fun i (hI : i ≤ M.owner.length ∧ ∀ j, j < i → (x.testBit j && !kf j x) = false) => ?_)
  obtain ⟨hI1, hI2⟩ := hI
  have hx := hS.1
  refine JS_seq ?_
  -- region 2
  refine sR ?_
  refine kO (T_lt rfl rfl rfl) rfl ?_
  refine kE ?_
  refine JS_seq ?_
  refine JS_if rfl (fun c15 => ?_) (fun c15 => ?_)
  · have hi1 : i < M.owner.length := by omega
    have hp2 : 2 ^ ((i : Int)).toNat ≤ 2 ^ 12 := Nat.pow_le_pow_right (by decide) (by omega)
    rw [show (2 : Nat) ^ 12 = 4096 by decide] at hp2
    refine JS_skip ?_
    refine JS_seq ?_
    refine JS_block ?_
    refine JS_seq ?_
    -- region 3
    refine sR ?_
    refine kM rfl rfl ?_
    refine kA rfl rfl ?_
    refine kE ?_
    refine JS_seq ?_
    -- region 4
    refine sR ?_
    refine kM rfl rfl ?_
    refine kM rfl rfl ?_
    refine kO (T_shr rfl rfl rfl (by omega) (shr_u64 (by omega) (by omega))) rfl ?_
    refine kO (T_bits rfl (.inl rfl) rfl rfl (and1_u64 (Nat.lt_of_le_of_lt (Nat.shiftRight_le _ _) (by omega)))) rfl ?_
    refine kO (T_eq rfl rfl rfl) rfl ?_
    refine kM rfl rfl ?_
    refine tk_if (d := 22) rfl (fun g22 => ?_) (fun g22 => ?_)
    · refine kG (wTD g22 rfl rfl rfl) (T_move (.inl rfl) rfl) rfl ?_
      refine kG (wTD g22 rfl rfl rfl) (T_move (.inl rfl) rfl) rfl ?_
      refine kG (wTD g22 rfl rfl rfl) (T_move (.inl rfl) rfl) rfl ?_
      refine kT ?_
      refine JT_callvF (i := 0) (⟨(i, x), hi1, hS.1⟩ : KeepX M) rfl (wTD g22 rfl rfl rfl) rfl rfl rfl (oa (ol rfl (Ty.le.refl _)) (oa (ol rfl (Ty.le.refl _)) oa0)) ?_
      refine jG (wTD g22 rfl rfl rfl) (T_not rfl rfl) rfl ?_
      refine jO (T_pickD g22 rfl rfl rfl) rfl ?_
      refine JT_done ?_
      refine JS_cond rfl (fun c28 => ?_) (fun c28 => ?_)
      · refine JS_seq ?_
        -- region 5
        refine sR ?_
        refine kM rfl rfl ?_
        refine kM rfl rfl ?_
        refine kO (T_shl rfl rfl rfl (by omega) (shl1_u64 (by omega) (by omega))) rfl ?_
        refine kO (T_bits rfl (.inr (.inr (.inr rfl))) rfl rfl (andNot_u64 (by omega) (by omega))) rfl ?_
        refine kA rfl rfl ?_
        refine kE ?_
        exact JS_goto (JE_inB_goto (JE_loop_goto (JE_inB_goto (JE_goto_here (minusB x (2 ^ ((i : Int)).toNat)) ((hS.step hi1 (by rw [bit_on (n := i) g22, c28]; rfl) hI2).1) ((hS.step hi1 (by rw [bit_on (n := i) g22, c28]; rfl) hI2).2) rfl (EnvSub.consLe rfl (int_eq (rfl)) (EnvSub.pick1 rfl (EnvSub.pick1 rfl (EnvSub.nil _))))))))
      · refine JS_skip ?_
        refine JS_end_inB ?_
        -- region 6
        refine sR ?_
        refine kO (T_add rfl rfl rfl (wrap_i64 (by omega) (by omega))) rfl ?_
        refine kM rfl rfl ?_
        refine kE ?_
        exact JS_round (i + 1) (⟨by omega, fb_step hI2 (by rw [c28, Bool.and_false])⟩) (by omega) rfl (EnvSub.consLe rfl (int_eq (rfl)) (EnvSub.consLe rfl (int_eq (rfl)) (EnvSub.pick1 rfl (EnvSub.pick1 rfl (EnvSub.pick1 rfl (EnvSub.nil _))))))
    · refine kS (uFD g22 rfl rfl rfl) rfl ?_
      refine kS (uFD g22 rfl rfl rfl) rfl ?_
      refine kS (uFD g22 rfl rfl rfl) rfl ?_
      refine kS (uFD g22 rfl rfl rfl) rfl ?_
      refine kS (uFD g22 rfl rfl rfl) rfl ?_
      refine kO (T_pickN g22 rfl rfl rfl) rfl ?_
      refine kE ?_
      refine JS_cf rfl ?_
      refine JS_skip ?_
      refine JS_end_inB ?_
      -- region 6
      refine sR ?_
      refine kO (T_add rfl rfl rfl (wrap_i64 (by omega) (by omega))) rfl ?_
      refine kM rfl rfl ?_
      refine kE ?_
      exact JS_round (i + 1) (⟨by omega, fb_step hI2 (by rw [bit_noff (n := i) g22]; rfl)⟩) (by omega) rfl (EnvSub.consLe rfl (int_eq (rfl)) (EnvSub.consLe rfl (int_eq (rfl)) (EnvSub.pick1 rfl (EnvSub.pick1 rfl (EnvSub.pick1 rfl (EnvSub.nil _))))))
  · obtain rfl : i = M.owner.length := by omega
    refine JS_exit (JE_loop_exit (JE_inB_here ?_))
    refine JS_seq ?_
    -- region 7
    refine sR ?_
    refine kM rfl rfl ?_
    refine kA rfl rfl ?_
    refine kE ?_
    exact JS_ret (JE_goto_ret (JE_retM1 () rfl rfl (.tmp rfl .nil) (int_eq (by rw [hS.stop hI2])) rfl rfl rfl))

theorem ti47 : TI Tryz.prog 47 false 1 := ⟨by kernel_rfl, by kernel_rfl⟩

theorem fa76_2 : FieldAt Tryz.prog 76 2 3 := by unfold FieldAt; kernel_rfl

theorem en43 : Enters Tryz.prog 43 := enters_fn Tryz.func43 (by kernel_rfl) rfl

theorem m42 {M : Mo} {g T Z : Nat} {most : Bool} {B : List Nat} {s x : Nat} (hM : Low M) (hs : s < M.choices.length) (hx : x < 4096) : SpecM CC 42 [Ty.val (.int .i64 (s : Int)), Ty.val (.int .u64 (x : Int)), Ty.place (Seg.of Kd.val (ptr g 0))] [Res.box g 76 (Seg.cat [Seg.of Kd.mo M, Seg.of (Kd.nat .u64) T, Seg.of Kd.bool most, Seg.of (Kd.nat .u64) Z, Seg.of (Kd.slice (Kd.nat .u64)) B])] (Y := Unit) (fun _ => Ty.val (.bool (zeroK M most s x))) (fun _ => [Res.box g 76 (Seg.cat [Seg.of Kd.mo M, Seg.of (Kd.nat .u64) T, Seg.of Kd.bool most, Seg.of (Kd.nat .u64) Z, Seg.of (Kd.slice (Kd.nat .u64)) B])]) := by
  refine specM_of_JS Tryz.func42 rfl (Nat.le_of_ble_eq_true rfl) (fun gh0 wd0 => ?_)
  have hg := getD_choices hs
  have hgl : (M.choices[((s : Int)).toNat]'(by omega)) = M.choices.getD s [] := by rw [hg]; exact toNat_get _
  refine JS_seq ?_
  -- region 0
  refine sR ?_
  refine kA rfl rfl ?_
  refine kE ?_
  refine JS_seq ?_
  refine JS_seq ?_
  -- region 1
  refine sR ?_
  refine kO (T_sub (T_ld rfl rfl ti47) (of_kval _)) rfl ?_
  refine kO (T_nilCheckO rfl rfl) rfl ?_
  refine kO (T_fieldAddr_ptr rfl fa76_2 rfl rfl) rfl ?_
  refine kO (T_load_own_bool (i := 0) rfl rfl rfl (sc (i := 2) rfl rfl) ti4) rfl ?_
  refine kE ?_
  refine JS_cond rfl (fun c9 => ?_) (fun c9 => ?_)
  · refine JS_seq ?_
    -- region 2
    refine JS_drawT [3, 13, 14] (fun (Δ0 : List Res) (sd : List Nat) (Γd : Env) (Δ1 : List Res) => (sd = [] ∧ Γd = [] ∧ Δ1 = Δ0) ∨ (sd = [3] ∧ Γd = [(13, Ty.val (.int .i64 (stayN M s x : Int)))] ∧ Δ1 = Δ0) ∨ (sd = [13, 3] ∧ Γd = [(23, Ty.val (.bool (decide ((stayN M s x : Int) = ((M.choices[((s : Int)).toNat]'(by omega)).length : Int))))), (13, Ty.val (.int .i64 (stayN M s x : Int)))] ∧ Δ1 = Δ0) ∨ (sd = [14, 13, 3] ∧ Γd = [(5, Ty.val (.bool (decide ((stayN M s x : Int) = ((M.choices[((s : Int)).toNat]'(by omega)).length : Int))))), (23, Ty.val (.bool (decide ((stayN M s x : Int) = ((M.choices[((s : Int)).toNat]'(by omega)).length : Int))))), (13, Ty.val (.int .i64 (stayN M s x : Int)))] ∧ Δ1 = Δ0)) (fun i => if i = 3 then [10, 11, 12] else if i = 13 then [22] else if i = 14 then [] else []) mixed (by decide) (by decide) (.inl ⟨rfl, rfl, rfl⟩) (fun sd Γd Δ1 hs => by rcases hs with ⟨rfl, rfl, rfl⟩ | ⟨rfl, rfl, rfl⟩ | ⟨rfl, rfl, rfl⟩ | ⟨rfl, rfl, rfl⟩ <;> rfl) ?_
    refine dOpA (fun _ => T_sub (T_ld rfl rfl ti47) (of_kval _)) rfl rfl rfl ?_
    refine dOpA (fun _ => T_move (.inl rfl) rfl) rfl rfl rfl ?_
    refine dOpA (fun _ => T_move (.inl rfl) rfl) rfl rfl rfl ?_
    refine dDyn rfl ?_
    refine dOpA (fun _ => T_sub (T_ld rfl rfl ti47) (of_kval _)) rfl rfl rfl ?_
    refine dOpA (fun _ => T_nilCheckO rfl rfl) rfl rfl rfl ?_
    refine dOpA (fun _ => T_fieldAddr_ptr rfl fa76_0 rfl rfl) rfl rfl rfl ?_
    refine dOpA (fun _ => T_fieldAddr_ptr rfl fa30_1 rfl rfl) rfl rfl rfl ?_
    refine dOp (T := Ty.of (Kd.slice (Kd.slice Kd.ch)) M.choices) (fun sd Γd Δ1 hs => by rcases hs with ⟨rfl, rfl, rfl⟩ | ⟨rfl, rfl, rfl⟩ | ⟨rfl, rfl, rfl⟩ | ⟨rfl, rfl, rfl⟩ <;> exact (T_load_own (i := 0) rfl rfl rfl (Sub.in_ (sc (i := 0) rfl rfl) (st_sub (i := 1) rfl rfl)) ti28)) rfl rfl rfl ?_
    refine dOpA (fun _ => T_move (.inl rfl) rfl) rfl rfl rfl ?_
    refine dOpA (fun _ => T_ix rfl rfl rfl u28 ti65 (by omega) (by omega) rfl) rfl rfl rfl ?_
    refine dOpA (fun _ => T_ld rfl rfl ti65) rfl rfl rfl ?_
    refine dOpA (fun _ => T_len_slice rfl rfl u65 rfl) rfl rfl rfl ?_
    refine dDyn rfl ?_
    refine dDyn rfl ?_
    refine dEnd ⟨?_, ?_⟩
    · intro Q1 cs1 i o sd Γd Δ1 Γx hi ho hn hb hinv hk
      simp only [List.mem_cons, List.not_mem_nil, or_false] at hi
      rcases hi with rfl | rfl | rfl
      · obtain rfl := Option.some.inj ho
        rcases hinv with ⟨rfl, rfl, rfl⟩ | ⟨rfl, rfl, rfl⟩ | ⟨rfl, rfl, rfl⟩ | ⟨rfl, rfl, rfl⟩
        · refine JT_callM1 (i := 0) rfl rfl rfl en43 rfl (m43 hM hs hx) (oa (ol rfl (Ty.le.refl _)) (oa (ol rfl (Ty.le.refl _)) (oa (ol rfl (Ty.le.refl _)) oa0))) (fun y13 => ?_)
          exact JT_done (hk [(13, _)] _ (.inr (.inl ⟨rfl, rfl, rfl⟩)))
        · exact absurd (by simp) hn
        · exact absurd (by simp) hn
        · exact absurd (by simp) hn
      · obtain rfl := Option.some.inj ho
        rcases hinv with ⟨rfl, rfl, rfl⟩ | ⟨rfl, rfl, rfl⟩ | ⟨rfl, rfl, rfl⟩ | ⟨rfl, rfl, rfl⟩
        · exact absurd (hb 3 rfl (by decide)) (by simp)
        · refine JT_op rfl rfl (T_eq rfl rfl rfl) ?_
          exact JT_done (hk [(23, _), (13, _)] _ (.inr (.inr (.inl ⟨rfl, rfl, rfl⟩))))
        · exact absurd (by simp) hn
        · exact absurd (by simp) hn
      · obtain rfl := Option.some.inj ho
        rcases hinv with ⟨rfl, rfl, rfl⟩ | ⟨rfl, rfl, rfl⟩ | ⟨rfl, rfl, rfl⟩ | ⟨rfl, rfl, rfl⟩
        · exact absurd (hb 3 rfl (by decide)) (by simp)
        · exact absurd (hb 13 rfl (by decide)) (by simp)
        · refine JT_op rfl rfl (T_move (.inr rfl) rfl) ?_
          exact JT_done (hk [(5, _), (23, _), (13, _)] _ (.inr (.inr (.inr ⟨rfl, rfl, rfl⟩))))
        · exact absurd (by simp) hn
    · intro sd Γd Δ1 hinv hall
      rcases hinv with ⟨rfl, rfl, rfl⟩ | ⟨rfl, rfl, rfl⟩ | ⟨rfl, rfl, rfl⟩ | ⟨rfl, rfl, rfl⟩
      · exact absurd (hall 3 (by decide) rfl) (by simp)
      · exact absurd (hall 13 (by decide) rfl) (by simp)
      · exact absurd (hall 14 (by decide) rfl) (by simp)
      · exact JS_ret (JE_retM1 () rfl rfl (.tmp rfl .nil) (bool_eq (by unfold zeroK; rw [if_pos c9, hgl])) rfl rfl rfl)
  · refine JS_skip ?_
    refine JS_seq ?_
    -- region 3
    refine sR ?_
    refine kO (T_sub (T_ld rfl rfl ti47) (of_kval _)) rfl ?_
    refine kM rfl rfl ?_
    refine kM rfl rfl ?_
    refine kT ?_
    refine JT_callM1 (i := 0) rfl rfl rfl en43 rfl (m43 hM hs hx) (oa (ol rfl (Ty.le.refl _)) (oa (ol rfl (Ty.le.refl _)) (oa (ol rfl (Ty.le.refl _)) oa0))) (fun y27 => ?_)
    refine jO (T_gt rfl rfl rfl) rfl ?_
    refine jA rfl rfl ?_
    refine JT_done ?_
    exact JS_ret (JE_retM1 () rfl rfl (.tmp rfl .nil) (bool_eq (by unfold zeroK; rw [if_neg (by rw [c9]; decide)])) rfl rfl rfl)

theorem m44 {M : Mo} {g T Z : Nat} {most : Bool} {B : List Nat} {s x : Nat} (hM : Low M) (hs : s < M.choices.length) (hx : x < 4096) : SpecM CC 44 [Ty.val (.int .i64 (s : Int)), Ty.val (.int .u64 (x : Int)), Ty.place (Seg.of Kd.val (ptr g 0))] [Res.box g 76 (Seg.cat [Seg.of Kd.mo M, Seg.of (Kd.nat .u64) T, Seg.of Kd.bool most, Seg.of (Kd.nat .u64) Z, Seg.of (Kd.slice (Kd.nat .u64)) B])] (Y := Unit) (fun _ => Ty.val (.bool (compK M s x))) (fun _ => [Res.box g 76 (Seg.cat [Seg.of Kd.mo M, Seg.of (Kd.nat .u64) T, Seg.of Kd.bool most, Seg.of (Kd.nat .u64) Z, Seg.of (Kd.slice (Kd.nat .u64)) B])]) := by
  refine specM_of_JS Tryz.func44 rfl (Nat.le_of_ble_eq_true rfl) (fun gh0 wd0 => ?_)
  refine JS_seq ?_
  -- region 0
  refine sR ?_
  refine kA rfl rfl ?_
  refine kE ?_
  refine JS_seq ?_
  -- region 1
  refine sR ?_
  refine kO (T_sub (T_ld rfl rfl ti47) (of_kval _)) rfl ?_
  refine kM rfl rfl ?_
  refine kM rfl rfl ?_
  refine kT ?_
  refine JT_callM1 (i := 0) rfl rfl rfl en43 rfl (m43 hM hs hx) (oa (ol rfl (Ty.le.refl _)) (oa (ol rfl (Ty.le.refl _)) (oa (ol rfl (Ty.le.refl _)) oa0))) (fun y9 => ?_)
  refine jO (T_gt rfl rfl rfl) rfl ?_
  refine jA rfl rfl ?_
  refine JT_done ?_
  exact JS_ret (JE_retM1 () rfl rfl (.tmp rfl .nil) (bool_eq (rfl)) rfl rfl rfl)

theorem fa76_1 : FieldAt Tryz.prog 76 1 2 := by unfold FieldAt; kernel_rfl

theorem en42 : Enters Tryz.prog 42 := enters_fn Tryz.func42 (by kernel_rfl) rfl

theorem en29 : Enters Tryz.prog 29 := enters_fn Tryz.func29 (by kernel_rfl) rfl

theorem en41 : Enters Tryz.prog 41 := enters_fn Tryz.func41 (by kernel_rfl) rfl

theorem m27 {M : Mo} {g T Z : Nat} {most : Bool} {B : List Nat} (hM : Low M) (hsm : M.choices.length = M.owner.length) (h12 : M.owner.length ≤ 12) (hT : T < 18446744073709551616) : SpecM CC 27 [Ty.val (ptr g 0)] [Res.box g 76 (Seg.cat [Seg.of Kd.mo M, Seg.of (Kd.nat .u64) T, Seg.of Kd.bool most, Seg.of (Kd.nat .u64) Z, Seg.of (Kd.slice (Kd.nat .u64)) B])] (Y := Unit) (fun _ => Ty.val (.int .u64 (zerosF M T most : Int))) (fun _ => [Res.box g 76 (Seg.cat [Seg.of Kd.mo M, Seg.of (Kd.nat .u64) T, Seg.of Kd.bool most, Seg.of (Kd.nat .u64) Z, Seg.of (Kd.slice (Kd.nat .u64)) B])]) := by
  refine specM_of_JS Tryz.func27 rfl (Nat.le_of_ble_eq_true rfl) (fun gh0 wd0 => ?_)
  have hp : 2 ^ M.owner.length ≤ 2 ^ 12 := Nat.pow_le_pow_right (by decide) h12
  rw [show (2 : Nat) ^ 12 = 4096 by decide] at hp
  have h1p : 1 ≤ 2 ^ M.owner.length := Nat.one_le_two_pow
  have hle := minusB_le (2 ^ M.owner.length - 1) T
  refine JS_seq ?_
  -- region 0
  refine sR ?_
  refine kO (T_box rfl (ol rfl (to_kval rfl))) rfl ?_
  refine kA rfl rfl ?_
  refine kE ?_
  refine JS_seq ?_
  -- region 1
  refine JS_drawT [2, 7, 9, 10] (fun (Δ0 : List Res) (sd : List Nat) (Γd : Env) (Δ1 : List Res) => (sd = [] ∧ Γd = [] ∧ Δ1 = Δ0) ∨ (sd = [2] ∧ Γd = [(5, Ty.val (.int .u64 ((2 ^ M.owner.length - 1 : Nat) : Int)))] ∧ Δ1 = Δ0) ∨ (sd = [7, 2] ∧ Γd = [(10, Ty.val (.int .u64 (minusB (2 ^ M.owner.length - 1) T : Int))), (5, Ty.val (.int .u64 ((2 ^ M.owner.length - 1 : Nat) : Int)))] ∧ Δ1 = Δ0) ∨ (sd = [9, 7, 2] ∧ Γd = [(12, Ty.val (.int .u64 (shrinkF M.owner.length (zeroK M most) 4096 (minusB (2 ^ M.owner.length - 1) T) : Int))), (10, Ty.val (.int .u64 (minusB (2 ^ M.owner.length - 1) T : Int))), (5, Ty.val (.int .u64 ((2 ^ M.owner.length - 1 : Nat) : Int)))] ∧ Δ1 = Δ0) ∨ (sd = [10, 9, 7, 2] ∧ Γd = [(2, Ty.val (.int .u64 (shrinkF M.owner.length (zeroK M most) 4096 (minusB (2 ^ M.owner.length - 1) T) : Int))), (12, Ty.val (.int .u64 (shrinkF M.owner.length (zeroK M most) 4096 (minusB (2 ^ M.owner.length - 1) T) : Int))), (10, Ty.val (.int .u64 (minusB (2 ^ M.owner.length - 1) T : Int))), (5, Ty.val (.int .u64 ((2 ^ M.owner.length - 1 : Nat) : Int)))] ∧ Δ1 = Δ0)) (fun i => if i = 2 then [4] else if i = 7 then [9] else if i = 9 then [3, 11] else if i = 10 then [] else []) mixed (by decide) (by decide) (.inl ⟨rfl, rfl, rfl⟩) (fun sd Γd Δ1 hs => by rcases hs with ⟨rfl, rfl, rfl⟩ | ⟨rfl, rfl, rfl⟩ | ⟨rfl, rfl, rfl⟩ | ⟨rfl, rfl, rfl⟩ | ⟨rfl, rfl, rfl⟩ <;> rfl) ?_
  refine dOpA (fun _ => T_sub (T_ld rfl rfl ti47) (of_kval _)) rfl rfl rfl ?_
  refine dOpA (fun _ => T_sub (T_ld rfl rfl ti47) (of_kval _)) rfl rfl rfl ?_
  refine dDyn rfl ?_
  refine dOpA (fun _ => T_sub (T_ld rfl rfl ti47) (of_kval _)) rfl rfl rfl ?_
  refine dOpA (fun _ => T_nilCheckO rfl rfl) rfl rfl rfl ?_
  refine dOpA (fun _ => T_fieldAddr_ptr rfl fa76_1 rfl rfl) rfl rfl rfl ?_
  refine dOp (T := Ty.val (.int .u64 (T : Int))) (fun sd Γd Δ1 hs => by rcases hs with ⟨rfl, rfl, rfl⟩ | ⟨rfl, rfl, rfl⟩ | ⟨rfl, rfl, rfl⟩ | ⟨rfl, rfl, rfl⟩ | ⟨rfl, rfl, rfl⟩ <;> exact (T_sub (T_load_own (i := 0) rfl rfl rfl (sc (i := 1) rfl rfl) ti33) (nat_val _ _))) rfl rfl rfl ?_
  refine dDyn rfl ?_
  refine dOpA (fun _ => T_mkfnM (ins := (keepIn M)) (out := (keepOut M (zeroK M most))) (Δin := [Res.box g 76 (Seg.cat [Seg.of Kd.mo M, Seg.of (Kd.nat .u64) T, Seg.of Kd.bool most, Seg.of (Kd.nat .u64) Z, Seg.of (Kd.slice (Kd.nat .u64)) B])]) rfl rfl en42 (fun p => m42 hM (by rw [hsm]; exact p.2.1) p.2.2) (oa (ol rfl (Ty.le.refl _)) oa0)) rfl rfl rfl ?_
  refine dDyn rfl ?_
  refine dDyn rfl ?_
  refine dEnd ⟨?_, ?_⟩
  · intro Q1 cs1 i o sd Γd Δ1 Γx hi ho hn hb hinv hk
    simp only [List.mem_cons, List.not_mem_nil, or_false] at hi
    rcases hi with rfl | rfl | rfl | rfl
    · obtain rfl := Option.some.inj ho
      rcases hinv with ⟨rfl, rfl, rfl⟩ | ⟨rfl, rfl, rfl⟩ | ⟨rfl, rfl, rfl⟩ | ⟨rfl, rfl, rfl⟩ | ⟨rfl, rfl, rfl⟩
      · refine JT_callM1 (i := 0) rfl rfl rfl en29 rfl (m29 h12) (oa (ol rfl (Ty.le.refl _)) oa0) (fun y5 => ?_)
        exact JT_done (hk [(5, _)] _ (.inr (.inl ⟨rfl, rfl, rfl⟩)))
      · exact absurd (by simp) hn
      · exact absurd (by simp) hn
      · exact absurd (by simp) hn
      · exact absurd (by simp) hn
    · obtain rfl := Option.some.inj ho
      rcases hinv with ⟨rfl, rfl, rfl⟩ | ⟨rfl, rfl, rfl⟩ | ⟨rfl, rfl, rfl⟩ | ⟨rfl, rfl, rfl⟩ | ⟨rfl, rfl, rfl⟩
      · exact absurd (hb 2 rfl (by decide)) (by simp)
      · refine JT_op rfl rfl (T_bits rfl (.inr (.inr (.inr rfl))) rfl rfl (andNot_u64 (by omega) (by omega))) ?_
        exact JT_done (hk [(10, _), (5, _)] _ (.inr (.inr (.inl ⟨rfl, rfl, rfl⟩))))
      · exact absurd (by simp) hn
      · exact absurd (by simp) hn
      · exact absurd (by simp) hn
    · obtain rfl := Option.some.inj ho
      rcases hinv with ⟨rfl, rfl, rfl⟩ | ⟨rfl, rfl, rfl⟩ | ⟨rfl, rfl, rfl⟩ | ⟨rfl, rfl, rfl⟩ | ⟨rfl, rfl, rfl⟩
      · exact absurd (hb 2 rfl (by decide)) (by simp)
      · exact absurd (hb 7 rfl (by decide)) (by simp)
      · refine JT_callM1 (i := 0) rfl rfl rfl en41 rfl (m41 (kf := zeroK M most) (f0 := 4096) h12 (by omega) (by omega)) (oa (ol rfl (Ty.le.refl _)) (oa (ol rfl (Ty.le.refl _)) (oa (ol rfl (Ty.le.refl _)) oa0))) (fun y12 => ?_)
        exact JT_done (hk [(12, _), (10, _), (5, _)] _ (.inr (.inr (.inr (.inl ⟨rfl, rfl, rfl⟩)))))
      · exact absurd (by simp) hn
      · exact absurd (by simp) hn
    · obtain rfl := Option.some.inj ho
      rcases hinv with ⟨rfl, rfl, rfl⟩ | ⟨rfl, rfl, rfl⟩ | ⟨rfl, rfl, rfl⟩ | ⟨rfl, rfl, rfl⟩ | ⟨rfl, rfl, rfl⟩
      · exact absurd (hb 2 rfl (by decide)) (by simp)
      · exact absurd (hb 7 rfl (by decide)) (by simp)
      · exact absurd (hb 9 rfl (by decide)) (by simp)
      · refine JT_op rfl rfl (T_move (.inr rfl) rfl) ?_
        exact JT_done (hk [(2, _), (12, _), (10, _), (5, _)] _ (.inr (.inr (.inr (.inr ⟨rfl, rfl, rfl⟩)))))
      · exact absurd (by simp) hn
  · intro sd Γd Δ1 hinv hall
    rcases hinv with ⟨rfl, rfl, rfl⟩ | ⟨rfl, rfl, rfl⟩ | ⟨rfl, rfl, rfl⟩ | ⟨rfl, rfl, rfl⟩ | ⟨rfl, rfl, rfl⟩
    · exact absurd (hall 2 (by decide) rfl) (by simp)
    · exact absurd (hall 7 (by decide) rfl) (by simp)
    · exact absurd (hall 9 (by decide) rfl) (by simp)
    · exact absurd (hall 10 (by decide) rfl) (by simp)
    · exact JS_ret (JE_retM1 () rfl rfl (.tmp rfl .nil) (int_eq (rfl)) rfl rfl rfl)

end Go.Proofs.YtknflgfkhkdomaaGreatDoor.Mono

/-! WkX -/
set_option linter.unusedVariables false
set_option linter.unusedSimpArgs false
set_option maxRecDepth 4000
set_option maxHeartbeats 4000000
namespace Go.Proofs.YtknflgfkhkdomaaGreatDoor.Mono
open Go Go.RowKit

theorem rB_step {c : Ch} {x a i : Nat} (h : i < c.next.length) : rB c x a (c.next.take (i + 1)) = if staysB c x then rB c x a (c.next.take i) ||| 2 ^ c.next[i].to else rB c x a (c.next.take i) := by
  unfold rB; rw [List.take_succ_eq_append_getElem h, List.foldl_append]; rfl
theorem rC_step {l : List Ch} {x a i : Nat} {c : Ch} (h : i < l.length) (hc : c = l[i]) : rC x a (l.take (i + 1)) = rB c x (rC x a (l.take i)) c.next := by
  subst hc; unfold rC; rw [List.take_succ_eq_append_getElem h, List.foldl_append]; rfl
theorem rB_full {c : Ch} {x a i : Nat} (h : i = c.next.length) : rB c x a (c.next.take i) = rB c x a c.next := by subst h; rw [List.take_length]
theorem rC_full {l : List Ch} {x a i : Nat} (h : i = l.length) : rC x a (l.take i) = rC x a l := by subst h; rw [List.take_length]

theorem m45 {M : Mo} {g T Z : Nat} {most : Bool} {B : List Nat} {s x : Nat} (hM : Low M) (hsm : M.choices.length = M.owner.length) (h12 : M.owner.length ≤ 12) (hs : s < 12) (hx : x < 4096) : SpecM CC 45 [Ty.val (ptr g 0), Ty.val (.int .i64 (s : Int)), Ty.val (.int .u64 (x : Int))] [Res.box g 76 (Seg.cat [Seg.of Kd.mo M, Seg.of (Kd.nat .u64) T, Seg.of Kd.bool most, Seg.of (Kd.nat .u64) Z, Seg.of (Kd.slice (Kd.nat .u64)) B])] (Y := Unit) (fun _ => Ty.val (.int .u64 (reach M s x : Int))) (fun _ => [Res.box g 76 (Seg.cat [Seg.of Kd.mo M, Seg.of (Kd.nat .u64) T, Seg.of Kd.bool most, Seg.of (Kd.nat .u64) Z, Seg.of (Kd.slice (Kd.nat .u64)) B])]) := by
  refine specM_of_JS Tryz.func45 rfl (Nat.le_of_ble_eq_true rfl) (fun gh0 wd0 => ?_)
  have hp : 2 ^ s < 2 ^ 12 := Nat.pow_lt_pow_right (by decide) hs
  rw [show (2 : Nat) ^ 12 = 4096 by decide] at hp
  have hp0 : 1 ≤ 2 ^ s := Nat.one_le_two_pow
  refine JS_seq ?_
  -- region 0
  refine sR ?_
  refine kA rfl rfl ?_
  refine kE ?_
  refine JS_seq ?_
  -- region 1
  refine sR ?_
  refine kM rfl rfl ?_
  refine kO (T_shl rfl rfl rfl (by omega) (shl1_u64 (by omega) (by omega))) rfl ?_
  refine kA rfl rfl ?_
  refine kE ?_
  refine JS_seq ?_
  refine JS_seq ?_
  -- region 2
  refine sR ?_
  refine kA rfl rfl ?_
  refine kE ?_
  refine JS_block ?_
  refine sLoop2 (fun (old : Nat) (seen : Nat) => [(8, Ty.val (.int .u64 (old : Int))), (7, Ty.val (.int .u64 (seen : Int)))]) [0, 2] (fun (old : Nat) (seen : Nat) => [(0, Res.box g 76 (Seg.cat [Seg.of Kd.mo M, Seg.of (Kd.nat .u64) T, Seg.of Kd.bool most, Seg.of (Kd.nat .u64) Z, Seg.of (Kd.slice (Kd.nat .u64)) B]))]) (fun (old : Nat) (seen : Nat) => ReachTo M x (reach M s x) old seen) (fun (old : Nat) (seen : Nat) => if old = seen then 0 else 4097 - seen) 0 (2 ^ s) (⟨hp, by omega, .inl ⟨by omega, 4096, by omega, rfl⟩⟩) rfl (EnvSub.consLe rfl (int_eq (rfl)) (EnvSub.consLe rfl (int_eq (rfl)) (EnvSub.nil _))) (fun old seen (hR : ReachTo M x (reach M s x) old seen) => ?_)
  have hs1 := hR.1
  have hs2 := hR.2.1
  refine JS_seq ?_
  refine JS_seq ?_
  -- region 3
  refine sR ?_
  refine kM rfl rfl ?_
  refine kM rfl rfl ?_
  refine kO (T_ne rfl rfl rfl) rfl ?_
  refine kE ?_
  refine JS_if rfl (fun c18 => ?_) (fun c18 => ?_)
  · refine JS_skip ?_
    refine JS_block ?_
    refine JS_seq ?_
    -- region 4
    refine sR ?_
    refine kM rfl rfl ?_
    refine kA rfl rfl ?_
    refine kE ?_
    refine JS_seq ?_
    -- region 5
    refine sR ?_
    refine kM rfl rfl ?_
    refine kO (T_nilCheckO rfl rfl) rfl ?_
    refine kO (T_fieldAddr_ptr rfl fa76_0 rfl rfl) rfl ?_
    refine kO (T_fieldAddr_ptr rfl fa30_0 rfl rfl) rfl ?_
    refine kO (T_load_own (i := 0) rfl rfl rfl (Sub.in_ (sc (i := 0) rfl rfl) (st_sub (i := 0) rfl rfl)) ti27) rfl ?_
    refine kO (T_len_slice rfl rfl u27 rfl) rfl ?_
    refine kM rfl rfl ?_
    refine kE ?_
    refine JS_block ?_
    refine sLoop1 (fun (t : Nat) => [(26, Ty.val (.int .i64 (t : Int))), (7, Ty.val (.int .u64 ((rT M x seen t seen : Nat) : Int)))]) [0, 2, 8, 25] (fun (t : Nat) => [(0, Res.box g 76 (Seg.cat [Seg.of Kd.mo M, Seg.of (Kd.nat .u64) T, Seg.of Kd.bool most, Seg.of (Kd.nat .u64) Z, Seg.of (Kd.slice (Kd.nat .u64)) B]))]) (fun (t : Nat) => t ≤ M.owner.length) (fun (t : Nat) => M.owner.length - t) 0 (Nat.zero_le _) rfl (EnvSub.consLe rfl (int_eq (rfl)) (EnvSub.consLe rfl (int_eq (rfl)) (EnvSub.nil _))) (fun t (hT : t ≤ M.owner.length) => ?_)
    refine JS_seq ?_
    -- region 6
    refine sR ?_
    refine kO (T_lt rfl rfl rfl) rfl ?_
    refine kE ?_
    refine JS_seq ?_
    refine JS_if rfl (fun c27 => ?_) (fun c27 => ?_)
    · have hrt := rT_bd hM (x := x) (old := seen) t seen hs1
      refine JS_skip ?_
      refine JS_seq ?_
      refine JS_block ?_
      refine JS_seq ?_
      -- region 7
      refine sR ?_
      refine kM rfl rfl ?_
      refine kA rfl rfl ?_
      refine kE ?_
      refine JS_seq ?_
      refine JS_seq ?_
      -- region 8
      refine sR ?_
      refine kM rfl rfl ?_
      refine kM rfl rfl ?_
      refine kO (T_shr rfl rfl rfl (by omega) (shr_u64 (by omega) (by omega))) rfl ?_
      refine kO (T_bits rfl (.inl rfl) rfl rfl (and1_u64 (Nat.lt_of_le_of_lt (Nat.shiftRight_le _ _) (by omega)))) rfl ?_
      refine kO (T_eq rfl rfl rfl) rfl ?_
      refine kE ?_
      refine JS_if rfl (fun c33 => ?_) (fun c33 => ?_)
      · refine JS_exit (JE_inB_here ?_)
        -- region 19
        refine sR ?_
        refine kO (T_add rfl rfl rfl (wrap_i64 (by omega) (by omega))) rfl ?_
        refine kM rfl rfl ?_
        refine kE ?_
        exact JS_round (t + 1) (by omega) (by omega) rfl (EnvSub.consLe rfl (int_eq (rfl)) (EnvSub.consLe rfl (int_eq (by rw [rT_succ, if_neg (by rw [bit_off (n := t) c33]; decide)])) (EnvSub.pick1 rfl (EnvSub.pick1 rfl (EnvSub.pick1 rfl (EnvSub.pick1 rfl (EnvSub.nil _)))))))
      · refine JS_skip ?_
        refine JS_seq ?_
        -- region 9
        have hgl : (M.choices[((t : Int)).toNat]'(by omega)) = M.choices.getD t [] := by rw [getD_choices (M := M) (s := t) (by omega)]; exact toNat_get _
        have hml : (M.choices[((t : Int)).toNat]'(by omega)) ∈ M.choices := List.getElem_mem _
        refine sR ?_
        refine kM rfl rfl ?_
        refine kO (T_nilCheckO rfl rfl) rfl ?_
        refine kO (T_fieldAddr_ptr rfl fa76_0 rfl rfl) rfl ?_
        refine kO (T_fieldAddr_ptr rfl fa30_1 rfl rfl) rfl ?_
        refine kO (T_load_own (i := 0) rfl rfl rfl (Sub.in_ (sc (i := 0) rfl rfl) (st_sub (i := 1) rfl rfl)) ti28) rfl ?_
        refine kM rfl rfl ?_
        refine kO (T_ix rfl rfl rfl u28 ti65 (by omega) (by omega) rfl) rfl ?_
        refine kO (T_ld rfl rfl ti65) rfl ?_
        refine kO (T_len_slice rfl rfl u65 rfl) rfl ?_
        refine kM rfl rfl ?_
        refine kE ?_
        refine JS_block ?_
        refine JS_bound (s := 41) rfl (fun b41 => ?_)
        unfold maxLen at b41
        refine sLoop1 (fun (j : Nat) => [(43, Ty.val (.int .i64 (j : Int))), (7, Ty.val (.int .u64 ((rC x (rT M x seen t seen) ((M.choices[((t : Int)).toNat]'(by omega)).take j) : Nat) : Int)))]) [0, 2, 8, 25, 26, 41, 42] (fun (j : Nat) => [(0, Res.box g 76 (Seg.cat [Seg.of Kd.mo M, Seg.of (Kd.nat .u64) T, Seg.of Kd.bool most, Seg.of (Kd.nat .u64) Z, Seg.of (Kd.slice (Kd.nat .u64)) B]))]) (fun (j : Nat) => j ≤ (M.choices[((t : Int)).toNat]'(by omega)).length) (fun (j : Nat) => (M.choices[((t : Int)).toNat]'(by omega)).length - j) 0 (Nat.zero_le _) rfl (EnvSub.consLe rfl (int_eq (rfl)) (EnvSub.consLe rfl (int_eq (rfl)) (EnvSub.nil _))) (fun j (hJ : j ≤ (M.choices[((t : Int)).toNat]'(by omega)).length) => ?_)
        refine JS_seq ?_
        -- region 10
        refine sR ?_
        refine kO (T_lt rfl rfl rfl) rfl ?_
        refine kE ?_
        refine JS_seq ?_
        refine JS_if rfl (fun c44 => ?_) (fun c44 => ?_)
        · obtain ⟨c, hc⟩ : ∃ c, ((M.choices[((t : Int)).toNat]'(by omega))[((j : Int)).toNat]'(by omega)) = c := ⟨_, rfl⟩
          have hcm : c ∈ (M.choices[((t : Int)).toNat]'(by omega)) := by rw [← hc]; exact List.getElem_mem _
          have hcb := hM _ hml c hcm
          have hrc := rC_bd (x := x) ((M.choices[((t : Int)).toNat]'(by omega)).take j) (rT M x seen t seen) (fun c hc => hM _ hml c (List.mem_of_mem_take hc)) hrt.2
          refine JS_skip ?_
          refine JS_seq ?_
          refine JS_block ?_
          refine JS_seq ?_
          -- region 11
          refine sR ?_
          refine kO (T_ix rfl rfl rfl u65 ti60 (by omega) (by omega) rfl) rfl ?_
          refine kO (T_ld rfl rfl ti60) rfl ?_
          refine kT ?_
          refine JT_alloc (S0 := Seg.cat [Seg.of Kd.str [], Seg.of Kd.str [], Seg.of (Kd.slice Kd.br) []]) rfl rfl rfl rfl z60 h0_60 (fun g11 => ?_)
          refine JT_store (i := 0) rfl rfl rfl rfl rfl (ol rfl (Ty.le.refl _)) (Upd.self _ _ rfl) sz60 ?_
          refine JT_done ?_
          refine JS_seq ?_
          -- region 12
          refine JS_eqD (Δ' := [Res.box g11 60 (Seg.of Kd.ch c), Res.box g 76 (Seg.cat [Seg.of Kd.mo M, Seg.of (Kd.nat .u64) T, Seg.of Kd.bool most, Seg.of (Kd.nat .u64) Z, Seg.of (Kd.slice (Kd.nat .u64)) B])]) (by rw [← hc]; rfl) ?_
          refine sR ?_
          refine kO (T_fieldAddr_ptr rfl fa60_2 rfl rfl) rfl ?_
          refine kO (T_load_own (i := 0) rfl rfl rfl (st_sub (i := 2) rfl rfl) ti58) rfl ?_
          refine kO (T_len_slice rfl rfl u58 rfl) rfl ?_
          refine kM rfl rfl ?_
          refine kE ?_
          refine JS_block ?_
          refine JS_bound (s := 48) rfl (fun b48 => ?_)
          unfold maxLen at b48
          refine sLoop1 (fun (q : Nat) => [(50, Ty.val (.int .i64 (q : Int))), (7, Ty.val (.int .u64 ((rB c x (rC x (rT M x seen t seen) ((M.choices[((t : Int)).toNat]'(by omega)).take j)) (c.next.take q) : Nat) : Int)))]) [0, 2, 8, 11, 25, 26, 41, 42, 43, 48, 49] (fun (q : Nat) => [(1, Res.box g 76 (Seg.cat [Seg.of Kd.mo M, Seg.of (Kd.nat .u64) T, Seg.of Kd.bool most, Seg.of (Kd.nat .u64) Z, Seg.of (Kd.slice (Kd.nat .u64)) B]))]) (fun (q : Nat) => q ≤ c.next.length) (fun (q : Nat) => c.next.length - q) 0 (Nat.zero_le _) rfl (EnvSub.consLe rfl (int_eq (rfl)) (EnvSub.consLe rfl (int_eq (rfl)) (EnvSub.nil _))) (fun q (hQ : q ≤ c.next.length) => ?_)
          refine JS_seq ?_
          -- region 13
          refine sR ?_
          refine kO (T_lt rfl rfl rfl) rfl ?_
          refine kE ?_
          refine JS_seq ?_
          refine JS_if rfl (fun c51 => ?_) (fun c51 => ?_)
          · have hq1 : q < c.next.length := by omega
            have hrb := rB_bd (c := c) (x := x) (c.next.take q) (rC x (rT M x seen t seen) ((M.choices[((t : Int)).toNat]'(by omega)).take j)) (fun b hb => hcb b (List.mem_of_mem_take hb)) hrc.2
            have hbt := hcb _ (List.getElem_mem hq1)
            have et := toNat_get (l := c.next) (i := q) (by omega)
            have hto : ((c.next[((q : Int)).toNat]'(by omega)).to : Int).toNat = c.next[q].to := by rw [et]; rfl
            have hpb : 2 ^ ((c.next[((q : Int)).toNat]'(by omega)).to : Int).toNat < 2 ^ 12 := by rw [hto]; exact Nat.pow_lt_pow_right (by decide) hbt
            rw [show (2 : Nat) ^ 12 = 4096 by decide] at hpb
            refine JS_skip ?_
            refine JS_seq ?_
            refine JS_block ?_
            refine JS_seq ?_
            -- region 14
            refine sR ?_
            refine kO (T_ix rfl rfl rfl u58 ti62 (by omega) (by omega) rfl) rfl ?_
            refine kO (T_ld rfl rfl ti62) rfl ?_
            refine kT ?_
            refine JT_alloc (S0 := Seg.cat [Seg.of (Kd.int .i64) 0, Seg.of Kd.str []]) rfl rfl rfl rfl z62 h0_62 (fun g13 => ?_)
            refine JT_store (i := 0) rfl rfl rfl rfl rfl (ol rfl (Ty.le.refl _)) (Upd.self _ _ rfl) sz62 ?_
            refine JT_done ?_
            refine JS_seq ?_
            -- region 15
            refine sR ?_
            refine kO (T_load_own (i := 1) rfl rfl rfl (Sub.self _) ti60) rfl ?_
            refine kM rfl rfl ?_
            refine kO (T_callL rfl en66 (w66 (by rw [hc] at *; exact hcb) (by omega)) (oa (ol rfl (Ty.le.refl _)) (oa (ol rfl (Ty.le.refl _)) oa0))) rfl ?_
            refine kE ?_
            refine JS_cond rfl (fun c56 => ?_) (fun c56 => ?_)
            · -- region 16
              refine sR ?_
              refine kM rfl rfl ?_
              refine kO (T_fieldAddr_ptr rfl fa62_0 rfl rfl) rfl ?_
              refine kO (T_load_own_int (i := 0) rfl rfl rfl (st_sub (i := 0) rfl rfl) ti3) rfl ?_
              refine kO (T_shl rfl rfl rfl (by omega) (shl1_u64 (by omega) (by rw [et]; omega))) rfl ?_
              refine kO (T_bits rfl (.inr (.inl rfl)) rfl rfl (or_u64 (by omega) (by omega))) rfl ?_
              refine kA rfl rfl ?_
              refine kE ?_
              refine JS_end_inB ?_
              -- region 17
              refine sR ?_
              refine kO (T_add rfl rfl rfl (wrap_i64 (by omega) (by omega))) rfl ?_
              refine kM rfl rfl ?_
              refine kE ?_
              refine JS_drop 0 ?_
              exact JS_round (q + 1) (by omega) (by omega) rfl (EnvSub.consLe rfl (int_eq (rfl)) (EnvSub.consLe rfl (int_eq (by rw [rB_step hq1, if_pos c56, hto])) (EnvSub.pick1 rfl (EnvSub.pick1 rfl (EnvSub.pick1 rfl (EnvSub.pick1 rfl (EnvSub.pick1 rfl (EnvSub.pick1 rfl (EnvSub.pick1 rfl (EnvSub.pick1 rfl (EnvSub.pick1 rfl (EnvSub.pick1 rfl (EnvSub.pick1 rfl (EnvSub.nil _))))))))))))))
            · refine JS_skip ?_
              refine JS_end_inB ?_
              -- region 17
              refine sR ?_
              refine kO (T_add rfl rfl rfl (wrap_i64 (by omega) (by omega))) rfl ?_
              refine kM rfl rfl ?_
              refine kE ?_
              refine JS_drop 0 ?_
              exact JS_round (q + 1) (by omega) (by omega) rfl (EnvSub.consLe rfl (int_eq (rfl)) (EnvSub.consLe rfl (int_eq (by rw [rB_step hq1, if_neg (by rw [c56]; decide)])) (EnvSub.pick1 rfl (EnvSub.pick1 rfl (EnvSub.pick1 rfl (EnvSub.pick1 rfl (EnvSub.pick1 rfl (EnvSub.pick1 rfl (EnvSub.pick1 rfl (EnvSub.pick1 rfl (EnvSub.pick1 rfl (EnvSub.pick1 rfl (EnvSub.pick1 rfl (EnvSub.nil _))))))))))))))
          · refine JS_exit (JE_loop_exit (JE_inB_here ?_))
            refine JS_end_inB ?_
            -- region 18
            refine sR ?_
            refine kO (T_add rfl rfl rfl (wrap_i64 (by omega) (by omega))) rfl ?_
            refine kM rfl rfl ?_
            refine kE ?_
            refine JS_drop 0 ?_
            exact JS_round (j + 1) (by omega) (by omega) rfl (EnvSub.consLe rfl (int_eq (rfl)) (EnvSub.consLe rfl (int_eq (by rw [rC_step (c := c) (by omega) (hc.symm.trans (toNat_get _)), rB_full (by omega)])) (EnvSub.pick1 rfl (EnvSub.pick1 rfl (EnvSub.pick1 rfl (EnvSub.pick1 rfl (EnvSub.pick1 rfl (EnvSub.pick1 rfl (EnvSub.pick1 rfl (EnvSub.nil _))))))))))
        · refine JS_exit (JE_loop_exit (JE_inB_here ?_))
          refine JS_end_inB ?_
          -- region 19
          refine sR ?_
          refine kO (T_add rfl rfl rfl (wrap_i64 (by omega) (by omega))) rfl ?_
          refine kM rfl rfl ?_
          refine kE ?_
          exact JS_round (t + 1) (by omega) (by omega) rfl (EnvSub.consLe rfl (int_eq (rfl)) (EnvSub.consLe rfl (int_eq (by rw [rT_succ, if_pos (bit_non (n := t) c33), ← hgl, rC_full (by omega)])) (EnvSub.pick1 rfl (EnvSub.pick1 rfl (EnvSub.pick1 rfl (EnvSub.pick1 rfl (EnvSub.nil _)))))))
    · obtain rfl : t = M.owner.length := by omega
      refine JS_exit (JE_loop_exit (JE_inB_here ?_))
      refine JS_end_inB ?_
      exact JS_round (seen, (rT M x seen M.owner.length seen)) (by try dsimp only; exact ((hR.step hM (by omega)).1)) (by try dsimp only; exact ((hR.step hM (by omega)).2)) rfl (EnvSub.consLe rfl (int_eq (rfl)) (EnvSub.consLe rfl (int_eq (rfl)) (EnvSub.pick1 rfl (EnvSub.pick1 rfl (EnvSub.nil _)))))
  · refine JS_exit (JE_loop_exit (JE_inB_here ?_))
    refine JS_seq ?_
    -- region 20
    refine sR ?_
    refine kM rfl rfl ?_
    refine kA rfl rfl ?_
    refine kE ?_
    exact JS_ret (JE_retM1 () rfl rfl (.tmp rfl .nil) (int_eq (by rw [hR.stop (by omega)])) rfl rfl rfl)

theorem any_hit {out : List Nat} {i s : Nat} (h : i < out.length) (hb : (out[((i : Int)).toNat]'h).testBit s = true) : out.any (fun b => b.testBit s) = true := List.any_eq_true.2 ⟨_, List.getElem_mem h, hb⟩
theorem any_none {out : List Nat} {s : Nat} (h : ∀ j (hj : j < out.length), out[j].testBit s = false) : out.any (fun b => b.testBit s) = false := by
  rw [Bool.eq_false_iff]; intro e
  obtain ⟨b, hb, hs⟩ := List.any_eq_true.1 e
  obtain ⟨j, hj, rfl⟩ := List.getElem_of_mem hb
  rw [h j hj] at hs; cases hs
theorem any_more {out : List Nat} {q s : Nat} (hq : q < out.length) (h : ∀ j (hj : j < out.length), j < q → out[j].testBit s = false) (hb : (out[((q : Int)).toNat]'hq).testBit s = false) : ∀ j (hj : j < out.length), j < q + 1 → out[j].testBit s = false := fun j hj hlt => by
  rcases Nat.lt_or_ge j q with h1 | h1
  · exact h j hj h1
  · obtain rfl : j = q := by omega
    exact hb

theorem en44 : Enters Tryz.prog 44 := enters_fn Tryz.func44 (by kernel_rfl) rfl

theorem en45 : Enters Tryz.prog 45 := enters_fn Tryz.func45 (by kernel_rfl) rfl

theorem ei33 : EI Tryz.prog 33 1 8 (.int .u64 (0)) := by unfold EI; kernel_rfl

theorem u74 : Tryz.prog.underlying 74 = some (.slice 33) := by kernel_rfl

theorem z33 : ZeroOf Tryz.prog 33 (.int .u64 (0)) := by unfold ZeroOf; kernel_rfl

theorem en28 : Enters Tryz.prog 28 := enters_fn Tryz.func28 (by kernel_rfl) rfl

theorem m28S {M : Mo} {g T Z : Nat} {most : Bool} {B : List Nat} {x f : Nat} (hM : Low M) (hsm : M.choices.length = M.owner.length) (h12 : M.owner.length ≤ 12) (hx : x < 4096) (hf : x < f + 1) (ih : ∀ y, y < f → y < 4096 → SpecM CC 28 [Ty.val (ptr g 0), Ty.val (.int .u64 (y : Int))] [Res.box g 76 (Seg.cat [Seg.of Kd.mo M, Seg.of (Kd.nat .u64) T, Seg.of Kd.bool most, Seg.of (Kd.nat .u64) Z, Seg.of (Kd.slice (Kd.nat .u64)) B])] (fun (_ : Unit) => Ty.of (Kd.slice (Kd.nat .u64)) (compF M f y)) (fun _ => [Res.box g 76 (Seg.cat [Seg.of Kd.mo M, Seg.of (Kd.nat .u64) T, Seg.of Kd.bool most, Seg.of (Kd.nat .u64) Z, Seg.of (Kd.slice (Kd.nat .u64)) B])])) : SpecM CC 28 [Ty.val (ptr g 0), Ty.val (.int .u64 (x : Int))] [Res.box g 76 (Seg.cat [Seg.of Kd.mo M, Seg.of (Kd.nat .u64) T, Seg.of Kd.bool most, Seg.of (Kd.nat .u64) Z, Seg.of (Kd.slice (Kd.nat .u64)) B])] (Y := Unit) (fun _ => Ty.of (Kd.slice (Kd.nat .u64)) (compF M (f + 1) x)) (fun _ => [Res.box g 76 (Seg.cat [Seg.of Kd.mo M, Seg.of (Kd.nat .u64) T, Seg.of Kd.bool most, Seg.of (Kd.nat .u64) Z, Seg.of (Kd.slice (Kd.nat .u64)) B])]) := by
  refine specM_of_JS Tryz.func28 rfl (Nat.le_of_ble_eq_true rfl) (fun gh0 wd0 => ?_)
  obtain ⟨y, hy⟩ : ∃ y, y = shrinkF M.owner.length (compK M) 4096 x := ⟨_, rfl⟩
  have hyx : y ≤ x := hy ▸ shrinkF_le _ _ _ _
  have hcf : compF M (f + 1) x = compGo (compF M f) M y (Lr M.owner.length 0) [] := by rw [compF, ← hy]; rfl
  rw [hcf]
  have h1144 : (12 : Nat) ^ 11 = 743008370688 := by decide
  refine JS_seq ?_
  -- region 0
  refine sR ?_
  refine kO (T_box rfl (ol rfl (to_kval rfl))) rfl ?_
  refine kA rfl rfl ?_
  refine kE ?_
  refine JS_scopeS rfl ?_
  refine JS_seq ?_
  -- region 1
  refine sR ?_
  refine kO (T_sub (T_ld rfl rfl ti47) (of_kval _)) rfl ?_
  refine kM rfl rfl ?_
  refine kO (T_mkfnM (ins := (keepIn M)) (out := (keepOut M (compK M))) (Δin := [Res.box g 76 (Seg.cat [Seg.of Kd.mo M, Seg.of (Kd.nat .u64) T, Seg.of Kd.bool most, Seg.of (Kd.nat .u64) Z, Seg.of (Kd.slice (Kd.nat .u64)) B])]) rfl rfl en44 (fun p => m44 hM (by rw [hsm]; exact p.2.1) p.2.2) (oa (ol rfl (Ty.le.refl _)) oa0)) rfl ?_
  refine kT ?_
  refine JT_callM1 (i := 0) rfl rfl rfl en41 rfl (m41 (kf := compK M) (f0 := 4096) h12 (by omega) (by omega)) (oa (ol rfl (Ty.le.refl _)) (oa (ol rfl (Ty.le.refl _)) (oa (ol rfl (Ty.le.refl _)) oa0))) (fun y14 => ?_)
  refine jA rfl rfl ?_
  refine JT_done ?_
  refine JS_seq ?_
  -- region 2
  refine JS_re (s := 1) (T := Ty.val (.int .u64 (y : Int))) rfl (int_eq (by rw [hy])) ?_
  refine sR ?_
  refine kA rfl rfl ?_
  refine kE ?_
  refine JS_seq ?_
  refine JS_label ?_
  refine JS_seq ?_
  refine JS_seq ?_
  -- region 3
  refine JS_own_nil 33 (Kd.nat .u64) ?_
  refine sR ?_
  refine kO (T_sub (T_ld rfl rfl ti47) (of_kval _)) rfl ?_
  refine kO (T_nilCheckO rfl rfl) rfl ?_
  refine kO (T_fieldAddr_ptr rfl fa76_0 rfl rfl) rfl ?_
  refine kO (T_fieldAddr_ptr rfl fa30_0 rfl rfl) rfl ?_
  refine kO (T_load_own (i := 1) rfl rfl rfl (Sub.in_ (sc (i := 0) rfl rfl) (st_sub (i := 0) rfl rfl)) ti27) rfl ?_
  refine kO (T_len_slice rfl rfl u27 rfl) rfl ?_
  refine kM rfl rfl ?_
  refine kE ?_
  refine JS_block ?_
  refine sLoop3 (fun (i : Nat) (v : Value) (out : List Nat) => [(21, Ty.val (.int .i64 (i : Int))), (5, Ty.val (v))]) [1, 2, 20] (fun (i : Nat) (v : Value) (out : List Nat) => [(0, Res.sl v 33 (Kd.nat .u64) out), (1, Res.box g 76 (Seg.cat [Seg.of Kd.mo M, Seg.of (Kd.nat .u64) T, Seg.of Kd.bool most, Seg.of (Kd.nat .u64) Z, Seg.of (Kd.slice (Kd.nat .u64)) B]))]) (fun (i : Nat) (v : Value) (out : List Nat) => i ≤ M.owner.length ∧ compGo (compF M f) M y (Lr M.owner.length 0) [] = compGo (compF M f) M y (Lr M.owner.length i) out ∧ out.length ≤ i * 743008370688 ∧ ∀ b ∈ out, b < 4096) (fun (i : Nat) (v : Value) (out : List Nat) => M.owner.length - i) 0 (.slice none 0 0) [] (⟨Nat.zero_le _, rfl, grow0 _, fun b hb => by cases hb⟩) rfl (EnvSub.consLe rfl (int_eq (rfl)) (EnvSub.consLe rfl (Ty.le.refl _) (EnvSub.nil _))) (fun i v out (hI : i ≤ M.owner.length ∧ compGo (compF M f) M y (Lr M.owner.length 0) [] = compGo (compF M f) M y (Lr M.owner.length i) out ∧ out.length ≤ i * 743008370688 ∧ ∀ b ∈ out, b < 4096) => ?_)
  obtain ⟨hI1, hI2, hI3, hob⟩ := hI
  refine JS_seq ?_
  -- region 4
  refine sR ?_
  refine kO (T_lt rfl rfl rfl) rfl ?_
  refine kE ?_
  refine JS_seq ?_
  refine JS_if rfl (fun c22 => ?_) (fun c22 => ?_)
  · have hi1 : i < M.owner.length := by omega
    have hpi : 2 ^ i ≤ 2 ^ 11 := Nat.pow_le_pow_right (by decide) (by omega)
    rw [show (2 : Nat) ^ 11 = 2048 by decide] at hpi
    have hpi0 : 1 ≤ 2 ^ i := Nat.one_le_two_pow
    have ei : (2 ^ ((i : Int)).toNat : Nat) = 2 ^ i := rfl
    have hri := reach_bd hM (x := y) (s := i) (by omega)
    have hmi : i * 743008370688 ≤ 11 * 743008370688 := Nat.mul_le_mul_right _ (by omega)
    refine JS_skip ?_
    refine JS_seq ?_
    refine JS_block ?_
    refine JS_seq ?_
    -- region 5
    refine sR ?_
    refine kM rfl rfl ?_
    refine kA rfl rfl ?_
    refine kE ?_
    refine JS_seq ?_
    refine JS_seq ?_
    -- region 6
    refine sR ?_
    refine kM rfl rfl ?_
    refine kM rfl rfl ?_
    refine kO (T_shr rfl rfl rfl (by omega) (shr_u64 (by omega) (by omega))) rfl ?_
    refine kO (T_bits rfl (.inl rfl) rfl rfl (and1_u64 (Nat.lt_of_le_of_lt (Nat.shiftRight_le _ _) (by omega)))) rfl ?_
    refine kO (T_eq rfl rfl rfl) rfl ?_
    refine kE ?_
    refine JS_if rfl (fun c28 => ?_) (fun c28 => ?_)
    · have hbit : y.testBit i = false := bit_off (n := i) c28
      refine JS_exit (JE_inB_here ?_)
      -- region 23
      refine sR ?_
      refine kO (T_add rfl rfl rfl (wrap_i64 (by omega) (by omega))) rfl ?_
      refine kM rfl rfl ?_
      refine kE ?_
      exact JS_round ((i + 1), v, out) (by try dsimp only; exact (⟨by omega, hI2.trans (go_skip hi1 hbit), grow hI3, hob⟩)) (by try dsimp only; exact (by omega)) rfl (EnvSub.consLe rfl (int_eq (rfl)) (EnvSub.consLe rfl (Ty.le.refl _) (EnvSub.pick1 rfl (EnvSub.pick1 rfl (EnvSub.pick1 rfl (EnvSub.nil _))))))
    · have hbit : y.testBit i = true := bit_non (n := i) c28
      refine JS_skip ?_
      refine JS_seq ?_
      -- region 7
      refine sR ?_
      refine kA rfl rfl ?_
      refine kE ?_
      refine JS_seq ?_
      refine JS_seq ?_
      -- region 8
      refine sR ?_
      refine kO (T_sub (T_ld rfl rfl ti47) (of_kval _)) rfl ?_
      refine kO (T_nilCheckO rfl rfl) rfl ?_
      refine kO (T_fieldAddr_ptr rfl fa76_0 rfl rfl) rfl ?_
      refine kO (T_fieldAddr_ptr rfl fa30_0 rfl rfl) rfl ?_
      refine kO (T_load_own (i := 1) rfl rfl rfl (Sub.in_ (sc (i := 0) rfl rfl) (st_sub (i := 0) rfl rfl)) ti27) rfl ?_
      refine kO (T_len_slice rfl rfl u27 rfl) rfl ?_
      refine kM rfl rfl ?_
      refine kE ?_
      refine JS_block ?_
      refine sLoop1 (fun (k : Nat) => [(35, Ty.val (.int .i64 (k : Int))), (7, Ty.val (.int .u64 ((partF M y i k : Nat) : Int)))]) [1, 2, 5, 6, 20, 21, 34] (fun (k : Nat) => [(0, Res.sl v 33 (Kd.nat .u64) out), (1, Res.box g 76 (Seg.cat [Seg.of Kd.mo M, Seg.of (Kd.nat .u64) T, Seg.of Kd.bool most, Seg.of (Kd.nat .u64) Z, Seg.of (Kd.slice (Kd.nat .u64)) B]))]) (fun (k : Nat) => k ≤ M.owner.length) (fun (k : Nat) => M.owner.length - k) 0 (Nat.zero_le _) rfl (EnvSub.consLe rfl (int_eq (rfl)) (EnvSub.consLe rfl (int_eq (rfl)) (EnvSub.nil _))) (fun k (hK : k ≤ M.owner.length) => ?_)
      refine JS_seq ?_
      -- region 9
      refine sR ?_
      refine kO (T_lt rfl rfl rfl) rfl ?_
      refine kE ?_
      refine JS_seq ?_
      refine JS_if rfl (fun c36 => ?_) (fun c36 => ?_)
      · have hk1 : k < M.owner.length := by omega
        have hpk : 2 ^ ((k : Int)).toNat ≤ 2 ^ 11 := Nat.pow_le_pow_right (by decide) (by omega)
        rw [show (2 : Nat) ^ 11 = 2048 by decide] at hpk
        have hpl := partF_le M y i k
        have hrk := reach_bd hM (x := y) (s := k) (by omega)
        refine JS_skip ?_
        refine JS_seq ?_
        refine JS_block ?_
        refine JS_seq ?_
        -- region 10
        refine sR ?_
        refine kM rfl rfl ?_
        refine kA rfl rfl ?_
        refine kE ?_
        refine JS_seq ?_
        -- region 11
        refine sR ?_
        refine kM rfl rfl ?_
        refine kM rfl rfl ?_
        refine kO (T_shr rfl rfl rfl (by omega) (shr_u64 (by omega) (by omega))) rfl ?_
        refine kO (T_bits rfl (.inl rfl) rfl rfl (and1_u64 (Nat.lt_of_le_of_lt (Nat.shiftRight_le _ _) (by omega)))) rfl ?_
        refine kO (T_eq rfl rfl rfl) rfl ?_
        refine kM rfl rfl ?_
        refine tk_if (d := 43) rfl (fun g43 => ?_) (fun g43 => ?_)
        · refine kG (wTD g43 rfl rfl rfl) (T_sub (T_ld rfl rfl ti47) (of_kval _)) rfl ?_
          refine kG (wTD g43 rfl rfl rfl) (T_move (.inl rfl) rfl) rfl ?_
          refine kG (wTD g43 rfl rfl rfl) (T_move (.inl rfl) rfl) rfl ?_
          refine kT ?_
          refine JT_callM1 (i := 1) rfl (wTD g43 rfl rfl rfl) rfl en45 rfl (m45 hM hsm h12 (by omega) (by omega)) (oa (ol rfl (Ty.le.refl _)) (oa (ol rfl (Ty.le.refl _)) (oa (ol rfl (Ty.le.refl _)) oa0))) (fun y47 => ?_)
          refine jG (wTD g43 rfl rfl rfl) (T_move (.inl rfl) rfl) rfl ?_
          refine jG (wTD g43 rfl rfl rfl) (T_shr rfl rfl rfl (by omega) (shr_u64 (by omega) (by omega))) rfl ?_
          refine jG (wTD g43 rfl rfl rfl) (T_bits rfl (.inl rfl) rfl rfl (and1_u64 (Nat.lt_of_le_of_lt (Nat.shiftRight_le _ _) (by omega)))) rfl ?_
          refine jG (wTD g43 rfl rfl rfl) (T_eq rfl rfl rfl) rfl ?_
          refine jO (T_pickD g43 rfl rfl rfl) rfl ?_
          refine jM rfl rfl ?_
          refine jt_if (d := 53) rfl (fun g53 => ?_) (fun g53 => ?_)
          · refine jG (wTD g53 rfl rfl rfl) (T_sub (T_ld rfl rfl ti47) (of_kval _)) rfl ?_
            refine jG (wTD g53 rfl rfl rfl) (T_move (.inl rfl) rfl) rfl ?_
            refine jG (wTD g53 rfl rfl rfl) (T_move (.inl rfl) rfl) rfl ?_
            refine JT_callM1 (i := 0) rfl (wTD g53 rfl rfl rfl) rfl en45 rfl (m45 hM hsm h12 (by omega) (by omega)) (oa (ol rfl (Ty.le.refl _)) (oa (ol rfl (Ty.le.refl _)) (oa (ol rfl (Ty.le.refl _)) oa0))) (fun y57 => ?_)
            refine jG (wTD g53 rfl rfl rfl) (T_move (.inl rfl) rfl) rfl ?_
            refine jG (wTD g53 rfl rfl rfl) (T_shr rfl rfl rfl (by omega) (shr_u64 (by omega) (by omega))) rfl ?_
            refine jG (wTD g53 rfl rfl rfl) (T_bits rfl (.inl rfl) rfl rfl (and1_u64 (Nat.lt_of_le_of_lt (Nat.shiftRight_le _ _) (by omega)))) rfl ?_
            refine jG (wTD g53 rfl rfl rfl) (T_eq rfl rfl rfl) rfl ?_
            refine jO (T_pickD g53 rfl rfl rfl) rfl ?_
            refine JT_done ?_
            refine JS_if rfl (fun c62 => ?_) (fun c62 => ?_)
            · -- region 12
              refine sR ?_
              refine kM rfl rfl ?_
              refine kM rfl rfl ?_
              refine kO (T_shl rfl rfl rfl (by omega) (shl1_u64 (by omega) (by omega))) rfl ?_
              refine kO (T_bits rfl (.inr (.inl rfl)) rfl rfl (or_u64 (by omega) (by omega))) rfl ?_
              refine kA rfl rfl ?_
              refine kE ?_
              refine JS_end_inB ?_
              -- region 13
              refine sR ?_
              refine kO (T_add rfl rfl rfl (wrap_i64 (by omega) (by omega))) rfl ?_
              refine kM rfl rfl ?_
              refine kE ?_
              refine JS_perm (List.Perm.swap _ _ _) ?_
              exact JS_round (k + 1) (by omega) (by omega) rfl (EnvSub.consLe rfl (int_eq (rfl)) (EnvSub.consLe rfl (int_eq (by rw [← part_on (bit_on (n := k) g43) (bit_on (n := k) g53) (bit_on (n := i) c62)]; rfl)) (EnvSub.pick1 rfl (EnvSub.pick1 rfl (EnvSub.pick1 rfl (EnvSub.pick1 rfl (EnvSub.pick1 rfl (EnvSub.pick1 rfl (EnvSub.pick1 rfl (EnvSub.nil _))))))))))
            · refine JS_skip ?_
              refine JS_end_inB ?_
              -- region 13
              refine sR ?_
              refine kO (T_add rfl rfl rfl (wrap_i64 (by omega) (by omega))) rfl ?_
              refine kM rfl rfl ?_
              refine kE ?_
              refine JS_perm (List.Perm.swap _ _ _) ?_
              exact JS_round (k + 1) (by omega) (by omega) rfl (EnvSub.consLe rfl (int_eq (rfl)) (EnvSub.consLe rfl (int_eq (by rw [← part_off (fun h => by rw [bit_noff (n := i) c62] at h; exact absurd h.2.2 (by decide))])) (EnvSub.pick1 rfl (EnvSub.pick1 rfl (EnvSub.pick1 rfl (EnvSub.pick1 rfl (EnvSub.pick1 rfl (EnvSub.pick1 rfl (EnvSub.pick1 rfl (EnvSub.nil _))))))))))
          · refine jS (uFD g53 rfl rfl rfl) rfl ?_
            refine jS (uFD g53 rfl rfl rfl) rfl ?_
            refine jS (uFD g53 rfl rfl rfl) rfl ?_
            refine jS (uFD g53 rfl rfl rfl) rfl ?_
            refine jS (uFD g53 rfl rfl rfl) rfl ?_
            refine jS (uFD g53 rfl rfl rfl) rfl ?_
            refine jS (uFD g53 rfl rfl rfl) rfl ?_
            refine jS (uFD g53 rfl rfl rfl) rfl ?_
            refine jO (T_pickN g53 rfl rfl rfl) rfl ?_
            refine JT_done ?_
            refine JS_cf rfl ?_
            refine JS_skip ?_
            refine JS_end_inB ?_
            -- region 13
            refine sR ?_
            refine kO (T_add rfl rfl rfl (wrap_i64 (by omega) (by omega))) rfl ?_
            refine kM rfl rfl ?_
            refine kE ?_
            refine JS_perm (List.Perm.swap _ _ _) ?_
            exact JS_round (k + 1) (by omega) (by omega) rfl (EnvSub.consLe rfl (int_eq (rfl)) (EnvSub.consLe rfl (int_eq (by rw [← part_off (fun h => by rw [bit_noff (n := k) g53] at h; exact absurd h.2.1 (by decide))])) (EnvSub.pick1 rfl (EnvSub.pick1 rfl (EnvSub.pick1 rfl (EnvSub.pick1 rfl (EnvSub.pick1 rfl (EnvSub.pick1 rfl (EnvSub.pick1 rfl (EnvSub.nil _))))))))))
        · refine kS (uFD g43 rfl rfl rfl) rfl ?_
          refine kS (uFD g43 rfl rfl rfl) rfl ?_
          refine kS (uFD g43 rfl rfl rfl) rfl ?_
          refine kS (uFD g43 rfl rfl rfl) rfl ?_
          refine kS (uFD g43 rfl rfl rfl) rfl ?_
          refine kS (uFD g43 rfl rfl rfl) rfl ?_
          refine kS (uFD g43 rfl rfl rfl) rfl ?_
          refine kS (uFD g43 rfl rfl rfl) rfl ?_
          refine kO (T_pickN g43 rfl rfl rfl) rfl ?_
          refine kM rfl rfl ?_
          refine kS (wF rfl rfl rfl (by decide)) rfl ?_
          refine kS (wF rfl rfl rfl (by decide)) rfl ?_
          refine kS (wF rfl rfl rfl (by decide)) rfl ?_
          refine kS (wF rfl rfl rfl (by decide)) rfl ?_
          refine kS (wF rfl rfl rfl (by decide)) rfl ?_
          refine kS (wF rfl rfl rfl (by decide)) rfl ?_
          refine kS (wF rfl rfl rfl (by decide)) rfl ?_
          refine kS (wF rfl rfl rfl (by decide)) rfl ?_
          refine kO (T_pickF rfl rfl rfl rfl) rfl ?_
          refine kE ?_
          refine JS_cf rfl ?_
          refine JS_skip ?_
          refine JS_end_inB ?_
          -- region 13
          refine sR ?_
          refine kO (T_add rfl rfl rfl (wrap_i64 (by omega) (by omega))) rfl ?_
          refine kM rfl rfl ?_
          refine kE ?_
          exact JS_round (k + 1) (by omega) (by omega) rfl (EnvSub.consLe rfl (int_eq (rfl)) (EnvSub.consLe rfl (int_eq (by rw [← part_off (fun h => by rw [bit_noff (n := k) g43] at h; exact absurd h.1 (by decide))])) (EnvSub.pick1 rfl (EnvSub.pick1 rfl (EnvSub.pick1 rfl (EnvSub.pick1 rfl (EnvSub.pick1 rfl (EnvSub.pick1 rfl (EnvSub.pick1 rfl (EnvSub.nil _))))))))))
      · obtain rfl : k = M.owner.length := by omega
        have hpl := partF_le M y i M.owner.length
        refine JS_exit (JE_loop_exit (JE_inB_here ?_))
        refine JS_seq ?_
        refine JS_seq ?_
        -- region 14
        refine sR ?_
        refine kM rfl rfl ?_
        refine kM rfl rfl ?_
        refine kO (T_eq rfl rfl rfl) rfl ?_
        refine kE ?_
        refine JS_if rfl (fun c70 => ?_) (fun c70 => ?_)
        · rw [hI2, go_eq hi1 hbit (by omega)]
          refine JS_seq ?_
          -- region 15
          refine sR ?_
          refine kM rfl rfl ?_
          refine kO (T_lits (xs := [.tmp 71]) (d := (Kd.nat .u64)) [y] rfl rfl u74 ti33 z33 rfl rfl (by decide) (by decide) (oa (ol rfl (val_nat .u64 rfl)) oa0) rfl) rfl ?_
          refine kA rfl rfl ?_
          refine kE ?_
          refine JS_drop 0 ?_
          exact JS_ret (JE_inB_ret (JE_loop_ret (JE_inB_ret (JE_scope_ret (JE_retM1 () rfl rfl (.tmp rfl .nil) (of_eq (rfl)) rfl rfl rfl)))))
        · have hne : partF M y i M.owner.length ≠ y := by omega
          refine JS_skip ?_
          refine JS_seq ?_
          refine JS_seq ?_
          -- region 16
          refine sR ?_
          refine kM rfl rfl ?_
          refine kO (T_len_own (i := 0) rfl rfl u74 rfl rfl) rfl ?_
          refine kM rfl rfl ?_
          refine kE ?_
          refine JS_block ?_
          refine sLoop1 (fun (q : Nat) => [(75, Ty.val (.int .i64 (q : Int)))]) [1, 2, 5, 6, 7, 20, 21, 73, 74] (fun (q : Nat) => [(0, Res.sl v 33 (Kd.nat .u64) out), (1, Res.box g 76 (Seg.cat [Seg.of Kd.mo M, Seg.of (Kd.nat .u64) T, Seg.of Kd.bool most, Seg.of (Kd.nat .u64) Z, Seg.of (Kd.slice (Kd.nat .u64)) B]))]) (fun (q : Nat) => q ≤ out.length ∧ ∀ j (hj : j < out.length), j < q → out[j].testBit i = false) (fun (q : Nat) => out.length - q) 0 (⟨Nat.zero_le _, fun j _ h => absurd h (by omega)⟩) rfl (EnvSub.consLe rfl (int_eq (rfl)) (EnvSub.nil _)) (fun q (hQ : q ≤ out.length ∧ ∀ j (hj : j < out.length), j < q → out[j].testBit i = false) => ?_)
          obtain ⟨hQ1, hQ2⟩ := hQ
          refine JS_seq ?_
          -- region 17
          refine sR ?_
          refine kO (T_lt rfl rfl rfl) rfl ?_
          refine kE ?_
          refine JS_seq ?_
          refine JS_if rfl (fun c76 => ?_) (fun c76 => ?_)
          · have hqb : out[((q : Int)).toNat]'(by omega) < 4096 := hob _ (List.getElem_mem _)
            refine JS_skip ?_
            refine JS_seq ?_
            refine JS_block ?_
            refine JS_seq ?_
            -- region 18
            refine sR ?_
            refine kO (T_ixo (ix := 0) (d := (Kd.nat .u64)) rfl rfl rfl rfl u74 ti33 (by omega) (by omega)) rfl ?_
            refine kO (T_sub (T_lde (i := 0) (d := (Kd.nat .u64)) rfl rfl rfl ti33 (by omega) rfl) (nat_val _ _)) rfl ?_
            refine kA rfl rfl ?_
            refine kE ?_
            refine JS_seq ?_
            -- region 19
            refine sR ?_
            refine kM rfl rfl ?_
            refine kM rfl rfl ?_
            refine kO (T_shr rfl rfl rfl (by omega) (shr_u64 (by omega) (by omega))) rfl ?_
            refine kO (T_bits rfl (.inl rfl) rfl rfl (and1_u64 (Nat.lt_of_le_of_lt (Nat.shiftRight_le _ _) (by omega)))) rfl ?_
            refine kO (T_eq rfl rfl rfl) rfl ?_
            refine kE ?_
            refine JS_if rfl (fun c83 => ?_) (fun c83 => ?_)
            · refine JS_exit (JE_inB_out rfl (JE_loop_exit (JE_inB_out rfl (JE_inB_here ?_))))
              -- region 23
              refine sR ?_
              refine kO (T_add rfl rfl rfl (wrap_i64 (by omega) (by omega))) rfl ?_
              refine kM rfl rfl ?_
              refine kE ?_
              exact JS_round ((i + 1), v, out) (by try dsimp only; exact (⟨by omega, hI2.trans (go_has hi1 hbit hne (any_hit (i := q) (by omega) (bit_on (n := i) c83))), grow hI3, hob⟩)) (by try dsimp only; exact (by omega)) rfl (EnvSub.consLe rfl (int_eq (rfl)) (EnvSub.consLe rfl (Ty.le.refl _) (EnvSub.pick1 rfl (EnvSub.pick1 rfl (EnvSub.pick1 rfl (EnvSub.nil _))))))
            · refine JS_skip ?_
              refine JS_end_inB ?_
              -- region 20
              refine sR ?_
              refine kO (T_add rfl rfl rfl (wrap_i64 (by omega) (by omega))) rfl ?_
              refine kM rfl rfl ?_
              refine kE ?_
              exact JS_round (q + 1) (⟨by omega, any_more (by omega) hQ2 (bit_noff (n := i) c83)⟩) (by omega) rfl (EnvSub.consLe rfl (int_eq (rfl)) (EnvSub.pick1 rfl (EnvSub.pick1 rfl (EnvSub.pick1 rfl (EnvSub.pick1 rfl (EnvSub.pick1 rfl (EnvSub.pick1 rfl (EnvSub.pick1 rfl (EnvSub.pick1 rfl (EnvSub.pick1 rfl (EnvSub.nil _)))))))))))
          · have hany := any_none (fun j hj => hQ2 j hj (by omega))
            refine JS_exit (JE_loop_exit (JE_inB_here ?_))
            refine JS_seq ?_
            -- region 21
            refine sR ?_
            refine kM rfl rfl ?_
            refine kM rfl rfl ?_
            refine kO (T_shl rfl rfl rfl (by omega) (shl1_u64 (by omega) (by omega))) rfl ?_
            refine kO (T_subI rfl rfl rfl ((wrap_u64 (by rw [ei]; omega) (by rw [ei]; omega)).trans (show _ = ((2 ^ i - 1 : Nat) : Int) by rw [ei]; omega))) rfl ?_
            refine kO (T_bits rfl (.inl rfl) rfl rfl (and_u64 (by omega) (by omega))) rfl ?_
            refine kO (T_eq rfl rfl rfl) rfl ?_
            refine kE ?_
            refine JS_if rfl (fun c90 => ?_) (fun c90 => ?_)
            · have hcl := compF_len h12 f (partF M y i M.owner.length) (by omega)
              have hpc := pc_lt (y := y) (by omega) (partF_bit M y i M.owner.length) hne
              have hpy := pc_le y
              have hpw : 12 ^ pc (partF M y i M.owner.length) ≤ 12 ^ 11 := Nat.pow_le_pow_right (by decide) (by omega)
              -- region 22
              refine sR ?_
              refine kM rfl rfl ?_
              refine kO (T_sub (T_ld rfl rfl ti47) (of_kval _)) rfl ?_
              refine kM rfl rfl ?_
              refine kT ?_
              refine JT_callM1 (i := 1) rfl rfl rfl en28 rfl (ih _ (by omega) (by omega)) (oa (ol rfl (Ty.le.refl _)) (oa (ol rfl (Ty.le.refl _)) oa0)) (fun y94 => ?_)
              refine JT_append (i := 1) rfl rfl rfl rfl u74 ei33 rfl rfl (by decide) rfl rfl (ol rfl (Ty.le.refl _)) (by unfold maxLen; omega) (by omega) (fun v95 => ?_)
              refine jA rfl rfl ?_
              refine JT_done ?_
              refine JS_end_inB ?_
              -- region 23
              refine sR ?_
              refine kO (T_add rfl rfl rfl (wrap_i64 (by omega) (by omega))) rfl ?_
              refine kM rfl rfl ?_
              refine kE ?_
              refine JS_perm (List.Perm.swap _ _ _) ?_
              exact JS_round ((i + 1), v95, (out ++ compF M f (partF M y i M.owner.length))) (by try dsimp only; exact (⟨by omega, hI2.trans (go_add hi1 hbit hne hany (by omega)), by rw [List.length_append]; exact grow2 hI3 (by omega), app_bd hob (compF_bd f _ (by omega))⟩)) (by try dsimp only; exact (by omega)) rfl (EnvSub.consLe rfl (int_eq (rfl)) (EnvSub.consLe rfl (Ty.le.refl _) (EnvSub.pick1 rfl (EnvSub.pick1 rfl (EnvSub.pick1 rfl (EnvSub.nil _))))))
            · refine JS_skip ?_
              refine JS_end_inB ?_
              -- region 23
              refine sR ?_
              refine kO (T_add rfl rfl rfl (wrap_i64 (by omega) (by omega))) rfl ?_
              refine kM rfl rfl ?_
              refine kE ?_
              exact JS_round ((i + 1), v, out) (by try dsimp only; exact (⟨by omega, hI2.trans (go_pass hi1 hbit hne hany (by omega)), grow hI3, hob⟩)) (by try dsimp only; exact (by omega)) rfl (EnvSub.consLe rfl (int_eq (rfl)) (EnvSub.consLe rfl (Ty.le.refl _) (EnvSub.pick1 rfl (EnvSub.pick1 rfl (EnvSub.pick1 rfl (EnvSub.nil _))))))
  · rw [Lr_end (n := M.owner.length) (i := i) (by omega), compGo] at hI2
    rw [hI2]
    refine JS_exit (JE_loop_exit (JE_inB_here ?_))
    refine JS_seq ?_
    -- region 24
    refine JS_freeze_sl (i := 0) (s := 5) rfl rfl ?_
    refine sR ?_
    refine kM rfl rfl ?_
    refine kA rfl rfl ?_
    refine kE ?_
    exact JS_ret (JE_scope_ret (JE_retM1 () rfl rfl (.tmp rfl .nil) (of_eq (rfl)) rfl rfl rfl))

theorem m28 {M : Mo} {g T Z : Nat} {most : Bool} {B : List Nat} (hM : Low M) (hsm : M.choices.length = M.owner.length) (h12 : M.owner.length ≤ 12) : ∀ (f x : Nat), x < f → x < 4096 → SpecM CC 28 [Ty.val (ptr g 0), Ty.val (.int .u64 (x : Int))] [Res.box g 76 (Seg.cat [Seg.of Kd.mo M, Seg.of (Kd.nat .u64) T, Seg.of Kd.bool most, Seg.of (Kd.nat .u64) Z, Seg.of (Kd.slice (Kd.nat .u64)) B])] (fun (_ : Unit) => Ty.of (Kd.slice (Kd.nat .u64)) (compF M f x)) (fun _ => [Res.box g 76 (Seg.cat [Seg.of Kd.mo M, Seg.of (Kd.nat .u64) T, Seg.of Kd.bool most, Seg.of (Kd.nat .u64) Z, Seg.of (Kd.slice (Kd.nat .u64)) B])])
  | 0, _, h, _ => absurd h (Nat.not_lt_zero _)
  | f + 1, x, h, hx => m28S hM hsm h12 hx h (fun y hy hy2 => m28 hM hsm h12 f y hy hy2)

end Go.Proofs.YtknflgfkhkdomaaGreatDoor.Mono

/-! MonoCc -/
set_option linter.unusedVariables false
set_option linter.unusedSimpArgs false
namespace Go.Proofs.YtknflgfkhkdomaaGreatDoor.Mono
open Go Go.RowKit
structure So where
  mo : Mo
  tgt : Nat
  most : Bool
  zero : Nat
  blocks : List Nat
abbrev Kd.so : Kd So := Kd.st (fun s => [Seg.of Kd.mo s.mo, Seg.of (Kd.nat .u64) s.tgt, Seg.of Kd.bool s.most, Seg.of (Kd.nat .u64) s.zero, Seg.of (Kd.slice (Kd.nat .u64)) s.blocks]) 6 (fun _ => rfl)
theorem place_so {M : Mo} {T Z : Nat} {b : Bool} {B : List Nat} (x : So) (h1 : M = x.mo) (h2 : T = x.tgt) (h3 : b = x.most) (h4 : Z = x.zero) (h5 : B = x.blocks) : Ty.le (Ty.place (Seg.cat [Seg.of Kd.mo M, Seg.of (Kd.nat .u64) T, Seg.of Kd.bool b, Seg.of (Kd.nat .u64) Z, Seg.of (Kd.slice (Kd.nat .u64)) B])) (Ty.place (Seg.of Kd.so x)) := by
  subst h1; subst h2; subst h3; subst h4; subst h5; exact fun m v h => h
def beginS (M : Mo) (T : Nat) (most : Bool) : So := ⟨M, T, most, zerosF M T most, if most then compF M 4096 (minusB (2 ^ M.owner.length - 1) (T ||| zerosF M T most)) else []⟩
theorem GM.low {M : Mo} (h : GM M) : Low M := fun l hl c hc b hb => by
  obtain ⟨G, H, _, _, _, _, hC⟩ := h.grain
  have := (hC l hl c hc).next b hb
  have := h.n1
  omega
theorem num0_numE {o : Option Rat} {q : Rat} (h : o = some q) : Ty.le (Ty.of Kd.num0 o) (Ty.of Kd.num q) := by subst h; exact num0_num q
def betterQ (most : Bool) (x y : Rat) : Rat := if (decide (cmpQ x y < 0) == most) = true then y else x
def bestStep (most : Bool) (cf : Ch → Bool) (l : List Rat) (a : Option Rat) (c : Ch) : Option Rat := if cf c then some (match a with | none => mixQ c l | some y => betterQ most y (mixQ c l)) else a
def bestO (most : Bool) (cf : Ch → Bool) (l : List Rat) (cs : List Ch) : Option Rat := cs.foldl (bestStep most cf l) none
theorem bestO_step {most : Bool} {cf : Ch → Bool} {l : List Rat} {cs : List Ch} {i : Nat} {c : Ch} (h : i < cs.length) (hc : c = cs[i]) : bestO most cf l (cs.take (i + 1)) = bestStep most cf l (bestO most cf l (cs.take i)) c := by
  subst hc; unfold bestO; rw [List.take_succ_eq_append_getElem h, List.foldl_append]; rfl
theorem bestO_skip {most : Bool} {cf : Ch → Bool} {l : List Rat} {cs : List Ch} {i : Nat} {c : Ch} (h : i < cs.length) (hc : c = cs[i]) (hb : cf c = false) : bestO most cf l (cs.take (i + 1)) = bestO most cf l (cs.take i) := by
  rw [bestO_step h hc]; unfold bestStep; rw [hb]; rfl
theorem bestO_new {most : Bool} {cf : Ch → Bool} {l : List Rat} {cs : List Ch} {i : Nat} {c : Ch} (h : i < cs.length) (hc : c = cs[i]) (hb : cf c = true) (hn : (bestO most cf l (cs.take i)).isSome = false) : bestO most cf l (cs.take (i + 1)) = some (mixQ c l) := by
  rw [bestO_step h hc]; unfold bestStep; rw [hb]
  cases e : bestO most cf l (cs.take i) with
  | none => rfl
  | some y => rw [e] at hn; cases hn
theorem bestO_up {most : Bool} {cf : Ch → Bool} {l : List Rat} {cs : List Ch} {i : Nat} {c : Ch} {y : Rat} (h : i < cs.length) (hc : c = cs[i]) (hb : cf c = true) (hy : bestO most cf l (cs.take i) = some y) : bestO most cf l (cs.take (i + 1)) = some (betterQ most y (mixQ c l)) := by
  rw [bestO_step h hc]; unfold bestStep; rw [hb, hy]; rfl
theorem betterQ_P {P : Rat → Prop} {most : Bool} {x y : Rat} (hx : P x) (hy : P y) : P (betterQ most x y) := by unfold betterQ; split <;> assumption
theorem bestO_P {P : Rat → Prop} {most : Bool} {cf : Ch → Bool} {l : List Rat} : ∀ (cs : List Ch), (∀ c ∈ cs, P (mixQ c l)) → ∀ y, bestO most cf l cs = some y → P y := by
  intro cs
  have key : ∀ (cs : List Ch) (a : Option Rat), (∀ y, a = some y → P y) → (∀ c ∈ cs, P (mixQ c l)) → ∀ y, cs.foldl (bestStep most cf l) a = some y → P y := by
    intro cs
    induction cs with
    | nil => intro a ha _; exact ha
    | cons c cs ih =>
      intro a ha hc
      refine ih _ (fun y hy => ?_) (fun c hc' => hc c (by simp [hc']))
      unfold bestStep at hy
      split at hy
      · cases a with
        | none => cases hy; exact hc c (by simp)
        | some z => cases hy; exact betterQ_P (ha z rfl) (hc c (by simp))
      · exact ha y hy
  exact fun h => key cs none (fun y hy => by cases hy) h
theorem bestO_all {most : Bool} {l : List Rat} {cs : List Ch} (h : 0 < cs.length) : (bestO most (fun _ => true) l cs).isSome = true := by
  match cs, h with
  | c :: cs, _ =>
    have key : ∀ (cs : List Ch) (z : Rat), (cs.foldl (bestStep most (fun _ => true) l) (some z)).isSome = true := by
      intro cs
      induction cs with
      | nil => intro z; rfl
      | cons c cs ih => intro z; exact ih _
    exact key cs _
def bestV (most : Bool) (l : List Rat) (cs : List Ch) : Rat := (bestO most (fun _ => true) l cs).getD 0
theorem bestV_some {most : Bool} {l : List Rat} {cs : List Ch} (h : 0 < cs.length) : bestO most (fun _ => true) l cs = some (bestV most l cs) := by
  have := bestO_all (most := most) (l := l) h
  unfold bestV
  cases e : bestO most (fun _ => true) l cs with
  | none => rw [e] at this; cases this
  | some y => rfl
def nextV (S : So) (l : List Rat) (up : Bool) : List Rat := (List.range l.length).map (fun s => if S.tgt.testBit s then 1 else if up && S.zero.testBit s then 0 else bestV S.most l (S.mo.choices.getD s []))
theorem nextV_len (S : So) (l : List Rat) (up : Bool) : (nextV S l up).length = l.length := by simp [nextV]
theorem nextV_at {S : So} {l : List Rat} {up : Bool} {i : Nat} {x : Rat} (h : i < ((nextV S l up).map some).length) (hx : x = if S.tgt.testBit i then 1 else if up && S.zero.testBit i then 0 else bestV S.most l (S.mo.choices.getD i [])) : some x = ((nextV S l up).map some)[i] := by
  subst hx; simp [nextV]
def leaveK (S : So) (l : List Rat) (b k : Nat) : Rat := (List.range k).foldl (fun a s => if b.testBit s then (match bestO S.most (fun c => !staysB c b) l (S.mo.choices.getD s []) with | none => a | some y => betterQ S.most a y) else a) 0
theorem leaveK_succ (S : So) (l : List Rat) (b k : Nat) : leaveK S l b (k + 1) = if b.testBit k then (match bestO S.most (fun c => !staysB c b) l (S.mo.choices.getD k []) with | none => leaveK S l b k | some y => betterQ S.most (leaveK S l b k) y) else leaveK S l b k := by
  unfold leaveK; rw [List.range_succ, List.foldl_append]; rfl
def setB (b : Nat) (m : Rat) (U : List Rat) (k : Nat) : List Rat := (List.range U.length).map (fun s => if s < k ∧ b.testBit s = true then m else U.getD s 0)
theorem setB_len (b : Nat) (m : Rat) (U : List Rat) (k : Nat) : (setB b m U k).length = U.length := by simp [setB]
theorem setB_zero (b : Nat) (m : Rat) (U : List Rat) : setB b m U 0 = U := by
  refine List.ext_getElem (by simp [setB]) (fun i h1 h2 => ?_)
  simp [setB, List.getD_eq_getElem?_getD, List.getElem?_eq_getElem h2]
theorem setB_off {b k : Nat} {m : Rat} {U : List Rat} (h : b.testBit k = false) : setB b m U k = setB b m U (k + 1) := by
  refine List.ext_getElem (by simp [setB]) (fun i h1 h2 => ?_)
  simp only [setB, List.getElem_map, List.getElem_range]
  by_cases e : i = k
  · subst e; rw [h]; simp
  · have : (i < k ∧ b.testBit i = true) ↔ (i < k + 1 ∧ b.testBit i = true) := by constructor <;> rintro ⟨h3, h4⟩ <;> exact ⟨by omega, h4⟩
    simp only [this]
theorem setB_on {b k : Nat} {m : Rat} {U : List Rat} {y : Option Rat} (hy : y = some m) (h : b.testBit k = true) : ((setB b m U k).map some).set k y = (setB b m U (k + 1)).map some := by
  subst hy
  refine List.ext_getElem (by simp [setB]) (fun i h1 h2 => ?_)
  rw [List.getElem_set]
  simp only [setB, List.getElem_map, List.getElem_range]
  by_cases e : k = i
  · subst e; rw [if_pos rfl, if_pos ⟨by omega, h⟩]
  · rw [if_neg e]
    have : (i < k ∧ b.testBit i = true) ↔ (i < k + 1 ∧ b.testBit i = true) := by constructor <;> rintro ⟨h3, h4⟩ <;> exact ⟨by omega, h4⟩
    simp only [this]
def leaveS (S : So) (l : List Rat) (U : List Rat) (b : Nat) : List Rat := setB b (leaveK S l b l.length) U l.length
def leaveF (S : So) (l : List Rat) (U : List Rat) (bs : List Nat) : List Rat := bs.foldl (leaveS S l) U
theorem leaveF_step {S : So} {l U : List Rat} {bs : List Nat} {i b : Nat} (h : i < bs.length) (hb : b = bs[i]) : leaveF S l U (bs.take (i + 1)) = setB b (leaveK S l b l.length) (leaveF S l U (bs.take i)) l.length := by
  subst hb; unfold leaveF; rw [List.take_succ_eq_append_getElem h, List.foldl_append]; rfl
theorem leaveF_len {S : So} {l : List Rat} : ∀ (bs : List Nat) (U : List Rat), (leaveF S l U bs).length = U.length
  | [], U => rfl
  | b :: bs, U => by
    show (leaveF S l (leaveS S l U b) bs).length = _
    rw [leaveF_len bs]; exact setB_len _ _ _ _
def nextF (S : So) (l : List Rat) (up : Bool) : List Rat := if up then leaveF S l (nextV S l true) S.blocks else nextV S l false
def lowK (S : So) : Nat → List Rat
  | 0 => (List.range S.mo.owner.length).map (fun s => if S.tgt.testBit s then 1 else 0)
  | k + 1 => nextF S (lowK S k) false
def highK (S : So) : Nat → List Rat
  | 0 => (List.range S.mo.owner.length).map (fun s => if S.zero.testBit s then 0 else 1)
  | k + 1 => nextF S (highK S k) true
theorem setB_Bd {E b k : Nat} {m : Rat} {U : List Rat} (hm : Bd E m) (hU : ∀ x ∈ U, Bd E x) : ∀ x ∈ setB b m U k, Bd E x := fun x hx => by
  obtain ⟨s, _, rfl⟩ := List.mem_map.1 hx
  split
  · exact hm
  · exact getD_bd hU s
section bd
variable {S : So} {G H D : Nat} {l : List Rat} (hC : ∀ l ∈ S.mo.choices, ∀ c ∈ l, CM S.mo.owner.length G H c) (hG : 0 < G) (hD : 0 < D) (hl : ∀ x ∈ l, Bd D x)
include hC hG hD hl
theorem mixS_Bd (s : Nat) : ∀ c ∈ S.mo.choices.getD s [], Bd (G * D) (mixQ c l) := fun c hc => by
  rw [List.getD_eq_getElem?_getD] at hc
  by_cases hs : s < S.mo.choices.length
  · rw [List.getElem?_eq_getElem hs] at hc; exact mixQ_Bd (hC _ (List.getElem_mem hs) c hc) hG hD hl
  · rw [List.getElem?_eq_none (by omega)] at hc; cases hc
theorem bestV_Bd (s : Nat) : Bd (G * D) (bestV S.most l (S.mo.choices.getD s [])) := by
  unfold bestV
  cases e : bestO S.most (fun _ => true) l (S.mo.choices.getD s []) with
  | none => exact Bd.zero _
  | some y => exact bestO_P _ (mixS_Bd hC hG hD hl s) y e
theorem nextV_Bd (up : Bool) : ∀ x ∈ nextV S l up, Bd (G * D) x := fun x hx => by
  obtain ⟨s, _, rfl⟩ := List.mem_map.1 hx
  split
  · exact Bd.one _
  · split
    · exact Bd.zero _
    · exact bestV_Bd hC hG hD hl s
theorem leaveK_Bd (b : Nat) : ∀ k, Bd (G * D) (leaveK S l b k)
  | 0 => Bd.zero _
  | k + 1 => by
    have ih := leaveK_Bd b k
    rw [leaveK_succ]
    split
    · split
      · exact ih
      · rename_i y e
        exact betterQ_P ih (bestO_P _ (mixS_Bd hC hG hD hl k) y e)
    · exact ih
theorem leaveF_Bd : ∀ (bs : List Nat) (U : List Rat), (∀ x ∈ U, Bd (G * D) x) → ∀ x ∈ leaveF S l U bs, Bd (G * D) x
  | [], U, h => h
  | b :: bs, U, h => leaveF_Bd bs _ (setB_Bd (leaveK_Bd hC hG hD hl b _) h)
theorem nextF_Bd (up : Bool) : ∀ x ∈ nextF S l up, Bd (G * D) x := by
  unfold nextF
  split
  · exact leaveF_Bd hC hG hD hl _ _ (nextV_Bd hC hG hD hl true)
  · exact nextV_Bd hC hG hD hl false
end bd
theorem nextF_len (S : So) (l : List Rat) (up : Bool) : (nextF S l up).length = l.length := by
  unfold nextF
  split
  · rw [leaveF_len, nextV_len]
  · rw [nextV_len]
theorem lowK_len (S : So) : ∀ k, (lowK S k).length = S.mo.owner.length
  | 0 => by simp [lowK]
  | k + 1 => by rw [lowK, nextF_len, lowK_len S k]
theorem highK_len (S : So) : ∀ k, (highK S k).length = S.mo.owner.length
  | 0 => by simp [highK]
  | k + 1 => by rw [highK, nextF_len, highK_len S k]
theorem lowK_Bd {S : So} {G H : Nat} (hC : ∀ l ∈ S.mo.choices, ∀ c ∈ l, CM S.mo.owner.length G H c) (hG : 0 < G) : ∀ k, ∀ x ∈ lowK S k, Bd (G ^ k) x
  | 0 => fun x hx => by
    obtain ⟨s, _, rfl⟩ := List.mem_map.1 hx
    split
    · exact Bd.one _
    · exact Bd.zero _
  | k + 1 => by
    have := nextF_Bd hC hG (Nat.pow_pos hG) (lowK_Bd hC hG k) false
    rw [Nat.pow_succ, Nat.mul_comm]; exact this
theorem highK_Bd {S : So} {G H : Nat} (hC : ∀ l ∈ S.mo.choices, ∀ c ∈ l, CM S.mo.owner.length G H c) (hG : 0 < G) : ∀ k, ∀ x ∈ highK S k, Bd (G ^ k) x
  | 0 => fun x hx => by
    obtain ⟨s, _, rfl⟩ := List.mem_map.1 hx
    split
    · exact Bd.zero _
    · exact Bd.one _
  | k + 1 => by
    have := nextF_Bd hC hG (Nat.pow_pos hG) (highK_Bd hC hG k) true
    rw [Nat.pow_succ, Nat.mul_comm]; exact this
/-! The lower bounds are what steps computes -/
theorem betterQ_most (x y : Rat) : betterQ true x y = if x < y then y else x := by
  unfold betterQ
  by_cases h : x < y
  · rw [if_pos h, if_pos (by rw [decide_eq_true (cmpQ_neg.2 h)]; rfl)]
  · rw [if_neg h, if_neg (by rw [decide_eq_false (fun e => h (cmpQ_neg.1 e))]; decide)]
theorem bestV_most {l : List Rat} {cs : List Ch} : bestV true l cs = bestQ (cs.map (fun c => mixQ c l)) := by
  unfold bestV
  cases cs with
  | nil => rfl
  | cons c cs =>
    have key : ∀ (cs : List Ch) (z : Rat), cs.foldl (bestStep true (fun _ => true) l) (some z) = some (maxL z (cs.map (fun c => mixQ c l))) := by
      intro cs
      induction cs with
      | nil => intro z; rfl
      | cons c cs ih =>
        intro z
        rw [List.foldl_cons, show bestStep true (fun _ => true) l (some z) c = some (betterQ true z (mixQ c l)) from rfl, ih, betterQ_most]
        rfl
    show ((cs.foldl (bestStep true (fun _ => true) l) (some (mixQ c l)))).getD 0 = _
    rw [key]; rfl
theorem lowK_within {M : Mo} {T : Nat} : ∀ k, lowK (beginS M T true) k = withinW M T k
  | 0 => rfl
  | k + 1 => by
    rw [lowK, withinW, lowK_within k]
    show nextV _ _ false = _
    unfold nextV stepW
    rw [withinW_len]
    refine List.map_congr_left (fun s _ => ?_)
    show (if T.testBit s then 1 else if false && _ then 0 else bestV true _ _) = _
    by_cases h : T.testBit s = true
    · rw [if_pos h, if_pos h]
    · rw [if_neg h, if_neg h, Bool.false_and, if_neg (show ¬ false = true by decide), bestV_most]; rfl
end Go.Proofs.YtknflgfkhkdomaaGreatDoor.Mono

/-! WkY -/
set_option linter.unusedVariables false
set_option linter.unusedSimpArgs false
set_option maxRecDepth 4000
set_option maxHeartbeats 4000000
namespace Go.Proofs.YtknflgfkhkdomaaGreatDoor.Mono
open Go Go.RowKit

theorem h0_76mo_n64_bool_n64_Ln64 : ∀ m, (Seg.cat [Seg.of Kd.mo ⟨[], []⟩, Seg.of (Kd.nat .u64) 0, Seg.of Kd.bool false, Seg.of (Kd.nat .u64) 0, Seg.of (Kd.slice (Kd.nat .u64)) []]).p m (Value.cells (.agg #[.slice none 0 0, .slice none 0 0, .int .u64 (0), .bool false, .int .u64 (0), .slice none 0 0])).toList := fun m => ⟨[.slice none 0 0, .slice none 0 0], _, rfl, z_mo m, ⟨_, _, rfl, (fun _ => rfl) m, ⟨_, _, rfl, (fun _ => rfl) m, ⟨_, _, rfl, (fun _ => rfl) m, ⟨_, _, rfl, (z_slice _) m, rfl⟩⟩⟩⟩⟩

theorem fk76 : FieldsKnown Tryz.prog 76 := by unfold FieldsKnown; kernel_rfl

theorem z76 : ZeroOf Tryz.prog 76 (.agg #[.slice none 0 0, .slice none 0 0, .int .u64 (0), .bool false, .int .u64 (0), .slice none 0 0]) := by unfold ZeroOf; kernel_rfl

theorem en27 : Enters Tryz.prog 27 := enters_fn Tryz.func27 (by kernel_rfl) rfl

theorem fa76_3 : FieldAt Tryz.prog 76 3 4 := by unfold FieldAt; kernel_rfl

theorem sz33 : (Tryz.prog.info? 33).map (·.size) = some 1 := by kernel_rfl

theorem fa76_4 : FieldAt Tryz.prog 76 4 5 := by unfold FieldAt; kernel_rfl

theorem sz74 : (Tryz.prog.info? 74).map (·.size) = some 1 := by kernel_rfl

theorem w14 {M : Mo} {T : Nat} {most : Bool} (hM : GM M) (hT : T < 4096) : Spec CC 14 [Ty.of Kd.mo M, Ty.val (.int .u64 (T : Int)), Ty.val (.bool most)] (Ty.place (Seg.of Kd.so (beginS M T most))) := by
  refine spec_of_JS Tryz.func14 rfl (Nat.le_of_ble_eq_true rfl) (fun gh0 wd0 => ?_)
  have h12 := hM.n1
  have hlow := hM.low
  have hsm := hM.same
  have hp : 2 ^ M.owner.length ≤ 2 ^ 12 := Nat.pow_le_pow_right (by decide) h12
  rw [show (2 : Nat) ^ 12 = 4096 by decide] at hp
  have h1p : 1 ≤ 2 ^ M.owner.length := Nat.one_le_two_pow
  have hZ : zerosF M T most < 4096 := Nat.lt_of_le_of_lt (shrinkF_le _ _ _ _) (Nat.lt_of_le_of_lt (minusB_le _ _) (by omega))
  have hTZ : T ||| zerosF M T most < 2 ^ 12 := Nat.or_lt_two_pow (n := 12) hT hZ
  rw [show (2 : Nat) ^ 12 = 4096 by decide] at hTZ
  have hmb := minusB_le (2 ^ M.owner.length - 1) (T ||| zerosF M T most)
  refine JS_seq ?_
  -- region 0
  refine sR ?_
  refine kO (T_box rfl (ol rfl (Ty.le.refl _))) rfl ?_
  refine kA rfl rfl ?_
  refine kE ?_
  refine JS_seq ?_
  -- region 1
  refine sR ?_
  refine kO (T_ld rfl rfl ti30) rfl ?_
  refine kM rfl rfl ?_
  refine kM rfl rfl ?_
  refine kO (T_build (S0 := Seg.cat [Seg.of Kd.mo ⟨[], []⟩, Seg.of (Kd.nat .u64) 0, Seg.of Kd.bool false, Seg.of (Kd.nat .u64) 0, Seg.of (Kd.slice (Kd.nat .u64)) []]) rfl fk76 z76 h0_76mo_n64_bool_n64_Ln64 (fc (ol rfl (Ty.le.refl _)) (uc (i := 0) rfl rfl rfl) rfl (fc (ol rfl (val_nat .u64 rfl)) (uc (i := 1) rfl rfl rfl) rfl (fc (ol rfl (val_bool _)) (uc (i := 2) rfl rfl rfl) rfl (Fill.nil _)))) rfl) rfl ?_
  refine kT ?_
  refine JT_box rfl rfl rfl rfl (ol rfl (Ty.le.refl _)) (fun g12 => ?_)
  refine jA rfl rfl ?_
  refine JT_done ?_
  refine JS_seq ?_
  -- region 2
  refine sR ?_
  refine kM rfl rfl ?_
  refine kM rfl rfl ?_
  refine kT ?_
  refine JT_callM1 (i := 0) rfl rfl rfl en27 rfl (m27 hlow hsm h12 (by omega)) (oa (ol rfl (Ty.le.refl _)) oa0) (fun y15 => ?_)
  refine jO (T_nilCheckO rfl rfl) rfl ?_
  refine jO (T_fieldAddr_ptr rfl fa76_3 rfl rfl) rfl ?_
  refine JT_store (i := 0) rfl rfl rfl rfl rfl (ol rfl (val_nat .u64 rfl)) (uc (i := 3) rfl rfl rfl) sz33 ?_
  refine JT_done ?_
  refine JS_seq ?_
  refine JS_seq ?_
  -- region 3
  refine sR ?_
  refine kM rfl rfl ?_
  refine kE ?_
  refine JS_cond rfl (fun c18 => ?_) (fun c18 => ?_)
  · -- region 4
    refine JS_drawT [3, 13, 14, 17] (fun (Δ0 : List Res) (sd : List Nat) (Γd : Env) (Δ1 : List Res) => (sd = [] ∧ Γd = [] ∧ Δ1 = Δ0) ∨ (sd = [3] ∧ Γd = [(22, Ty.val (.int .u64 ((2 ^ M.owner.length - 1 : Nat) : Int)))] ∧ Δ1 = Δ0) ∨ (sd = [13, 3] ∧ Γd = [(32, Ty.val (.int .u64 (minusB (2 ^ M.owner.length - 1) (T ||| zerosF M T most) : Int))), (22, Ty.val (.int .u64 ((2 ^ M.owner.length - 1 : Nat) : Int)))] ∧ Δ1 = Δ0) ∨ (sd = [14, 13, 3] ∧ Γd = [(33, Ty.of (Kd.slice (Kd.nat .u64)) (compF M 4096 (minusB (2 ^ M.owner.length - 1) (T ||| zerosF M T most)))), (32, Ty.val (.int .u64 (minusB (2 ^ M.owner.length - 1) (T ||| zerosF M T most) : Int))), (22, Ty.val (.int .u64 ((2 ^ M.owner.length - 1 : Nat) : Int)))] ∧ Δ1 = Δ0) ∨ (sd = [17, 14, 13, 3] ∧ Γd = [(33, Ty.of (Kd.slice (Kd.nat .u64)) (compF M 4096 (minusB (2 ^ M.owner.length - 1) (T ||| zerosF M T most)))), (32, Ty.val (.int .u64 (minusB (2 ^ M.owner.length - 1) (T ||| zerosF M T most) : Int))), (22, Ty.val (.int .u64 ((2 ^ M.owner.length - 1 : Nat) : Int)))] ∧ Δ1 = Δ0.set 0 (Res.box g12 76 (Seg.cat [Seg.of Kd.mo M, Seg.of (Kd.nat .u64) T, Seg.of Kd.bool most, Seg.of (Kd.nat .u64) (zerosF M T most), Seg.of (Kd.slice (Kd.nat .u64)) (compF M 4096 (minusB (2 ^ M.owner.length - 1) (T ||| zerosF M T most)))])))) (fun i => if i = 3 then [21] else if i = 13 then [31] else if i = 14 then [20] else if i = 17 then [35] else []) mixed (by decide) (by decide) (.inl ⟨rfl, rfl, rfl⟩) (fun sd Γd Δ1 hs => by rcases hs with ⟨rfl, rfl, rfl⟩ | ⟨rfl, rfl, rfl⟩ | ⟨rfl, rfl, rfl⟩ | ⟨rfl, rfl, rfl⟩ | ⟨rfl, rfl, rfl⟩ <;> rfl) ?_
    refine dOpA (fun _ => T_move (.inl rfl) rfl) rfl rfl rfl ?_
    refine dOpA (fun _ => T_move (.inl rfl) rfl) rfl rfl rfl ?_
    refine dOpA (fun _ => T_move (.inl rfl) rfl) rfl rfl rfl ?_
    refine dDyn rfl ?_
    refine dOpA (fun _ => T_move (.inl rfl) rfl) rfl rfl rfl ?_
    refine dOpA (fun _ => T_nilCheckO rfl rfl) rfl rfl rfl ?_
    refine dOpA (fun _ => T_fieldAddr_ptr rfl fa76_1 rfl rfl) rfl rfl rfl ?_
    refine dOp (T := Ty.val (.int .u64 (T : Int))) (fun sd Γd Δ1 hs => by rcases hs with ⟨rfl, rfl, rfl⟩ | ⟨rfl, rfl, rfl⟩ | ⟨rfl, rfl, rfl⟩ | ⟨rfl, rfl, rfl⟩ | ⟨rfl, rfl, rfl⟩ <;> exact (T_sub (T_load_own (i := 0) rfl rfl rfl (sc (i := 1) rfl rfl) ti33) (nat_val _ _))) rfl rfl rfl ?_
    refine dOpA (fun _ => T_move (.inl rfl) rfl) rfl rfl rfl ?_
    refine dOpA (fun _ => T_nilCheckO rfl rfl) rfl rfl rfl ?_
    refine dOpA (fun _ => T_fieldAddr_ptr rfl fa76_3 rfl rfl) rfl rfl rfl ?_
    refine dOp (T := Ty.val (.int .u64 (zerosF M T most : Int))) (fun sd Γd Δ1 hs => by rcases hs with ⟨rfl, rfl, rfl⟩ | ⟨rfl, rfl, rfl⟩ | ⟨rfl, rfl, rfl⟩ | ⟨rfl, rfl, rfl⟩ | ⟨rfl, rfl, rfl⟩ <;> exact (T_sub (T_load_own (i := 0) rfl rfl rfl (sc (i := 3) rfl rfl) ti33) (nat_val _ _))) rfl rfl rfl ?_
    refine dOpA (fun _ => T_bits rfl (.inr (.inl rfl)) rfl rfl (or_u64 (by omega) (by omega))) rfl rfl rfl ?_
    refine dDyn rfl ?_
    refine dDyn rfl ?_
    refine dOpA (fun _ => T_nilCheckO rfl rfl) rfl rfl rfl ?_
    refine dOpA (fun _ => T_fieldAddr_ptr rfl fa76_4 rfl rfl) rfl rfl rfl ?_
    refine dDyn rfl ?_
    refine dEnd ⟨?_, ?_⟩
    · intro Q1 cs1 i o sd Γd Δ1 Γx hi ho hn hb hinv hk
      simp only [List.mem_cons, List.not_mem_nil, or_false] at hi
      rcases hi with rfl | rfl | rfl | rfl
      · obtain rfl := Option.some.inj ho
        rcases hinv with ⟨rfl, rfl, rfl⟩ | ⟨rfl, rfl, rfl⟩ | ⟨rfl, rfl, rfl⟩ | ⟨rfl, rfl, rfl⟩ | ⟨rfl, rfl, rfl⟩
        · refine JT_callM1 (i := 0) rfl rfl rfl en29 rfl (m29 h12) (oa (ol rfl (Ty.le.refl _)) oa0) (fun y22 => ?_)
          exact JT_done (hk [(22, _)] _ (.inr (.inl ⟨rfl, rfl, rfl⟩)))
        · exact absurd (by simp) hn
        · exact absurd (by simp) hn
        · exact absurd (by simp) hn
        · exact absurd (by simp) hn
      · obtain rfl := Option.some.inj ho
        rcases hinv with ⟨rfl, rfl, rfl⟩ | ⟨rfl, rfl, rfl⟩ | ⟨rfl, rfl, rfl⟩ | ⟨rfl, rfl, rfl⟩ | ⟨rfl, rfl, rfl⟩
        · exact absurd (hb 3 rfl (by decide)) (by simp)
        · refine JT_op rfl rfl (T_bits rfl (.inr (.inr (.inr rfl))) rfl rfl (andNot_u64 (by omega) (by omega))) ?_
          exact JT_done (hk [(32, _), (22, _)] _ (.inr (.inr (.inl ⟨rfl, rfl, rfl⟩))))
        · exact absurd (by simp) hn
        · exact absurd (by simp) hn
        · exact absurd (by simp) hn
      · obtain rfl := Option.some.inj ho
        rcases hinv with ⟨rfl, rfl, rfl⟩ | ⟨rfl, rfl, rfl⟩ | ⟨rfl, rfl, rfl⟩ | ⟨rfl, rfl, rfl⟩ | ⟨rfl, rfl, rfl⟩
        · exact absurd (hb 3 rfl (by decide)) (by simp)
        · exact absurd (hb 13 rfl (by decide)) (by simp)
        · refine JT_callM1 (i := 0) rfl rfl rfl en28 rfl (m28 hlow hsm h12 4096 _ (by omega) (by omega)) (oa (ol rfl (Ty.le.refl _)) (oa (ol rfl (Ty.le.refl _)) oa0)) (fun y33 => ?_)
          exact JT_done (hk [(33, _), (32, _), (22, _)] _ (.inr (.inr (.inr (.inl ⟨rfl, rfl, rfl⟩)))))
        · exact absurd (by simp) hn
        · exact absurd (by simp) hn
      · obtain rfl := Option.some.inj ho
        rcases hinv with ⟨rfl, rfl, rfl⟩ | ⟨rfl, rfl, rfl⟩ | ⟨rfl, rfl, rfl⟩ | ⟨rfl, rfl, rfl⟩ | ⟨rfl, rfl, rfl⟩
        · exact absurd (hb 3 rfl (by decide)) (by simp)
        · exact absurd (hb 13 rfl (by decide)) (by simp)
        · exact absurd (hb 14 rfl (by decide)) (by simp)
        · refine JT_store (i := 0) rfl rfl rfl rfl rfl (ol rfl (Ty.le.refl _)) (uc (i := 4) rfl rfl rfl) sz74 ?_
          exact JT_done (hk [(33, _), (32, _), (22, _)] _ (.inr (.inr (.inr (.inr ⟨rfl, rfl, rfl⟩)))))
        · exact absurd (by simp) hn
    · intro sd Γd Δ1 hinv hall
      rcases hinv with ⟨rfl, rfl, rfl⟩ | ⟨rfl, rfl, rfl⟩ | ⟨rfl, rfl, rfl⟩ | ⟨rfl, rfl, rfl⟩ | ⟨rfl, rfl, rfl⟩
      · exact absurd (hall 3 (by decide) rfl) (by simp)
      · exact absurd (hall 13 (by decide) rfl) (by simp)
      · exact absurd (hall 14 (by decide) rfl) (by simp)
      · exact absurd (hall 17 (by decide) rfl) (by simp)
      · refine JS_seq ?_
        -- region 5
        refine sR ?_
        refine kM rfl rfl ?_
        refine kA rfl rfl ?_
        refine kE ?_
        refine JS_freeze_box (i := 0) (s := 6) rfl rfl ?_
        exact JS_ret (JE_ret_one rfl rfl (.tmp rfl .nil) (place_so (beginS M T most) rfl rfl rfl rfl (by simp [beginS, c18])))
  · refine JS_skip ?_
    refine JS_seq ?_
    -- region 5
    refine sR ?_
    refine kM rfl rfl ?_
    refine kA rfl rfl ?_
    refine kE ?_
    refine JS_freeze_box (i := 0) (s := 6) rfl rfl ?_
    exact JS_ret (JE_ret_one rfl rfl (.tmp rfl .nil) (place_so (beginS M T most) rfl rfl rfl rfl (by simp [beginS, c18])))

theorem en26 : Enters Tryz.prog 26 := enters_fn Tryz.func26 (by kernel_rfl) rfl

theorem w13 {M : Mo} {T : Nat} (hM : GM M) (hT : T < 2 ^ M.owner.length) : Spec CC 13 [Ty.of Kd.mo M, Ty.val (.int .u64 (T : Int))] (Ty.val (.int .i64 0)) := by
  refine spec_of_JS Tryz.func13 rfl (Nat.le_of_ble_eq_true rfl) (fun gh0 wd0 => ?_)
  have h12 := hM.n1
  have hs0 : T >>> ((M.owner.length : Int)).toNat = 0 := by rw [Nat.shiftRight_eq_div_pow]; exact Nat.div_eq_of_lt hT
  refine JS_seq ?_
  -- region 0
  refine sR ?_
  refine kO (T_box rfl (ol rfl (Ty.le.refl _))) rfl ?_
  refine kA rfl rfl ?_
  refine kE ?_
  refine JS_seq ?_
  refine JS_seq ?_
  -- region 1
  refine sR ?_
  refine kO (T_ld rfl rfl ti30) rfl ?_
  refine kO (T_callL rfl en25 (w25 hM) (oa (ol rfl (Ty.le.refl _)) oa0)) rfl ?_
  refine kA rfl rfl ?_
  refine kE ?_
  refine JS_seq ?_
  -- region 2
  refine sR ?_
  refine kM rfl rfl ?_
  refine kO (T_ne rfl rfl rfl) rfl ?_
  refine kE ?_
  refine JS_if rfl (fun c9 => ?_) (fun c9 => ?_)
  · exact absurd rfl c9
  · refine JS_skip ?_
    refine JS_seq ?_
    refine JS_seq ?_
    -- region 4
    refine sR ?_
    refine kO (T_ld rfl rfl ti30) rfl ?_
    refine kO (T_callL rfl en26 (w26 hM) (oa (ol rfl (Ty.le.refl _)) oa0)) rfl ?_
    refine kO (T_not rfl rfl) rfl ?_
    refine kE ?_
    refine JS_cf rfl ?_
    refine JS_skip ?_
    refine JS_seq ?_
    refine JS_seq ?_
    -- region 6
    refine sR ?_
    refine kM rfl rfl ?_
    refine kO (T_fieldAddr rfl fa30_0 (st_sub (i := 0) rfl rfl) rfl) rfl ?_
    refine kO (T_ld rfl rfl ti27) rfl ?_
    refine kO (T_len_slice rfl rfl u27 rfl) rfl ?_
    refine kO (T_shr rfl rfl rfl (by omega) (shr_u64 (by omega) (by omega))) rfl ?_
    refine kO (T_ne rfl rfl rfl) rfl ?_
    refine kE ?_
    refine JS_if rfl (fun c19 => ?_) (fun c19 => ?_)
    · exact absurd (by rw [hs0]; rfl) c19
    · refine JS_skip ?_
      refine JS_seq ?_
      -- region 8
      refine sR ?_
      refine kA rfl rfl ?_
      refine kE ?_
      exact JS_ret (JE_ret_one rfl rfl (.tmp rfl .nil) (int_eq (rfl)))

theorem w70 {S : So} {x y : Rat} (hx : Nz 28 x) (hy : Nz 28 y) : Spec CC 70 [Ty.place (Seg.of Kd.so S), Ty.of Kd.num x, Ty.of Kd.num y] (Ty.of Kd.num (betterQ S.most x y)) := by
  refine spec_of_JS Tryz.func70 rfl (Nat.le_of_ble_eq_true rfl) (fun gh0 wd0 => ?_)
  refine JS_seq ?_
  -- region 0
  refine sR ?_
  refine kO (T_box rfl (ol rfl (Ty.le.refl _))) rfl ?_
  refine kO (T_box rfl (ol rfl (Ty.le.refl _))) rfl ?_
  refine kT ?_
  refine JT_alloc (S0 := Seg.of Kd.num0 none) rfl rfl rfl rfl z85 z_num0 (fun g6 => ?_)
  refine JT_done ?_
  refine JS_seq ?_
  refine JS_seq ?_
  -- region 1
  refine sRD mixed ?_
  refine kO (T_ld rfl rfl ti85) rfl ?_
  refine kO (T_ld rfl rfl ti85) rfl ?_
  refine kO (T_callL rfl en54 (w54 (hx.up (by decide)) (hy.up (by decide))) (oa (ol rfl (Ty.le.refl _)) (oa (ol rfl (Ty.le.refl _)) oa0))) rfl ?_
  refine kO (T_lt rfl rfl rfl) rfl ?_
  refine kM rfl rfl ?_
  refine kO (T_nilCheck rfl rfl) rfl ?_
  refine kO (T_fieldAddr rfl fa76_2 (st_sub (i := 2) rfl rfl) rfl) rfl ?_
  refine kO (T_load_bool rfl ti4 rfl) rfl ?_
  refine kO (T_bool_eq rfl u4 rfl rfl) rfl ?_
  refine kD (by decide) ?_
  refine JS_cond rfl (fun c15 => ?_) (fun c15 => ?_)
  · refine JS_seq ?_
    -- region 2
    refine sR ?_
    refine kO (T_ld rfl rfl ti85) rfl ?_
    refine kT ?_
    refine JT_store (i := 0) rfl rfl rfl rfl rfl (ol rfl (Ty.le.refl _)) (Upd.self _ _ rfl) sz85 ?_
    refine JT_done ?_
    exact JS_ret (JE_ret_one rfl rfl (.cell (i := 0) rfl rfl ti85 .nil) ((of_eq (by unfold betterQ; rw [if_pos c15]))))
  · refine JS_skip ?_
    refine JS_seq ?_
    -- region 3
    refine sR ?_
    refine kO (T_ld rfl rfl ti85) rfl ?_
    refine kT ?_
    refine JT_store (i := 0) rfl rfl rfl rfl rfl (ol rfl (Ty.le.refl _)) (Upd.self _ _ rfl) sz85 ?_
    refine JT_done ?_
    exact JS_ret (JE_ret_one rfl rfl (.cell (i := 0) rfl rfl ti85 .nil) ((of_eq (by unfold betterQ; rw [if_neg (by rw [c15]; decide)]))))

theorem w49 {c : Ch} : Spec CC 49 [Ty.of Kd.ch c] (Ty.val (.bool true)) := by
  refine spec_of_JS Tryz.func49 rfl (Nat.le_of_ble_eq_true rfl) (fun gh0 wd0 => ?_)
  refine JS_seq ?_
  -- region 0
  refine sR ?_
  refine kO (T_box rfl (ol rfl (Ty.le.refl _))) rfl ?_
  refine kA rfl rfl ?_
  refine kE ?_
  refine JS_seq ?_
  -- region 1
  refine sR ?_
  refine kA rfl rfl ?_
  refine kE ?_
  exact JS_ret (JE_ret_one rfl rfl (.tmp rfl .nil) (Ty.le.refl _))

theorem w72 {c : Ch} {b : Nat} (hc : ∀ b ∈ c.next, b.to < 12) (hb : b < 18446744073709551616) : Spec CC 72 [Ty.of Kd.ch c, Ty.place (Seg.of (Kd.nat .u64) b)] (Ty.val (.bool (!staysB c b))) := by
  refine spec_of_JS Tryz.func72 rfl (Nat.le_of_ble_eq_true rfl) (fun gh0 wd0 => ?_)
  refine JS_seq ?_
  -- region 0
  refine sR ?_
  refine kO (T_box rfl (ol rfl (Ty.le.refl _))) rfl ?_
  refine kA rfl rfl ?_
  refine kE ?_
  refine JS_seq ?_
  -- region 1
  refine sR ?_
  refine kO (T_ld rfl rfl ti60) rfl ?_
  refine kO (T_load_nat rfl ti33 rfl) rfl ?_
  refine kO (T_callL rfl en66 (w66 hc hb) (oa (ol rfl (Ty.le.refl _)) (oa (ol rfl (Ty.le.refl _)) oa0))) rfl ?_
  refine kO (T_not rfl rfl) rfl ?_
  refine kA rfl rfl ?_
  refine kE ?_
  exact JS_ret (JE_ret_one rfl rfl (.tmp rfl .nil) (bool_eq (rfl)))

def BetterX : Type := {p : Rat × Rat // Nz 28 p.1 ∧ Nz 28 p.2}
def betterIn (p : BetterX) : List Ty := [Ty.of Kd.num p.1.1, Ty.of Kd.num p.1.2]
def betterOut (b : Bool) (p : BetterX) : Ty := Ty.of Kd.num (betterQ b p.1.1 p.1.2)
def cntIn (L : List Ch) (x : {x // x ∈ L}) : List Ty := [Ty.of Kd.ch x.1]
def cntOut (L : List Ch) (cf : Ch → Bool) (x : {x // x ∈ L}) : Ty := Ty.val (.bool (cf x.1))

theorem en70 : Enters Tryz.prog 70 := enters_fn Tryz.func70 (by kernel_rfl) rfl

theorem en71 : Enters Tryz.prog 71 := enters_fn Tryz.func71 (by kernel_rfl) rfl

theorem w48 {S : So} {l : List Rat} {cf : Ch → Bool} {G H D s : Nat} (hC : ∀ l ∈ S.mo.choices, ∀ c ∈ l, CM S.mo.owner.length G H c) (hl : ∀ x ∈ l, Bd D x) (hn : l.length = S.mo.owner.length) (hsm : S.mo.choices.length = S.mo.owner.length) (hG : 0 < G) (hD : 0 < D) (hGD : G * D < 10 ^ 252) (hs : s < S.mo.owner.length) : Spec CC 48 [Ty.place (Seg.of Kd.so S), Ty.val (.int .i64 (s : Int)), Ty.of (Kd.slice Kd.num) l, Ty.fn CC (cntIn (S.mo.choices.getD s [])) (cntOut (S.mo.choices.getD s []) cf)] (Ty.tup [Ty.of Kd.num0 (bestO S.most cf l (S.mo.choices.getD s [])), Ty.val (.bool (bestO S.most cf l (S.mo.choices.getD s [])).isSome)]) := by
  refine spec_of_JS Tryz.func48 rfl (Nat.le_of_ble_eq_true rfl) (fun gh0 wd0 => ?_)
  refine JS_bound (s := 2) rfl (fun b2 => ?_)
  unfold maxLen at b2
  have hgl : (S.mo.choices[((s : Int)).toNat]'(by omega)) = (S.mo.choices.getD s []) := by rw [List.getD_eq_getElem?_getD, List.getElem?_eq_getElem (show s < S.mo.choices.length by omega)]; rfl
  have hml : (S.mo.choices[((s : Int)).toNat]'(by omega)) ∈ S.mo.choices := List.getElem_mem _
  have hbk := fun i => bestO_P (P := Nz 28) (most := S.most) (cf := cf) (l := l) ((S.mo.choices.getD s []).take i) (fun c hc => (mixS_Bd hC hG hD hl s c (List.mem_of_mem_take hc)).nz (Nat.mul_pos hG hD) hGD)
  refine JS_seq ?_
  -- region 0
  refine sR ?_
  refine kT ?_
  refine JT_alloc (S0 := Seg.of Kd.num0 none) rfl rfl rfl rfl z85 z_num0 (fun g8 => ?_)
  refine jA rfl rfl ?_
  refine JT_done ?_
  refine JS_seq ?_
  -- region 1
  refine sR ?_
  refine kT ?_
  refine JT_alloc (S0 := Seg.of Kd.num0 none) rfl rfl rfl rfl z85 z_num0 (fun g10 => ?_)
  refine JT_done ?_
  refine JS_seq ?_
  -- region 2
  refine sR ?_
  refine kM rfl rfl ?_
  refine kO (T_mkfnB (ins := betterIn) (out := (betterOut S.most)) rfl rfl en70 (fun p => w70 (S := S) p.2.1 p.2.2) (oa (ol rfl (Ty.le.refl _)) oa0)) rfl ?_
  refine kA rfl rfl ?_
  refine kA rfl rfl ?_
  refine kE ?_
  refine JS_seq ?_
  refine JS_seq ?_
  -- region 3
  refine sR ?_
  refine kM rfl rfl ?_
  refine kO (T_nilCheck rfl rfl) rfl ?_
  refine kO (T_fieldAddr rfl fa76_0 (st_sub (i := 0) rfl rfl) rfl) rfl ?_
  refine kO (T_fieldAddr rfl fa30_1 (st_sub (i := 1) rfl rfl) rfl) rfl ?_
  refine kO (T_ld rfl rfl ti28) rfl ?_
  refine kM rfl rfl ?_
  refine kO (T_ix rfl rfl rfl u28 ti65 (by omega) (by omega) rfl) rfl ?_
  refine kO (T_ld rfl rfl ti65) rfl ?_
  refine kO (T_len_slice rfl rfl u65 rfl) rfl ?_
  refine kM rfl rfl ?_
  refine kE ?_
  refine JS_block ?_
  refine JS_bound (s := 25) rfl (fun b25 => ?_)
  unfold maxLen at b25
  refine sLoop1 (fun (i : Nat) => [(27, Ty.val (.int .i64 (i : Int))), (11, Ty.val (.bool ((bestO S.most cf l ((S.mo.choices.getD s []).take i)).isSome)))]) [2, 3, 8, 10, 12, 25, 26] (fun (i : Nat) => [(0, Res.box g10 85 (Seg.of Kd.num0 (bestO S.most cf l ((S.mo.choices.getD s []).take i))))]) (fun (i : Nat) => i ≤ (S.mo.choices[((s : Int)).toNat]'(by omega)).length) (fun (i : Nat) => (S.mo.choices[((s : Int)).toNat]'(by omega)).length - i) 0 (Nat.zero_le _) (by rfl) (EnvSub.consLe rfl (int_eq (rfl)) (EnvSub.consLe rfl (bool_eq (rfl)) (EnvSub.nil _))) (fun i (hI : i ≤ (S.mo.choices[((s : Int)).toNat]'(by omega)).length) => ?_)
  refine JS_seq ?_
  -- region 4
  refine sR ?_
  refine kO (T_lt rfl rfl rfl) rfl ?_
  refine kE ?_
  refine JS_seq ?_
  refine JS_if rfl (fun c28 => ?_) (fun c28 => ?_)
  · have hi1 : i < (S.mo.choices[((s : Int)).toNat]'(by omega)).length := by omega
    have hi2 : i < (S.mo.choices.getD s []).length := by rw [← hgl]; exact hi1
    have hce : ((S.mo.choices[((s : Int)).toNat]'(by omega))[((i : Int)).toNat]'(by omega)) = (S.mo.choices.getD s [])[i] := (toNat_get _).trans (by congr 1)
    have hnz : Nz 28 (mixQ ((S.mo.choices[((s : Int)).toNat]'(by omega))[((i : Int)).toNat]'(by omega)) l) := (mixQ_Bd (hC _ hml _ (List.getElem_mem _)) hG hD hl).nz (Nat.mul_pos hG hD) hGD
    refine JS_skip ?_
    refine JS_seq ?_
    refine JS_block ?_
    refine JS_seq ?_
    -- region 5
    refine sR ?_
    refine kO (T_ix rfl rfl rfl u65 ti60 (by omega) (by omega) rfl) rfl ?_
    refine kO (T_ld rfl rfl ti60) rfl ?_
    refine kT ?_
    refine JT_alloc (S0 := Seg.cat [Seg.of Kd.str [], Seg.of Kd.str [], Seg.of (Kd.slice Kd.br) []]) rfl rfl rfl rfl z60 h0_60 (fun g14 => ?_)
    refine JT_store (i := 0) rfl rfl rfl rfl rfl (ol rfl (Ty.le.refl _)) (Upd.self _ _ rfl) sz60 ?_
    refine JT_done ?_
    refine JS_seq ?_
    refine JS_seq ?_
    -- region 6
    refine sR ?_
    refine kM rfl rfl ?_
    refine kO (T_load_own (i := 0) rfl rfl rfl (Sub.self _) ti60) rfl ?_
    refine kO (T_callvL ⟨((S.mo.choices[((s : Int)).toNat]'(by omega))[((i : Int)).toNat]'(by omega)), by rw [← hgl]; exact List.getElem_mem _⟩ rfl rfl (oa (ol rfl (Ty.le.refl _)) oa0)) rfl ?_
    refine kO (T_not rfl rfl) rfl ?_
    refine kE ?_
    refine JS_cond rfl (fun c34 => ?_) (fun c34 => ?_)
    · refine JS_exit (JE_inB_here ?_)
      -- region 11
      refine sR ?_
      refine kO (T_add rfl rfl rfl (wrap_i64 (by omega) (by omega))) rfl ?_
      refine kM rfl rfl ?_
      refine kE ?_
      have hcf : cf ((S.mo.choices[((s : Int)).toNat]'(by omega))[((i : Int)).toNat]'(by omega)) = false := by simpa using c34
      have hst := bestO_skip (most := S.most) (l := l) hi2 hce hcf
      refine JS_drop 0 ?_
      exact JS_round (i + 1) (by omega) (by omega) (by rw [hst]; rfl) (EnvSub.consLe rfl (int_eq (rfl)) (EnvSub.consLe rfl (bool_eq (by rw [hst])) (EnvSub.pick1 rfl (EnvSub.pick1 rfl (EnvSub.pick1 rfl (EnvSub.pick1 rfl (EnvSub.pick1 rfl (EnvSub.pick1 rfl (EnvSub.pick1 rfl (EnvSub.nil _))))))))))
    · refine JS_skip ?_
      refine JS_seq ?_
      -- region 7
      refine sR ?_
      refine kO (T_load_own (i := 0) rfl rfl rfl (Sub.self _) ti60) rfl ?_
      refine kM rfl rfl ?_
      refine kO (T_callL rfl en71 (w71 (hC _ hml _ (List.getElem_mem _)) hl hn hG hD hGD) (oa (ol rfl (Ty.le.refl _)) (oa (ol rfl (Ty.le.refl _)) oa0))) rfl ?_
      refine kT ?_
      refine JT_alloc (S0 := Seg.of Kd.num0 none) rfl rfl rfl rfl z85 z_num0 (fun g15 => ?_)
      refine JT_store (i := 0) rfl rfl rfl rfl rfl (ol rfl (Ty.le.refl _)) (Upd.self _ _ rfl) sz85 ?_
      refine JT_done ?_
      refine JS_seq ?_
      refine JS_seq ?_
      -- region 8
      refine sR ?_
      refine kM rfl rfl ?_
      refine kE ?_
      refine JS_cond rfl (fun c38 => ?_) (fun c38 => ?_)
      · obtain ⟨y, hy⟩ : ∃ y, bestO S.most cf l ((S.mo.choices.getD s []).take i) = some y := Option.isSome_iff_exists.1 c38
        -- region 9
        refine sR ?_
        refine kM rfl rfl ?_
        refine kO (T_load_own (i := 2) rfl rfl rfl (Sub.self _) ti85) rfl ?_
        refine kO (T_load_own (i := 0) rfl rfl rfl (Sub.self _) ti85) rfl ?_
        refine kO (T_callvL (⟨(y, mixQ ((S.mo.choices[((s : Int)).toNat]'(by omega))[((i : Int)).toNat]'(by omega)) l), hbk i y hy, hnz⟩ : BetterX) rfl rfl (oa (ol rfl (num0_numE hy)) (oa (ol rfl (Ty.le.refl _)) oa0))) rfl ?_
        refine kT ?_
        refine JT_store (i := 0) rfl rfl rfl rfl rfl (ol rfl (Ty.le.refl _)) (Upd.self _ _ rfl) sz85 ?_
        refine JT_done ?_
        -- region 10
        refine sR ?_
        refine kO (T_load_own (i := 0) rfl rfl rfl (Sub.self _) ti85) rfl ?_
        refine kT ?_
        refine JT_store (i := 2) rfl rfl rfl rfl rfl (ol rfl (Ty.le.refl _)) (Upd.self _ _ rfl) sz85 ?_
        refine jA rfl rfl ?_
        refine JT_done ?_
        refine JS_end_inB ?_
        -- region 11
        refine sR ?_
        refine kO (T_add rfl rfl rfl (wrap_i64 (by omega) (by omega))) rfl ?_
        refine kM rfl rfl ?_
        refine kE ?_
        have hcf : cf ((S.mo.choices[((s : Int)).toNat]'(by omega))[((i : Int)).toNat]'(by omega)) = true := by simpa using c34
        have hst := bestO_up (most := S.most) (l := l) hi2 hce hcf hy
        refine JS_drop 0 ?_
        refine JS_drop 0 ?_
        exact JS_round (i + 1) (by omega) (by omega) (by rw [hst]; rfl) (EnvSub.consLe rfl (int_eq (rfl)) (EnvSub.consLe rfl (bool_eq (by rw [hst]; rfl)) (EnvSub.pick1 rfl (EnvSub.pick1 rfl (EnvSub.pick1 rfl (EnvSub.pick1 rfl (EnvSub.pick1 rfl (EnvSub.pick1 rfl (EnvSub.pick1 rfl (EnvSub.nil _))))))))))
      · refine JS_skip ?_
        -- region 10
        refine sR ?_
        refine kO (T_load_own (i := 0) rfl rfl rfl (Sub.self _) ti85) rfl ?_
        refine kT ?_
        refine JT_store (i := 2) rfl rfl rfl rfl rfl (ol rfl (Ty.le.refl _)) (Upd.self _ _ rfl) sz85 ?_
        refine jA rfl rfl ?_
        refine JT_done ?_
        refine JS_end_inB ?_
        -- region 11
        refine sR ?_
        refine kO (T_add rfl rfl rfl (wrap_i64 (by omega) (by omega))) rfl ?_
        refine kM rfl rfl ?_
        refine kE ?_
        have hcf : cf ((S.mo.choices[((s : Int)).toNat]'(by omega))[((i : Int)).toNat]'(by omega)) = true := by simpa using c34
        have hst := bestO_new (most := S.most) (l := l) hi2 hce hcf c38
        refine JS_drop 0 ?_
        refine JS_drop 0 ?_
        exact JS_round (i + 1) (by omega) (by omega) (by rw [hst]; rfl) (EnvSub.consLe rfl (int_eq (rfl)) (EnvSub.consLe rfl (bool_eq (by rw [hst]; rfl)) (EnvSub.pick1 rfl (EnvSub.pick1 rfl (EnvSub.pick1 rfl (EnvSub.pick1 rfl (EnvSub.pick1 rfl (EnvSub.pick1 rfl (EnvSub.pick1 rfl (EnvSub.nil _))))))))))
  · have hfin : bestO S.most cf l ((S.mo.choices.getD s []).take i) = bestO S.most cf l (S.mo.choices.getD s []) := by rw [show i = (S.mo.choices.getD s []).length by rw [← hgl]; omega, List.take_length]
    refine JS_exit (JE_loop_exit (JE_inB_here ?_))
    refine JS_seq ?_
    -- region 12
    refine sR ?_
    refine kO (T_load_own (i := 0) rfl rfl rfl (Sub.self _) ti85) rfl ?_
    refine kM rfl rfl ?_
    refine kT ?_
    refine JT_store (i := 1) rfl rfl rfl rfl rfl (ol rfl (Ty.le.refl _)) (Upd.self _ _ rfl) sz85 ?_
    refine jA rfl rfl ?_
    refine JT_done ?_
    exact JS_ret (JE_ret_many rfl (by decide) (.le (.cell (i := 1) rfl rfl ti85 (.le (.tmp rfl .nil) (bool_eq (by rw [hfin])))) (of_eq (hfin))))

end Go.Proofs.YtknflgfkhkdomaaGreatDoor.Mono

/-! WkZ -/
set_option linter.unusedVariables false
set_option linter.unusedSimpArgs false
set_option maxRecDepth 4000
set_option maxHeartbeats 4000000
namespace Go.Proofs.YtknflgfkhkdomaaGreatDoor.Mono
open Go Go.RowKit

theorem leaveK_zero (S : So) (l : List Rat) (b : Nat) : leaveK S l b 0 = Rat.divInt 0 1 := by rw [show Rat.divInt 0 1 = 0 by decide]; rfl
theorem lowG {M : Mo} {s : Nat} {c : Ch} (h : Low M) (hc : c ∈ M.choices.getD s []) : ∀ b ∈ c.next, b.to < 12 := by
  rw [List.getD_eq_getElem?_getD] at hc
  by_cases hs : s < M.choices.length
  · rw [List.getElem?_eq_getElem hs] at hc; exact h _ (List.getElem_mem hs) c hc
  · rw [List.getElem?_eq_none (by omega)] at hc; cases hc
theorem leaveK_off {S : So} {l : List Rat} {b k : Nat} (h : b.testBit k = false) : leaveK S l b k = leaveK S l b (k + 1) := by rw [leaveK_succ, h]; rfl
theorem leaveK_no {S : So} {l : List Rat} {b k : Nat} (h : (bestO S.most (fun c => !staysB c b) l (S.mo.choices.getD k [])).isSome = false) : leaveK S l b k = leaveK S l b (k + 1) := by
  rw [leaveK_succ]
  cases e : bestO S.most (fun c => !staysB c b) l (S.mo.choices.getD k []) with
  | none => simp
  | some y => rw [e] at h; cases h
theorem leaveK_on {S : So} {l : List Rat} {b k : Nat} {y : Rat} (hb : b.testBit k = true) (h : bestO S.most (fun c => !staysB c b) l (S.mo.choices.getD k []) = some y) : betterQ S.most (leaveK S l b k) y = leaveK S l b (k + 1) := by rw [leaveK_succ, hb, h]; rfl

theorem ti74 : TI Tryz.prog 74 false 1 := ⟨by kernel_rfl, by kernel_rfl⟩

theorem en72 : Enters Tryz.prog 72 := enters_fn Tryz.func72 (by kernel_rfl) rfl

theorem en48 : Enters Tryz.prog 48 := enters_fn Tryz.func48 (by kernel_rfl) rfl

theorem m50 {S : So} {l U : List Rat} {v : Value} {G H D : Nat} (hC : ∀ l ∈ S.mo.choices, ∀ c ∈ l, CM S.mo.owner.length G H c) (hl : ∀ x ∈ l, Bd D x) (hn : l.length = S.mo.owner.length) (hsm : S.mo.choices.length = S.mo.owner.length) (hG : 0 < G) (hD : 0 < D) (hGD : G * D < 10 ^ 252) (hlow : Low S.mo) (h12 : S.mo.owner.length ≤ 12) (hB : ∀ b ∈ S.blocks, b < 4096) (hU : U.length = l.length) : SpecM CC 50 [Ty.place (Seg.of Kd.so S), Ty.of (Kd.slice Kd.num) l, Ty.val (v)] [Res.sl v 85 Kd.num0 (U.map some)] (Y := Unit) (fun _ => Ty.any) (fun _ => [Res.sl v 85 Kd.num0 ((leaveF S l U S.blocks).map some)]) := by
  refine specM_of_JS Tryz.func50 rfl (Nat.le_of_ble_eq_true rfl) (fun gh0 wd0 => ?_)
  refine JS_bound (s := 1) rfl (fun b1 => ?_)
  unfold maxLen at b1
  refine JS_seq ?_
  -- region 0
  refine sR ?_
  refine kM rfl rfl ?_
  refine kO (T_nilCheck rfl rfl) rfl ?_
  refine kO (T_fieldAddr rfl fa76_4 (st_sub (i := 4) rfl rfl) rfl) rfl ?_
  refine kO (T_ld rfl rfl ti74) rfl ?_
  refine kO (T_len_slice rfl rfl u74 rfl) rfl ?_
  refine kM rfl rfl ?_
  refine kE ?_
  refine JS_block ?_
  refine JS_bound (s := 16) rfl (fun b16 => ?_)
  unfold maxLen at b16
  refine sLoop1 (fun (i : Nat) => [(18, Ty.val (.int .i64 (i : Int)))]) [0, 1, 2, 16, 17] (fun (i : Nat) => [(0, Res.sl v 85 Kd.num0 ((leaveF S l U (S.blocks.take i)).map some))]) (fun (i : Nat) => i ≤ S.blocks.length) (fun (i : Nat) => S.blocks.length - i) 0 (Nat.zero_le _) (by rfl) (EnvSub.consLe rfl (int_eq (rfl)) (EnvSub.nil _)) (fun i (hI : i ≤ S.blocks.length) => ?_)
  refine JS_seq ?_
  -- region 1
  refine sR ?_
  refine kO (T_lt rfl rfl rfl) rfl ?_
  refine kE ?_
  refine JS_seq ?_
  refine JS_if rfl (fun c19 => ?_) (fun c19 => ?_)
  · refine JS_skip ?_
    refine JS_seq ?_
    refine JS_block ?_
    refine JS_seq ?_
    -- region 2
    refine sR ?_
    refine kO (T_ix rfl rfl rfl u74 ti33 (by omega) (by omega) rfl) rfl ?_
    refine kO (T_load_nat rfl ti33 rfl) rfl ?_
    refine kT ?_
    refine JT_alloc (S0 := Seg.of (Kd.nat .u64) 0) rfl rfl rfl rfl z33 (fun _ => rfl) (fun g7 => ?_)
    refine JT_store (i := 0) rfl rfl rfl rfl rfl (ol rfl (val_nat .u64 rfl)) (Upd.self _ _ rfl) sz33 ?_
    refine JT_done ?_
    refine JS_seq ?_
    -- region 3
    obtain ⟨b, hb⟩ : ∃ b, S.blocks[((i : Int)).toNat]'(by omega) = b := ⟨_, rfl⟩
    have hbb : b < 4096 := by rw [← hb]; exact hB _ (List.getElem_mem _)
    refine JS_eqD (Δ' := [Res.box g7 33 (Seg.of (Kd.nat .u64) b), Res.sl v 85 Kd.num0 ((leaveF S l U (S.blocks.take i)).map some)]) (by rw [← hb]; rfl) ?_
    refine JS_freeze_box (i := 0) (s := 7) rfl rfl ?_
    refine sR ?_
    refine kO (T_callL rfl en30 (w30 (by decide) (by decide) (by decide) (by decide) (by decide)) (oa (ol rfl (Ty.le.refl _)) (oa (ol rfl (Ty.le.refl _)) oa0))) rfl ?_
    refine kT ?_
    refine JT_alloc (S0 := Seg.of Kd.num0 none) rfl rfl rfl rfl z85 z_num0 (fun g8 => ?_)
    refine JT_store (i := 0) rfl rfl rfl rfl rfl (ol rfl (Ty.le.refl _)) (Upd.self _ _ rfl) sz85 ?_
    refine JT_done ?_
    refine JS_seq ?_
    refine JS_seq ?_
    -- region 4
    refine sR ?_
    refine kM rfl rfl ?_
    refine kO (T_len_slice rfl rfl u49 rfl) rfl ?_
    refine kM rfl rfl ?_
    refine kE ?_
    refine JS_block ?_
    refine sLoop1 (fun (k : Nat) => [(25, Ty.val (.int .i64 (k : Int)))]) [0, 1, 2, 7, 8, 16, 17, 18, 24] (fun (k : Nat) => [(0, Res.box g8 85 (Seg.of Kd.num (leaveK S l b k))), (1, Res.sl v 85 Kd.num0 ((leaveF S l U (S.blocks.take i)).map some))]) (fun (k : Nat) => k ≤ l.length) (fun (k : Nat) => l.length - k) 0 (Nat.zero_le _) (by rw [leaveK_zero]; rfl) (EnvSub.consLe rfl (int_eq (rfl)) (EnvSub.nil _)) (fun k (hK : k ≤ l.length) => ?_)
    refine JS_seq ?_
    -- region 5
    refine sR ?_
    refine kO (T_lt rfl rfl rfl) rfl ?_
    refine kE ?_
    refine JS_seq ?_
    refine JS_if rfl (fun c26 => ?_) (fun c26 => ?_)
    · have hk1 : k < l.length := by omega
      refine JS_skip ?_
      refine JS_seq ?_
      refine JS_block ?_
      refine JS_seq ?_
      -- region 6
      refine sR ?_
      refine kM rfl rfl ?_
      refine kA rfl rfl ?_
      refine kE ?_
      refine JS_seq ?_
      refine JS_seq ?_
      -- region 7
      refine sR ?_
      refine kO (T_load_nat rfl ti33 rfl) rfl ?_
      refine kM rfl rfl ?_
      refine kO (T_shr rfl rfl rfl (by omega) (shr_u64 (by omega) (by omega))) rfl ?_
      refine kO (T_bits rfl (.inl rfl) rfl rfl (and1_u64 (Nat.lt_of_le_of_lt (Nat.shiftRight_le _ _) (by omega)))) rfl ?_
      refine kO (T_eq rfl rfl rfl) rfl ?_
      refine kE ?_
      refine JS_if rfl (fun c32 => ?_) (fun c32 => ?_)
      · refine JS_exit (JE_inB_here ?_)
        -- region 11
        refine sR ?_
        refine kO (T_add rfl rfl rfl (wrap_i64 (by omega) (by omega))) rfl ?_
        refine kM rfl rfl ?_
        refine kE ?_
        exact JS_round (k + 1) (by omega) (by omega) (by rw [← leaveK_off (bit_off (n := k) c32)]) (EnvSub.consLe rfl (int_eq (rfl)) (EnvSub.pick1 rfl (EnvSub.pick1 rfl (EnvSub.pick1 rfl (EnvSub.pick1 rfl (EnvSub.pick1 rfl (EnvSub.pick1 rfl (EnvSub.pick1 rfl (EnvSub.pick1 rfl (EnvSub.pick1 rfl (EnvSub.nil _)))))))))))
      · refine JS_skip ?_
        refine JS_seq ?_
        -- region 8
        refine sR ?_
        refine kM rfl rfl ?_
        refine kM rfl rfl ?_
        refine kM rfl rfl ?_
        refine kO (T_mkfn (ins := (cntIn (S.mo.choices.getD k []))) (out := (cntOut (S.mo.choices.getD k []) (fun c => !staysB c b))) rfl rfl en72 (fun x => w72 (lowG hlow x.2) (by omega)) (oa (ol rfl (Ty.le.refl _)) oa0)) rfl ?_
        refine kO (T_callL rfl en48 (w48 (cf := fun c => !staysB c b) hC hl hn hsm hG hD hGD (s := k) (by omega)) (oa (ol rfl (Ty.le.refl _)) (oa (ol rfl (Ty.le.refl _)) (oa (ol rfl (Ty.le.refl _)) (oa (ol rfl (Ty.le.refl _)) oa0))))) rfl ?_
        refine kM rfl rfl ?_
        refine kO (T_extract rfl rfl rfl) rfl ?_
        refine kO (T_extract rfl rfl rfl) rfl ?_
        refine kT ?_
        refine JT_alloc (S0 := Seg.of Kd.num0 none) rfl rfl rfl rfl z85 z_num0 (fun g10 => ?_)
        refine JT_store (i := 0) rfl rfl rfl rfl rfl (ol rfl (Ty.le.refl _)) (Upd.self _ _ rfl) sz85 ?_
        refine jA rfl rfl ?_
        refine JT_done ?_
        refine JS_seq ?_
        -- region 9
        refine sR ?_
        refine kM rfl rfl ?_
        refine kE ?_
        refine JS_cond rfl (fun c41 => ?_) (fun c41 => ?_)
        · obtain ⟨y, hy⟩ : ∃ y, bestO S.most (fun c => !staysB c b) l (S.mo.choices.getD k []) = some y := Option.isSome_iff_exists.1 c41
          -- region 10
          refine sR ?_
          refine kM rfl rfl ?_
          refine kO (T_load_own (i := 1) rfl rfl rfl (Sub.self _) ti85) rfl ?_
          refine kO (T_load_own (i := 0) rfl rfl rfl (Sub.self _) ti85) rfl ?_
          refine kO (T_callL rfl en70 (w70 ((leaveK_Bd hC hG hD hl b k).nz (Nat.mul_pos hG hD) hGD) ((bestO_P _ (mixS_Bd hC hG hD hl k) y hy).nz (Nat.mul_pos hG hD) hGD)) (oa (ol rfl (Ty.le.refl _)) (oa (ol rfl (Ty.le.refl _)) (oa (ol rfl (num0_numE hy)) oa0)))) rfl ?_
          refine kT ?_
          refine JT_store (i := 1) rfl rfl rfl rfl rfl (ol rfl (Ty.le.refl _)) (Upd.self _ _ rfl) sz85 ?_
          refine JT_done ?_
          refine JS_end_inB ?_
          -- region 11
          refine sR ?_
          refine kO (T_add rfl rfl rfl (wrap_i64 (by omega) (by omega))) rfl ?_
          refine kM rfl rfl ?_
          refine kE ?_
          refine JS_drop 0 ?_
          exact JS_round (k + 1) (by omega) (by omega) (by rw [← leaveK_on (bit_non (n := k) c32) hy]; rfl) (EnvSub.consLe rfl (int_eq (rfl)) (EnvSub.pick1 rfl (EnvSub.pick1 rfl (EnvSub.pick1 rfl (EnvSub.pick1 rfl (EnvSub.pick1 rfl (EnvSub.pick1 rfl (EnvSub.pick1 rfl (EnvSub.pick1 rfl (EnvSub.pick1 rfl (EnvSub.nil _)))))))))))
        · refine JS_skip ?_
          refine JS_end_inB ?_
          -- region 11
          refine sR ?_
          refine kO (T_add rfl rfl rfl (wrap_i64 (by omega) (by omega))) rfl ?_
          refine kM rfl rfl ?_
          refine kE ?_
          refine JS_drop 0 ?_
          exact JS_round (k + 1) (by omega) (by omega) (by rw [← leaveK_no c41]; rfl) (EnvSub.consLe rfl (int_eq (rfl)) (EnvSub.pick1 rfl (EnvSub.pick1 rfl (EnvSub.pick1 rfl (EnvSub.pick1 rfl (EnvSub.pick1 rfl (EnvSub.pick1 rfl (EnvSub.pick1 rfl (EnvSub.pick1 rfl (EnvSub.pick1 rfl (EnvSub.nil _)))))))))))
    · have hkl : k = l.length := by omega
      refine JS_exit (JE_loop_exit (JE_inB_here ?_))
      refine JS_seq ?_
      -- region 12
      refine sR ?_
      refine kM rfl rfl ?_
      refine kO (T_len_slice rfl rfl u49 rfl) rfl ?_
      refine kM rfl rfl ?_
      refine kE ?_
      refine JS_block ?_
      refine sLoop1 (fun (k : Nat) => [(49, Ty.val (.int .i64 (k : Int)))]) [0, 1, 2, 7, 8, 16, 17, 18, 48] (fun (k : Nat) => [(0, Res.box g8 85 (Seg.of Kd.num (leaveK S l b l.length))), (1, Res.sl v 85 Kd.num0 ((setB b (leaveK S l b l.length) (leaveF S l U (S.blocks.take i)) k).map some))]) (fun (k : Nat) => k ≤ l.length) (fun (k : Nat) => l.length - k) 0 (Nat.zero_le _) (by rw [setB_zero, ← hkl]; rfl) (EnvSub.consLe rfl (int_eq (rfl)) (EnvSub.nil _)) (fun k (hK2 : k ≤ l.length) => ?_)
      refine JS_seq ?_
      -- region 13
      refine sR ?_
      refine kO (T_lt rfl rfl rfl) rfl ?_
      refine kE ?_
      refine JS_seq ?_
      refine JS_if rfl (fun c50 => ?_) (fun c50 => ?_)
      · have hk1 : k < l.length := by omega
        refine JS_skip ?_
        refine JS_seq ?_
        refine JS_block ?_
        refine JS_seq ?_
        -- region 14
        refine sR ?_
        refine kM rfl rfl ?_
        refine kA rfl rfl ?_
        refine kE ?_
        refine JS_seq ?_
        -- region 15
        refine sR ?_
        refine kO (T_load_nat rfl ti33 rfl) rfl ?_
        refine kM rfl rfl ?_
        refine kO (T_shr rfl rfl rfl (by omega) (shr_u64 (by omega) (by omega))) rfl ?_
        refine kO (T_bits rfl (.inl rfl) rfl rfl (and1_u64 (Nat.lt_of_le_of_lt (Nat.shiftRight_le _ _) (by omega)))) rfl ?_
        refine kO (T_eq rfl rfl rfl) rfl ?_
        refine kE ?_
        refine JS_if rfl (fun c56 => ?_) (fun c56 => ?_)
        · -- region 16
          refine sR ?_
          refine kM rfl rfl ?_
          refine kM rfl rfl ?_
          refine kO (T_load_own (i := 0) rfl rfl rfl (Sub.self _) ti85) rfl ?_
          refine kO (T_ixo (ix := 1) (d := Kd.num0) rfl rfl rfl rfl u49 ti85 (by omega) (by rw [List.length_map, setB_len, leaveF_len]; omega)) rfl ?_
          refine kT ?_
          refine JT_store_elt (i := 1) rfl rfl rfl rfl rfl (by rw [List.length_map, setB_len, leaveF_len]; omega) (ol rfl (num_num0 _)) sz85 ?_
          refine JT_done ?_
          refine JS_end_inB ?_
          -- region 17
          refine sR ?_
          refine kO (T_add rfl rfl rfl (wrap_i64 (by omega) (by omega))) rfl ?_
          refine kM rfl rfl ?_
          refine kE ?_
          exact JS_round (k + 1) (by omega) (by omega) (by rw [← setB_on rfl (bit_on (n := k) c56)]; rfl) (EnvSub.consLe rfl (int_eq (rfl)) (EnvSub.pick1 rfl (EnvSub.pick1 rfl (EnvSub.pick1 rfl (EnvSub.pick1 rfl (EnvSub.pick1 rfl (EnvSub.pick1 rfl (EnvSub.pick1 rfl (EnvSub.pick1 rfl (EnvSub.pick1 rfl (EnvSub.nil _)))))))))))
        · refine JS_skip ?_
          refine JS_end_inB ?_
          -- region 17
          refine sR ?_
          refine kO (T_add rfl rfl rfl (wrap_i64 (by omega) (by omega))) rfl ?_
          refine kM rfl rfl ?_
          refine kE ?_
          exact JS_round (k + 1) (by omega) (by omega) (by rw [← setB_off (bit_noff (n := k) c56)]) (EnvSub.consLe rfl (int_eq (rfl)) (EnvSub.pick1 rfl (EnvSub.pick1 rfl (EnvSub.pick1 rfl (EnvSub.pick1 rfl (EnvSub.pick1 rfl (EnvSub.pick1 rfl (EnvSub.pick1 rfl (EnvSub.pick1 rfl (EnvSub.pick1 rfl (EnvSub.nil _)))))))))))
      · have hkl : k = l.length := by omega
        refine JS_exit (JE_loop_exit (JE_inB_here ?_))
        refine JS_end_inB ?_
        -- region 18
        refine sR ?_
        refine kO (T_add rfl rfl rfl (wrap_i64 (by omega) (by omega))) rfl ?_
        refine kM rfl rfl ?_
        refine kE ?_
        refine JS_drop 0 ?_
        exact JS_round (i + 1) (by omega) (by omega) (by rw [leaveF_step (by omega) (hb.symm.trans (toNat_get _)), hkl]; rfl) (EnvSub.consLe rfl (int_eq (rfl)) (EnvSub.pick1 rfl (EnvSub.pick1 rfl (EnvSub.pick1 rfl (EnvSub.pick1 rfl (EnvSub.pick1 rfl (EnvSub.nil _)))))))
  · obtain rfl : i = S.blocks.length := by omega
    refine JS_exit (JE_loop_exit (JE_inB_here ?_))
    exact JS_nil (JE_normal (JE_retM0 () (by rw [List.take_length]; rfl) rfl rfl rfl rfl))

theorem en49 : Enters Tryz.prog 49 := enters_fn Tryz.func49 (by kernel_rfl) rfl

theorem en50 : Enters Tryz.prog 50 := enters_fn Tryz.func50 (by kernel_rfl) rfl

theorem w31 {S : So} {l : List Rat} {up : Bool} {G H D : Nat} (hC : ∀ l ∈ S.mo.choices, ∀ c ∈ l, CM S.mo.owner.length G H c) (hl : ∀ x ∈ l, Bd D x) (hn : l.length = S.mo.owner.length) (hsm : S.mo.choices.length = S.mo.owner.length) (hG : 0 < G) (hD : 0 < D) (hGD : G * D < 10 ^ 252) (hlow : Low S.mo) (h12 : S.mo.owner.length ≤ 12) (hB : ∀ b ∈ S.blocks, b < 4096) (hne : ∀ l ∈ S.mo.choices, 0 < l.length) (hT : S.tgt < 4096) (hZ : S.zero < 4096) : Spec CC 31 [Ty.place (Seg.of Kd.so S), Ty.of (Kd.slice Kd.num) l, Ty.val (.bool up)] (Ty.of (Kd.slice Kd.num) (nextF S l up)) := by
  refine spec_of_JS Tryz.func31 rfl (Nat.le_of_ble_eq_true rfl) (fun gh0 wd0 => ?_)
  refine JS_bound (s := 1) rfl (fun b1 => ?_)
  unfold maxLen at b1
  have hbl : ((nextV S l up).map some).length = l.length := by rw [List.length_map, nextV_len]
  have hrl : (List.replicate ((l.length : Int)).toNat (none : Option Rat)).length = l.length := List.length_replicate ..
  refine JS_seq ?_
  -- region 0
  refine sR ?_
  refine kA rfl rfl ?_
  refine kE ?_
  refine JS_seq ?_
  -- region 1
  refine sR ?_
  refine kM rfl rfl ?_
  refine kO (T_len_slice rfl rfl u49 rfl) rfl ?_
  refine kT ?_
  refine JT_make (K := Kd.num0) (z0 := none) rfl rfl rfl rfl u49 ei85 rfl (by decide) z_num0 rfl rfl (by omega) (by omega) (by omega) (by omega) (fun v11 => ?_)
  refine jA rfl rfl ?_
  refine JT_done ?_
  refine JS_seq ?_
  refine JS_seq ?_
  -- region 2
  refine sR ?_
  refine kM rfl rfl ?_
  refine kO (T_len_slice rfl rfl u49 rfl) rfl ?_
  refine kM rfl rfl ?_
  refine kE ?_
  refine JS_block ?_
  refine sLoop1 (fun (i : Nat) => [(14, Ty.val (.int .i64 (i : Int)))]) [0, 1, 2, 7, 13] (fun (i : Nat) => [(0, Res.sl v11 85 Kd.num0 (fillL ((nextV S l up).map some) none i))]) (fun (i : Nat) => i ≤ l.length) (fun (i : Nat) => l.length - i) 0 (Nat.zero_le _) (by rw [← fillL_zero (n := ((l.length : Int)).toNat) (by rw [hbl]; rfl)]; rfl) (EnvSub.consLe rfl (int_eq (rfl)) (EnvSub.nil _)) (fun i (hI : i ≤ l.length) => ?_)
  refine JS_seq ?_
  -- region 3
  refine sR ?_
  refine kO (T_lt rfl rfl rfl) rfl ?_
  refine kE ?_
  refine JS_seq ?_
  refine JS_if rfl (fun c15 => ?_) (fun c15 => ?_)
  · have hi1 : i < l.length := by omega
    have hi2 : i < S.mo.choices.length := by omega
    have hcn : 0 < (S.mo.choices.getD i []).length := by rw [getD_choices hi2]; exact hne _ (List.getElem_mem _)
    have hbv := bestV_some (most := S.most) (l := l) hcn
    refine JS_skip ?_
    refine JS_seq ?_
    refine JS_block ?_
    refine JS_seq ?_
    -- region 4
    refine sR ?_
    refine kM rfl rfl ?_
    refine kA rfl rfl ?_
    refine kE ?_
    refine JS_block ?_
    refine JS_seq ?_
    -- region 6
    refine sR ?_
    refine kM rfl rfl ?_
    refine kO (T_nilCheck rfl rfl) rfl ?_
    refine kO (T_fieldAddr rfl fa76_1 (st_sub (i := 1) rfl rfl) rfl) rfl ?_
    refine kO (T_load_nat rfl ti33 rfl) rfl ?_
    refine kM rfl rfl ?_
    refine kO (T_shr rfl rfl rfl (by omega) (shr_u64 (by omega) (by omega))) rfl ?_
    refine kO (T_bits rfl (.inl rfl) rfl rfl (and1_u64 (Nat.lt_of_le_of_lt (Nat.shiftRight_le _ _) (by omega)))) rfl ?_
    refine kO (T_eq rfl rfl rfl) rfl ?_
    refine kA rfl rfl ?_
    refine kE ?_
    refine JS_if rfl (fun c27 => ?_) (fun c27 => ?_)
    · -- region 7
      refine sR ?_
      refine kM rfl rfl ?_
      refine kM rfl rfl ?_
      refine kO (T_callL rfl en30 (w30 (by decide) (by decide) (by decide) (by decide) (by decide)) (oa (ol rfl (Ty.le.refl _)) (oa (ol rfl (Ty.le.refl _)) oa0))) rfl ?_
      refine kO (T_ixo (ix := 0) (d := Kd.num0) rfl rfl rfl rfl u49 ti85 (by omega) (by rw [fillL_len (by omega)]; omega)) rfl ?_
      refine kT ?_
      refine JT_store_elt (i := 0) rfl rfl rfl rfl rfl (by rw [fillL_len (by omega)]; omega) (ol rfl (num_num0 _)) sz85 ?_
      refine JT_done ?_
      refine JS_end_inB ?_
      refine JS_end_inB ?_
      -- region 10
      refine sR ?_
      refine kO (T_add rfl rfl rfl (wrap_i64 (by omega) (by omega))) rfl ?_
      refine kM rfl rfl ?_
      refine kE ?_
      exact JS_round (i + 1) (by omega) (by omega) (by rw [← fillL_set (i := i) (k := ((i : Int)).toNat) (y := some (Rat.divInt 1 1)) rfl (by omega) (nextV_at (by omega) (by rw [if_pos (bit_on (n := i) c27)]; decide))]; rfl) (EnvSub.consLe rfl (int_eq (rfl)) (EnvSub.pick1 rfl (EnvSub.pick1 rfl (EnvSub.pick1 rfl (EnvSub.pick1 rfl (EnvSub.pick1 rfl (EnvSub.nil _)))))))
    · refine JS_seq ?_
      -- region 8
      refine sR ?_
      refine kM rfl rfl ?_
      refine kM rfl rfl ?_
      refine tk_split (d := 42) rfl (fun g42 => ?_) (fun g42 => ?_)
      · refine kG (wT rfl rfl rfl g42) (T_move (.inl rfl) rfl) rfl ?_
        refine kG (wT rfl rfl rfl g42) (T_nilCheck rfl rfl) rfl ?_
        refine kG (wT rfl rfl rfl g42) (T_fieldAddr rfl fa76_3 (st_sub (i := 3) rfl rfl) rfl) rfl ?_
        refine kG (wT rfl rfl rfl g42) (T_load_nat rfl ti33 rfl) rfl ?_
        refine kG (wT rfl rfl rfl g42) (T_move (.inl rfl) rfl) rfl ?_
        refine kG (wT rfl rfl rfl g42) (T_shr rfl rfl rfl (by omega) (shr_u64 (by omega) (by omega))) rfl ?_
        refine kG (wT rfl rfl rfl g42) (T_bits rfl (.inl rfl) rfl rfl (and1_u64 (Nat.lt_of_le_of_lt (Nat.shiftRight_le _ _) (by omega)))) rfl ?_
        refine kG (wT rfl rfl rfl g42) (T_eq rfl rfl rfl) rfl ?_
        refine kO (T_pickT rfl rfl g42 rfl) rfl ?_
        refine kA rfl rfl ?_
        refine kE ?_
        refine JS_if rfl (fun c40 => ?_) (fun c40 => ?_)
        · -- region 9
          refine sR ?_
          refine kM rfl rfl ?_
          refine kM rfl rfl ?_
          refine kO (T_callL rfl en30 (w30 (by decide) (by decide) (by decide) (by decide) (by decide)) (oa (ol rfl (Ty.le.refl _)) (oa (ol rfl (Ty.le.refl _)) oa0))) rfl ?_
          refine kO (T_ixo (ix := 0) (d := Kd.num0) rfl rfl rfl rfl u49 ti85 (by omega) (by rw [fillL_len (by omega)]; omega)) rfl ?_
          refine kT ?_
          refine JT_store_elt (i := 0) rfl rfl rfl rfl rfl (by rw [fillL_len (by omega)]; omega) (ol rfl (num_num0 _)) sz85 ?_
          refine JT_done ?_
          refine JS_end_inB ?_
          refine JS_end_inB ?_
          -- region 10
          refine sR ?_
          refine kO (T_add rfl rfl rfl (wrap_i64 (by omega) (by omega))) rfl ?_
          refine kM rfl rfl ?_
          refine kE ?_
          exact JS_round (i + 1) (by omega) (by omega) (by rw [← fillL_set (i := i) (k := ((i : Int)).toNat) (y := some (Rat.divInt 0 1)) rfl (by omega) (nextV_at (by omega) (by rw [if_neg (by rw [bit_noff (n := i) c27]; decide), if_pos (by rw [g42, bit_on (n := i) c40]; rfl)]; decide))]; rfl) (EnvSub.consLe rfl (int_eq (rfl)) (EnvSub.pick1 rfl (EnvSub.pick1 rfl (EnvSub.pick1 rfl (EnvSub.pick1 rfl (EnvSub.pick1 rfl (EnvSub.nil _)))))))
        · -- region 5
          refine sR ?_
          refine kM rfl rfl ?_
          refine kM rfl rfl ?_
          refine kM rfl rfl ?_
          refine kM rfl rfl ?_
          refine kM rfl rfl ?_
          refine kO (T_callL rfl en48 (w48 (cf := fun _ => true) hC hl hn hsm hG hD hGD (s := i) (by omega)) (oa (ol rfl (Ty.le.refl _)) (oa (ol rfl (Ty.le.refl _)) (oa (ol rfl (Ty.le.refl _)) (oa (ol rfl (T_fnval (Γ := []) (T := Ty.any) en49 ((fun x => w49)))) oa0))))) rfl ?_
          refine kM rfl rfl ?_
          refine kO (T_extract rfl rfl rfl) rfl ?_
          refine kO (T_extract rfl rfl rfl) rfl ?_
          refine kO (T_ixo (ix := 0) (d := Kd.num0) rfl rfl rfl rfl u49 ti85 (by omega) (by rw [fillL_len (by omega)]; omega)) rfl ?_
          refine kT ?_
          refine JT_store_elt (i := 0) rfl rfl rfl rfl rfl (by rw [fillL_len (by omega)]; omega) (ol rfl (Ty.le.refl _)) sz85 ?_
          refine JT_done ?_
          refine JS_end_inB ?_
          refine JS_end_inB ?_
          -- region 10
          refine sR ?_
          refine kO (T_add rfl rfl rfl (wrap_i64 (by omega) (by omega))) rfl ?_
          refine kM rfl rfl ?_
          refine kE ?_
          exact JS_round (i + 1) (by omega) (by omega) (by rw [← fillL_set (i := i) (k := ((i : Int)).toNat) (y := bestO S.most (fun _ => true) l (S.mo.choices.getD i [])) rfl (by omega) (hbv.trans (nextV_at (by omega) (by rw [if_neg (by rw [bit_noff (n := i) c27]; decide), if_neg (by rw [bit_noff (n := i) c40, Bool.and_false]; decide)])))]; rfl) (EnvSub.consLe rfl (int_eq (rfl)) (EnvSub.pick1 rfl (EnvSub.pick1 rfl (EnvSub.pick1 rfl (EnvSub.pick1 rfl (EnvSub.pick1 rfl (EnvSub.nil _)))))))
      · refine kS (wF rfl rfl rfl (by rw [g42]; decide)) rfl ?_
        refine kS (wF rfl rfl rfl (by rw [g42]; decide)) rfl ?_
        refine kS (wF rfl rfl rfl (by rw [g42]; decide)) rfl ?_
        refine kS (wF rfl rfl rfl (by rw [g42]; decide)) rfl ?_
        refine kS (wF rfl rfl rfl (by rw [g42]; decide)) rfl ?_
        refine kS (wF rfl rfl rfl (by rw [g42]; decide)) rfl ?_
        refine kS (wF rfl rfl rfl (by rw [g42]; decide)) rfl ?_
        refine kS (wF rfl rfl rfl (by rw [g42]; decide)) rfl ?_
        refine kO (T_pickF rfl rfl g42 rfl) rfl ?_
        refine kA rfl rfl ?_
        refine kE ?_
        refine JS_cf rfl ?_
        -- region 5
        refine sR ?_
        refine kM rfl rfl ?_
        refine kM rfl rfl ?_
        refine kM rfl rfl ?_
        refine kM rfl rfl ?_
        refine kM rfl rfl ?_
        refine kO (T_callL rfl en48 (w48 (cf := fun _ => true) hC hl hn hsm hG hD hGD (s := i) (by omega)) (oa (ol rfl (Ty.le.refl _)) (oa (ol rfl (Ty.le.refl _)) (oa (ol rfl (Ty.le.refl _)) (oa (ol rfl (T_fnval (Γ := []) (T := Ty.any) en49 ((fun x => w49)))) oa0))))) rfl ?_
        refine kM rfl rfl ?_
        refine kO (T_extract rfl rfl rfl) rfl ?_
        refine kO (T_extract rfl rfl rfl) rfl ?_
        refine kO (T_ixo (ix := 0) (d := Kd.num0) rfl rfl rfl rfl u49 ti85 (by omega) (by rw [fillL_len (by omega)]; omega)) rfl ?_
        refine kT ?_
        refine JT_store_elt (i := 0) rfl rfl rfl rfl rfl (by rw [fillL_len (by omega)]; omega) (ol rfl (Ty.le.refl _)) sz85 ?_
        refine JT_done ?_
        refine JS_end_inB ?_
        refine JS_end_inB ?_
        -- region 10
        refine sR ?_
        refine kO (T_add rfl rfl rfl (wrap_i64 (by omega) (by omega))) rfl ?_
        refine kM rfl rfl ?_
        refine kE ?_
        exact JS_round (i + 1) (by omega) (by omega) (by rw [← fillL_set (i := i) (k := ((i : Int)).toNat) (y := bestO S.most (fun _ => true) l (S.mo.choices.getD i [])) rfl (by omega) (hbv.trans (nextV_at (by omega) (by rw [if_neg (by rw [bit_noff (n := i) c27]; decide), if_neg (by rw [g42, Bool.false_and]; decide)])))]; rfl) (EnvSub.consLe rfl (int_eq (rfl)) (EnvSub.pick1 rfl (EnvSub.pick1 rfl (EnvSub.pick1 rfl (EnvSub.pick1 rfl (EnvSub.pick1 rfl (EnvSub.nil _)))))))
  · have hil : i = l.length := by omega
    refine JS_exit (JE_loop_exit (JE_inB_here ?_))
    refine JS_seq ?_
    refine JS_seq ?_
    -- region 11
    refine sR ?_
    refine kM rfl rfl ?_
    refine kE ?_
    refine JS_cond rfl (fun c57 => ?_) (fun c57 => ?_)
    · -- region 12
      subst c57
      refine JS_eqD (Δ' := [Res.sl v11 85 Kd.num0 ((nextV S l true).map some)]) (by rw [fillL_full (by rw [List.length_map, nextV_len]; omega)]; rfl) ?_
      refine sR ?_
      refine kM rfl rfl ?_
      refine kM rfl rfl ?_
      refine kM rfl rfl ?_
      refine kT ?_
      refine JT_callM1 (i := 0) rfl rfl rfl en50 rfl (m50 (U := nextV S l true) hC hl hn hsm hG hD hGD hlow h12 hB (nextV_len S l true)) (oa (ol rfl (Ty.le.refl _)) (oa (ol rfl (Ty.le.refl _)) (oa (ol rfl (Ty.le.refl _)) oa0))) (fun y61 => ?_)
      refine JT_done ?_
      refine JS_seq ?_
      -- region 13
      refine sR ?_
      refine kM rfl rfl ?_
      refine kA rfl rfl ?_
      refine kE ?_
      refine JS_freeze_sl (i := 0) (s := 6) rfl rfl ?_
      exact JS_ret (JE_ret_one rfl rfl (.tmp rfl .nil) (num0s_nums rfl))
    · refine JS_skip ?_
      refine JS_seq ?_
      -- region 13
      refine sR ?_
      refine kM rfl rfl ?_
      refine kA rfl rfl ?_
      refine kE ?_
      refine JS_freeze_sl (i := 0) (s := 6) rfl rfl ?_
      exact JS_ret (JE_ret_one rfl rfl (.tmp rfl .nil) (num0s_nums (by subst c57; exact fillL_full (by rw [List.length_map, nextV_len]; omega))))

end Go.Proofs.YtknflgfkhkdomaaGreatDoor.Mono

/-! WlA -/
set_option linter.unusedVariables false
set_option linter.unusedSimpArgs false
set_option maxRecDepth 4000
set_option maxHeartbeats 4000000
namespace Go.Proofs.YtknflgfkhkdomaaGreatDoor.Mono
open Go Go.RowKit

theorem minusB_one (Z i : Nat) (hZ : Z < 18446744073709551616) : minusB 1 (Z >>> i) = if Z.testBit i then 0 else 1 := by
  refine Nat.eq_of_testBit_eq (fun j => ?_)
  have hs : Z >>> i < 18446744073709551616 := Nat.lt_of_le_of_lt (Nat.shiftRight_le _ _) hZ
  rw [minusB_bit (by decide) hs, Nat.testBit_shiftRight]
  cases j with
  | zero => cases h : Z.testBit i <;> simp [h]
  | succ j => 
    have : (1 : Nat).testBit (j + 1) = false := by rw [Nat.testBit_succ]; simp
    rw [this]
    split <;> simp [this]
theorem low0_at {S : So} {i : Nat} (h : i < ((lowK S 0).map some).length) : some (Rat.divInt ((S.tgt >>> ((i : Int)).toNat % 2 : Nat) : Int) 1) = ((lowK S 0).map some)[i] := by
  rw [show ((i : Int)).toNat = i from rfl, bit_mod, one_eq_bit]
  simp [lowK]
theorem high0_at {S : So} {i : Nat} (hZ : S.zero < 4096) (h : i < ((highK S 0).map some).length) : some (Rat.divInt ((minusB 1 (S.zero >>> ((i : Int)).toNat) : Nat) : Int) 1) = ((highK S 0).map some)[i] := by
  rw [show ((i : Int)).toNat = i from rfl, minusB_one _ _ (by omega)]
  simp only [highK, List.getElem_map, List.getElem_range]
  cases S.zero.testBit i <;> simp <;> decide

theorem en31 : Enters Tryz.prog 31 := enters_fn Tryz.func31 (by kernel_rfl) rfl

theorem w15 {S : So} {G H : Nat} (hC : ∀ l ∈ S.mo.choices, ∀ c ∈ l, CM S.mo.owner.length G H c) (hsm : S.mo.choices.length = S.mo.owner.length) (hG : 1 ≤ G ∧ G ≤ 9999) (hlow : Low S.mo) (h12 : S.mo.owner.length ≤ 12) (hB : ∀ b ∈ S.blocks, b < 4096) (hne : ∀ l ∈ S.mo.choices, 0 < l.length) (hT : S.tgt < 4096) (hZ : S.zero < 4096) : ∀ (m : GH) (fst : Array Value), TyAll m [Ty.place (Seg.of Kd.so S)] fst.toList → IterOkI CC 15 fst #[] 62 (fun k => [Ty.of (Kd.slice Kd.num) (lowK S k), Ty.of (Kd.slice Kd.num) (highK S k)]) m := by
  refine iterI_of_JS Tryz.func15 rfl (Nat.le_of_ble_eq_true rfl) (fun lp X ΔJ good bad hkN x0 gh0 wd0 hY hg0 => ?_)
  have hll : ((lowK S 0).map some).length = S.mo.owner.length := by rw [List.length_map, lowK_len]
  have hhl : ((highK S 0).map some).length = S.mo.owner.length := by rw [List.length_map, highK_len]
  have hrl : (List.replicate ((S.mo.owner.length : Int)).toNat none : List (Option Rat)).length = S.mo.owner.length := List.length_replicate ..
  refine JS_seq ?_
  refine JS_joinD2 (fun (v13 : Value) (v20 : Value) => [(4, Ty.val (v13)), (5, Ty.val (v20))]) [0, 1] (fun (v13 : Value) (v20 : Value) => Res.sl v13 85 Kd.num0 (List.replicate ((S.mo.owner.length : Int)).toNat none) :: Res.sl v20 85 Kd.num0 (List.replicate ((S.mo.owner.length : Int)).toNat none) :: ΔJ x0) (fun (v13 : Value) (v20 : Value) => True) ?_ (fun v13 v20 (hJ : True) => ?_)
  · -- region 0
    refine JS_drawT [6, 13, 14, 15] (fun (Δ0 : List Res) (sd : List Nat) (Γd : Env) (Δ1 : List Res) => (sd = [] ∧ Γd = [] ∧ Δ1 = Δ0) ∨ (∃ (v13 : Value), sd = [6] ∧ Γd = [(13, Ty.val v13)] ∧ Δ1 = Res.sl v13 85 Kd.num0 (List.replicate ((S.mo.owner.length : Int)).toNat none) :: Δ0) ∨ (∃ (v20 : Value), sd = [13] ∧ Γd = [(20, Ty.val v20)] ∧ Δ1 = Res.sl v20 85 Kd.num0 (List.replicate ((S.mo.owner.length : Int)).toNat none) :: Δ0) ∨ (∃ (v13 : Value), ∃ (v20 : Value), sd = [13, 6] ∧ Γd = [(20, Ty.val v20), (13, Ty.val v13)] ∧ Δ1 = Res.sl v20 85 Kd.num0 (List.replicate ((S.mo.owner.length : Int)).toNat none) :: Res.sl v13 85 Kd.num0 (List.replicate ((S.mo.owner.length : Int)).toNat none) :: Δ0) ∨ (∃ (v13 : Value), sd = [14, 6] ∧ Γd = [(4, Ty.val v13), (13, Ty.val v13)] ∧ Δ1 = Res.sl v13 85 Kd.num0 (List.replicate ((S.mo.owner.length : Int)).toNat none) :: Δ0) ∨ (∃ (v13 : Value), ∃ (v20 : Value), sd = [6, 13] ∧ Γd = [(13, Ty.val v13), (20, Ty.val v20)] ∧ Δ1 = Res.sl v13 85 Kd.num0 (List.replicate ((S.mo.owner.length : Int)).toNat none) :: Res.sl v20 85 Kd.num0 (List.replicate ((S.mo.owner.length : Int)).toNat none) :: Δ0) ∨ (∃ (v13 : Value), ∃ (v20 : Value), sd = [14, 13, 6] ∧ Γd = [(4, Ty.val v13), (20, Ty.val v20), (13, Ty.val v13)] ∧ Δ1 = Res.sl v20 85 Kd.num0 (List.replicate ((S.mo.owner.length : Int)).toNat none) :: Res.sl v13 85 Kd.num0 (List.replicate ((S.mo.owner.length : Int)).toNat none) :: Δ0) ∨ (∃ (v13 : Value), ∃ (v20 : Value), sd = [13, 14, 6] ∧ Γd = [(20, Ty.val v20), (4, Ty.val v13), (13, Ty.val v13)] ∧ Δ1 = Res.sl v20 85 Kd.num0 (List.replicate ((S.mo.owner.length : Int)).toNat none) :: Res.sl v13 85 Kd.num0 (List.replicate ((S.mo.owner.length : Int)).toNat none) :: Δ0) ∨ (∃ (v13 : Value), ∃ (v20 : Value), sd = [14, 6, 13] ∧ Γd = [(4, Ty.val v13), (13, Ty.val v13), (20, Ty.val v20)] ∧ Δ1 = Res.sl v13 85 Kd.num0 (List.replicate ((S.mo.owner.length : Int)).toNat none) :: Res.sl v20 85 Kd.num0 (List.replicate ((S.mo.owner.length : Int)).toNat none) :: Δ0) ∨ (∃ (v13 : Value), ∃ (v20 : Value), sd = [15, 14, 13, 6] ∧ Γd = [(5, Ty.val v20), (4, Ty.val v13), (20, Ty.val v20), (13, Ty.val v13)] ∧ Δ1 = Res.sl v20 85 Kd.num0 (List.replicate ((S.mo.owner.length : Int)).toNat none) :: Res.sl v13 85 Kd.num0 (List.replicate ((S.mo.owner.length : Int)).toNat none) :: Δ0) ∨ (∃ (v13 : Value), ∃ (v20 : Value), sd = [15, 13, 14, 6] ∧ Γd = [(5, Ty.val v20), (20, Ty.val v20), (4, Ty.val v13), (13, Ty.val v13)] ∧ Δ1 = Res.sl v20 85 Kd.num0 (List.replicate ((S.mo.owner.length : Int)).toNat none) :: Res.sl v13 85 Kd.num0 (List.replicate ((S.mo.owner.length : Int)).toNat none) :: Δ0) ∨ (∃ (v13 : Value), ∃ (v20 : Value), sd = [15, 14, 6, 13] ∧ Γd = [(5, Ty.val v20), (4, Ty.val v13), (13, Ty.val v13), (20, Ty.val v20)] ∧ Δ1 = Res.sl v13 85 Kd.num0 (List.replicate ((S.mo.owner.length : Int)).toNat none) :: Res.sl v20 85 Kd.num0 (List.replicate ((S.mo.owner.length : Int)).toNat none) :: Δ0)) (fun i => if i = 6 then [12] else if i = 13 then [19] else if i = 14 then [] else if i = 15 then [] else []) mixed (by decide) (by decide) (.inl ⟨rfl, rfl, rfl⟩) (fun sd Γd Δ1 hs => by rcases hs with ⟨rfl, rfl, rfl⟩ | ⟨v13, rfl, rfl, rfl⟩ | ⟨v20, rfl, rfl, rfl⟩ | ⟨v13, v20, rfl, rfl, rfl⟩ | ⟨v13, rfl, rfl, rfl⟩ | ⟨v13, v20, rfl, rfl, rfl⟩ | ⟨v13, v20, rfl, rfl, rfl⟩ | ⟨v13, v20, rfl, rfl, rfl⟩ | ⟨v13, v20, rfl, rfl, rfl⟩ | ⟨v13, v20, rfl, rfl, rfl⟩ | ⟨v13, v20, rfl, rfl, rfl⟩ | ⟨v13, v20, rfl, rfl, rfl⟩ <;> rfl) ?_
    refine dOpA (fun _ => T_move (.inl rfl) rfl) rfl rfl rfl ?_
    refine dOpA (fun _ => T_nilCheck rfl rfl) rfl rfl rfl ?_
    refine dOpA (fun _ => T_fieldAddr rfl fa76_0 (st_sub (i := 0) rfl rfl) rfl) rfl rfl rfl ?_
    refine dOpA (fun _ => T_fieldAddr rfl fa30_0 (st_sub (i := 0) rfl rfl) rfl) rfl rfl rfl ?_
    refine dOpA (fun _ => T_ld rfl rfl ti27) rfl rfl rfl ?_
    refine dOpA (fun _ => T_len_slice rfl rfl u27 rfl) rfl rfl rfl ?_
    refine dDyn rfl ?_
    refine dOpA (fun _ => T_move (.inl rfl) rfl) rfl rfl rfl ?_
    refine dOpA (fun _ => T_nilCheck rfl rfl) rfl rfl rfl ?_
    refine dOpA (fun _ => T_fieldAddr rfl fa76_0 (st_sub (i := 0) rfl rfl) rfl) rfl rfl rfl ?_
    refine dOpA (fun _ => T_fieldAddr rfl fa30_0 (st_sub (i := 0) rfl rfl) rfl) rfl rfl rfl ?_
    refine dOpA (fun _ => T_ld rfl rfl ti27) rfl rfl rfl ?_
    refine dOpA (fun _ => T_len_slice rfl rfl u27 rfl) rfl rfl rfl ?_
    refine dDyn rfl ?_
    refine dDyn rfl ?_
    refine dDyn rfl ?_
    refine dEnd ⟨?_, ?_⟩
    · intro Q1 cs1 i o sd Γd Δ1 Γx hi ho hn hb hinv hk
      simp only [List.mem_cons, List.not_mem_nil, or_false] at hi
      rcases hi with rfl | rfl | rfl | rfl
      · obtain rfl := Option.some.inj ho
        rcases hinv with ⟨rfl, rfl, rfl⟩ | ⟨v13, rfl, rfl, rfl⟩ | ⟨v20, rfl, rfl, rfl⟩ | ⟨v13, v20, rfl, rfl, rfl⟩ | ⟨v13, rfl, rfl, rfl⟩ | ⟨v13, v20, rfl, rfl, rfl⟩ | ⟨v13, v20, rfl, rfl, rfl⟩ | ⟨v13, v20, rfl, rfl, rfl⟩ | ⟨v13, v20, rfl, rfl, rfl⟩ | ⟨v13, v20, rfl, rfl, rfl⟩ | ⟨v13, v20, rfl, rfl, rfl⟩ | ⟨v13, v20, rfl, rfl, rfl⟩
        · refine JT_make (K := Kd.num0) (z0 := none) rfl rfl rfl rfl u49 ei85 rfl (by decide) z_num0 rfl rfl (by omega) (by omega) (by omega) (by omega) (fun v13 => ?_)
          exact JT_done (hk [(13, _)] _ (.inr (.inl ⟨v13, rfl, rfl, rfl⟩)))
        · exact absurd (by simp) hn
        · refine JT_make (K := Kd.num0) (z0 := none) rfl rfl rfl rfl u49 ei85 rfl (by decide) z_num0 rfl rfl (by omega) (by omega) (by omega) (by omega) (fun v13 => ?_)
          exact JT_done (hk [(13, _), (20, _)] _ (.inr (.inr (.inr (.inr (.inr (.inl ⟨v13, v20, rfl, rfl, rfl⟩)))))))
        · exact absurd (by simp) hn
        · exact absurd (by simp) hn
        · exact absurd (by simp) hn
        · exact absurd (by simp) hn
        · exact absurd (by simp) hn
        · exact absurd (by simp) hn
        · exact absurd (by simp) hn
        · exact absurd (by simp) hn
        · exact absurd (by simp) hn
      · obtain rfl := Option.some.inj ho
        rcases hinv with ⟨rfl, rfl, rfl⟩ | ⟨v13, rfl, rfl, rfl⟩ | ⟨v20, rfl, rfl, rfl⟩ | ⟨v13, v20, rfl, rfl, rfl⟩ | ⟨v13, rfl, rfl, rfl⟩ | ⟨v13, v20, rfl, rfl, rfl⟩ | ⟨v13, v20, rfl, rfl, rfl⟩ | ⟨v13, v20, rfl, rfl, rfl⟩ | ⟨v13, v20, rfl, rfl, rfl⟩ | ⟨v13, v20, rfl, rfl, rfl⟩ | ⟨v13, v20, rfl, rfl, rfl⟩ | ⟨v13, v20, rfl, rfl, rfl⟩
        · refine JT_make (K := Kd.num0) (z0 := none) rfl rfl rfl rfl u49 ei85 rfl (by decide) z_num0 rfl rfl (by omega) (by omega) (by omega) (by omega) (fun v20 => ?_)
          exact JT_done (hk [(20, _)] _ (.inr (.inr (.inl ⟨v20, rfl, rfl, rfl⟩))))
        · refine JT_make (K := Kd.num0) (z0 := none) rfl rfl rfl rfl u49 ei85 rfl (by decide) z_num0 rfl rfl (by omega) (by omega) (by omega) (by omega) (fun v20 => ?_)
          exact JT_done (hk [(20, _), (13, _)] _ (.inr (.inr (.inr (.inl ⟨v13, v20, rfl, rfl, rfl⟩)))))
        · exact absurd (by simp) hn
        · exact absurd (by simp) hn
        · refine JT_make (K := Kd.num0) (z0 := none) rfl rfl rfl rfl u49 ei85 rfl (by decide) z_num0 rfl rfl (by omega) (by omega) (by omega) (by omega) (fun v20 => ?_)
          exact JT_done (hk [(20, _), (4, _), (13, _)] _ (.inr (.inr (.inr (.inr (.inr (.inr (.inr (.inl ⟨v13, v20, rfl, rfl, rfl⟩)))))))))
        · exact absurd (by simp) hn
        · exact absurd (by simp) hn
        · exact absurd (by simp) hn
        · exact absurd (by simp) hn
        · exact absurd (by simp) hn
        · exact absurd (by simp) hn
        · exact absurd (by simp) hn
      · obtain rfl := Option.some.inj ho
        rcases hinv with ⟨rfl, rfl, rfl⟩ | ⟨v13, rfl, rfl, rfl⟩ | ⟨v20, rfl, rfl, rfl⟩ | ⟨v13, v20, rfl, rfl, rfl⟩ | ⟨v13, rfl, rfl, rfl⟩ | ⟨v13, v20, rfl, rfl, rfl⟩ | ⟨v13, v20, rfl, rfl, rfl⟩ | ⟨v13, v20, rfl, rfl, rfl⟩ | ⟨v13, v20, rfl, rfl, rfl⟩ | ⟨v13, v20, rfl, rfl, rfl⟩ | ⟨v13, v20, rfl, rfl, rfl⟩ | ⟨v13, v20, rfl, rfl, rfl⟩
        · exact absurd (hb 6 rfl (by decide)) (by simp)
        · refine JT_op rfl rfl (T_move (.inr rfl) rfl) ?_
          exact JT_done (hk [(4, _), (13, _)] _ (.inr (.inr (.inr (.inr (.inl ⟨v13, rfl, rfl, rfl⟩))))))
        · exact absurd (hb 6 rfl (by decide)) (by simp)
        · refine JT_op rfl rfl (T_move (.inr rfl) rfl) ?_
          exact JT_done (hk [(4, _), (20, _), (13, _)] _ (.inr (.inr (.inr (.inr (.inr (.inr (.inl ⟨v13, v20, rfl, rfl, rfl⟩))))))))
        · exact absurd (by simp) hn
        · refine JT_op rfl rfl (T_move (.inr rfl) rfl) ?_
          exact JT_done (hk [(4, _), (13, _), (20, _)] _ (.inr (.inr (.inr (.inr (.inr (.inr (.inr (.inr (.inl ⟨v13, v20, rfl, rfl, rfl⟩))))))))))
        · exact absurd (by simp) hn
        · exact absurd (by simp) hn
        · exact absurd (by simp) hn
        · exact absurd (by simp) hn
        · exact absurd (by simp) hn
        · exact absurd (by simp) hn
      · obtain rfl := Option.some.inj ho
        rcases hinv with ⟨rfl, rfl, rfl⟩ | ⟨v13, rfl, rfl, rfl⟩ | ⟨v20, rfl, rfl, rfl⟩ | ⟨v13, v20, rfl, rfl, rfl⟩ | ⟨v13, rfl, rfl, rfl⟩ | ⟨v13, v20, rfl, rfl, rfl⟩ | ⟨v13, v20, rfl, rfl, rfl⟩ | ⟨v13, v20, rfl, rfl, rfl⟩ | ⟨v13, v20, rfl, rfl, rfl⟩ | ⟨v13, v20, rfl, rfl, rfl⟩ | ⟨v13, v20, rfl, rfl, rfl⟩ | ⟨v13, v20, rfl, rfl, rfl⟩
        · exact absurd (hb 6 rfl (by decide)) (by simp)
        · exact absurd (hb 13 rfl (by decide)) (by simp)
        · exact absurd (hb 6 rfl (by decide)) (by simp)
        · exact absurd (hb 14 rfl (by decide)) (by simp)
        · exact absurd (hb 13 rfl (by decide)) (by simp)
        · exact absurd (hb 14 rfl (by decide)) (by simp)
        · refine JT_op rfl rfl (T_move (.inr rfl) rfl) ?_
          exact JT_done (hk [(5, _), (4, _), (20, _), (13, _)] _ (.inr (.inr (.inr (.inr (.inr (.inr (.inr (.inr (.inr (.inl ⟨v13, v20, rfl, rfl, rfl⟩)))))))))))
        · refine JT_op rfl rfl (T_move (.inr rfl) rfl) ?_
          exact JT_done (hk [(5, _), (20, _), (4, _), (13, _)] _ (.inr (.inr (.inr (.inr (.inr (.inr (.inr (.inr (.inr (.inr (.inl ⟨v13, v20, rfl, rfl, rfl⟩))))))))))))
        · refine JT_op rfl rfl (T_move (.inr rfl) rfl) ?_
          exact JT_done (hk [(5, _), (4, _), (13, _), (20, _)] _ (.inr (.inr (.inr (.inr (.inr (.inr (.inr (.inr (.inr (.inr (.inr ⟨v13, v20, rfl, rfl, rfl⟩))))))))))))
        · exact absurd (by simp) hn
        · exact absurd (by simp) hn
        · exact absurd (by simp) hn
    · intro sd Γd Δ1 hinv hall
      rcases hinv with ⟨rfl, rfl, rfl⟩ | ⟨v13, rfl, rfl, rfl⟩ | ⟨v20, rfl, rfl, rfl⟩ | ⟨v13, v20, rfl, rfl, rfl⟩ | ⟨v13, rfl, rfl, rfl⟩ | ⟨v13, v20, rfl, rfl, rfl⟩ | ⟨v13, v20, rfl, rfl, rfl⟩ | ⟨v13, v20, rfl, rfl, rfl⟩ | ⟨v13, v20, rfl, rfl, rfl⟩ | ⟨v13, v20, rfl, rfl, rfl⟩ | ⟨v13, v20, rfl, rfl, rfl⟩ | ⟨v13, v20, rfl, rfl, rfl⟩
      · exact absurd (hall 6 (by decide) rfl) (by simp)
      · exact absurd (hall 13 (by decide) rfl) (by simp)
      · exact absurd (hall 6 (by decide) rfl) (by simp)
      · exact absurd (hall 14 (by decide) rfl) (by simp)
      · exact absurd (hall 13 (by decide) rfl) (by simp)
      · exact absurd (hall 14 (by decide) rfl) (by simp)
      · exact absurd (hall 15 (by decide) rfl) (by simp)
      · exact absurd (hall 15 (by decide) rfl) (by simp)
      · exact absurd (hall 15 (by decide) rfl) (by simp)
      · refine JS_perm (List.Perm.swap _ _ _) ?_
        exact JS_meet (v13, v20) (by trivial) rfl (EnvSub.consLe rfl (Ty.le.refl _) (EnvSub.consLe rfl (Ty.le.refl _) (EnvSub.pick1 rfl (EnvSub.pick1 rfl (EnvSub.nil _)))))
      · refine JS_perm (List.Perm.swap _ _ _) ?_
        exact JS_meet (v13, v20) (by trivial) rfl (EnvSub.consLe rfl (Ty.le.refl _) (EnvSub.consLe rfl (Ty.le.refl _) (EnvSub.pick1 rfl (EnvSub.pick1 rfl (EnvSub.nil _)))))
      · exact JS_meet (v13, v20) (by trivial) rfl (EnvSub.consLe rfl (Ty.le.refl _) (EnvSub.consLe rfl (Ty.le.refl _) (EnvSub.pick1 rfl (EnvSub.pick1 rfl (EnvSub.nil _)))))
  · refine JS_seq ?_
    refine JS_seq ?_
    -- region 1
    refine sR ?_
    refine kM rfl rfl ?_
    refine kO (T_len_own (i := 0) rfl rfl u49 rfl rfl) rfl ?_
    refine kM rfl rfl ?_
    refine kE ?_
    refine JS_block ?_
    refine sLoop1 (fun (i : Nat) => [(23, Ty.val (.int .i64 (i : Int)))]) [0, 1, 4, 5, 22] (fun (i : Nat) => [(0, Res.sl v13 85 Kd.num0 (fillL ((lowK S 0).map some) none i)), (1, Res.sl v20 85 Kd.num0 (fillL ((highK S 0).map some) none i))]) (fun (i : Nat) => i ≤ S.mo.owner.length) (fun (i : Nat) => S.mo.owner.length - i) 0 (Nat.zero_le _) (by rw [← fillL_zero (L := ((lowK S 0).map some)) (n := ((S.mo.owner.length : Int)).toNat) (by rw [hll]; rfl), ← fillL_zero (L := ((highK S 0).map some)) (n := ((S.mo.owner.length : Int)).toNat) (by rw [hhl]; rfl)]; rfl) (EnvSub.consLe rfl (int_eq (rfl)) (EnvSub.nil _)) (fun i (hi0 : i ≤ S.mo.owner.length) => ?_)
    refine JS_seq ?_
    -- region 2
    refine sR ?_
    refine kO (T_lt rfl rfl rfl) rfl ?_
    refine kE ?_
    refine JS_seq ?_
    refine JS_if rfl (fun c24 => ?_) (fun c24 => ?_)
    · have hi1 : i < S.mo.owner.length := by omega
      have hts : S.tgt >>> ((i : Int)).toNat < 18446744073709551616 := Nat.lt_of_le_of_lt (Nat.shiftRight_le _ _) (by omega)
      have hzs : S.zero >>> ((i : Int)).toNat < 18446744073709551616 := Nat.lt_of_le_of_lt (Nat.shiftRight_le _ _) (by omega)
      have hmo : minusB 1 (S.zero >>> ((i : Int)).toNat) ≤ 1 := minusB_le _ _
      refine JS_skip ?_
      refine JS_seq ?_
      refine JS_block ?_
      refine JS_seq ?_
      -- region 3
      refine sR ?_
      refine kM rfl rfl ?_
      refine kA rfl rfl ?_
      refine kE ?_
      -- region 4
      refine JS_drawT [23, 25] (fun (Δ0 : List Res) (sd : List Nat) (Γd : Env) (Δ1 : List Res) => (sd = [] ∧ Γd = [] ∧ Δ1 = Δ0) ∨ (sd = [23] ∧ Γd = [] ∧ Δ1 = Δ0.set 0 (Res.sl v13 85 Kd.num0 ((fillL ((lowK S 0).map some) none i).set ((i : Int)).toNat (some (Rat.divInt ((S.tgt >>> ((i : Int)).toNat % 2 : Nat) : Int) 1))))) ∨ (sd = [25, 23] ∧ Γd = [] ∧ Δ1 = (Δ0.set 0 (Res.sl v13 85 Kd.num0 ((fillL ((lowK S 0).map some) none i).set ((i : Int)).toNat (some (Rat.divInt ((S.tgt >>> ((i : Int)).toNat % 2 : Nat) : Int) 1))))).set 1 (Res.sl v20 85 Kd.num0 ((fillL ((highK S 0).map some) none i).set ((i : Int)).toNat (some (Rat.divInt ((minusB 1 (S.zero >>> ((i : Int)).toNat) : Nat) : Int) 1)))))) (fun i => if i = 23 then [38, 48] else if i = 25 then [47, 49] else []) mixed (by decide) (by decide) (.inl ⟨rfl, rfl, rfl⟩) (fun sd Γd Δ1 hs => by rcases hs with ⟨rfl, rfl, rfl⟩ | ⟨rfl, rfl, rfl⟩ | ⟨rfl, rfl, rfl⟩ <;> rfl) ?_
      refine dOpA (fun _ => T_move (.inl rfl) rfl) rfl rfl rfl ?_
      refine dOpA (fun _ => T_move (.inl rfl) rfl) rfl rfl rfl ?_
      refine dOpA (fun _ => T_move (.inl rfl) rfl) rfl rfl rfl ?_
      refine dOpA (fun _ => T_move (.inl rfl) rfl) rfl rfl rfl ?_
      refine dOpA (fun _ => T_move (.inl rfl) rfl) rfl rfl rfl ?_
      refine dOpA (fun _ => T_nilCheck rfl rfl) rfl rfl rfl ?_
      refine dOpA (fun _ => T_fieldAddr rfl fa76_1 (st_sub (i := 1) rfl rfl) rfl) rfl rfl rfl ?_
      refine dOpA (fun _ => T_load_nat rfl ti33 rfl) rfl rfl rfl ?_
      refine dOpA (fun _ => T_move (.inl rfl) rfl) rfl rfl rfl ?_
      refine dOpA (fun _ => T_shr rfl rfl rfl (by omega) (shr_u64 (by omega) (by omega))) rfl rfl rfl ?_
      refine dOpA (fun _ => T_bits rfl (.inl rfl) rfl rfl (and1_u64 (Nat.lt_of_le_of_lt (Nat.shiftRight_le _ _) (by omega)))) rfl rfl rfl ?_
      refine dOpA (fun _ => T_conv rfl u33 u3 rfl (wrap_i64 (by omega) (by omega))) rfl rfl rfl ?_
      refine dOpA (fun _ => T_callL rfl en30 (w30 (by omega) (by omega) (by decide) (by decide) (by decide)) (oa (ol rfl (Ty.le.refl _)) (oa (ol rfl (Ty.le.refl _)) oa0))) rfl rfl rfl ?_
      refine dOpA (fun _ => T_move (.inl rfl) rfl) rfl rfl rfl ?_
      refine dOpA (fun _ => T_nilCheck rfl rfl) rfl rfl rfl ?_
      refine dOpA (fun _ => T_fieldAddr rfl fa76_3 (st_sub (i := 3) rfl rfl) rfl) rfl rfl rfl ?_
      refine dOpA (fun _ => T_load_nat rfl ti33 rfl) rfl rfl rfl ?_
      refine dOpA (fun _ => T_move (.inl rfl) rfl) rfl rfl rfl ?_
      refine dOpA (fun _ => T_shr rfl rfl rfl (by omega) (shr_u64 (by omega) (by omega))) rfl rfl rfl ?_
      refine dOpA (fun _ => T_bits rfl (.inr (.inr (.inr rfl))) rfl rfl (andNot_u64 (X := 1) (by decide) hzs)) rfl rfl rfl ?_
      refine dOpA (fun _ => T_conv rfl u33 u3 rfl (wrap_i64 (by omega) (by omega))) rfl rfl rfl ?_
      refine dOpA (fun _ => T_callL rfl en30 (w30 (by omega) (by omega) (by decide) (by decide) (by decide)) (oa (ol rfl (Ty.le.refl _)) (oa (ol rfl (Ty.le.refl _)) oa0))) rfl rfl rfl ?_
      refine dOp (T := Ty.val (eltPtr v13 Kd.num0.sz ((i : Int)).toNat)) (fun sd Γd Δ1 hs => by rcases hs with ⟨rfl, rfl, rfl⟩ | ⟨rfl, rfl, rfl⟩ | ⟨rfl, rfl, rfl⟩ <;> exact (T_ixo (ix := 0) (d := Kd.num0) rfl rfl rfl rfl u49 ti85 (by omega) (by first | (rw [fillL_len (by omega)]; omega) | (rw [List.length_set, fillL_len (by omega)]; omega)))) rfl rfl rfl ?_
      refine dDyn rfl ?_
      refine dOp (T := Ty.val (eltPtr v20 Kd.num0.sz ((i : Int)).toNat)) (fun sd Γd Δ1 hs => by rcases hs with ⟨rfl, rfl, rfl⟩ | ⟨rfl, rfl, rfl⟩ | ⟨rfl, rfl, rfl⟩ <;> exact (T_ixo (ix := 1) (d := Kd.num0) rfl rfl rfl rfl u49 ti85 (by omega) (by first | (rw [fillL_len (by omega)]; omega) | (rw [List.length_set, fillL_len (by omega)]; omega)))) rfl rfl rfl ?_
      refine dDyn rfl ?_
      refine dEnd ⟨?_, ?_⟩
      · intro Q1 cs1 i o sd Γd Δ1 Γx hi ho hn hb hinv hk
        simp only [List.mem_cons, List.not_mem_nil, or_false] at hi
        rcases hi with rfl | rfl
        · obtain rfl := Option.some.inj ho
          rcases hinv with ⟨rfl, rfl, rfl⟩ | ⟨rfl, rfl, rfl⟩ | ⟨rfl, rfl, rfl⟩
          · refine JT_store_elt (i := 0) rfl rfl rfl rfl rfl (by rw [fillL_len (by omega)]; omega) (ol rfl (num_num0 _)) sz85 ?_
            exact JT_done (hk [] _ (.inr (.inl ⟨rfl, rfl, rfl⟩)))
          · exact absurd (by simp) hn
          · exact absurd (by simp) hn
        · obtain rfl := Option.some.inj ho
          rcases hinv with ⟨rfl, rfl, rfl⟩ | ⟨rfl, rfl, rfl⟩ | ⟨rfl, rfl, rfl⟩
          · exact absurd (hb 23 rfl (by decide)) (by simp)
          · refine JT_store_elt (i := 1) rfl rfl rfl rfl rfl (by rw [fillL_len (by omega)]; omega) (ol rfl (num_num0 _)) sz85 ?_
            exact JT_done (hk [] _ (.inr (.inr ⟨rfl, rfl, rfl⟩)))
          · exact absurd (by simp) hn
      · intro sd Γd Δ1 hinv hall
        rcases hinv with ⟨rfl, rfl, rfl⟩ | ⟨rfl, rfl, rfl⟩ | ⟨rfl, rfl, rfl⟩
        · exact absurd (hall 23 (by decide) rfl) (by simp)
        · exact absurd (hall 25 (by decide) rfl) (by simp)
        · refine JS_end_inB ?_
          -- region 5
          refine sR ?_
          refine kO (T_add rfl rfl rfl (wrap_i64 (by omega) (by omega))) rfl ?_
          refine kM rfl rfl ?_
          refine kE ?_
          exact JS_round (i + 1) (by omega) (by omega) (by rw [← fillL_set (i := i) (k := ((i : Int)).toNat) (y := some (Rat.divInt ((S.tgt >>> ((i : Int)).toNat % 2 : Nat) : Int) 1)) rfl (by omega) (low0_at (by omega)), ← fillL_set (i := i) (k := ((i : Int)).toNat) (y := some (Rat.divInt ((minusB 1 (S.zero >>> ((i : Int)).toNat) : Nat) : Int) 1)) rfl (by omega) (high0_at hZ (by omega))]; rfl) (EnvSub.consLe rfl (int_eq (rfl)) (EnvSub.pick1 rfl (EnvSub.pick1 rfl (EnvSub.pick1 rfl (EnvSub.pick1 rfl (EnvSub.pick1 rfl (EnvSub.nil _)))))))
    · have hil : i = S.mo.owner.length := by omega
      refine JS_exit (JE_loop_exit (JE_inB_here ?_))
      refine JS_block ?_
      refine JS_freeze_sl (i := 0) (s := 4) rfl rfl ?_
      refine JS_re (s := 4) (T := Ty.of (Kd.slice Kd.num) (lowK S 0)) rfl (num0s_nums (fillL_full (by omega))) ?_
      refine JS_freeze_sl (i := 0) (s := 5) rfl rfl ?_
      refine JS_re (s := 5) (T := Ty.of (Kd.slice Kd.num) (highK S 0)) rfl (num0s_nums (fillL_full (by omega))) ?_
      refine sLoopD2 (fun (k : Nat) (x : X) => [(4, Ty.of (Kd.slice Kd.num) (lowK S k)), (5, Ty.of (Kd.slice Kd.num) (highK S k))]) [0, 1] (fun (k : Nat) (x : X) => ΔJ x) (fun (k : Nat) (x : X) => good k x) (fun (k : Nat) (x : X) => 62 - k) 0 x0 (hg0) rfl (EnvSub.consLe rfl (of_eq (rfl)) (EnvSub.consLe rfl (of_eq (rfl)) (EnvSub.nil _))) (fun k x (hI : good k x) => ?_)
      refine JS_seq ?_
      refine JS_seq ?_
      -- region 6
      refine sR ?_
      refine kM rfl rfl ?_
      refine kM rfl rfl ?_
      refine kM rfl rfl ?_
      refine kT ?_
      refine JT_yieldR [] k x rfl rfl rfl rfl hY (hkN _ _ hI) (oa (ol rfl (Ty.le.refl _)) (oa (ol rfl (Ty.le.refl _)) oa0)) hI rfl (fun x1 hx1 => ?_) (fun x2 hx2 => ?_)
      · refine JT_done ?_
        refine JS_ct rfl ?_
        refine JS_skip ?_
        refine JS_block ?_
        -- region 7
        have hkk := hkN _ _ hx1
        have hpw : G * G ^ k < 10 ^ 252 := by rw [Nat.mul_comm, ← Nat.pow_succ]; exact pow_lt hG.2 (by omega)
        refine sR ?_
        refine kM rfl rfl ?_
        refine kM rfl rfl ?_
        refine kO (T_callL rfl en31 (w31 hC (lowK_Bd hC hG.1 k) (lowK_len S k) hsm hG.1 (Nat.pow_pos hG.1) hpw hlow h12 hB hne hT hZ) (oa (ol rfl (Ty.le.refl _)) (oa (ol rfl (Ty.le.refl _)) (oa (ol rfl (Ty.le.refl _)) oa0)))) rfl ?_
        refine kM rfl rfl ?_
        refine kM rfl rfl ?_
        refine kO (T_callL rfl en31 (w31 hC (highK_Bd hC hG.1 k) (highK_len S k) hsm hG.1 (Nat.pow_pos hG.1) hpw hlow h12 hB hne hT hZ) (oa (ol rfl (Ty.le.refl _)) (oa (ol rfl (Ty.le.refl _)) (oa (ol rfl (Ty.le.refl _)) oa0)))) rfl ?_
        refine kA rfl rfl ?_
        refine kA rfl rfl ?_
        refine kE ?_
        refine JS_end_inB ?_
        exact JS_round ((k + 1), x1) (by try dsimp only; exact (hx1)) (by try dsimp only; exact ((by have := hkN _ _ hI; omega))) rfl (EnvSub.consLe rfl (of_eq (rfl)) (EnvSub.consLe rfl (of_eq (rfl)) (EnvSub.pick1 rfl (EnvSub.pick1 rfl (EnvSub.nil _)))))
      · refine JT_done ?_
        refine JS_cf rfl ?_
        refine JS_exit (JE_loop_exit (JE_inB_here ?_))
        exact JS_nil (JE_normal (JE_iterI x2 hx2 rfl rfl rfl rfl rfl))

theorem begin_blocks {M : Mo} {T : Nat} {most : Bool} (h12 : M.owner.length ≤ 12) : ∀ b ∈ (beginS M T most).blocks, b < 4096 := by
  have hp : 2 ^ M.owner.length ≤ 2 ^ 12 := Nat.pow_le_pow_right (by decide) h12
  rw [show (2 : Nat) ^ 12 = 4096 by decide] at hp
  have := Nat.one_le_two_pow (n := M.owner.length)
  unfold beginS
  dsimp only
  split
  · exact compF_bd _ _ (Nat.lt_of_le_of_lt (minusB_le _ _) (by omega))
  · intro b hb; cases hb

theorem z35 : ZeroOf Tryz.prog 35 (.slice none 0 0) := by unfold ZeroOf; kernel_rfl

theorem en13 : Enters Tryz.prog 13 := enters_fn Tryz.func13 (by kernel_rfl) rfl

theorem en14 : Enters Tryz.prog 14 := enters_fn Tryz.func14 (by kernel_rfl) rfl

theorem en15 : Enters Tryz.prog 15 := enters_fn Tryz.func15 (by kernel_rfl) rfl

theorem en16 : Enters Tryz.prog 16 := enters_fn Tryz.func16 (by kernel_rfl) rfl

theorem sz35 : (Tryz.prog.info? 35).map (·.size) = some 1 := by kernel_rfl

theorem ti35 : TI Tryz.prog 35 false 1 := ⟨by kernel_rfl, by kernel_rfl⟩

theorem w7 {M : Mo} {T K : Nat} {most : Bool} (hM : GM M) (hT : T < 2 ^ M.owner.length) (hK : K ≤ 60) : Spec CC 7 [Ty.of Kd.mo M, Ty.val (.int .u64 (T : Int)), Ty.val (.bool most), Ty.val (.int .i64 (K : Int))] (Ty.tup [Ty.of (Kd.slice Kd.str) ((lowK (beginS M T most) K).map qtext), Ty.of (Kd.slice Kd.str) ((highK (beginS M T most) K).map qtext), Ty.val (.int .i64 0)]) := by
  refine spec_of_JSM Tryz.func7 rfl (Nat.le_of_ble_eq_true rfl) (fun gh0 wd0 => ?_)
  obtain ⟨G, H, gr1, gr2, gr3, gr4, hC⟩ := hM.grain
  have h12 := hM.n1
  have hlow := hM.low
  have hsm := hM.same
  have hp : 2 ^ M.owner.length ≤ 2 ^ 12 := Nat.pow_le_pow_right (by decide) h12
  rw [show (2 : Nat) ^ 12 = 4096 by decide] at hp
  have h1p : 1 ≤ 2 ^ M.owner.length := Nat.one_le_two_pow
  have hZ : zerosF M T most < 4096 := Nat.lt_of_le_of_lt (shrinkF_le _ _ _ _) (Nat.lt_of_le_of_lt (minusB_le _ _) (by omega))
  have hB : ∀ b ∈ (beginS M T most).blocks, b < 4096 := begin_blocks h12
  have hne : ∀ l ∈ M.choices, 0 < l.length := fun l hl => by have := hM.some_ l hl; omega
  refine JS_seq ?_
  -- region 0
  refine sR ?_
  refine kO (T_box rfl (ol rfl (Ty.le.refl _))) rfl ?_
  refine kT ?_
  refine JT_box rfl rfl rfl rfl (ol rfl (val_int _ _)) (fun g7 => ?_)
  refine JT_alloc (S0 := Seg.of (Kd.slice Kd.str) []) rfl rfl rfl rfl z35 (z_slice _) (fun g8 => ?_)
  refine JT_alloc (S0 := Seg.of (Kd.slice Kd.str) []) rfl rfl rfl rfl z35 (z_slice _) (fun g9 => ?_)
  refine jA rfl rfl ?_
  refine JT_done ?_
  refine JS_seq ?_
  refine JS_seq ?_
  -- region 1
  refine sR ?_
  refine kO (T_ld rfl rfl ti30) rfl ?_
  refine kM rfl rfl ?_
  refine kO (T_callL rfl en13 (w13 hM hT) (oa (ol rfl (Ty.le.refl _)) (oa (ol rfl (Ty.le.refl _)) oa0))) rfl ?_
  refine kA rfl rfl ?_
  refine kE ?_
  refine JS_seq ?_
  -- region 2
  refine sR ?_
  refine kM rfl rfl ?_
  refine kO (T_ne rfl rfl rfl) rfl ?_
  refine kE ?_
  refine JS_if rfl (fun c18 => ?_) (fun c18 => ?_)
  · exact absurd rfl c18
  · refine JS_skip ?_
    refine JS_seq ?_
    refine JS_seq ?_
    -- region 4
    refine sR ?_
    refine kO (T_load_own_int (i := 2) rfl rfl rfl (Sub.self _) ti3) rfl ?_
    refine kO (T_lt rfl rfl rfl) rfl ?_
    refine kM rfl rfl ?_
    refine tk_if (d := 22) rfl (fun g22 => ?_) (fun g22 => ?_)
    · exact absurd g22 (by omega)
    · refine kG (wFD g22 rfl rfl rfl) (T_load_own_int (i := 2) rfl rfl rfl (Sub.self _) ti3) rfl ?_
      refine kG (wFD g22 rfl rfl rfl) (T_gt rfl rfl rfl) rfl ?_
      refine kO (T_pickN g22 rfl rfl rfl) rfl ?_
      refine kE ?_
      refine JS_if rfl (fun c25 => ?_) (fun c25 => ?_)
      · exact absurd c25 (by omega)
      · refine JS_skip ?_
        refine JS_seq ?_
        refine JS_seq ?_
        -- region 6
        refine sR ?_
        refine kO (T_ld rfl rfl ti30) rfl ?_
        refine kM rfl rfl ?_
        refine kM rfl rfl ?_
        refine kO (T_callL rfl en14 (w14 hM (by omega)) (oa (ol rfl (Ty.le.refl _)) (oa (ol rfl (Ty.le.refl _)) (oa (ol rfl (Ty.le.refl _)) oa0)))) rfl ?_
        refine kO (T_iterI rfl en15 (w15 (S := (beginS M T most)) hC hsm ⟨gr1, gr2⟩ hlow h12 hB hne (by show T < 4096; omega) hZ) (oa (ol rfl (Ty.le.refl _)) oa0)) rfl ?_
        refine kE ?_
        refine JS_block ?_
        refine JS_rfI1 (fun (p : Nat × List (List UInt8) × List (List UInt8)) => [(2, Res.box g7 3 (Seg.of (Kd.int .i64) (p.1 : Int))), (1, Res.box g8 35 (Seg.of (Kd.slice Kd.str) p.2.1)), (0, Res.box g9 35 (Seg.of (Kd.slice Kd.str) p.2.2))]) (fun (k : Nat) (p : Nat × List (List UInt8) × List (List UInt8)) => p.1 + k = K ∧ p.2 = ([], [])) (fun (c : Code) (p : Nat × List (List UInt8) × List (List UInt8)) => c = .exit 0 ∧ p.2 = (((lowK (beginS M T most) K).map qtext), ((highK (beginS M T most) K).map qtext))) (K, [], []) (fun k p h => by have := h.1; omega) rfl rfl (fun _ => rfl) rfl (⟨rfl, rfl⟩) rfl (fun k p gh1 wd1 lq rq hk (hI : p.1 + k = K ∧ p.2 = ([], [])) hrd hgh => ?_) (fun c p mk hS => ?_)
        · obtain ⟨r, l8, l9⟩ := p
          obtain ⟨hI1, hI2⟩ := hI
          dsimp only at hI1 hI2
          obtain ⟨rfl, rfl⟩ := Prod.mk.inj hI2
          refine JS_seq ?_
          -- region 7
          refine sR ?_
          refine kA rfl rfl ?_
          refine kE ?_
          -- region 8
          refine sR ?_
          refine kA rfl rfl ?_
          refine kE ?_
          refine JS_begin (i := 0) rfl hrd ?_
          refine JS_block ?_
          refine JS_seq ?_
          refine JS_seq ?_
          -- region 9
          refine sR ?_
          refine kO (T_load_own_int (i := 3) rfl rfl rfl (Sub.self _) ti3) rfl ?_
          refine kO (T_eq rfl rfl rfl) rfl ?_
          refine kE ?_
          refine JS_if rfl (fun c34 => ?_) (fun c34 => ?_)
          · have c34 : (r : Int) = 0 := c34
            have hkK : k = K := by omega
            refine JS_seq ?_
            -- region 10
            refine sR ?_
            refine kM rfl rfl ?_
            refine kO (T_callL rfl en16 (w16 (fun x hx => (lowK_Bd (S := (beginS M T most)) hC gr1 k x hx).dz (Nat.pow_pos gr1) (pow_lt gr2 (by omega))) (by rw [lowK_len]; exact Nat.le_trans h12 (by decide))) (oa (ol rfl (Ty.le.refl _)) oa0)) rfl ?_
            refine kM rfl rfl ?_
            refine kO (T_extract rfl rfl rfl) rfl ?_
            refine kO (T_extract rfl rfl rfl) rfl ?_
            refine kT ?_
            refine JT_store (i := 2) rfl rfl rfl rfl rfl (ol rfl (Ty.le.refl _)) (Upd.self _ _ rfl) sz35 ?_
            refine JT_done ?_
            refine JS_seq ?_
            -- region 11
            refine sR ?_
            refine kM rfl rfl ?_
            refine kO (T_callL rfl en16 (w16 (fun x hx => (highK_Bd (S := (beginS M T most)) hC gr1 k x hx).dz (Nat.pow_pos gr1) (pow_lt gr2 (by omega))) (by rw [highK_len]; exact Nat.le_trans h12 (by decide))) (oa (ol rfl (Ty.le.refl _)) oa0)) rfl ?_
            refine kM rfl rfl ?_
            refine kO (T_extract rfl rfl rfl) rfl ?_
            refine kO (T_extract rfl rfl rfl) rfl ?_
            refine kT ?_
            refine JT_store (i := 1) rfl rfl rfl rfl rfl (ol rfl (Ty.le.refl _)) (Upd.self _ _ rfl) sz35 ?_
            refine JT_done ?_
            exact JS_exit (JE_inB_out rfl (JE_round_exit (r, ((lowK (beginS M T most) K).map qtext), ((highK (beginS M T most) K).map qtext)) (⟨rfl, rfl⟩) (by rw [← hkK]; rfl)))
          · have c34 : ¬ (r : Int) = 0 := c34
            have hrK : r ≤ K := by omega
            refine JS_skip ?_
            -- region 12
            refine sR ?_
            refine kO (T_load_own_int (i := 3) rfl rfl rfl (Sub.self _) ti3) rfl ?_
            refine kO (T_subI rfl rfl rfl (wrap_i64 (by omega) (by omega))) rfl ?_
            refine kT ?_
            refine JT_store (i := 3) rfl rfl rfl rfl rfl (ol rfl (val_int _ _)) (Upd.self _ _ rfl) sz3 ?_
            refine JT_done ?_
            refine JS_end_inB ?_
            exact JS_roundEnd (r - 1, [], []) (⟨by show r - 1 + (k + 1) = K; omega, rfl⟩) (by rw [show (r : Int) - 1 = ((r - 1 : Nat) : Int) by omega]; rfl)
        · obtain ⟨rfl, hp⟩ := hS
          obtain ⟨r, l8, l9⟩ := p
          obtain ⟨rfl, rfl⟩ := Prod.mk.inj hp
          refine JS_exit (JE_inB_hereD ?_)
          refine JS_seq ?_
          -- region 13
          refine JS_drawT [2, 3] (fun (Δ0 : List Res) (sd : List Nat) (Γd : Env) (Δ1 : List Res) => (sd = [] ∧ Γd = [] ∧ Δ1 = Δ0) ∨ (sd = [2] ∧ Γd = [] ∧ Δ1 = Δ0.set 2 (Res.box g8 35 (Seg.of (Kd.slice Kd.str) ((lowK (beginS M T most) K).map qtext)))) ∨ (sd = [3, 2] ∧ Γd = [] ∧ Δ1 = (Δ0.set 2 (Res.box g8 35 (Seg.of (Kd.slice Kd.str) ((lowK (beginS M T most) K).map qtext)))).set 1 (Res.box g9 35 (Seg.of (Kd.slice Kd.str) ((highK (beginS M T most) K).map qtext))))) (fun i => if i = 2 then [8, 47] else if i = 3 then [9, 48] else []) mixed (by decide) (by decide) (.inl ⟨rfl, rfl, rfl⟩) (fun sd Γd Δ1 hs => by rcases hs with ⟨rfl, rfl, rfl⟩ | ⟨rfl, rfl, rfl⟩ | ⟨rfl, rfl, rfl⟩ <;> rfl) ?_
          refine dOp (T := Ty.of (Kd.slice Kd.str) ((lowK (beginS M T most) K).map qtext)) (fun sd Γd Δ1 hs => by rcases hs with ⟨rfl, rfl, rfl⟩ | ⟨rfl, rfl, rfl⟩ | ⟨rfl, rfl, rfl⟩ <;> exact (T_load_own (i := 2) rfl rfl rfl (Sub.self _) ti35)) rfl rfl rfl ?_
          refine dOp (T := Ty.of (Kd.slice Kd.str) ((highK (beginS M T most) K).map qtext)) (fun sd Γd Δ1 hs => by rcases hs with ⟨rfl, rfl, rfl⟩ | ⟨rfl, rfl, rfl⟩ | ⟨rfl, rfl, rfl⟩ <;> exact (T_load_own (i := 1) rfl rfl rfl (Sub.self _) ti35)) rfl rfl rfl ?_
          refine dDyn rfl ?_
          refine dDyn rfl ?_
          refine dOpA (fun _ => T_move (.inr rfl) rfl) rfl rfl rfl ?_
          refine dEnd ⟨?_, ?_⟩
          · intro Q1 cs1 i o sd Γd Δ1 Γx hi ho hn hb hinv hk
            simp only [List.mem_cons, List.not_mem_nil, or_false] at hi
            rcases hi with rfl | rfl
            · obtain rfl := Option.some.inj ho
              rcases hinv with ⟨rfl, rfl, rfl⟩ | ⟨rfl, rfl, rfl⟩ | ⟨rfl, rfl, rfl⟩
              · refine JT_store (i := 2) rfl rfl rfl rfl rfl (ol rfl (Ty.le.refl _)) (Upd.self _ _ rfl) sz35 ?_
                exact JT_done (hk [] _ (.inr (.inl ⟨rfl, rfl, rfl⟩)))
              · exact absurd (by simp) hn
              · exact absurd (by simp) hn
            · obtain rfl := Option.some.inj ho
              rcases hinv with ⟨rfl, rfl, rfl⟩ | ⟨rfl, rfl, rfl⟩ | ⟨rfl, rfl, rfl⟩
              · exact absurd (hb 2 rfl (by decide)) (by simp)
              · refine JT_store (i := 1) rfl rfl rfl rfl rfl (ol rfl (Ty.le.refl _)) (Upd.self _ _ rfl) sz35 ?_
                exact JT_done (hk [] _ (.inr (.inr ⟨rfl, rfl, rfl⟩)))
              · exact absurd (by simp) hn
          · intro sd Γd Δ1 hinv hall
            rcases hinv with ⟨rfl, rfl, rfl⟩ | ⟨rfl, rfl, rfl⟩ | ⟨rfl, rfl, rfl⟩
            · exact absurd (hall 2 (by decide) rfl) (by simp)
            · exact absurd (hall 3 (by decide) rfl) (by simp)
            · exact JS_ret (JE_unmark (i := 0) rfl (JE_unmarked (JE_ret_many rfl (by decide) (.le (.cell (i := 1) rfl rfl ti35 (.le (.cell (i := 0) rfl rfl ti35 (.le (.tmp rfl .nil) (int_eq (rfl)))) (of_eq (rfl)))) (of_eq (rfl))))))

end Go.Proofs.YtknflgfkhkdomaaGreatDoor.Mono

/-! MonoCe -/
set_option linter.unusedVariables false
set_option linter.unusedSimpArgs false
namespace Go.Proofs.YtknflgfkhkdomaaGreatDoor.Mono
open Go Go.RowKit
section rows
variable {F : Fr} {Q : Post} {Γ : Env} {Δ : List Res} {cs : List Code} {α : Type}
def rowsR (e : TypeId) (K : Kd α) : List Value → List (List α) → List Res
  | v :: vs, xs :: xss => Res.sl v e K xs :: rowsR e K vs xss
  | _, _ => []
theorem rowsR_get {e : TypeId} {K : Kd α} : ∀ {vs : List Value} {xss : List (List α)} {s : Nat} (h : s < vs.length) (h' : s < xss.length), (rowsR e K vs xss)[s]? = some (Res.sl vs[s] e K xss[s])
  | v :: vs, xs :: xss, 0, _, _ => rfl
  | v :: vs, xs :: xss, s + 1, h, h' => by
    show (rowsR e K vs xss)[s]? = _
    rw [rowsR_get (s := s) (by simpa using h) (by simpa using h')]; rfl
theorem rowsR_set {e : TypeId} {K : Kd α} {v : Value} {xs : List α} : ∀ {vs : List Value} {xss : List (List α)} {s : Nat}, vs.length = xss.length → (rowsR e K vs xss).set s (Res.sl v e K xs) = rowsR e K (vs.set s v) (xss.set s xs)
  | [], [], s, _ => rfl
  | w :: vs, ys :: xss, 0, _ => rfl
  | w :: vs, ys :: xss, s + 1, h => by
    show Res.sl w e K ys :: (rowsR e K vs xss).set s _ = Res.sl w e K ys :: rowsR e K (vs.set s v) (xss.set s xs)
    rw [rowsR_set (by simpa using h)]
  | [], _ :: _, _, h => by simp at h
  | _ :: _, [], _, h => by simp at h
theorem rows_step {e : TypeId} {K : Kd α} {v : Value} {xs : List α} {vs : List Value} {xss : List (List α)} {s : Nat} {a b b' : Res} (h : vs.length = xss.length) : ((a :: b :: rowsR e K vs xss).set (s + 2) (Res.sl v e K xs)).set 1 b' = a :: b' :: rowsR e K (vs.set s v) (xss.set s xs) := by
  show a :: b' :: (rowsR e K vs xss).set s _ = _
  rw [rowsR_set h]
theorem rowsR_len {e : TypeId} {K : Kd α} : ∀ {vs : List Value} {xss : List (List α)}, vs.length = xss.length → (rowsR e K vs xss).length = vs.length
  | [], [], _ => rfl
  | _ :: vs, _ :: xss, h => by simp [rowsR, rowsR_len (vs := vs) (xss := xss) (by simpa using h)]
  | [], _ :: _, h => by simp at h
  | _ :: _, [], h => by simp at h
theorem row_at {e : TypeId} {K : Kd α} {vs : List Value} {xss : List (List α)} {s : Nat} (h : s < vs.length) (h' : s < xss.length) (hl : vs.length = xss.length) (a b : Res) (Δ : List Res) : (a :: b :: (rowsR e K vs xss ++ Δ))[s + 2]? = some (Res.sl vs[s] e K xss[s]) := by
  show (rowsR e K vs xss ++ Δ)[s]? = _
  rw [List.getElem?_append_left (by rw [rowsR_len hl]; exact h), rowsR_get h h']
theorem row_set {e : TypeId} {K : Kd α} {vs : List Value} {xss : List (List α)} {s : Nat} (h : s < vs.length) (hl : vs.length = xss.length) (a b r : Res) (Δ : List Res) : ((a :: b :: (rowsR e K vs xss ++ Δ)).set (s + 2) r)[s + 2]? = some r := by
  show ((rowsR e K vs xss ++ Δ).set s r)[s]? = _
  rw [List.getElem?_set_self (by rw [List.length_append, rowsR_len hl]; omega)]
theorem rows_stepT {e : TypeId} {K : Kd α} {v : Value} {xs : List α} {vs : List Value} {xss : List (List α)} {s : Nat} {a b b' : Res} {Δ : List Res} (hs : s < vs.length) (h : vs.length = xss.length) : ((a :: b :: (rowsR e K vs xss ++ Δ)).set (s + 2) (Res.sl v e K xs)).set 1 b' = a :: b' :: (rowsR e K (vs.set s v) (xss.set s xs) ++ Δ) := by
  show a :: b' :: (rowsR e K vs xss ++ Δ).set s _ = _
  rw [List.set_append_left _ _ (by rw [rowsR_len h]; exact hs), rowsR_set h]
theorem perm_rows (R : List Res) (a b : Res) (Δ : List Res) : (R ++ a :: b :: Δ).Perm (a :: b :: (R ++ Δ)) := List.perm_middle.trans (List.Perm.cons _ List.perm_middle)
theorem JS_own_nils (e : TypeId) (K : Kd α) : ∀ (n : Nat), JS F Q Γ (rowsR e K (List.replicate n (.slice none 0 0)) (List.replicate n []) ++ Δ) cs → JS F Q Γ Δ cs
  | 0, h => h
  | n + 1, h => JS_own_nils e K n (JS_own_nil e K (by
      simp only [List.replicate_succ, rowsR, List.cons_append] at h
      exact h))
def AllSl (m : GH) (K : Kd α) : List Value → List (List α) → Prop
  | v :: vs, xs :: xss => SliceAt m K xs v ∧ AllSl m K vs xss
  | [], [] => True
  | _, _ => False
theorem AllSl.up {m m' : GH} {K : Kd α} (hm : GH.le m m') : ∀ {vs : List Value} {xss : List (List α)}, AllSl m K vs xss → AllSl m' K vs xss
  | [], [], _ => trivial
  | _ :: _, _ :: _, h => ⟨h.1.up hm, AllSl.up hm h.2⟩
  | [], _ :: _, h => h.elim
  | _ :: _, [], h => h.elim
theorem freeze_one {v : Value} {e : TypeId} {d : Kd α} {xs : List α} {m : GH} {w : World} {a : Act} (hs : St F Γ (Res.sl v e d xs :: Δ) m w a) : ∃ m', GH.le m m' ∧ St F Γ Δ m' w a ∧ SliceAt m' d xs v := by
  have hi : (Res.sl v e d xs :: Δ)[0]? = some (Res.sl v e d xs) := rfl
  have hp := hs.own _ (List.mem_of_getElem? hi)
  cases hob : v.ownBlock with
  | none => exact ⟨m, GH.le.refl m, hs.drop (i := 0), sl_slice (ob := default) hp (fun g hgg => by rw [hob] at hgg; cases hgg)⟩
  | some g =>
    have hfp : g ∈ (Res.sl v e d xs).fp := by simp [Res.sl, hob]
    have hlt := (Res.sl v e d xs).ex hp g hfp
    have hheap : w.heap[g]? = some w.heap[g] := Array.getElem?_eq_getElem hlt
    have hf := hs.freeze hi hfp hheap
    have hle := GH.lay_le (o := w.heap[g]) (hs.apart _ (List.mem_of_getElem? hi) g hfp)
    refine ⟨_, hle, hf, sl_slice (ob := default) ((Res.sl v e d xs).up hle (fun _ _ => rfl) hp) (fun g' hgg => ?_)⟩
    rw [hob] at hgg; cases hgg
    rw [GH.lay_same, hheap]
theorem freeze_all {e : TypeId} {d : Kd α} {w : World} {a : Act} : ∀ {vs : List Value} {xss : List (List α)} {m : GH}, vs.length = xss.length → St F Γ (rowsR e d vs xss ++ Δ) m w a → ∃ m', GH.le m m' ∧ St F Γ Δ m' w a ∧ AllSl m' d vs xss
  | [], [], m, _, h => ⟨m, GH.le.refl m, h, trivial⟩
  | v :: vs, xs :: xss, m, hl, h => by
    obtain ⟨m1, h1, h2, h3⟩ := freeze_one (Δ := rowsR e d vs xss ++ Δ) h
    obtain ⟨m2, g1, g2, g3⟩ := freeze_all (vs := vs) (xss := xss) (by simpa using hl) h2
    exact ⟨m2, h1.trans g1, g2, h3.up g1, g3⟩
  | [], _ :: _, _, hl, _ => by simp at hl
  | _ :: _, [], _, hl, _ => by simp at hl
theorem reps_all {m : GH} {d : Kd α} : ∀ {vs : List Value} {xss : List (List α)} {cs : List Value}, Reps m Kd.val vs cs → AllSl m d vs xss → Reps m (Kd.slice d) xss cs
  | [], [], cs, h, _ => h
  | v :: vs, xs :: xss, cs, ⟨c, r, h1, h2, h3⟩, ha => ⟨c, r, h1, ⟨v, h2.1, ha.1⟩, reps_all h3 ha.2⟩
  | [], _ :: _, _, _, ha => ha.elim
  | _ :: _, [], _, _, ha => ha.elim
theorem AllSl.len {m : GH} {d : Kd α} : ∀ {vs : List Value} {xss : List (List α)}, AllSl m d vs xss → vs.length = xss.length
  | [], [], _ => rfl
  | _ :: _, _ :: _, h => by simp [AllSl.len h.2]
  | [], _ :: _, h => h.elim
  | _ :: _, [], h => h.elim
/-- All rows are said once for all. -/
theorem JS_freeze_rows {v : Value} {eo e : TypeId} {d : Kd α} {vs : List Value} {xss : List (List α)} {b : Res} (hl : vs.length = xss.length) (h : JS F Q Γ (b :: Res.sl v eo (Kd.slice d) xss :: Δ) cs) : JS F Q Γ (b :: Res.sl v eo Kd.val vs :: (rowsR e d vs xss ++ Δ)) cs := by
  refine JS_perm (Δ' := rowsR e d vs xss ++ (b :: Res.sl v eo Kd.val vs :: Δ)) ?_ (fun m w a hs => ?_)
  · exact List.perm_append_comm (l₁ := [b, Res.sl v eo Kd.val vs]) (l₂ := rowsR e d vs xss ++ Δ) |>.trans (by
      rw [List.append_assoc]
      exact List.Perm.append_left _ List.perm_append_comm)
  · obtain ⟨m', h1, h2, h3⟩ := freeze_all hl hs
    have hi : (b :: Res.sl v eo Kd.val vs :: Δ)[1]? = some (Res.sl v eo Kd.val vs) := rfl
    obtain ⟨cs', g1, g2⟩ := h2.own _ (List.mem_of_getElem? hi)
    have := h2.own_step (dst := none) (T := Ty.any) (v := undef) (r' := Res.sl v eo (Kd.slice d) xss) hi rfl trivial ⟨GH.le.refl _, fun k h h' => absurd h' h, Nat.le_refl _, fun _ _ _ => rfl, rfl, rfl, rfl⟩ ⟨cs', by rw [← h3.len]; exact g1, reps_all g2 h3⟩ (fun k hk => .inl hk)
    exact h m' w a this
end rows
end Go.Proofs.YtknflgfkhkdomaaGreatDoor.Mono
