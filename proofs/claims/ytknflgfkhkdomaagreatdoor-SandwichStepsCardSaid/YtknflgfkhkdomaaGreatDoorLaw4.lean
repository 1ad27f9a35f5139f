/- croupierlaw22.SandwichSteps returns true for every input. (part 4 of 8.) Conditions: none beyond the given row. -/
import Derived.Test.YtknflgfkhkdomaaGreatDoorLaw3
import Derived.Lib.ItoaNum
import Derived.Lib.Builder
import Derived.Lib.AppendStr
import Derived.Lib.UnsafeStr
import Derived.Laws.Externs
import Derived.Test.YtknflgfkhkdomaaGreatDoorShelf
import Derived.Lib.ItoaLen
/-! WkF -/
set_option linter.unusedVariables false
set_option linter.unusedSimpArgs false
set_option maxRecDepth 4000
set_option maxHeartbeats 4000000
namespace Go.Proofs.YtknflgfkhkdomaaGreatDoor.Mono
open Go Go.RowKit

theorem m126 {m : List Int} {y : Int} (hm : LOk m) (hl : m.length ≤ 4000000) (hy : 0 ≤ y ∧ y < 1000000000) : SpecM CC 126 [Ty.of (Kd.slice (Kd.int .u32)) m, Ty.val (.int .u32 y)] [] (Y := Value) (fun v => Ty.val v) (fun v => [Res.sl v 126 (Kd.int .u32) (scaL m y)]) := by
  refine specM_of_JS Tryz.func126 rfl (Nat.le_of_ble_eq_true rfl) (fun gh0 wd0 => ?_)
  refine JS_bound (s := 0) rfl (fun b0 => ?_)
  unfold maxLen at b0
  refine JS_seq ?_
  -- region 0
  refine sR ?_
  refine kA rfl rfl ?_
  refine kE ?_
  refine JS_seq ?_
  -- region 1
  refine sR ?_
  refine kM rfl rfl ?_
  refine kO (T_len_slice rfl rfl u81 rfl) rfl ?_
  refine kO (T_add rfl rfl rfl (wrap_i64 (by omega) (by omega))) rfl ?_
  refine kT ?_
  refine JT_make (K := (Kd.int .u32)) (z0 := 0) rfl rfl rfl rfl u81 ei126 rfl (by decide) (fun _ => rfl) rfl rfl (by omega) (by omega) (by omega) (by omega) (fun v13 => ?_)
  refine jA rfl rfl ?_
  refine JT_done ?_
  refine JS_seq ?_
  -- region 2
  refine sR ?_
  refine kA rfl rfl ?_
  refine kE ?_
  refine JS_seq ?_
  refine JS_seq ?_
  -- region 3
  refine sR ?_
  refine kM rfl rfl ?_
  refine kO (T_len_slice rfl rfl u81 rfl) rfl ?_
  refine kM rfl rfl ?_
  refine kE ?_
  refine JS_block ?_
  refine sLoop2 (fun (i : Nat) (v : Value) => [(16, Ty.val (.int .i64 i)), (6, Ty.val (.int .u64 ((scaK m y i).2))), (5, Ty.val (v))]) [1, 14, 15] (fun (i : Nat) (v : Value) => [(0, Res.sl v 126 (Kd.int .u32) (scaK m y i).1)]) (fun (i : Nat) (v : Value) => i ≤ m.length) (fun (i : Nat) (v : Value) => m.length - i) 0 v13 (Nat.zero_le _) rfl (EnvSub.consLe rfl (int_eq (rfl)) (EnvSub.consLe rfl (int_eq (rfl)) (EnvSub.consLe rfl (Ty.le.refl _) (EnvSub.nil _)))) (fun i v (hI : i ≤ m.length) => ?_)
  obtain ⟨h1, h2, h3, h4, h5⟩ := scaK_law hm hy i
  have g1 := hm.get i
  have g2 := mul_bd g1 hy
  refine JS_seq ?_
  -- region 4
  refine sR ?_
  refine kO (T_lt rfl rfl rfl) rfl ?_
  refine kE ?_
  refine JS_seq ?_
  refine JS_if rfl (fun c17 => ?_) (fun c17 => ?_)
  · refine JS_skip ?_
    refine JS_seq ?_
    refine JS_block ?_
    refine JS_seq ?_
    -- region 5
    refine sR ?_
    refine kO (T_ix rfl rfl rfl u81 ti126 (by omega) (by omega) (getD_at (i) (by omega) _)) rfl ?_
    refine kO (T_load_int rfl ti126 rfl) rfl ?_
    refine kA rfl rfl ?_
    refine kE ?_
    refine JS_seq ?_
    -- region 6
    refine sR ?_
    refine kM rfl rfl ?_
    refine kO (T_conv rfl u126 u32 rfl (wrap_u64 (by omega) (by omega))) rfl ?_
    refine kM rfl rfl ?_
    refine kO (T_conv rfl u126 u32 rfl (wrap_u64 (by omega) (by omega))) rfl ?_
    refine kO (T_mul rfl rfl rfl (wrap_u64 (by omega) (by omega))) rfl ?_
    refine kM rfl rfl ?_
    refine kO (T_add rfl rfl rfl (wrap_u64 (by omega) (by omega))) rfl ?_
    refine kA rfl rfl ?_
    refine kE ?_
    -- region 7
    refine sR ?_
    refine kM rfl rfl ?_
    refine kM rfl rfl ?_
    refine kO (T_rem rfl rfl rfl (by omega) (rem_nn (by omega))) rfl ?_
    refine kO (T_conv rfl u32 u126 rfl (wrap_u32 (by omega) (by omega))) rfl ?_
    refine kO (T_lits (xs := [.tmp 30]) (d := (Kd.int .u32)) [_] rfl rfl u81 ti126 z126 rfl rfl (by decide) (by decide) (oa (ol rfl (val_int _ _)) oa0) rfl) rfl ?_
    refine kT ?_
    refine JT_append (i := 0) rfl rfl rfl rfl u81 ei126 rfl rfl (by decide) rfl rfl (ol rfl (Ty.le.refl _)) (by have := h2; simp only [maxLen, List.length_cons, List.length_nil, this]; omega) (by have := h2; simp only [List.length_cons, List.length_nil, this]; omega) (fun v32 => ?_)
    refine jM rfl rfl ?_
    refine jO (T_quo rfl rfl rfl (by omega) (quo_u64 (by omega) (by omega) (by omega))) rfl ?_
    refine jA rfl rfl ?_
    refine jA rfl rfl ?_
    refine JT_done ?_
    refine JS_end_inB ?_
    -- region 8
    refine sR ?_
    refine kO (T_add rfl rfl rfl (wrap_i64 (by omega) (by omega))) rfl ?_
    refine kM rfl rfl ?_
    refine kE ?_
    exact JS_round ((i + 1), v32) (by try dsimp only; exact ((by omega))) (by try dsimp only; exact ((by omega))) rfl (EnvSub.consLe rfl (int_eq (rfl)) (EnvSub.consLe rfl (int_eq (rfl)) (EnvSub.consLe rfl (Ty.le.refl _) (EnvSub.pick1 rfl (EnvSub.pick1 rfl (EnvSub.pick1 rfl (EnvSub.nil _)))))))
  · have hi : i = m.length := by omega
    subst hi
    refine JS_exit (JE_loop_exit (JE_inB_here ?_))
    refine JS_seq ?_
    -- region 9
    refine sR ?_
    refine kM rfl rfl ?_
    refine kM rfl rfl ?_
    refine kO (T_conv rfl u32 u126 rfl (wrap_u32 (by omega) (by omega))) rfl ?_
    refine kO (T_lits (xs := [.tmp 38]) (d := (Kd.int .u32)) [_] rfl rfl u81 ti126 z126 rfl rfl (by decide) (by decide) (oa (ol rfl (val_int _ _)) oa0) rfl) rfl ?_
    refine kT ?_
    refine JT_append (i := 0) rfl rfl rfl rfl u81 ei126 rfl rfl (by decide) rfl rfl (ol rfl (Ty.le.refl _)) (by have := h2; simp only [maxLen, List.length_cons, List.length_nil, this]; omega) (by have := h2; simp only [List.length_cons, List.length_nil, this]; omega) (fun v40 => ?_)
    refine jA rfl rfl ?_
    refine JT_done ?_
    exact JS_ret (JE_retM1 v40 rfl rfl (.tmp rfl .nil) (Ty.le.refl _) rfl rfl rfl)

theorem div_short {A B : Nat} (h : ((lims B).length : Int) = 1) {l : List Int} (hl : l = (shK (lims A) ((lims B).getD 0 0) (lims A).length).1) : LOk l ∧ lval l = A / B := by
  obtain ⟨h1, h2, h3⟩ := lims_one h
  obtain ⟨k1, _, k2, _⟩ := shK_fin (lims_ok A) (y := (lims B).getD 0 0) ⟨h2, h3⟩
  rw [hl]
  refine ⟨k1, ?_⟩
  rw [k2, lval_lims, h1, Int.toNat_natCast]
theorem take_all {a b : List Int} (ha : LOk a) (hb : LOk b) (hl : b.length ≤ a.length) (h : lval a < lval b) : lval (a.take b.length) = lval a := by
  have h1 := lval_lt hb
  have h2 := lval_split a b.length hl
  rcases Nat.eq_zero_or_pos (lval (a.drop b.length)) with h3 | h3
  · rw [h3] at h2; omega
  · have := Nat.mul_le_mul_left (1000000000 ^ b.length) h3
    omega
theorem mod_short {A B : Nat} (h : ((lims B).length : Int) = 1) {l : List Int} (hl : l = [(shK (lims A) ((lims B).getD 0 0) (lims A).length).2]) : LOk l ∧ lval l = A % B := by
  obtain ⟨h1, h2, h3⟩ := lims_one h
  obtain ⟨_, _, _, k3⟩ := shK_fin (lims_ok A) (y := (lims B).getD 0 0) ⟨h2, h3⟩
  rw [lval_lims, h1, Int.toNat_natCast] at k3
  rw [h1] at hl h3 h2
  have := Nat.mod_lt A (show 0 < B by omega)
  rw [hl, k3]
  refine ⟨fun x hx => ?_, by show ((A % B : Nat) : Int).toNat + 1000000000 * 0 = _; rw [Int.toNat_natCast, Nat.mul_zero, Nat.add_zero]⟩
  rw [List.mem_singleton.1 hx]; omega

theorem en125 : Enters Tryz.prog 125 := enters_fn Tryz.func125 (by kernel_rfl) rfl

theorem en126 : Enters Tryz.prog 126 := enters_fn Tryz.func126 (by kernel_rfl) rfl

theorem en127 : Enters Tryz.prog 127 := enters_fn Tryz.func127 (by kernel_rfl) rfl

theorem en128 : Enters Tryz.prog 128 := enters_fn Tryz.func128 (by kernel_rfl) rfl

theorem fd83_1 : ((Tryz.prog.underlying 83).bind fun d => match d with | .struct fs => (fs[1]?).map fun f => (f.offset, f.type) | _ => none) = some (1, 81) := by kernel_rfl

theorem w96 {A B : Nat} (hA : (lims A).length ≤ 3000000) (hB : (lims B).length ≤ 3000000) (hB0 : 0 < B) : Spec CC 96 [Ty.of (Kd.slice (Kd.int .u32)) (lims A), Ty.of (Kd.slice (Kd.int .u32)) (lims B)] (Ty.tup [Ty.exs (Kd.slice (Kd.int .u32)) (fun l => LOk l ∧ lval l = A / B), Ty.exs (Kd.slice (Kd.int .u32)) (fun l => LOk l ∧ lval l = A % B)]) := by
  refine spec_of_JS Tryz.func96 rfl (Nat.le_of_ble_eq_true rfl) (fun gh0 wd0 => ?_)
  refine JS_bound (s := 0) rfl (fun b0 => ?_)
  refine JS_bound (s := 1) rfl (fun b1 => ?_)
  unfold maxLen at b0 b1
  refine JS_seq ?_
  -- region 0
  refine sR ?_
  refine kA rfl rfl ?_
  refine kA rfl rfl ?_
  refine kE ?_
  refine JS_seq ?_
  refine JS_seq ?_
  -- region 1
  refine sR ?_
  refine kM rfl rfl ?_
  refine kM rfl rfl ?_
  refine kO (T_callL rfl en104 (w104 ) (oa (ol rfl (Ty.le.refl _)) (oa (ol rfl (Ty.le.refl _)) oa0))) rfl ?_
  refine kO (T_lt rfl rfl rfl) rfl ?_
  refine kE ?_
  refine JS_if rfl (fun c21 => ?_) (fun c21 => ?_)
  · have hlt := cmpL_lt c21
    refine JS_seq ?_
    -- region 2
    refine sR ?_
    refine kM rfl rfl ?_
    refine kA rfl rfl ?_
    refine kA rfl rfl ?_
    refine kE ?_
    exact JS_ret (JE_ret_many rfl (by decide) (.le (.tmp rfl (.le (.tmp rfl .nil) (ex_le (⟨lims_ok A, by rw [lval_lims, Nat.mod_eq_of_lt hlt]⟩)))) (Ty.le.trans (nil_le _) (ex_le (⟨(by intro x hx; cases hx), (by rw [Nat.div_eq_of_lt hlt]; rfl)⟩)))))
  · have hAB := cmpL_ge c21
    refine JS_skip ?_
    refine JS_seq ?_
    refine JS_seq ?_
    -- region 3
    refine sR ?_
    refine kM rfl rfl ?_
    refine kO (T_len_slice rfl rfl u81 rfl) rfl ?_
    refine kO (T_eq rfl rfl rfl) rfl ?_
    refine kE ?_
    refine JS_if rfl (fun c25 => ?_) (fun c25 => ?_)
    · have hone := lims_one c25
      refine JS_seq ?_
      -- region 4
      refine sR ?_
      refine kM rfl rfl ?_
      refine kM rfl rfl ?_
      refine kO (T_ix rfl rfl rfl u81 ti126 (by omega) (by omega) (getD_at (0) (by omega) _)) rfl ?_
      refine kO (T_load_int rfl ti126 rfl) rfl ?_
      refine kO (T_callL rfl en125 (w125 (by first | exact lims_ok _ | assumption) (by omega) (by omega)) (oa (ol rfl (Ty.le.refl _)) (oa (ol rfl (Ty.le.refl _)) oa0))) rfl ?_
      refine kM rfl rfl ?_
      refine kO (T_extract rfl rfl rfl) rfl ?_
      refine kO (T_extract rfl rfl rfl) rfl ?_
      refine kA rfl rfl ?_
      refine kA rfl rfl ?_
      refine kE ?_
      refine JS_seq ?_
      -- region 5
      refine sR ?_
      refine kM rfl rfl ?_
      refine kM rfl rfl ?_
      refine kO (T_lits (xs := [.tmp 35]) (d := (Kd.int .u32)) [_] rfl rfl u81 ti126 z126 rfl rfl (by decide) (by decide) (oa (ol rfl (val_int _ _)) oa0) rfl) rfl ?_
      refine kA rfl rfl ?_
      refine kA rfl rfl ?_
      refine kE ?_
      exact JS_ret (JE_ret_many rfl (by decide) (.le (.tmp rfl (.le (.tmp rfl .nil) (ex_le (mod_short c25 rfl)))) (ex_le (div_short c25 rfl))))
    · have hl2 : 2 ≤ (lims B).length := by have := (lims_len B).1; omega
      have hub := unit_bd hl2
      refine JS_skip ?_
      refine JS_seq ?_
      -- region 6
      refine sR ?_
      refine kM rfl rfl ?_
      refine kM rfl rfl ?_
      refine kO (T_len_slice rfl rfl u81 rfl) rfl ?_
      refine kO (T_subI rfl rfl rfl (wrap_i64 (by omega) (by omega))) rfl ?_
      refine kO (T_ix rfl rfl rfl u81 ti126 (by omega) (by omega) (getD_at ((lims B).length - 1) (by omega) _)) rfl ?_
      refine kO (T_load_int rfl ti126 rfl) rfl ?_
      refine kO (T_conv rfl u126 u32 rfl (wrap_u64 (by omega) (by omega))) rfl ?_
      refine kO (T_add rfl rfl rfl (wrap_u64 (by omega) (by omega))) rfl ?_
      refine kO (T_quo rfl rfl rfl (by omega) (quo_u64 (by omega) (by omega) (by omega))) rfl ?_
      refine kO (T_conv rfl u32 u126 rfl (wrap_u32 (by omega) (by omega))) rfl ?_
      refine kA rfl rfl ?_
      refine kE ?_
      refine JS_seq ?_
      -- region 7
      obtain ⟨u, hu⟩ : ∃ u, u = 1000000000 / ((lims B).getD ((lims B).length - 1) 0 + 1) := ⟨_, rfl⟩
      refine JS_re (s := 8) (T := Ty.val (.int .u32 u)) rfl (int_eq hu.symm) ?_
      rw [← hu] at hub
      have hsl := (scaL_law (lims_ok B) (y := u) (by omega)).2.1
      refine JS_drawT [2, 9] (fun (Δ0 : List Res) (sd : List Nat) (Γd : Env) (Δ1 : List Res) => (sd = [] ∧ Γd = [] ∧ Δ1 = Δ0) ∨ (∃ (v49 : Value), sd = [2] ∧ Γd = [(49, Ty.val v49)] ∧ Δ1 = Res.sl v49 126 (Kd.int .u32) (scaL (lims A) u) :: Δ0) ∨ (∃ (v49 : Value), sd = [9, 2] ∧ Γd = [(9, Ty.val v49), (49, Ty.val v49)] ∧ Δ1 = Res.sl v49 126 (Kd.int .u32) (scaL (lims A) u) :: Δ0)) (fun i => if i = 2 then [47, 48] else if i = 9 then [] else []) mixed (by decide) (by decide) (.inl ⟨rfl, rfl, rfl⟩) (fun sd Γd Δ1 hs => by rcases hs with ⟨rfl, rfl, rfl⟩ | ⟨v49, rfl, rfl, rfl⟩ | ⟨v49, rfl, rfl, rfl⟩ <;> rfl) ?_
      refine dOpA (fun _ => T_move (.inl rfl) rfl) rfl rfl rfl ?_
      refine dOpA (fun _ => T_move (.inl rfl) rfl) rfl rfl rfl ?_
      refine dDyn rfl ?_
      refine dOpA (fun _ => T_move (.inl rfl) rfl) rfl rfl rfl ?_
      refine dOpA (fun _ => T_move (.inl rfl) rfl) rfl rfl rfl ?_
      refine dOpA (fun _ => T_callL rfl en126 (w126 (by first | exact lims_ok _ | assumption) (by omega) (by omega)) (oa (ol rfl (Ty.le.refl _)) (oa (ol rfl (Ty.le.refl _)) oa0))) rfl rfl rfl ?_
      refine dOpA (fun _ => T_move (.inl rfl) rfl) rfl rfl rfl ?_
      refine dOpA (fun _ => T_len_slice rfl rfl u81 rfl) rfl rfl rfl ?_
      refine dOpA (fun _ => T_sl_h rfl rfl rfl u81 ti126 (by omega) (by omega)) rfl rfl rfl ?_
      refine dDyn rfl ?_
      refine dOpA (fun _ => T_move (.inr rfl) rfl) rfl rfl rfl ?_
      refine dEnd ⟨?_, ?_⟩
      · intro Q1 cs1 i o sd Γd Δ1 Γx hi ho hn hb hinv hk
        simp only [List.mem_cons, List.not_mem_nil, or_false] at hi
        rcases hi with rfl | rfl
        · obtain rfl := Option.some.inj ho
          rcases hinv with ⟨rfl, rfl, rfl⟩ | ⟨v49, rfl, rfl, rfl⟩ | ⟨v49, rfl, rfl, rfl⟩
          · refine JT_callML rfl rfl rfl en126 (m126 (by first | exact lims_ok _ | assumption) (by omega) (by omega)) (oa (ol rfl (Ty.le.refl _)) (oa (ol rfl (Ty.le.refl _)) oa0)) (fun v49 => ?_)
            exact JT_done (hk [(49, _)] _ (.inr (.inl ⟨v49, rfl, rfl, rfl⟩)))
          · exact absurd (by simp) hn
          · exact absurd (by simp) hn
        · obtain rfl := Option.some.inj ho
          rcases hinv with ⟨rfl, rfl, rfl⟩ | ⟨v49, rfl, rfl, rfl⟩ | ⟨v49, rfl, rfl, rfl⟩
          · exact absurd (hb 2 rfl (by decide)) (by simp)
          · refine JT_op rfl rfl (T_move (.inr rfl) rfl) ?_
            exact JT_done (hk [(9, _), (49, _)] _ (.inr (.inr ⟨v49, rfl, rfl, rfl⟩)))
          · exact absurd (by simp) hn
      · intro sd Γd Δ1 hinv hall
        rcases hinv with ⟨rfl, rfl, rfl⟩ | ⟨v49, rfl, rfl, rfl⟩ | ⟨v49, rfl, rfl, rfl⟩
        · exact absurd (hall 2 (by decide) rfl) (by simp)
        · exact absurd (hall 9 (by decide) rfl) (by simp)
        · refine JS_seq ?_
          -- region 8
          obtain ⟨b, hb⟩ : ∃ b, b = (scaL (lims B) u).take ((lims B).length : Int).toNat := ⟨_, rfl⟩
          refine JS_re (s := 10) (T := Ty.of (Kd.slice (Kd.int .u32)) b) rfl (of_eq hb.symm) ?_
          rw [Int.toNat_natCast] at hb
          obtain ⟨b1, b2, b3, b4⟩ := scaled_div hl2 hu hb
          obtain ⟨a1, a2, a3⟩ := scaL_law (lims_ok A) (y := u) (by omega)
          rw [lval_lims] at a3
          have hle := lims_len_le hAB
          have htop := scaled_top (u := u) hl2 hAB (by omega) b3
          refine sR ?_
          refine kM rfl rfl ?_
          refine kO (T_len_slice rfl rfl u81 rfl) rfl ?_
          refine kA rfl rfl ?_
          refine kE ?_
          refine JS_seq ?_
          -- region 9
          refine sR ?_
          refine kM rfl rfl ?_
          refine kO (T_len_own (i := 0) rfl rfl u81 rfl rfl) rfl ?_
          refine kM rfl rfl ?_
          refine kO (T_subI rfl rfl rfl (wrap_i64 (by omega) (by omega))) rfl ?_
          refine kT ?_
          refine JT_make (K := (Kd.int .u32)) (z0 := 0) rfl rfl rfl rfl u81 ei126 rfl (by decide) (fun _ => rfl) rfl rfl (by omega) (by omega) (by omega) (by omega) (fun v62 => ?_)
          refine jA rfl rfl ?_
          refine JT_done ?_
          refine JS_seq ?_
          refine JS_seq ?_
          -- region 10
          refine sR ?_
          refine kM rfl rfl ?_
          refine kO (T_len_own (i := 1) rfl rfl u81 rfl rfl) rfl ?_
          refine kM rfl rfl ?_
          refine kO (T_subI rfl rfl rfl (wrap_i64 (by omega) (by omega))) rfl ?_
          refine kO (T_subI rfl rfl rfl (wrap_i64 (by omega) (by omega))) rfl ?_
          refine kA rfl rfl ?_
          refine kE ?_
          refine JS_block ?_
          refine sLoop3 (fun (j : Nat) (a : List Int) (q : List Int) => [(13, Ty.val (.int .i64 ((j : Int) - 1)))]) [8, 9, 10, 11, 12] (fun (j : Nat) (a : List Int) (q : List Int) => [(1, Res.sl v49 126 (Kd.int .u32) a), (0, Res.sl v62 126 (Kd.int .u32) q)]) (fun (j : Nat) (a : List Int) (q : List Int) => LOk a ∧ a.length = (lims A).length + 1 ∧ LOk q ∧ q.length = (lims A).length + 1 - b.length ∧ j ≤ (lims A).length + 1 - b.length ∧ lval (a.drop j) < lval b ∧ lval a + lval b * lval q = A * u.toNat ∧ (∀ k, k < j → q.getD k 0 = 0)) (fun (j : Nat) (a : List Int) (q : List Int) => j) ((lims A).length + 1 - b.length) (scaL (lims A) u) (List.replicate ((lims A).length + 1 - b.length) 0) (⟨a1, a2, rep_ok _, by simp, Nat.le_refl _, by rw [b2]; exact htop, by rw [lval_zeros, a3, Nat.mul_zero, Nat.add_zero], fun k _ => rep_get _ k⟩) (by have e : (((scaL (lims A) u).length : Int) - (b.length : Int)).toNat = (lims A).length + 1 - b.length := (by omega); simp only [e]; rfl) (EnvSub.consLe rfl (int_eq (by omega)) (EnvSub.nil _)) (fun j a q (hI : LOk a ∧ a.length = (lims A).length + 1 ∧ LOk q ∧ q.length = (lims A).length + 1 - b.length ∧ j ≤ (lims A).length + 1 - b.length ∧ lval (a.drop j) < lval b ∧ lval a + lval b * lval q = A * u.toNat ∧ (∀ k, k < j → q.getD k 0 = 0)) => ?_)
          obtain ⟨i1, i2, i3, i4, i5, i6, i7, i8⟩ := hI
          refine JS_seq ?_
          refine JS_seq ?_
          -- region 11
          refine sR ?_
          refine kM rfl rfl ?_
          refine kO (T_ge rfl rfl rfl) rfl ?_
          refine kE ?_
          refine JS_if rfl (fun c69 => ?_) (fun c69 => ?_)
          · obtain ⟨i, rfl⟩ : ∃ i, j = i + 1 := ⟨j - 1, by omega⟩
            obtain ⟨n, hn⟩ : ∃ n, b.length = n + 2 := ⟨b.length - 2, by omega⟩
            have gw0 := i1.get (i + (n + 2))
            have gw1 := i1.get (i + (n + 1))
            have gw2 := i1.get (i + n)
            have gb1 := b1.get (n + 1)
            have gb2 := b1.get n
            have hbt : 0 < b.getD (n + 1) 0 := by rw [show n + 1 = (lims B).length - 1 by omega]; exact b4
            refine JS_skip ?_
            refine JS_seq ?_
            refine JS_block ?_
            refine JS_seq ?_
            -- region 13
            refine JS_re (s := 13) (T := Ty.val (.int .i64 (i : Int))) rfl (int_eq (by omega)) ?_
            refine sRD mixed ?_
            refine kM rfl rfl ?_
            refine kM rfl rfl ?_
            refine kM rfl rfl ?_
            refine kO (T_add rfl rfl rfl (wrap_i64 (by omega) (by omega))) rfl ?_
            refine kO (T_ixo (ix := 1) (d := (Kd.int .u32)) rfl rfl rfl rfl u81 ti126 (by omega) (by omega)) rfl ?_
            refine kO (T_lde_int (i := 1) rfl rfl rfl ti126 (by omega) (getD_in (i + (n + 2)) (by omega) _)) rfl ?_
            refine kO (T_conv rfl u126 u32 rfl (wrap_u64 (by omega) (by omega))) rfl ?_
            refine kO (T_mul rfl rfl rfl (wrap_u64 (by omega) (by omega))) rfl ?_
            refine kM rfl rfl ?_
            refine kM rfl rfl ?_
            refine kM rfl rfl ?_
            refine kO (T_add rfl rfl rfl (wrap_i64 (by omega) (by omega))) rfl ?_
            refine kO (T_subI rfl rfl rfl (wrap_i64 (by omega) (by omega))) rfl ?_
            refine kO (T_ixo (ix := 1) (d := (Kd.int .u32)) rfl rfl rfl rfl u81 ti126 (by omega) (by omega)) rfl ?_
            refine kO (T_lde_int (i := 1) rfl rfl rfl ti126 (by omega) (getD_in (i + (n + 1)) (by omega) _)) rfl ?_
            refine kO (T_conv rfl u126 u32 rfl (wrap_u64 (by omega) (by omega))) rfl ?_
            refine kO (T_add rfl rfl rfl (wrap_u64 (by omega) (by omega))) rfl ?_
            refine kA rfl rfl ?_
            refine kD (by decide) ?_
            refine JS_seq ?_
            -- region 14
            refine sR ?_
            refine kM rfl rfl ?_
            refine kM rfl rfl ?_
            refine kM rfl rfl ?_
            refine kO (T_subI rfl rfl rfl (wrap_i64 (by omega) (by omega))) rfl ?_
            refine kO (T_ix rfl rfl rfl u81 ti126 (by omega) (by omega) (getD_at (n + 1) (by omega) _)) rfl ?_
            refine kO (T_load_int rfl ti126 rfl) rfl ?_
            refine kO (T_conv rfl u126 u32 rfl (wrap_u64 (by omega) (by omega))) rfl ?_
            refine kO (T_quo rfl rfl rfl (by omega) (quo_u64 (by omega) (by omega) (by omega))) rfl ?_
            refine kO (T_min rfl rfl rfl) rfl ?_
            refine kA rfl rfl ?_
            refine kE ?_
            refine JS_seq ?_
            refine JS_block ?_
            refine sLoop1 (fun (g : Int) => [(15, Ty.val (.int .u64 g))]) [8, 9, 10, 11, 12, 13, 14] (fun (g : Int) => []) (fun (g : Int) => 0 ≤ g ∧ g < 1000000000 ∧ g * b.getD (n + 1) 0 ≤ (a.getD (i + (n + 2)) 0 * 1000000000 + a.getD (i + (n + 1)) 0) ∧ (a.getD (i + (n + 2)) 0 * 1000000000 + a.getD (i + (n + 1)) 0) - g * b.getD (n + 1) 0 < 2000000000 ∧ lval (a.drop i) / lval b ≤ g.toNat) (fun (g : Int) => g.toNat) (min ((a.getD (i + (n + 2)) 0 * 1000000000 + a.getD (i + (n + 1)) 0) / b.getD (n + 1) 0) 999999999) (guess0 i1 b1 hn (by omega) i6 hbt rfl rfl) rfl (EnvSub.consLe rfl (int_eq (rfl)) (EnvSub.nil _)) (fun g (hG : 0 ≤ g ∧ g < 1000000000 ∧ g * b.getD (n + 1) 0 ≤ (a.getD (i + (n + 2)) 0 * 1000000000 + a.getD (i + (n + 1)) 0) ∧ (a.getD (i + (n + 2)) 0 * 1000000000 + a.getD (i + (n + 1)) 0) - g * b.getD (n + 1) 0 < 2000000000 ∧ lval (a.drop i) / lval b ≤ g.toNat) => ?_)
            obtain ⟨j1, j2, j3, j4, j5⟩ := hG
            have gp1 := mul_bd ⟨j1, j2⟩ gb1
            have gp2 := mul_bd ⟨j1, j2⟩ gb2
            refine JS_seq ?_
            refine JS_seq ?_
            -- region 15
            refine sRD mixed ?_
            refine kM rfl rfl ?_
            refine kM rfl rfl ?_
            refine kM rfl rfl ?_
            refine kO (T_subI rfl rfl rfl (wrap_i64 (by omega) (by omega))) rfl ?_
            refine kO (T_ix rfl rfl rfl u81 ti126 (by omega) (by omega) (getD_at (n) (by omega) _)) rfl ?_
            refine kO (T_load_int rfl ti126 rfl) rfl ?_
            refine kO (T_conv rfl u126 u32 rfl (wrap_u64 (by omega) (by omega))) rfl ?_
            refine kO (T_mul rfl rfl rfl (wrap_u64 (by omega) (by omega))) rfl ?_
            refine kM rfl rfl ?_
            refine kM rfl rfl ?_
            refine kM rfl rfl ?_
            refine kM rfl rfl ?_
            refine kO (T_subI rfl rfl rfl (wrap_i64 (by omega) (by omega))) rfl ?_
            refine kO (T_ix rfl rfl rfl u81 ti126 (by omega) (by omega) (getD_at (n + 1) (by omega) _)) rfl ?_
            refine kO (T_load_int rfl ti126 rfl) rfl ?_
            refine kO (T_conv rfl u126 u32 rfl (wrap_u64 (by omega) (by omega))) rfl ?_
            refine kO (T_mul rfl rfl rfl (wrap_u64 (by omega) (by omega))) rfl ?_
            refine kO (T_subI rfl rfl rfl (wrap_u64 (by omega) (by omega))) rfl ?_
            refine kO (T_mul rfl rfl rfl (wrap_u64 (by omega) (by omega))) rfl ?_
            refine kM rfl rfl ?_
            refine kM rfl rfl ?_
            refine kM rfl rfl ?_
            refine kO (T_add rfl rfl rfl (wrap_i64 (by omega) (by omega))) rfl ?_
            refine kO (T_subI rfl rfl rfl (wrap_i64 (by omega) (by omega))) rfl ?_
            refine kO (T_ixo (ix := 1) (d := (Kd.int .u32)) rfl rfl rfl rfl u81 ti126 (by omega) (by omega)) rfl ?_
            refine kO (T_lde_int (i := 1) rfl rfl rfl ti126 (by omega) (getD_in (i + n) (by omega) _)) rfl ?_
            refine kO (T_conv rfl u126 u32 rfl (wrap_u64 (by omega) (by omega))) rfl ?_
            refine kO (T_add rfl rfl rfl (wrap_u64 (by omega) (by omega))) rfl ?_
            refine kO (T_gt rfl rfl rfl) rfl ?_
            refine kM rfl rfl ?_
            refine tk_if (d := 127) rfl (fun g127 => ?_) (fun g127 => ?_)
            · have hlt := guess1 i1 b1 hn (by omega) i6 hbt rfl j1 j3 g127
              have hg1 : 1 ≤ g := by have := Nat.lt_of_le_of_lt (Nat.zero_le _) hlt; omega
              refine kG (wTD g127 rfl rfl rfl) (T_move (.inl rfl) rfl) rfl ?_
              refine kG (wTD g127 rfl rfl rfl) (T_move (.inl rfl) rfl) rfl ?_
              refine kG (wTD g127 rfl rfl rfl) (T_move (.inl rfl) rfl) rfl ?_
              refine kG (wTD g127 rfl rfl rfl) (T_move (.inl rfl) rfl) rfl ?_
              refine kG (wTD g127 rfl rfl rfl) (T_subI rfl rfl rfl (wrap_i64 (by omega) (by omega))) rfl ?_
              refine kG (wTD g127 rfl rfl rfl) (T_ix rfl rfl rfl u81 ti126 (by omega) (by omega) (getD_at (n + 1) (by omega) _)) rfl ?_
              refine kG (wTD g127 rfl rfl rfl) (T_load_int rfl ti126 rfl) rfl ?_
              refine kG (wTD g127 rfl rfl rfl) (T_conv rfl u126 u32 rfl (wrap_u64 (by omega) (by omega))) rfl ?_
              refine kG (wTD g127 rfl rfl rfl) (T_mul rfl rfl rfl (wrap_u64 (by omega) (by omega))) rfl ?_
              refine kG (wTD g127 rfl rfl rfl) (T_subI rfl rfl rfl (wrap_u64 (by omega) (by omega))) rfl ?_
              refine kG (wTD g127 rfl rfl rfl) (T_lt rfl rfl rfl) rfl ?_
              refine kO (T_pickD g127 rfl rfl rfl) rfl ?_
              refine kD (by decide) ?_
              refine JS_if rfl (fun c139 => ?_) (fun c139 => ?_)
              · refine JS_skip ?_
                refine JS_block ?_
                -- region 16
                refine sR ?_
                refine kM rfl rfl ?_
                refine kO (T_subI rfl rfl rfl (wrap_u64 (by omega) (by omega))) rfl ?_
                refine kA rfl rfl ?_
                refine kE ?_
                refine JS_end_inB ?_
                exact JS_round (g - 1) (⟨by omega, by omega, by rw [Int.sub_mul]; omega, by rw [Int.sub_mul]; omega, by have := Nat.le_sub_one_of_lt hlt; rw [show (g - 1).toNat = g.toNat - 1 by omega]; exact this⟩) ((by omega)) rfl (EnvSub.consLe rfl (int_eq (rfl)) (EnvSub.pick1 rfl (EnvSub.pick1 rfl (EnvSub.pick1 rfl (EnvSub.pick1 rfl (EnvSub.pick1 rfl (EnvSub.pick1 rfl (EnvSub.pick1 rfl (EnvSub.nil _)))))))))
              · have hfin := guess2 i1 b1 hn (by omega) i6 hbt rfl ⟨j1, j2⟩ j3 (.inr c139)
                refine JS_exit (JE_loop_exit (JE_inB_here ?_))
                refine JS_seq ?_
                refine JS_seq ?_
                -- region 17
                refine sR ?_
                refine kM rfl rfl ?_
                refine kM rfl rfl ?_
                refine kO (T_slo_l (ix := 1) (d := (Kd.int .u32)) rfl rfl rfl rfl u81 ti126 (by omega) (by omega)) rfl ?_
                refine kM rfl rfl ?_
                refine kM rfl rfl ?_
                refine kT ?_
                refine JT_callM1 (i := 1) rfl rfl rfl en127 rfl (m127 (p := i) i1 b1 ⟨j1, j2⟩ (by omega) (by omega)) (oa (ol rfl (Ty.le.refl _)) (oa (ol rfl (Ty.le.refl _)) (oa (ol rfl (Ty.le.refl _)) oa0))) (fun y147 => ?_)
                refine JT_done ?_
                refine JS_if rfl (fun c147 => ?_) (fun c147 => ?_)
                · have hl1 := lose_fin i1 b1 ⟨j1, j2⟩ (by omega) i6
                  obtain ⟨hg1, hL⟩ := left_gain i1 b1 ⟨j1, j2⟩ (by omega) i6 hfin c147
                  have hl2 := hl1.2.1
                  refine JS_seq ?_
                  -- region 18
                  refine sR ?_
                  refine kM rfl rfl ?_
                  refine kO (T_subI rfl rfl rfl (wrap_u64 (by omega) (by omega))) rfl ?_
                  refine kA rfl rfl ?_
                  refine kE ?_
                  -- region 19
                  refine sR ?_
                  refine kM rfl rfl ?_
                  refine kM rfl rfl ?_
                  refine kO (T_slo_l (ix := 0) (d := (Kd.int .u32)) rfl rfl rfl rfl u81 ti126 (by omega) (by omega)) rfl ?_
                  refine kM rfl rfl ?_
                  refine kT ?_
                  refine JT_callM1 (i := 0) rfl rfl rfl en128 rfl (m128 (p := i) hl1.1 b1 (by omega) (by omega)) (oa (ol rfl (Ty.le.refl _)) (oa (ol rfl (Ty.le.refl _)) oa0)) (fun y154 => ?_)
                  refine JT_done ?_
                  -- region 20
                  refine sR ?_
                  refine kM rfl rfl ?_
                  refine kM rfl rfl ?_
                  refine kM rfl rfl ?_
                  refine kO (T_conv rfl u32 u126 rfl (wrap_u32 (by omega) (by omega))) rfl ?_
                  refine kO (T_ixo (ix := 1) (d := (Kd.int .u32)) rfl rfl rfl rfl u81 ti126 (by omega) (by omega)) rfl ?_
                  refine kT ?_
                  refine JT_store_elt (i := 1) rfl rfl rfl rfl rfl (by omega) (ol rfl (val_int _ _)) sz126 ?_
                  refine JT_done ?_
                  refine JS_end_inB ?_
                  -- region 12
                  refine sR ?_
                  refine kM rfl rfl ?_
                  refine kO (T_subI rfl rfl rfl (wrap_i64 (by omega) (by omega))) rfl ?_
                  refine kA rfl rfl ?_
                  refine kE ?_
                  refine JS_perm (List.Perm.swap _ _ _) ?_
                  exact JS_round (i, (gainK (loseK a b i g (b.length + 1)).1 b i (b.length + 1)).1, (q.set i (g - 1))) (by try dsimp only; exact (by obtain ⟨s1, s2, s3, s4, s5, s6, s7⟩ := digit_step hL ⟨by omega, by omega⟩ i3 i4 (by omega) i7 i8; exact ⟨s1, s2.trans i2, s3, s4, by omega, s5, s6, s7⟩)) (by try dsimp only; exact ((by omega))) rfl (EnvSub.consLe rfl (int_eq (rfl)) (EnvSub.pick1 rfl (EnvSub.pick1 rfl (EnvSub.pick1 rfl (EnvSub.pick1 rfl (EnvSub.pick1 rfl (EnvSub.nil _)))))))
                · have hL := left_lose i1 b1 ⟨j1, j2⟩ (by omega) i6 j5 c147
                  refine JS_skip ?_
                  -- region 20
                  refine sR ?_
                  refine kM rfl rfl ?_
                  refine kM rfl rfl ?_
                  refine kM rfl rfl ?_
                  refine kO (T_conv rfl u32 u126 rfl (wrap_u32 (by omega) (by omega))) rfl ?_
                  refine kO (T_ixo (ix := 1) (d := (Kd.int .u32)) rfl rfl rfl rfl u81 ti126 (by omega) (by omega)) rfl ?_
                  refine kT ?_
                  refine JT_store_elt (i := 1) rfl rfl rfl rfl rfl (by omega) (ol rfl (val_int _ _)) sz126 ?_
                  refine JT_done ?_
                  refine JS_end_inB ?_
                  -- region 12
                  refine sR ?_
                  refine kM rfl rfl ?_
                  refine kO (T_subI rfl rfl rfl (wrap_i64 (by omega) (by omega))) rfl ?_
                  refine kA rfl rfl ?_
                  refine kE ?_
                  refine JS_perm (List.Perm.swap _ _ _) ?_
                  exact JS_round (i, (loseK a b i g (b.length + 1)).1, (q.set i g)) (by try dsimp only; exact (by obtain ⟨s1, s2, s3, s4, s5, s6, s7⟩ := digit_step hL ⟨by omega, by omega⟩ i3 i4 (by omega) i7 i8; exact ⟨s1, s2.trans i2, s3, s4, by omega, s5, s6, s7⟩)) (by try dsimp only; exact ((by omega))) rfl (EnvSub.consLe rfl (int_eq (rfl)) (EnvSub.pick1 rfl (EnvSub.pick1 rfl (EnvSub.pick1 rfl (EnvSub.pick1 rfl (EnvSub.pick1 rfl (EnvSub.nil _)))))))
            · have hfin := guess2 i1 b1 hn (by omega) i6 hbt rfl ⟨j1, j2⟩ j3 (.inl g127)
              refine kS (uFD g127 rfl rfl rfl) rfl ?_
              refine kS (uFD g127 rfl rfl rfl) rfl ?_
              refine kS (uFD g127 rfl rfl rfl) rfl ?_
              refine kS (uFD g127 rfl rfl rfl) rfl ?_
              refine kS (uFD g127 rfl rfl rfl) rfl ?_
              refine kS (uFD g127 rfl rfl rfl) rfl ?_
              refine kS (uFD g127 rfl rfl rfl) rfl ?_
              refine kS (uFD g127 rfl rfl rfl) rfl ?_
              refine kS (uFD g127 rfl rfl rfl) rfl ?_
              refine kS (uFD g127 rfl rfl rfl) rfl ?_
              refine kS (uFD g127 rfl rfl rfl) rfl ?_
              refine kO (T_pickN g127 rfl rfl rfl) rfl ?_
              refine kD (by decide) ?_
              refine JS_cf rfl ?_
              refine JS_exit (JE_loop_exit (JE_inB_here ?_))
              refine JS_seq ?_
              refine JS_seq ?_
              -- region 17
              refine sR ?_
              refine kM rfl rfl ?_
              refine kM rfl rfl ?_
              refine kO (T_slo_l (ix := 1) (d := (Kd.int .u32)) rfl rfl rfl rfl u81 ti126 (by omega) (by omega)) rfl ?_
              refine kM rfl rfl ?_
              refine kM rfl rfl ?_
              refine kT ?_
              refine JT_callM1 (i := 1) rfl rfl rfl en127 rfl (m127 (p := i) i1 b1 ⟨j1, j2⟩ (by omega) (by omega)) (oa (ol rfl (Ty.le.refl _)) (oa (ol rfl (Ty.le.refl _)) (oa (ol rfl (Ty.le.refl _)) oa0))) (fun y147 => ?_)
              refine JT_done ?_
              refine JS_if rfl (fun c147 => ?_) (fun c147 => ?_)
              · have hl1 := lose_fin i1 b1 ⟨j1, j2⟩ (by omega) i6
                obtain ⟨hg1, hL⟩ := left_gain i1 b1 ⟨j1, j2⟩ (by omega) i6 hfin c147
                have hl2 := hl1.2.1
                refine JS_seq ?_
                -- region 18
                refine sR ?_
                refine kM rfl rfl ?_
                refine kO (T_subI rfl rfl rfl (wrap_u64 (by omega) (by omega))) rfl ?_
                refine kA rfl rfl ?_
                refine kE ?_
                -- region 19
                refine sR ?_
                refine kM rfl rfl ?_
                refine kM rfl rfl ?_
                refine kO (T_slo_l (ix := 0) (d := (Kd.int .u32)) rfl rfl rfl rfl u81 ti126 (by omega) (by omega)) rfl ?_
                refine kM rfl rfl ?_
                refine kT ?_
                refine JT_callM1 (i := 0) rfl rfl rfl en128 rfl (m128 (p := i) hl1.1 b1 (by omega) (by omega)) (oa (ol rfl (Ty.le.refl _)) (oa (ol rfl (Ty.le.refl _)) oa0)) (fun y154 => ?_)
                refine JT_done ?_
                -- region 20
                refine sR ?_
                refine kM rfl rfl ?_
                refine kM rfl rfl ?_
                refine kM rfl rfl ?_
                refine kO (T_conv rfl u32 u126 rfl (wrap_u32 (by omega) (by omega))) rfl ?_
                refine kO (T_ixo (ix := 1) (d := (Kd.int .u32)) rfl rfl rfl rfl u81 ti126 (by omega) (by omega)) rfl ?_
                refine kT ?_
                refine JT_store_elt (i := 1) rfl rfl rfl rfl rfl (by omega) (ol rfl (val_int _ _)) sz126 ?_
                refine JT_done ?_
                refine JS_end_inB ?_
                -- region 12
                refine sR ?_
                refine kM rfl rfl ?_
                refine kO (T_subI rfl rfl rfl (wrap_i64 (by omega) (by omega))) rfl ?_
                refine kA rfl rfl ?_
                refine kE ?_
                refine JS_perm (List.Perm.swap _ _ _) ?_
                exact JS_round (i, (gainK (loseK a b i g (b.length + 1)).1 b i (b.length + 1)).1, (q.set i (g - 1))) (by try dsimp only; exact (by obtain ⟨s1, s2, s3, s4, s5, s6, s7⟩ := digit_step hL ⟨by omega, by omega⟩ i3 i4 (by omega) i7 i8; exact ⟨s1, s2.trans i2, s3, s4, by omega, s5, s6, s7⟩)) (by try dsimp only; exact ((by omega))) rfl (EnvSub.consLe rfl (int_eq (rfl)) (EnvSub.pick1 rfl (EnvSub.pick1 rfl (EnvSub.pick1 rfl (EnvSub.pick1 rfl (EnvSub.pick1 rfl (EnvSub.nil _)))))))
              · have hL := left_lose i1 b1 ⟨j1, j2⟩ (by omega) i6 j5 c147
                refine JS_skip ?_
                -- region 20
                refine sR ?_
                refine kM rfl rfl ?_
                refine kM rfl rfl ?_
                refine kM rfl rfl ?_
                refine kO (T_conv rfl u32 u126 rfl (wrap_u32 (by omega) (by omega))) rfl ?_
                refine kO (T_ixo (ix := 1) (d := (Kd.int .u32)) rfl rfl rfl rfl u81 ti126 (by omega) (by omega)) rfl ?_
                refine kT ?_
                refine JT_store_elt (i := 1) rfl rfl rfl rfl rfl (by omega) (ol rfl (val_int _ _)) sz126 ?_
                refine JT_done ?_
                refine JS_end_inB ?_
                -- region 12
                refine sR ?_
                refine kM rfl rfl ?_
                refine kO (T_subI rfl rfl rfl (wrap_i64 (by omega) (by omega))) rfl ?_
                refine kA rfl rfl ?_
                refine kE ?_
                refine JS_perm (List.Perm.swap _ _ _) ?_
                exact JS_round (i, (loseK a b i g (b.length + 1)).1, (q.set i g)) (by try dsimp only; exact (by obtain ⟨s1, s2, s3, s4, s5, s6, s7⟩ := digit_step hL ⟨by omega, by omega⟩ i3 i4 (by omega) i7 i8; exact ⟨s1, s2.trans i2, s3, s4, by omega, s5, s6, s7⟩)) (by try dsimp only; exact ((by omega))) rfl (EnvSub.consLe rfl (int_eq (rfl)) (EnvSub.pick1 rfl (EnvSub.pick1 rfl (EnvSub.pick1 rfl (EnvSub.pick1 rfl (EnvSub.pick1 rfl (EnvSub.nil _)))))))
          · obtain rfl : j = 0 := by omega
            rw [List.drop_zero] at i6
            have htk : lval (a.take ((b.length : Int)).toNat) = lval a := by rw [Int.toNat_natCast]; exact take_all i1 b1 (by omega) i6
            rw [b3] at i6 i7
            have hdv := div_fin (by omega) i7 i6
            have hsm := lims_len_lval i1
            refine JS_exit (JE_loop_exit (JE_inB_here ?_))
            refine JS_seq ?_
            -- region 21
            refine JS_freeze_sl (i := 1) (s := 9) rfl rfl ?_
            refine sR ?_
            refine kM rfl rfl ?_
            refine kM rfl rfl ?_
            refine kO (T_sl_h rfl rfl rfl u81 ti126 (by omega) (by omega)) rfl ?_
            refine kO (T_callL rfl en97 (w97 (i1.take _) htk) (oa (ol rfl (Ty.le.refl _)) (oa (ol rfl (Ty.le.refl _)) oa0))) rfl ?_
            refine kO (T_fld rfl rfl (whole_mag _) rfl fd83_1 ti81) rfl ?_
            refine kM rfl rfl ?_
            refine kO (T_callL rfl en125 (w125 (lims_ok _) (by omega) (by rw [sgn_abs]; omega)) (oa (ol rfl (Ty.le.refl _)) (oa (ol rfl (Ty.le.refl _)) oa0))) rfl ?_
            refine kM rfl rfl ?_
            refine kO (T_extract rfl rfl rfl) rfl ?_
            refine kO (T_extract rfl rfl rfl) rfl ?_
            refine kA rfl rfl ?_
            refine kA rfl rfl ?_
            refine kE ?_
            refine JS_seq ?_
            -- region 22
            refine sR ?_
            refine kM rfl rfl ?_
            refine kM rfl rfl ?_
            refine kA rfl rfl ?_
            refine kA rfl rfl ?_
            refine kE ?_
            refine JS_freeze_sl (i := 0) (s := 4) rfl rfl ?_
            exact JS_ret (JE_ret_many rfl (by decide) (.le (.tmp rfl (.le (.tmp rfl .nil) (ex_le (⟨(shK_fin (lims_ok _) (by omega)).1, by rw [(shK_fin (lims_ok _) (by omega)).2.2.1, lval_lims, sgn_abs]; exact hdv.2⟩)))) (ex_le (⟨i3, hdv.1⟩))))

end Go.Proofs.YtknflgfkhkdomaaGreatDoor.Mono

/-! WkG -/
set_option linter.unusedVariables false
set_option linter.unusedSimpArgs false
set_option maxRecDepth 4000
set_option maxHeartbeats 4000000
namespace Go.Proofs.YtknflgfkhkdomaaGreatDoor.Mono
open Go Go.RowKit

theorem lims_len_of_lt {n k : Nat} (h : n < 1000000000 ^ k) : (lims n).length ≤ k := by
  rcases Nat.lt_or_ge k (lims n).length with h1 | h1
  · have h2 := lval_ge (lims_ok n) (lims_top n) (by intro e; rw [e] at h1; simp at h1)
    rw [lval_lims] at h2
    have h3 : 1000000000 ^ k ≤ 1000000000 ^ ((lims n).length - 1) := Nat.pow_le_pow_right (by decide) (by omega)
    omega
  · exact h1
theorem wrap_pos {n : Int} (h : 0 ≤ n) (h2 : n ≤ 9223372036854775807) : IntKind.u64.wrap n = n.natAbs := by
  simp only [IntKind.wrap, IntKind.signed, IntKind.bits, Bool.false_and, Bool.false_eq_true, if_false]; omega
theorem wrap_neg {n : Int} (h : n < 0) (h2 : -9223372036854775808 ≤ n) : IntKind.u64.wrap (0 - IntKind.u64.wrap n) = n.natAbs := by
  simp only [IntKind.wrap, IntKind.signed, IntKind.bits, Bool.false_and, Bool.false_eq_true, if_false]; omega

theorem h0_83bool_val : ∀ m, (Seg.cat [Seg.of Kd.bool false, Seg.of Kd.val (.slice none 0 0)]).p m (Value.cells (.agg #[.bool false, .slice none 0 0])).toList := fun m => ⟨_, _, rfl, (fun _ => rfl) m, ⟨_, _, rfl, (fun _ => ⟨rfl, rfl⟩) m, rfl⟩⟩

theorem u3 : Tryz.prog.underlying 3 = some (.int .i64) := by kernel_rfl

theorem w47 {n : Int} (h1 : -9223372036854775808 ≤ n) (h2 : n ≤ 9223372036854775807) : Spec CC 47 [Ty.val (.int .i64 n)] (Ty.of Kd.whole n) := by
  refine spec_of_JS Tryz.func47 rfl (Nat.le_of_ble_eq_true rfl) (fun gh0 wd0 => ?_)
  refine JS_seq ?_
  -- region 0
  refine sR ?_
  refine kT ?_
  refine JT_alloc (S0 := Seg.cat [Seg.of Kd.bool false, Seg.of (Kd.slice (Kd.int .u32)) []]) rfl rfl rfl rfl z83 h0_83 (fun g2 => ?_)
  refine JT_done ?_
  refine JS_seq ?_
  -- region 1
  refine sR ?_
  refine kM rfl rfl ?_
  refine kO (T_lt rfl rfl rfl) rfl ?_
  refine kO (T_build (S0 := Seg.cat [Seg.of Kd.bool false, Seg.of Kd.val (.slice none 0 0)]) rfl fk83 z83 h0_83bool_val (fc (ol rfl (val_bool _)) (uc (i := 0) rfl rfl rfl) rfl (Fill.nil _)) rfl) rfl ?_
  refine kT ?_
  refine JT_alloc (S0 := Seg.cat [Seg.of Kd.bool false, Seg.of (Kd.slice (Kd.int .u32)) []]) rfl rfl rfl rfl z83 h0_83 (fun g3 => ?_)
  refine JT_store (i := 0) rfl rfl rfl rfl rfl (ol rfl (Ty.le.refl _)) (Upd.self _ _ rfl) sz83 ?_
  refine JT_done ?_
  refine JS_seq ?_
  -- region 2
  refine sR ?_
  refine kM rfl rfl ?_
  refine kO (T_conv rfl u3 u32 rfl rfl) rfl ?_
  refine kA rfl rfl ?_
  refine kE ?_
  refine JS_seq ?_
  refine JS_seq ?_
  -- region 3
  refine sR ?_
  refine kM rfl rfl ?_
  refine kO (T_lt rfl rfl rfl) rfl ?_
  refine kE ?_
  refine JS_join1 (fun (u0 : Nat) => [(4, Ty.val (.int .u64 (u0 : Int)))]) [2, 3] (fun (u0 : Nat) => []) (fun (u0 : Nat) => u0 = n.natAbs) ?_ (fun u0 (hJ : u0 = n.natAbs) => ?_)
  · refine JS_if rfl (fun c11 => ?_) (fun c11 => ?_)
    · -- region 4
      refine sR ?_
      refine kM rfl rfl ?_
      refine kO (T_neg rfl rfl rfl) rfl ?_
      refine kA rfl rfl ?_
      refine kE ?_
      exact JS_meet n.natAbs (rfl) rfl (EnvSub.consLe rfl (int_eq (wrap_neg c11 h1)) (EnvSub.pick1 rfl (EnvSub.pick1 rfl (EnvSub.nil _))))
    · refine JS_skip ?_
      exact JS_meet n.natAbs (rfl) rfl (EnvSub.consLe rfl (int_eq (wrap_pos (by omega) h2)) (EnvSub.pick1 rfl (EnvSub.pick1 rfl (EnvSub.nil _))))
  · subst hJ
    have hln := lims_len_of_lt (n := n.natAbs) (k := 3) (by omega)
    refine JS_seq ?_
    refine JS_block ?_
    refine JS_own_nil 126 (Kd.int .u32) ?_
    refine sLoop3 (fun (u : Nat) (v : Value) (xs : List Int) => [(4, Ty.val (.int .u64 (u : Int)))]) [2, 3] (fun (u : Nat) (v : Value) (xs : List Int) => [(1, Res.box g3 83 (Seg.cat [Seg.of Kd.bool (decide (n < 0)), Seg.of Kd.val v])), (0, Res.sl v 126 (Kd.int .u32) xs)]) (fun (u : Nat) (v : Value) (xs : List Int) => lims n.natAbs = xs ++ lims u ∧ u ≤ 9223372036854775808) (fun (u : Nat) (v : Value) (xs : List Int) => u) n.natAbs (.slice none 0 0) [] (⟨rfl, by omega⟩) rfl (EnvSub.consLe rfl (int_eq (rfl)) (EnvSub.nil _)) (fun u v xs (hI : lims n.natAbs = xs ++ lims u ∧ u ≤ 9223372036854775808) => ?_)
    have hxl : xs.length ≤ 3 := by have := congrArg List.length hI.1; rw [List.length_append] at this; omega
    refine JS_seq ?_
    refine JS_seq ?_
    -- region 5
    refine sR ?_
    refine kM rfl rfl ?_
    refine kO (T_gt rfl rfl rfl) rfl ?_
    refine kE ?_
    refine JS_if rfl (fun c15 => ?_) (fun c15 => ?_)
    · refine JS_skip ?_
      refine JS_seq ?_
      refine JS_block ?_
      -- region 7
      refine sR ?_
      refine kO (T_fieldAddr_ptr rfl fa83_1 rfl rfl) rfl ?_
      refine kO (T_load_own_val (i := 1) rfl rfl rfl (sc (i := 1) rfl rfl) ti81) rfl ?_
      refine kM rfl rfl ?_
      refine kO (T_rem rfl rfl rfl (by omega) (rem_nn (by omega))) rfl ?_
      refine kO (T_conv rfl u32 u126 rfl (wrap_u32 (by omega) (by omega))) rfl ?_
      refine kO (T_lits (xs := [.tmp 22]) (d := (Kd.int .u32)) [_] rfl rfl u81 ti126 z126 rfl rfl (by decide) (by decide) (oa (ol rfl (val_int _ _)) oa0) rfl) rfl ?_
      refine kT ?_
      refine JT_append (i := 0) rfl rfl rfl rfl u81 ei126 rfl rfl (by decide) rfl rfl (ol rfl (Ty.le.refl _)) (by simp only [maxLen, List.length_cons, List.length_nil]; omega) (by simp only [List.length_cons, List.length_nil]; omega) (fun v24 => ?_)
      refine jO (T_fieldAddr_ptr rfl fa83_1 rfl rfl) rfl ?_
      refine JT_one (i := 0) rfl (fun ov24 => ?_)
      refine JT_store (i := 1) rfl rfl rfl rfl rfl (ol rfl (to_kval ov24)) (uc (i := 1) rfl rfl rfl) sz81 ?_
      refine JT_done ?_
      refine JS_end_inB ?_
      -- region 6
      refine sR ?_
      refine kM rfl rfl ?_
      refine kO (T_quo rfl rfl rfl (by omega) (quo_u64 (by omega) (by omega) (by omega))) rfl ?_
      refine kA rfl rfl ?_
      refine kE ?_
      exact JS_round ((u / 1000000000), v24, (xs ++ [((u % 1000000000 : Nat) : Int)])) (by try dsimp only; exact (⟨by rw [hI.1, lims_pos (by omega)]; simp, by omega⟩)) (by try dsimp only; exact ((by omega))) rfl (EnvSub.consLe rfl (int_eq (by omega)) (EnvSub.pick1 rfl (EnvSub.pick1 rfl (EnvSub.nil _))))
    · have hu0 : u = 0 := by omega
      subst hu0
      rw [lims_zero, List.append_nil] at hI
      refine JS_exit (JE_loop_exit (JE_inB_here ?_))
      refine JS_seq ?_
      -- region 8
      refine JS_freeze_fld (i := 1) (j := 0) (k := 1) rfl rfl rfl rfl ?_
      refine sR ?_
      refine kO (T_load_own (i := 0) rfl rfl rfl (Sub.self _) ti83) rfl ?_
      refine kT ?_
      refine JT_store (i := 1) rfl rfl rfl rfl rfl (ol rfl (Ty.le.refl _)) (Upd.self _ _ rfl) sz83 ?_
      refine JT_done ?_
      exact JS_ret (JE_ret_one rfl rfl (.cell (i := 1) rfl rfl ti83 .nil) ((mk_whole rfl hI.1.symm)))

end Go.Proofs.YtknflgfkhkdomaaGreatDoor.Mono

/-! WkH -/
set_option linter.unusedVariables false
set_option linter.unusedSimpArgs false
set_option maxRecDepth 4000
set_option maxHeartbeats 4000000
namespace Go.Proofs.YtknflgfkhkdomaaGreatDoor.Mono
open Go Go.RowKit

theorem JS_eqD {F : Fr} {Q : Post} {Γ : Env} {Δ Δ' : List Res} {cs : List Code} (h : Δ = Δ') (h' : JS F Q Γ Δ' cs) : JS F Q Γ Δ cs := h ▸ h'
theorem div_abs {w o : Int} (ho : o ≠ 0) : (w.natAbs : Int) = (o.natAbs : Int) * ((w.natAbs / o.natAbs : Nat) : Int) + ((w.natAbs % o.natAbs : Nat) : Int) ∧ ((w.natAbs % o.natAbs : Nat) : Int) < o.natAbs := by
  have h1 := Nat.div_add_mod w.natAbs o.natAbs
  have h2 := Nat.mod_lt w.natAbs (show 0 < o.natAbs by omega)
  constructor
  · rw [← Int.natCast_mul]; omega
  · omega
theorem floor_of {w o Q R : Int} (ho : o ≠ 0) (h : R + o * Q = w) (h1 : 0 < o → 0 ≤ R ∧ R < o) (h2 : o < 0 → o < R ∧ R ≤ 0) : Q = w.fdiv o ∧ R = w.fmod o := by
  rcases Int.lt_or_gt_of_ne ho with h0 | h0
  · have := (Int.fdiv_fmod_unique' (a := w) (b := o) (r := R) (q := Q) h0).2 ⟨h, h2 h0⟩
    exact ⟨this.1.symm, this.2.symm⟩
  · have := (Int.fdiv_fmod_unique (a := w) (b := o) (r := R) (q := Q) h0).2 ⟨h, h1 h0⟩
    exact ⟨this.1.symm, this.2.symm⟩
theorem abs_mul {o : Int} (k : Int) : o * k = (if o < 0 then -((o.natAbs : Int) * k) else (o.natAbs : Int) * k) := by
  split
  · rw [← Int.neg_mul]; congr 1; omega
  · congr 1; omega
theorem sgn_zero {b : Bool} {n : Nat} (h : ¬ (sgn b n).sign ≠ 0) : n = 0 := by
  have := Int.sign_eq_zero_iff_zero.1 (Classical.not_not.1 h)
  have h2 := sgn_abs b n
  rw [this] at h2; simpa using h2.symm
theorem div_same {w o : Int} (ho : o ≠ 0) (h : ¬ (sgn (decide (w < 0)) (w.natAbs % o.natAbs)).sign ≠ 0 ∨ (decide (w < 0) != decide (o < 0)) = false) :
    sgn (decide (w < 0) != decide (o < 0)) (w.natAbs / o.natAbs) = w.fdiv o ∧ sgn (decide (w < 0)) (w.natAbs % o.natAbs) = w.fmod o := by
  obtain ⟨d1, d2⟩ := div_abs (w := w) ho
  have hz : w.natAbs % o.natAbs = 0 ∨ (decide (w < 0) != decide (o < 0)) = false := h.imp sgn_zero id
  clear h
  generalize w.natAbs / o.natAbs = k at *
  generalize w.natAbs % o.natAbs = r at *
  refine floor_of ho ?_ (fun h0 => ?_) (fun h0 => ?_)
  · rw [abs_mul]
    unfold sgn
    by_cases hw : w < 0 <;> by_cases hoo : o < 0 <;> simp [hw, hoo, Int.mul_neg] <;> generalize (o.natAbs : Int) * (k : Int) = p at * <;> omega
  · unfold sgn
    by_cases hw : w < 0 <;> simp [hw, show ¬ o < 0 by omega] at hz ⊢ <;> omega
  · unfold sgn
    by_cases hw : w < 0 <;> simp [hw, h0] at hz ⊢ <;> omega
theorem div_diff {w o : Int} (ho : o ≠ 0) (h : (sgn (decide (w < 0)) (w.natAbs % o.natAbs)).sign ≠ 0) (h' : (decide (w < 0) != decide (o < 0)) = true) :
    sgn (decide (w < 0) != decide (o < 0)) (w.natAbs / o.natAbs) - 1 = w.fdiv o ∧ sgn (decide (w < 0)) (w.natAbs % o.natAbs) + o = w.fmod o := by
  obtain ⟨d1, d2⟩ := div_abs (w := w) ho
  have hz : w.natAbs % o.natAbs ≠ 0 := fun e => by rw [e] at h; apply h; unfold sgn; split <;> rfl
  clear h
  generalize w.natAbs / o.natAbs = k at *
  generalize w.natAbs % o.natAbs = r at *
  refine floor_of ho ?_ (fun h0 => ?_) (fun h0 => ?_)
  · rw [Int.mul_sub, abs_mul]
    unfold sgn
    by_cases hw : w < 0 <;> by_cases hoo : o < 0 <;> simp [hw, hoo, Int.mul_neg] at h' ⊢ <;> generalize (o.natAbs : Int) * (k : Int) = p at * <;> omega
  · unfold sgn
    by_cases hw : w < 0 <;> simp [hw, show ¬ o < 0 by omega] at h' ⊢ <;> omega
  · unfold sgn
    by_cases hw : w < 0 <;> simp [hw, h0] at h' ⊢ <;> omega

theorem en96 : Enters Tryz.prog 96 := enters_fn Tryz.func96 (by kernel_rfl) rfl

theorem en47 : Enters Tryz.prog 47 := enters_fn Tryz.func47 (by kernel_rfl) rfl

theorem en100 : Enters Tryz.prog 100 := enters_fn Tryz.func100 (by kernel_rfl) rfl

theorem w69 {w o : Int} (hw : (lims w.natAbs).length ≤ 3000000) (ho : (lims o.natAbs).length ≤ 3000000) (ho0 : o ≠ 0) : Spec CC 69 [Ty.of Kd.whole w, Ty.of Kd.whole o] (Ty.tup [Ty.of Kd.whole (w.fdiv o), Ty.of Kd.whole (w.fmod o)]) := by
  refine spec_of_JS Tryz.func69 rfl (Nat.le_of_ble_eq_true rfl) (fun gh0 wd0 => ?_)
  refine JS_seq ?_
  -- region 0
  refine sR ?_
  refine kO (T_box rfl (ol rfl (Ty.le.refl _))) rfl ?_
  refine kO (T_box rfl (ol rfl (Ty.le.refl _))) rfl ?_
  refine kT ?_
  refine JT_alloc (S0 := Seg.cat [Seg.of Kd.bool false, Seg.of (Kd.slice (Kd.int .u32)) []]) rfl rfl rfl rfl z83 h0_83 (fun g4 => ?_)
  refine JT_alloc (S0 := Seg.cat [Seg.of Kd.bool false, Seg.of (Kd.slice (Kd.int .u32)) []]) rfl rfl rfl rfl z83 h0_83 (fun g5 => ?_)
  refine JT_done ?_
  refine JS_seq ?_
  -- region 1
  refine sR ?_
  refine kO (T_fieldAddr rfl fa83_1 (whole_mag _) rfl) rfl ?_
  refine kO (T_ld rfl rfl ti81) rfl ?_
  refine kO (T_fieldAddr rfl fa83_1 (whole_mag _) rfl) rfl ?_
  refine kO (T_ld rfl rfl ti81) rfl ?_
  refine kO (T_callL rfl en96 (w96 (by omega) (by omega) (by omega)) (oa (ol rfl (Ty.le.refl _)) (oa (ol rfl (Ty.le.refl _)) oa0))) rfl ?_
  refine kM rfl rfl ?_
  refine kO (T_extract rfl rfl rfl) rfl ?_
  refine kO (T_extract rfl rfl rfl) rfl ?_
  refine kA rfl rfl ?_
  refine kA rfl rfl ?_
  refine kE ?_
  refine JS_seq ?_
  -- region 2
  refine JS_ex (s := 6) rfl (fun ql hq => ?_)
  refine JS_ex (s := 7) rfl (fun rl hr => ?_)
  refine JS_drawT [11, 12, 13, 14] (fun (Δ0 : List Res) (sd : List Nat) (Γd : Env) (Δ1 : List Res) => (sd = [] ∧ Γd = [] ∧ Δ1 = Δ0) ∨ (∃ (g8 : Nat), sd = [11] ∧ Γd = [(8, Ty.val (ptr g8 0))] ∧ Δ1 = Res.box g8 83 (Seg.cat [Seg.of Kd.bool false, Seg.of (Kd.slice (Kd.int .u32)) []]) :: Δ0) ∨ (∃ (g9 : Nat), sd = [12] ∧ Γd = [(9, Ty.val (ptr g9 0))] ∧ Δ1 = Res.box g9 83 (Seg.cat [Seg.of Kd.bool false, Seg.of (Kd.slice (Kd.int .u32)) []]) :: Δ0) ∨ (∃ (g8 : Nat), ∃ (g9 : Nat), sd = [12, 11] ∧ Γd = [(9, Ty.val (ptr g9 0)), (8, Ty.val (ptr g8 0))] ∧ Δ1 = Res.box g9 83 (Seg.cat [Seg.of Kd.bool false, Seg.of (Kd.slice (Kd.int .u32)) []]) :: Res.box g8 83 (Seg.cat [Seg.of Kd.bool false, Seg.of (Kd.slice (Kd.int .u32)) []]) :: Δ0) ∨ (∃ (g8 : Nat), ∃ (g9 : Nat), sd = [11, 12] ∧ Γd = [(8, Ty.val (ptr g8 0)), (9, Ty.val (ptr g9 0))] ∧ Δ1 = Res.box g8 83 (Seg.cat [Seg.of Kd.bool false, Seg.of (Kd.slice (Kd.int .u32)) []]) :: Res.box g9 83 (Seg.cat [Seg.of Kd.bool false, Seg.of (Kd.slice (Kd.int .u32)) []]) :: Δ0) ∨ (∃ (g8 : Nat), ∃ (g9 : Nat), sd = [13, 12, 11] ∧ Γd = [(9, Ty.val (ptr g9 0)), (8, Ty.val (ptr g8 0))] ∧ Δ1 = Res.box g9 83 (Seg.cat [Seg.of Kd.bool false, Seg.of (Kd.slice (Kd.int .u32)) []]) :: Res.box g8 83 (Seg.of Kd.whole (sgn (decide (w < 0) != decide (o < 0)) (w.natAbs / o.natAbs))) :: Δ0) ∨ (∃ (g8 : Nat), ∃ (g9 : Nat), sd = [13, 11, 12] ∧ Γd = [(8, Ty.val (ptr g8 0)), (9, Ty.val (ptr g9 0))] ∧ Δ1 = Res.box g8 83 (Seg.of Kd.whole (sgn (decide (w < 0) != decide (o < 0)) (w.natAbs / o.natAbs))) :: Res.box g9 83 (Seg.cat [Seg.of Kd.bool false, Seg.of (Kd.slice (Kd.int .u32)) []]) :: Δ0) ∨ (∃ (g8 : Nat), ∃ (g9 : Nat), sd = [14, 13, 12, 11] ∧ Γd = [(9, Ty.val (ptr g9 0)), (8, Ty.val (ptr g8 0))] ∧ Δ1 = Res.box g9 83 (Seg.of Kd.whole (sgn (decide (w < 0)) (w.natAbs % o.natAbs))) :: Res.box g8 83 (Seg.of Kd.whole (sgn (decide (w < 0) != decide (o < 0)) (w.natAbs / o.natAbs))) :: Δ0) ∨ (∃ (g8 : Nat), ∃ (g9 : Nat), sd = [14, 13, 11, 12] ∧ Γd = [(8, Ty.val (ptr g8 0)), (9, Ty.val (ptr g9 0))] ∧ Δ1 = Res.box g8 83 (Seg.of Kd.whole (sgn (decide (w < 0) != decide (o < 0)) (w.natAbs / o.natAbs))) :: Res.box g9 83 (Seg.of Kd.whole (sgn (decide (w < 0)) (w.natAbs % o.natAbs))) :: Δ0)) (fun i => if i = 11 then [] else if i = 12 then [] else if i = 13 then [24] else if i = 14 then [28] else []) mixed (by decide) (by decide) (.inl ⟨rfl, rfl, rfl⟩) (fun sd Γd Δ1 hs => by rcases hs with ⟨rfl, rfl, rfl⟩ | ⟨g8, rfl, rfl, rfl⟩ | ⟨g9, rfl, rfl, rfl⟩ | ⟨g8, g9, rfl, rfl, rfl⟩ | ⟨g8, g9, rfl, rfl, rfl⟩ | ⟨g8, g9, rfl, rfl, rfl⟩ | ⟨g8, g9, rfl, rfl, rfl⟩ | ⟨g8, g9, rfl, rfl, rfl⟩ | ⟨g8, g9, rfl, rfl, rfl⟩ <;> rfl) ?_
  refine dOpA (fun _ => T_fieldAddr rfl fa83_0 (whole_neg _) rfl) rfl rfl rfl ?_
  refine dOpA (fun _ => T_load_bool rfl ti4 rfl) rfl rfl rfl ?_
  refine dOpA (fun _ => T_fieldAddr rfl fa83_0 (whole_neg _) rfl) rfl rfl rfl ?_
  refine dOpA (fun _ => T_load_bool rfl ti4 rfl) rfl rfl rfl ?_
  refine dOpA (fun _ => T_bool_ne rfl u4 rfl rfl) rfl rfl rfl ?_
  refine dOpA (fun _ => T_move (.inl rfl) rfl) rfl rfl rfl ?_
  refine dOpA (fun _ => T_callL rfl en97 (w97 hq.1 hq.2) (oa (ol rfl (Ty.le.refl _)) (oa (ol rfl (Ty.le.refl _)) oa0))) rfl rfl rfl ?_
  refine dOpA (fun _ => T_fieldAddr rfl fa83_0 (whole_neg _) rfl) rfl rfl rfl ?_
  refine dOpA (fun _ => T_load_bool rfl ti4 rfl) rfl rfl rfl ?_
  refine dOpA (fun _ => T_move (.inl rfl) rfl) rfl rfl rfl ?_
  refine dOpA (fun _ => T_callL rfl en97 (w97 hr.1 hr.2) (oa (ol rfl (Ty.le.refl _)) (oa (ol rfl (Ty.le.refl _)) oa0))) rfl rfl rfl ?_
  refine dDyn rfl ?_
  refine dDyn rfl ?_
  refine dDyn rfl ?_
  refine dDyn rfl ?_
  refine dEnd ⟨?_, ?_⟩
  · intro Q1 cs1 i o sd Γd Δ1 Γx hi ho hn hb hinv hk
    simp only [List.mem_cons, List.not_mem_nil, or_false] at hi
    rcases hi with rfl | rfl | rfl | rfl
    · obtain rfl := Option.some.inj ho
      rcases hinv with ⟨rfl, rfl, rfl⟩ | ⟨g8, rfl, rfl, rfl⟩ | ⟨g9, rfl, rfl, rfl⟩ | ⟨g8, g9, rfl, rfl, rfl⟩ | ⟨g8, g9, rfl, rfl, rfl⟩ | ⟨g8, g9, rfl, rfl, rfl⟩ | ⟨g8, g9, rfl, rfl, rfl⟩ | ⟨g8, g9, rfl, rfl, rfl⟩ | ⟨g8, g9, rfl, rfl, rfl⟩
      · refine JT_alloc (S0 := Seg.cat [Seg.of Kd.bool false, Seg.of (Kd.slice (Kd.int .u32)) []]) rfl rfl rfl rfl z83 h0_83 (fun g8 => ?_)
        exact JT_done (hk [(8, _)] _ (.inr (.inl ⟨g8, rfl, rfl, rfl⟩)))
      · exact absurd (by simp) hn
      · refine JT_alloc (S0 := Seg.cat [Seg.of Kd.bool false, Seg.of (Kd.slice (Kd.int .u32)) []]) rfl rfl rfl rfl z83 h0_83 (fun g8 => ?_)
        exact JT_done (hk [(8, _), (9, _)] _ (.inr (.inr (.inr (.inr (.inl ⟨g8, g9, rfl, rfl, rfl⟩))))))
      · exact absurd (by simp) hn
      · exact absurd (by simp) hn
      · exact absurd (by simp) hn
      · exact absurd (by simp) hn
      · exact absurd (by simp) hn
      · exact absurd (by simp) hn
    · obtain rfl := Option.some.inj ho
      rcases hinv with ⟨rfl, rfl, rfl⟩ | ⟨g8, rfl, rfl, rfl⟩ | ⟨g9, rfl, rfl, rfl⟩ | ⟨g8, g9, rfl, rfl, rfl⟩ | ⟨g8, g9, rfl, rfl, rfl⟩ | ⟨g8, g9, rfl, rfl, rfl⟩ | ⟨g8, g9, rfl, rfl, rfl⟩ | ⟨g8, g9, rfl, rfl, rfl⟩ | ⟨g8, g9, rfl, rfl, rfl⟩
      · refine JT_alloc (S0 := Seg.cat [Seg.of Kd.bool false, Seg.of (Kd.slice (Kd.int .u32)) []]) rfl rfl rfl rfl z83 h0_83 (fun g9 => ?_)
        exact JT_done (hk [(9, _)] _ (.inr (.inr (.inl ⟨g9, rfl, rfl, rfl⟩))))
      · refine JT_alloc (S0 := Seg.cat [Seg.of Kd.bool false, Seg.of (Kd.slice (Kd.int .u32)) []]) rfl rfl rfl rfl z83 h0_83 (fun g9 => ?_)
        exact JT_done (hk [(9, _), (8, _)] _ (.inr (.inr (.inr (.inl ⟨g8, g9, rfl, rfl, rfl⟩)))))
      · exact absurd (by simp) hn
      · exact absurd (by simp) hn
      · exact absurd (by simp) hn
      · exact absurd (by simp) hn
      · exact absurd (by simp) hn
      · exact absurd (by simp) hn
      · exact absurd (by simp) hn
    · obtain rfl := Option.some.inj ho
      rcases hinv with ⟨rfl, rfl, rfl⟩ | ⟨g8, rfl, rfl, rfl⟩ | ⟨g9, rfl, rfl, rfl⟩ | ⟨g8, g9, rfl, rfl, rfl⟩ | ⟨g8, g9, rfl, rfl, rfl⟩ | ⟨g8, g9, rfl, rfl, rfl⟩ | ⟨g8, g9, rfl, rfl, rfl⟩ | ⟨g8, g9, rfl, rfl, rfl⟩ | ⟨g8, g9, rfl, rfl, rfl⟩
      · exact absurd (hb 11 rfl (by decide)) (by simp)
      · exact absurd (hb 12 rfl (by decide)) (by simp)
      · exact absurd (hb 11 rfl (by decide)) (by simp)
      · refine JT_store (i := 1) rfl rfl rfl rfl rfl (ol rfl (Ty.le.refl _)) (Upd.self _ _ rfl) sz83 ?_
        exact JT_done (hk [(9, _), (8, _)] _ (.inr (.inr (.inr (.inr (.inr (.inl ⟨g8, g9, rfl, rfl, rfl⟩)))))))
      · refine JT_store (i := 0) rfl rfl rfl rfl rfl (ol rfl (Ty.le.refl _)) (Upd.self _ _ rfl) sz83 ?_
        exact JT_done (hk [(8, _), (9, _)] _ (.inr (.inr (.inr (.inr (.inr (.inr (.inl ⟨g8, g9, rfl, rfl, rfl⟩))))))))
      · exact absurd (by simp) hn
      · exact absurd (by simp) hn
      · exact absurd (by simp) hn
      · exact absurd (by simp) hn
    · obtain rfl := Option.some.inj ho
      rcases hinv with ⟨rfl, rfl, rfl⟩ | ⟨g8, rfl, rfl, rfl⟩ | ⟨g9, rfl, rfl, rfl⟩ | ⟨g8, g9, rfl, rfl, rfl⟩ | ⟨g8, g9, rfl, rfl, rfl⟩ | ⟨g8, g9, rfl, rfl, rfl⟩ | ⟨g8, g9, rfl, rfl, rfl⟩ | ⟨g8, g9, rfl, rfl, rfl⟩ | ⟨g8, g9, rfl, rfl, rfl⟩
      · exact absurd (hb 11 rfl (by decide)) (by simp)
      · exact absurd (hb 12 rfl (by decide)) (by simp)
      · exact absurd (hb 11 rfl (by decide)) (by simp)
      · exact absurd (hb 13 rfl (by decide)) (by simp)
      · exact absurd (hb 13 rfl (by decide)) (by simp)
      · refine JT_store (i := 0) rfl rfl rfl rfl rfl (ol rfl (Ty.le.refl _)) (Upd.self _ _ rfl) sz83 ?_
        exact JT_done (hk [(9, _), (8, _)] _ (.inr (.inr (.inr (.inr (.inr (.inr (.inr (.inl ⟨g8, g9, rfl, rfl, rfl⟩)))))))))
      · refine JT_store (i := 1) rfl rfl rfl rfl rfl (ol rfl (Ty.le.refl _)) (Upd.self _ _ rfl) sz83 ?_
        exact JT_done (hk [(8, _), (9, _)] _ (.inr (.inr (.inr (.inr (.inr (.inr (.inr (.inr ⟨g8, g9, rfl, rfl, rfl⟩)))))))))
      · exact absurd (by simp) hn
      · exact absurd (by simp) hn
  · intro sd Γd Δ1 hinv hall
    rcases hinv with ⟨rfl, rfl, rfl⟩ | ⟨g8, rfl, rfl, rfl⟩ | ⟨g9, rfl, rfl, rfl⟩ | ⟨g8, g9, rfl, rfl, rfl⟩ | ⟨g8, g9, rfl, rfl, rfl⟩ | ⟨g8, g9, rfl, rfl, rfl⟩ | ⟨g8, g9, rfl, rfl, rfl⟩ | ⟨g8, g9, rfl, rfl, rfl⟩ | ⟨g8, g9, rfl, rfl, rfl⟩
    · exact absurd (hall 11 (by decide) rfl) (by simp)
    · exact absurd (hall 12 (by decide) rfl) (by simp)
    · exact absurd (hall 11 (by decide) rfl) (by simp)
    · exact absurd (hall 13 (by decide) rfl) (by simp)
    · exact absurd (hall 13 (by decide) rfl) (by simp)
    · exact absurd (hall 14 (by decide) rfl) (by simp)
    · exact absurd (hall 14 (by decide) rfl) (by simp)
    · refine JS_seq ?_
      refine JS_seq ?_
      -- region 3
      have hQl : (lims (sgn (decide (w < 0) != decide (o < 0)) (w.natAbs / o.natAbs)).natAbs).length ≤ 4000000 := by rw [sgn_abs]; exact Nat.le_trans (lims_len_le (Nat.div_le_self _ _)) (by omega)
      have hRl : (lims (sgn (decide (w < 0)) (w.natAbs % o.natAbs)).natAbs).length ≤ 4000000 := by rw [sgn_abs]; exact Nat.le_trans (lims_len_le (Nat.mod_le _ _)) (by omega)
      have h1l : (lims (1 : Int).natAbs).length ≤ 4000000 := Nat.le_trans (lims_len_of_lt (k := 1) (by decide)) (by decide)
      refine sR ?_
      refine kO (T_load_own (i := 0) rfl rfl rfl (Sub.self _) ti83) rfl ?_
      refine kO (T_callL rfl en99 (w99 ) (oa (ol rfl (Ty.le.refl _)) oa0)) rfl ?_
      refine kO (T_ne rfl rfl rfl) rfl ?_
      refine kM rfl rfl ?_
      refine tk_if (d := 32) rfl (fun g32 => ?_) (fun g32 => ?_)
      · refine kG (wTD g32 rfl rfl rfl) (T_fieldAddr rfl fa83_0 (whole_neg _) rfl) rfl ?_
        refine kG (wTD g32 rfl rfl rfl) (T_load_bool rfl ti4 rfl) rfl ?_
        refine kG (wTD g32 rfl rfl rfl) (T_fieldAddr rfl fa83_0 (whole_neg _) rfl) rfl ?_
        refine kG (wTD g32 rfl rfl rfl) (T_load_bool rfl ti4 rfl) rfl ?_
        refine kG (wTD g32 rfl rfl rfl) (T_bool_ne rfl u4 rfl rfl) rfl ?_
        refine kO (T_pickD g32 rfl rfl rfl) rfl ?_
        refine kE ?_
        refine JS_cond rfl (fun c38 => ?_) (fun c38 => ?_)
        · have hF := div_diff ho0 g32 c38
          -- region 4
          refine sRD mixed ?_
          refine kO (T_load_own (i := 1) rfl rfl rfl (Sub.self _) ti83) rfl ?_
          refine kO (T_callL rfl en47 (w47 (by omega) (by omega)) (oa (ol rfl (Ty.le.refl _)) oa0)) rfl ?_
          refine kO (T_callL rfl en100 (w100 hQl h1l) (oa (ol rfl (Ty.le.refl _)) (oa (ol rfl (Ty.le.refl _)) oa0))) rfl ?_
          refine kO (T_load_own (i := 0) rfl rfl rfl (Sub.self _) ti83) rfl ?_
          refine kO (T_ld rfl rfl ti83) rfl ?_
          refine kO (T_callL rfl en79 (w79 hRl (by omega)) (oa (ol rfl (Ty.le.refl _)) (oa (ol rfl (Ty.le.refl _)) oa0))) rfl ?_
          refine kTD (by decide) ?_
          refine JT_store (i := 1) rfl rfl rfl rfl rfl (ol rfl (Ty.le.refl _)) (Upd.self _ _ rfl) sz83 ?_
          refine JT_store (i := 0) rfl rfl rfl rfl rfl (ol rfl (Ty.le.refl _)) (Upd.self _ _ rfl) sz83 ?_
          refine JT_done ?_
          refine JS_seq ?_
          -- region 5
          refine JS_eqD (Δ' := [Res.box g9 83 (Seg.of Kd.whole (w.fmod o)), Res.box g8 83 (Seg.of Kd.whole (w.fdiv o)), Res.box g5 83 (Seg.cat [Seg.of Kd.bool false, Seg.of (Kd.slice (Kd.int .u32)) []]), Res.box g4 83 (Seg.cat [Seg.of Kd.bool false, Seg.of (Kd.slice (Kd.int .u32)) []])]) (by rw [← hF.1, ← hF.2] <;> rfl) ?_
          refine JS_drawT [2, 3] (fun (Δ0 : List Res) (sd : List Nat) (Γd : Env) (Δ1 : List Res) => (sd = [] ∧ Γd = [] ∧ Δ1 = Δ0) ∨ (sd = [2] ∧ Γd = [] ∧ Δ1 = Δ0.set 3 (Res.box g4 83 (Seg.of Kd.whole (w.fdiv o)))) ∨ (sd = [3, 2] ∧ Γd = [] ∧ Δ1 = (Δ0.set 3 (Res.box g4 83 (Seg.of Kd.whole (w.fdiv o)))).set 2 (Res.box g5 83 (Seg.of Kd.whole (w.fmod o))))) (fun i => if i = 2 then [4, 45] else if i = 3 then [5, 46] else []) mixed (by decide) (by decide) (.inl ⟨rfl, rfl, rfl⟩) (fun sd Γd Δ1 hs => by rcases hs with ⟨rfl, rfl, rfl⟩ | ⟨rfl, rfl, rfl⟩ | ⟨rfl, rfl, rfl⟩ <;> rfl) ?_
          refine dOp (T := Ty.of Kd.whole (w.fdiv o)) (fun sd Γd Δ1 hs => by rcases hs with ⟨rfl, rfl, rfl⟩ | ⟨rfl, rfl, rfl⟩ | ⟨rfl, rfl, rfl⟩ <;> exact (T_load_own (i := 1) rfl rfl rfl (Sub.self _) ti83)) rfl rfl rfl ?_
          refine dOp (T := Ty.of Kd.whole (w.fmod o)) (fun sd Γd Δ1 hs => by rcases hs with ⟨rfl, rfl, rfl⟩ | ⟨rfl, rfl, rfl⟩ | ⟨rfl, rfl, rfl⟩ <;> exact (T_load_own (i := 0) rfl rfl rfl (Sub.self _) ti83)) rfl rfl rfl ?_
          refine dDyn rfl ?_
          refine dDyn rfl ?_
          refine dEnd ⟨?_, ?_⟩
          · intro Q1 cs1 i o sd Γd Δ1 Γx hi ho hn hb hinv hk
            simp only [List.mem_cons, List.not_mem_nil, or_false] at hi
            rcases hi with rfl | rfl
            · obtain rfl := Option.some.inj ho
              rcases hinv with ⟨rfl, rfl, rfl⟩ | ⟨rfl, rfl, rfl⟩ | ⟨rfl, rfl, rfl⟩
              · refine JT_store (i := 3) rfl rfl rfl rfl rfl (ol rfl (Ty.le.refl _)) (Upd.self _ _ rfl) sz83 ?_
                exact JT_done (hk [] _ (.inr (.inl ⟨rfl, rfl, rfl⟩)))
              · exact absurd (by simp) hn
              · exact absurd (by simp) hn
            · obtain rfl := Option.some.inj ho
              rcases hinv with ⟨rfl, rfl, rfl⟩ | ⟨rfl, rfl, rfl⟩ | ⟨rfl, rfl, rfl⟩
              · exact absurd (hb 2 rfl (by decide)) (by simp)
              · refine JT_store (i := 2) rfl rfl rfl rfl rfl (ol rfl (Ty.le.refl _)) (Upd.self _ _ rfl) sz83 ?_
                exact JT_done (hk [] _ (.inr (.inr ⟨rfl, rfl, rfl⟩)))
              · exact absurd (by simp) hn
          · intro sd Γd Δ1 hinv hall
            rcases hinv with ⟨rfl, rfl, rfl⟩ | ⟨rfl, rfl, rfl⟩ | ⟨rfl, rfl, rfl⟩
            · exact absurd (hall 2 (by decide) rfl) (by simp)
            · exact absurd (hall 3 (by decide) rfl) (by simp)
            · exact JS_ret (JE_ret_many rfl (by decide) (.le (.cell (i := 3) rfl rfl ti83 (.le (.cell (i := 2) rfl rfl ti83 .nil) (of_eq (rfl)))) (of_eq (rfl))))
        · have hF := div_same ho0 (.inr c38)
          refine JS_skip ?_
          refine JS_seq ?_
          -- region 5
          refine JS_eqD (Δ' := [Res.box g9 83 (Seg.of Kd.whole (w.fmod o)), Res.box g8 83 (Seg.of Kd.whole (w.fdiv o)), Res.box g5 83 (Seg.cat [Seg.of Kd.bool false, Seg.of (Kd.slice (Kd.int .u32)) []]), Res.box g4 83 (Seg.cat [Seg.of Kd.bool false, Seg.of (Kd.slice (Kd.int .u32)) []])]) (by rw [← hF.1, ← hF.2] <;> rfl) ?_
          refine JS_drawT [2, 3] (fun (Δ0 : List Res) (sd : List Nat) (Γd : Env) (Δ1 : List Res) => (sd = [] ∧ Γd = [] ∧ Δ1 = Δ0) ∨ (sd = [2] ∧ Γd = [] ∧ Δ1 = Δ0.set 3 (Res.box g4 83 (Seg.of Kd.whole (w.fdiv o)))) ∨ (sd = [3, 2] ∧ Γd = [] ∧ Δ1 = (Δ0.set 3 (Res.box g4 83 (Seg.of Kd.whole (w.fdiv o)))).set 2 (Res.box g5 83 (Seg.of Kd.whole (w.fmod o))))) (fun i => if i = 2 then [4, 45] else if i = 3 then [5, 46] else []) mixed (by decide) (by decide) (.inl ⟨rfl, rfl, rfl⟩) (fun sd Γd Δ1 hs => by rcases hs with ⟨rfl, rfl, rfl⟩ | ⟨rfl, rfl, rfl⟩ | ⟨rfl, rfl, rfl⟩ <;> rfl) ?_
          refine dOp (T := Ty.of Kd.whole (w.fdiv o)) (fun sd Γd Δ1 hs => by rcases hs with ⟨rfl, rfl, rfl⟩ | ⟨rfl, rfl, rfl⟩ | ⟨rfl, rfl, rfl⟩ <;> exact (T_load_own (i := 1) rfl rfl rfl (Sub.self _) ti83)) rfl rfl rfl ?_
          refine dOp (T := Ty.of Kd.whole (w.fmod o)) (fun sd Γd Δ1 hs => by rcases hs with ⟨rfl, rfl, rfl⟩ | ⟨rfl, rfl, rfl⟩ | ⟨rfl, rfl, rfl⟩ <;> exact (T_load_own (i := 0) rfl rfl rfl (Sub.self _) ti83)) rfl rfl rfl ?_
          refine dDyn rfl ?_
          refine dDyn rfl ?_
          refine dEnd ⟨?_, ?_⟩
          · intro Q1 cs1 i o sd Γd Δ1 Γx hi ho hn hb hinv hk
            simp only [List.mem_cons, List.not_mem_nil, or_false] at hi
            rcases hi with rfl | rfl
            · obtain rfl := Option.some.inj ho
              rcases hinv with ⟨rfl, rfl, rfl⟩ | ⟨rfl, rfl, rfl⟩ | ⟨rfl, rfl, rfl⟩
              · refine JT_store (i := 3) rfl rfl rfl rfl rfl (ol rfl (Ty.le.refl _)) (Upd.self _ _ rfl) sz83 ?_
                exact JT_done (hk [] _ (.inr (.inl ⟨rfl, rfl, rfl⟩)))
              · exact absurd (by simp) hn
              · exact absurd (by simp) hn
            · obtain rfl := Option.some.inj ho
              rcases hinv with ⟨rfl, rfl, rfl⟩ | ⟨rfl, rfl, rfl⟩ | ⟨rfl, rfl, rfl⟩
              · exact absurd (hb 2 rfl (by decide)) (by simp)
              · refine JT_store (i := 2) rfl rfl rfl rfl rfl (ol rfl (Ty.le.refl _)) (Upd.self _ _ rfl) sz83 ?_
                exact JT_done (hk [] _ (.inr (.inr ⟨rfl, rfl, rfl⟩)))
              · exact absurd (by simp) hn
          · intro sd Γd Δ1 hinv hall
            rcases hinv with ⟨rfl, rfl, rfl⟩ | ⟨rfl, rfl, rfl⟩ | ⟨rfl, rfl, rfl⟩
            · exact absurd (hall 2 (by decide) rfl) (by simp)
            · exact absurd (hall 3 (by decide) rfl) (by simp)
            · exact JS_ret (JE_ret_many rfl (by decide) (.le (.cell (i := 3) rfl rfl ti83 (.le (.cell (i := 2) rfl rfl ti83 .nil) (of_eq (rfl)))) (of_eq (rfl))))
      · have hF := div_same ho0 (.inl g32)
        refine kS (uFD g32 rfl rfl rfl) rfl ?_
        refine kS (uFD g32 rfl rfl rfl) rfl ?_
        refine kS (uFD g32 rfl rfl rfl) rfl ?_
        refine kS (uFD g32 rfl rfl rfl) rfl ?_
        refine kS (uFD g32 rfl rfl rfl) rfl ?_
        refine kO (T_pickN g32 rfl rfl rfl) rfl ?_
        refine kE ?_
        refine JS_cf rfl ?_
        refine JS_skip ?_
        refine JS_seq ?_
        -- region 5
        refine JS_eqD (Δ' := [Res.box g9 83 (Seg.of Kd.whole (w.fmod o)), Res.box g8 83 (Seg.of Kd.whole (w.fdiv o)), Res.box g5 83 (Seg.cat [Seg.of Kd.bool false, Seg.of (Kd.slice (Kd.int .u32)) []]), Res.box g4 83 (Seg.cat [Seg.of Kd.bool false, Seg.of (Kd.slice (Kd.int .u32)) []])]) (by rw [← hF.1, ← hF.2] <;> rfl) ?_
        refine JS_drawT [2, 3] (fun (Δ0 : List Res) (sd : List Nat) (Γd : Env) (Δ1 : List Res) => (sd = [] ∧ Γd = [] ∧ Δ1 = Δ0) ∨ (sd = [2] ∧ Γd = [] ∧ Δ1 = Δ0.set 3 (Res.box g4 83 (Seg.of Kd.whole (w.fdiv o)))) ∨ (sd = [3, 2] ∧ Γd = [] ∧ Δ1 = (Δ0.set 3 (Res.box g4 83 (Seg.of Kd.whole (w.fdiv o)))).set 2 (Res.box g5 83 (Seg.of Kd.whole (w.fmod o))))) (fun i => if i = 2 then [4, 45] else if i = 3 then [5, 46] else []) mixed (by decide) (by decide) (.inl ⟨rfl, rfl, rfl⟩) (fun sd Γd Δ1 hs => by rcases hs with ⟨rfl, rfl, rfl⟩ | ⟨rfl, rfl, rfl⟩ | ⟨rfl, rfl, rfl⟩ <;> rfl) ?_
        refine dOp (T := Ty.of Kd.whole (w.fdiv o)) (fun sd Γd Δ1 hs => by rcases hs with ⟨rfl, rfl, rfl⟩ | ⟨rfl, rfl, rfl⟩ | ⟨rfl, rfl, rfl⟩ <;> exact (T_load_own (i := 1) rfl rfl rfl (Sub.self _) ti83)) rfl rfl rfl ?_
        refine dOp (T := Ty.of Kd.whole (w.fmod o)) (fun sd Γd Δ1 hs => by rcases hs with ⟨rfl, rfl, rfl⟩ | ⟨rfl, rfl, rfl⟩ | ⟨rfl, rfl, rfl⟩ <;> exact (T_load_own (i := 0) rfl rfl rfl (Sub.self _) ti83)) rfl rfl rfl ?_
        refine dDyn rfl ?_
        refine dDyn rfl ?_
        refine dEnd ⟨?_, ?_⟩
        · intro Q1 cs1 i o sd Γd Δ1 Γx hi ho hn hb hinv hk
          simp only [List.mem_cons, List.not_mem_nil, or_false] at hi
          rcases hi with rfl | rfl
          · obtain rfl := Option.some.inj ho
            rcases hinv with ⟨rfl, rfl, rfl⟩ | ⟨rfl, rfl, rfl⟩ | ⟨rfl, rfl, rfl⟩
            · refine JT_store (i := 3) rfl rfl rfl rfl rfl (ol rfl (Ty.le.refl _)) (Upd.self _ _ rfl) sz83 ?_
              exact JT_done (hk [] _ (.inr (.inl ⟨rfl, rfl, rfl⟩)))
            · exact absurd (by simp) hn
            · exact absurd (by simp) hn
          · obtain rfl := Option.some.inj ho
            rcases hinv with ⟨rfl, rfl, rfl⟩ | ⟨rfl, rfl, rfl⟩ | ⟨rfl, rfl, rfl⟩
            · exact absurd (hb 2 rfl (by decide)) (by simp)
            · refine JT_store (i := 2) rfl rfl rfl rfl rfl (ol rfl (Ty.le.refl _)) (Upd.self _ _ rfl) sz83 ?_
              exact JT_done (hk [] _ (.inr (.inr ⟨rfl, rfl, rfl⟩)))
            · exact absurd (by simp) hn
        · intro sd Γd Δ1 hinv hall
          rcases hinv with ⟨rfl, rfl, rfl⟩ | ⟨rfl, rfl, rfl⟩ | ⟨rfl, rfl, rfl⟩
          · exact absurd (hall 2 (by decide) rfl) (by simp)
          · exact absurd (hall 3 (by decide) rfl) (by simp)
          · exact JS_ret (JE_ret_many rfl (by decide) (.le (.cell (i := 3) rfl rfl ti83 (.le (.cell (i := 2) rfl rfl ti83 .nil) (of_eq (rfl)))) (of_eq (rfl))))
    · refine JS_seq ?_
      refine JS_seq ?_
      -- region 3
      have hQl : (lims (sgn (decide (w < 0) != decide (o < 0)) (w.natAbs / o.natAbs)).natAbs).length ≤ 4000000 := by rw [sgn_abs]; exact Nat.le_trans (lims_len_le (Nat.div_le_self _ _)) (by omega)
      have hRl : (lims (sgn (decide (w < 0)) (w.natAbs % o.natAbs)).natAbs).length ≤ 4000000 := by rw [sgn_abs]; exact Nat.le_trans (lims_len_le (Nat.mod_le _ _)) (by omega)
      have h1l : (lims (1 : Int).natAbs).length ≤ 4000000 := Nat.le_trans (lims_len_of_lt (k := 1) (by decide)) (by decide)
      refine sR ?_
      refine kO (T_load_own (i := 1) rfl rfl rfl (Sub.self _) ti83) rfl ?_
      refine kO (T_callL rfl en99 (w99 ) (oa (ol rfl (Ty.le.refl _)) oa0)) rfl ?_
      refine kO (T_ne rfl rfl rfl) rfl ?_
      refine kM rfl rfl ?_
      refine tk_if (d := 32) rfl (fun g32 => ?_) (fun g32 => ?_)
      · refine kG (wTD g32 rfl rfl rfl) (T_fieldAddr rfl fa83_0 (whole_neg _) rfl) rfl ?_
        refine kG (wTD g32 rfl rfl rfl) (T_load_bool rfl ti4 rfl) rfl ?_
        refine kG (wTD g32 rfl rfl rfl) (T_fieldAddr rfl fa83_0 (whole_neg _) rfl) rfl ?_
        refine kG (wTD g32 rfl rfl rfl) (T_load_bool rfl ti4 rfl) rfl ?_
        refine kG (wTD g32 rfl rfl rfl) (T_bool_ne rfl u4 rfl rfl) rfl ?_
        refine kO (T_pickD g32 rfl rfl rfl) rfl ?_
        refine kE ?_
        refine JS_cond rfl (fun c38 => ?_) (fun c38 => ?_)
        · have hF := div_diff ho0 g32 c38
          -- region 4
          refine sRD mixed ?_
          refine kO (T_load_own (i := 0) rfl rfl rfl (Sub.self _) ti83) rfl ?_
          refine kO (T_callL rfl en47 (w47 (by omega) (by omega)) (oa (ol rfl (Ty.le.refl _)) oa0)) rfl ?_
          refine kO (T_callL rfl en100 (w100 hQl h1l) (oa (ol rfl (Ty.le.refl _)) (oa (ol rfl (Ty.le.refl _)) oa0))) rfl ?_
          refine kO (T_load_own (i := 1) rfl rfl rfl (Sub.self _) ti83) rfl ?_
          refine kO (T_ld rfl rfl ti83) rfl ?_
          refine kO (T_callL rfl en79 (w79 hRl (by omega)) (oa (ol rfl (Ty.le.refl _)) (oa (ol rfl (Ty.le.refl _)) oa0))) rfl ?_
          refine kTD (by decide) ?_
          refine JT_store (i := 0) rfl rfl rfl rfl rfl (ol rfl (Ty.le.refl _)) (Upd.self _ _ rfl) sz83 ?_
          refine JT_store (i := 1) rfl rfl rfl rfl rfl (ol rfl (Ty.le.refl _)) (Upd.self _ _ rfl) sz83 ?_
          refine JT_done ?_
          refine JS_seq ?_
          -- region 5
          refine JS_eqD (Δ' := [Res.box g8 83 (Seg.of Kd.whole (w.fdiv o)), Res.box g9 83 (Seg.of Kd.whole (w.fmod o)), Res.box g5 83 (Seg.cat [Seg.of Kd.bool false, Seg.of (Kd.slice (Kd.int .u32)) []]), Res.box g4 83 (Seg.cat [Seg.of Kd.bool false, Seg.of (Kd.slice (Kd.int .u32)) []])]) (by rw [← hF.1, ← hF.2] <;> rfl) ?_
          refine JS_drawT [2, 3] (fun (Δ0 : List Res) (sd : List Nat) (Γd : Env) (Δ1 : List Res) => (sd = [] ∧ Γd = [] ∧ Δ1 = Δ0) ∨ (sd = [2] ∧ Γd = [] ∧ Δ1 = Δ0.set 3 (Res.box g4 83 (Seg.of Kd.whole (w.fdiv o)))) ∨ (sd = [3, 2] ∧ Γd = [] ∧ Δ1 = (Δ0.set 3 (Res.box g4 83 (Seg.of Kd.whole (w.fdiv o)))).set 2 (Res.box g5 83 (Seg.of Kd.whole (w.fmod o))))) (fun i => if i = 2 then [4, 45] else if i = 3 then [5, 46] else []) mixed (by decide) (by decide) (.inl ⟨rfl, rfl, rfl⟩) (fun sd Γd Δ1 hs => by rcases hs with ⟨rfl, rfl, rfl⟩ | ⟨rfl, rfl, rfl⟩ | ⟨rfl, rfl, rfl⟩ <;> rfl) ?_
          refine dOp (T := Ty.of Kd.whole (w.fdiv o)) (fun sd Γd Δ1 hs => by rcases hs with ⟨rfl, rfl, rfl⟩ | ⟨rfl, rfl, rfl⟩ | ⟨rfl, rfl, rfl⟩ <;> exact (T_load_own (i := 0) rfl rfl rfl (Sub.self _) ti83)) rfl rfl rfl ?_
          refine dOp (T := Ty.of Kd.whole (w.fmod o)) (fun sd Γd Δ1 hs => by rcases hs with ⟨rfl, rfl, rfl⟩ | ⟨rfl, rfl, rfl⟩ | ⟨rfl, rfl, rfl⟩ <;> exact (T_load_own (i := 1) rfl rfl rfl (Sub.self _) ti83)) rfl rfl rfl ?_
          refine dDyn rfl ?_
          refine dDyn rfl ?_
          refine dEnd ⟨?_, ?_⟩
          · intro Q1 cs1 i o sd Γd Δ1 Γx hi ho hn hb hinv hk
            simp only [List.mem_cons, List.not_mem_nil, or_false] at hi
            rcases hi with rfl | rfl
            · obtain rfl := Option.some.inj ho
              rcases hinv with ⟨rfl, rfl, rfl⟩ | ⟨rfl, rfl, rfl⟩ | ⟨rfl, rfl, rfl⟩
              · refine JT_store (i := 3) rfl rfl rfl rfl rfl (ol rfl (Ty.le.refl _)) (Upd.self _ _ rfl) sz83 ?_
                exact JT_done (hk [] _ (.inr (.inl ⟨rfl, rfl, rfl⟩)))
              · exact absurd (by simp) hn
              · exact absurd (by simp) hn
            · obtain rfl := Option.some.inj ho
              rcases hinv with ⟨rfl, rfl, rfl⟩ | ⟨rfl, rfl, rfl⟩ | ⟨rfl, rfl, rfl⟩
              · exact absurd (hb 2 rfl (by decide)) (by simp)
              · refine JT_store (i := 2) rfl rfl rfl rfl rfl (ol rfl (Ty.le.refl _)) (Upd.self _ _ rfl) sz83 ?_
                exact JT_done (hk [] _ (.inr (.inr ⟨rfl, rfl, rfl⟩)))
              · exact absurd (by simp) hn
          · intro sd Γd Δ1 hinv hall
            rcases hinv with ⟨rfl, rfl, rfl⟩ | ⟨rfl, rfl, rfl⟩ | ⟨rfl, rfl, rfl⟩
            · exact absurd (hall 2 (by decide) rfl) (by simp)
            · exact absurd (hall 3 (by decide) rfl) (by simp)
            · exact JS_ret (JE_ret_many rfl (by decide) (.le (.cell (i := 3) rfl rfl ti83 (.le (.cell (i := 2) rfl rfl ti83 .nil) (of_eq (rfl)))) (of_eq (rfl))))
        · have hF := div_same ho0 (.inr c38)
          refine JS_skip ?_
          refine JS_seq ?_
          -- region 5
          refine JS_eqD (Δ' := [Res.box g8 83 (Seg.of Kd.whole (w.fdiv o)), Res.box g9 83 (Seg.of Kd.whole (w.fmod o)), Res.box g5 83 (Seg.cat [Seg.of Kd.bool false, Seg.of (Kd.slice (Kd.int .u32)) []]), Res.box g4 83 (Seg.cat [Seg.of Kd.bool false, Seg.of (Kd.slice (Kd.int .u32)) []])]) (by rw [← hF.1, ← hF.2] <;> rfl) ?_
          refine JS_drawT [2, 3] (fun (Δ0 : List Res) (sd : List Nat) (Γd : Env) (Δ1 : List Res) => (sd = [] ∧ Γd = [] ∧ Δ1 = Δ0) ∨ (sd = [2] ∧ Γd = [] ∧ Δ1 = Δ0.set 3 (Res.box g4 83 (Seg.of Kd.whole (w.fdiv o)))) ∨ (sd = [3, 2] ∧ Γd = [] ∧ Δ1 = (Δ0.set 3 (Res.box g4 83 (Seg.of Kd.whole (w.fdiv o)))).set 2 (Res.box g5 83 (Seg.of Kd.whole (w.fmod o))))) (fun i => if i = 2 then [4, 45] else if i = 3 then [5, 46] else []) mixed (by decide) (by decide) (.inl ⟨rfl, rfl, rfl⟩) (fun sd Γd Δ1 hs => by rcases hs with ⟨rfl, rfl, rfl⟩ | ⟨rfl, rfl, rfl⟩ | ⟨rfl, rfl, rfl⟩ <;> rfl) ?_
          refine dOp (T := Ty.of Kd.whole (w.fdiv o)) (fun sd Γd Δ1 hs => by rcases hs with ⟨rfl, rfl, rfl⟩ | ⟨rfl, rfl, rfl⟩ | ⟨rfl, rfl, rfl⟩ <;> exact (T_load_own (i := 0) rfl rfl rfl (Sub.self _) ti83)) rfl rfl rfl ?_
          refine dOp (T := Ty.of Kd.whole (w.fmod o)) (fun sd Γd Δ1 hs => by rcases hs with ⟨rfl, rfl, rfl⟩ | ⟨rfl, rfl, rfl⟩ | ⟨rfl, rfl, rfl⟩ <;> exact (T_load_own (i := 1) rfl rfl rfl (Sub.self _) ti83)) rfl rfl rfl ?_
          refine dDyn rfl ?_
          refine dDyn rfl ?_
          refine dEnd ⟨?_, ?_⟩
          · intro Q1 cs1 i o sd Γd Δ1 Γx hi ho hn hb hinv hk
            simp only [List.mem_cons, List.not_mem_nil, or_false] at hi
            rcases hi with rfl | rfl
            · obtain rfl := Option.some.inj ho
              rcases hinv with ⟨rfl, rfl, rfl⟩ | ⟨rfl, rfl, rfl⟩ | ⟨rfl, rfl, rfl⟩
              · refine JT_store (i := 3) rfl rfl rfl rfl rfl (ol rfl (Ty.le.refl _)) (Upd.self _ _ rfl) sz83 ?_
                exact JT_done (hk [] _ (.inr (.inl ⟨rfl, rfl, rfl⟩)))
              · exact absurd (by simp) hn
              · exact absurd (by simp) hn
            · obtain rfl := Option.some.inj ho
              rcases hinv with ⟨rfl, rfl, rfl⟩ | ⟨rfl, rfl, rfl⟩ | ⟨rfl, rfl, rfl⟩
              · exact absurd (hb 2 rfl (by decide)) (by simp)
              · refine JT_store (i := 2) rfl rfl rfl rfl rfl (ol rfl (Ty.le.refl _)) (Upd.self _ _ rfl) sz83 ?_
                exact JT_done (hk [] _ (.inr (.inr ⟨rfl, rfl, rfl⟩)))
              · exact absurd (by simp) hn
          · intro sd Γd Δ1 hinv hall
            rcases hinv with ⟨rfl, rfl, rfl⟩ | ⟨rfl, rfl, rfl⟩ | ⟨rfl, rfl, rfl⟩
            · exact absurd (hall 2 (by decide) rfl) (by simp)
            · exact absurd (hall 3 (by decide) rfl) (by simp)
            · exact JS_ret (JE_ret_many rfl (by decide) (.le (.cell (i := 3) rfl rfl ti83 (.le (.cell (i := 2) rfl rfl ti83 .nil) (of_eq (rfl)))) (of_eq (rfl))))
      · have hF := div_same ho0 (.inl g32)
        refine kS (uFD g32 rfl rfl rfl) rfl ?_
        refine kS (uFD g32 rfl rfl rfl) rfl ?_
        refine kS (uFD g32 rfl rfl rfl) rfl ?_
        refine kS (uFD g32 rfl rfl rfl) rfl ?_
        refine kS (uFD g32 rfl rfl rfl) rfl ?_
        refine kO (T_pickN g32 rfl rfl rfl) rfl ?_
        refine kE ?_
        refine JS_cf rfl ?_
        refine JS_skip ?_
        refine JS_seq ?_
        -- region 5
        refine JS_eqD (Δ' := [Res.box g8 83 (Seg.of Kd.whole (w.fdiv o)), Res.box g9 83 (Seg.of Kd.whole (w.fmod o)), Res.box g5 83 (Seg.cat [Seg.of Kd.bool false, Seg.of (Kd.slice (Kd.int .u32)) []]), Res.box g4 83 (Seg.cat [Seg.of Kd.bool false, Seg.of (Kd.slice (Kd.int .u32)) []])]) (by rw [← hF.1, ← hF.2] <;> rfl) ?_
        refine JS_drawT [2, 3] (fun (Δ0 : List Res) (sd : List Nat) (Γd : Env) (Δ1 : List Res) => (sd = [] ∧ Γd = [] ∧ Δ1 = Δ0) ∨ (sd = [2] ∧ Γd = [] ∧ Δ1 = Δ0.set 3 (Res.box g4 83 (Seg.of Kd.whole (w.fdiv o)))) ∨ (sd = [3, 2] ∧ Γd = [] ∧ Δ1 = (Δ0.set 3 (Res.box g4 83 (Seg.of Kd.whole (w.fdiv o)))).set 2 (Res.box g5 83 (Seg.of Kd.whole (w.fmod o))))) (fun i => if i = 2 then [4, 45] else if i = 3 then [5, 46] else []) mixed (by decide) (by decide) (.inl ⟨rfl, rfl, rfl⟩) (fun sd Γd Δ1 hs => by rcases hs with ⟨rfl, rfl, rfl⟩ | ⟨rfl, rfl, rfl⟩ | ⟨rfl, rfl, rfl⟩ <;> rfl) ?_
        refine dOp (T := Ty.of Kd.whole (w.fdiv o)) (fun sd Γd Δ1 hs => by rcases hs with ⟨rfl, rfl, rfl⟩ | ⟨rfl, rfl, rfl⟩ | ⟨rfl, rfl, rfl⟩ <;> exact (T_load_own (i := 0) rfl rfl rfl (Sub.self _) ti83)) rfl rfl rfl ?_
        refine dOp (T := Ty.of Kd.whole (w.fmod o)) (fun sd Γd Δ1 hs => by rcases hs with ⟨rfl, rfl, rfl⟩ | ⟨rfl, rfl, rfl⟩ | ⟨rfl, rfl, rfl⟩ <;> exact (T_load_own (i := 1) rfl rfl rfl (Sub.self _) ti83)) rfl rfl rfl ?_
        refine dDyn rfl ?_
        refine dDyn rfl ?_
        refine dEnd ⟨?_, ?_⟩
        · intro Q1 cs1 i o sd Γd Δ1 Γx hi ho hn hb hinv hk
          simp only [List.mem_cons, List.not_mem_nil, or_false] at hi
          rcases hi with rfl | rfl
          · obtain rfl := Option.some.inj ho
            rcases hinv with ⟨rfl, rfl, rfl⟩ | ⟨rfl, rfl, rfl⟩ | ⟨rfl, rfl, rfl⟩
            · refine JT_store (i := 3) rfl rfl rfl rfl rfl (ol rfl (Ty.le.refl _)) (Upd.self _ _ rfl) sz83 ?_
              exact JT_done (hk [] _ (.inr (.inl ⟨rfl, rfl, rfl⟩)))
            · exact absurd (by simp) hn
            · exact absurd (by simp) hn
          · obtain rfl := Option.some.inj ho
            rcases hinv with ⟨rfl, rfl, rfl⟩ | ⟨rfl, rfl, rfl⟩ | ⟨rfl, rfl, rfl⟩
            · exact absurd (hb 2 rfl (by decide)) (by simp)
            · refine JT_store (i := 2) rfl rfl rfl rfl rfl (ol rfl (Ty.le.refl _)) (Upd.self _ _ rfl) sz83 ?_
              exact JT_done (hk [] _ (.inr (.inr ⟨rfl, rfl, rfl⟩)))
            · exact absurd (by simp) hn
        · intro sd Γd Δ1 hinv hall
          rcases hinv with ⟨rfl, rfl, rfl⟩ | ⟨rfl, rfl, rfl⟩ | ⟨rfl, rfl, rfl⟩
          · exact absurd (hall 2 (by decide) rfl) (by simp)
          · exact absurd (hall 3 (by decide) rfl) (by simp)
          · exact JS_ret (JE_ret_many rfl (by decide) (.le (.cell (i := 3) rfl rfl ti83 (.le (.cell (i := 2) rfl rfl ti83 .nil) (of_eq (rfl)))) (of_eq (rfl))))

end Go.Proofs.YtknflgfkhkdomaaGreatDoor.Mono

/-! MonoF -/
set_option linter.unusedVariables false
set_option linter.unusedSimpArgs false
namespace Go.Proofs.YtknflgfkhkdomaaGreatDoor.Mono
open Go Go.RowKit

/-! ### Fractions -/
theorem sgn_gcd_ne {n d : Int} (hd : d ≠ 0) : d.sign * (Int.gcd n d : Int) ≠ 0 := by
  have h1 : (Int.gcd n d : Int) ≠ 0 := by
    have := Int.gcd_pos_of_ne_zero_right n hd
    omega
  rcases Int.lt_or_gt_of_ne hd with h | h
  · rw [Int.sign_eq_neg_one_of_neg h]; omega
  · rw [Int.sign_eq_one_of_pos h]; omega
theorem divInt_parts {n d : Int} (hd : d ≠ 0) : (Rat.divInt n d).num = n.fdiv (d.sign * (Int.gcd n d : Int)) ∧ ((Rat.divInt n d).den : Int) = d.fdiv (d.sign * (Int.gcd n d : Int)) := by
  have hg : (0 : Int) < (Int.gcd n d : Int) := by
    have := Int.gcd_pos_of_ne_zero_right n hd
    omega
  obtain ⟨n', hn⟩ := Int.gcd_dvd_left n d
  obtain ⟨d', hd'⟩ := Int.gcd_dvd_right n d
  rw [Rat.num_divInt, Rat.den_divInt, if_neg hd, Int.gcd_comm d n, Int.natCast_ediv]
  generalize (Int.gcd n d : Int) = g at *
  have hne := Int.ne_of_gt hg
  rcases Int.lt_or_gt_of_ne hd with h | h
  · rw [Int.sign_eq_neg_one_of_neg h]
    constructor
    · rw [show n = (-1 * g) * (-n') by rw [Int.neg_one_mul, Int.neg_mul_neg]; exact hn, Int.mul_fdiv_cancel_left _ (by omega)]
      rw [show -1 * (-1 * g * -n') = g * (-n') by rw [← Int.mul_assoc, ← Int.mul_assoc]; simp, Int.mul_ediv_cancel_left _ hne]
    · have e : d = (-1 * g) * (-d') := by rw [Int.neg_one_mul, Int.neg_mul_neg]; exact hd'
      have e2 : (d.natAbs : Int) = g * (-d') := by rw [Int.mul_neg, ← hd']; omega
      rw [e2, Int.mul_ediv_cancel_left _ hne]
      rw [e, Int.mul_fdiv_cancel_left _ (by omega)]
  · rw [Int.sign_eq_one_of_pos h, Int.one_mul, Int.one_mul]
    constructor
    · rw [hn, Int.mul_fdiv_cancel_left _ hne, Int.mul_ediv_cancel_left _ hne]
    · have e2 : (d.natAbs : Int) = g * d' := by rw [← hd']; omega
      rw [e2, Int.mul_ediv_cancel_left _ hne, hd', Int.mul_fdiv_cancel_left _ hne]
def cmpQ (x y : Rat) : Int := if x < y then -1 else if y < x then 1 else 0
theorem add_div (x y : Rat) : Rat.divInt (x.num * y.den + y.num * x.den) (x.den * y.den) = x + y := by
  rw [Rat.add_def', ← Rat.divInt_ofNat]; rw [Int.natCast_mul]
theorem mul_div (x y : Rat) : Rat.divInt (x.num * y.num) (x.den * y.den) = x * y := by
  rw [Rat.mul_def', ← Rat.divInt_ofNat]; rw [Int.natCast_mul]
theorem divInt_self (x : Rat) : Rat.divInt x.num x.den = x := Rat.num_divInt_den x
theorem den_ne (x : Rat) : (x.den : Int) ≠ 0 := by have := x.den_nz; omega
theorem den_pos' (x : Rat) : 0 < (x.den : Int) := by have := x.den_nz; omega
theorem den_mul_ne (x y : Rat) : (x.den : Int) * y.den ≠ 0 := Int.mul_ne_zero (den_ne x) (den_ne y)
theorem cmp_div (x y : Rat) : cmp3 (x.num * y.den) (y.num * x.den) = cmpQ x y := by
  unfold cmp3 cmpQ
  simp only [Rat.lt_iff]
theorem one_of {g : Int} (h1 : ¬ (1 : Int) < (lims g.natAbs).length) (h2 : ¬ g < 0) (h3 : ¬ (lims g.natAbs).getD 0 0 ≠ 1) (h0 : 1 ≤ (lims g.natAbs).length) : g = 1 := by
  have h4 := (lims_one (B := g.natAbs) (by omega)).1
  have h5 := Classical.not_not.1 h3
  rw [h5] at h4; omega
theorem whole_one {d : Int} (hd : 0 < d) : (((lims d.natAbs).length : Int) = 1 → (lims d.natAbs).getD 0 0 = d) := fun h => by
  have h4 := (lims_one (B := d.natAbs) h).1; omega
theorem lims_1 : lims 1 = [1] := by rw [lims_pos (by decide)]; show (1 : Int) :: lims 0 = _; rw [lims_zero]

def Kd.frac : Kd (Int × Int) := Kd.pair Kd.whole Kd.whole (·.1) (·.2)
def Kd.num : Kd Rat := Kd.pair Kd.whole Kd.whole (fun q => q.num) (fun q => (q.den : Int))
def Kd.num0 : Kd (Option Rat) := Kd.pair Kd.whole Kd.whole (fun o => o.elim 0 Rat.num) (fun o => o.elim 0 (fun q => (q.den : Int)))
theorem num_n (q : Rat) : Sub (Seg.of Kd.num q) 0 (Seg.of Kd.whole q.num) := Sub.fst _ _ _ _ q
theorem num_d (q : Rat) : Sub (Seg.of Kd.num q) 2 (Seg.of Kd.whole q.den) := Sub.snd _ _ _ _ q rfl
theorem frac_n (q : Int × Int) : Sub (Seg.of Kd.frac q) 0 (Seg.of Kd.whole q.1) := Sub.fst _ _ _ _ q
theorem frac_d (q : Int × Int) : Sub (Seg.of Kd.frac q) 2 (Seg.of Kd.whole q.2) := Sub.snd _ _ _ _ q rfl
theorem z_whole : ∀ m, (Seg.of Kd.whole 0).p m [.bool false, .slice none 0 0] := fun m => ⟨[.bool false], [.slice none 0 0], rfl, rfl, by show (Seg.of (Kd.slice (Kd.int .u32)) (lims 0)).p m _; rw [lims_zero]; exact z_slice _ m⟩
theorem z_num0 : ∀ m, (Seg.of Kd.num0 none).p m [.bool false, .slice none 0 0, .bool false, .slice none 0 0] := fun m => ⟨[_, _], [_, _], rfl, z_whole m, z_whole m⟩
theorem mk_num {a b : Int} {q : Rat} (ha : a = q.num) (hb : b = q.den) : Ty.le (Ty.seg (Seg.cat [Seg.of Kd.whole a, Seg.of Kd.whole b])) (Ty.of Kd.num q) := by
  subst ha; subst hb; exact pair_le (f := fun q : Rat => q.num) (g := fun q : Rat => (q.den : Int)) q
theorem mk_frac (a b : Int) : Ty.le (Ty.seg (Seg.cat [Seg.of Kd.whole a, Seg.of Kd.whole b])) (Ty.of Kd.frac (a, b)) := pair_le (f := fun x : Int × Int => x.1) (g := fun x : Int × Int => x.2) (a, b)
theorem num_num0 (q : Rat) : Ty.le (Ty.of Kd.num q) (Ty.of Kd.num0 (some q)) := fun m v h => h
theorem num0_num (q : Rat) : Ty.le (Ty.of Kd.num0 (some q)) (Ty.of Kd.num q) := fun m v h => h
theorem frac_num {q : Rat} {x : Int × Int} (h : x = (q.num, (q.den : Int))) : Ty.le (Ty.of Kd.frac x) (Ty.of Kd.num q) := by subst h; exact fun m v h => h
theorem num_frac (q : Rat) : Ty.le (Ty.of Kd.num q) (Ty.of Kd.frac (q.num, (q.den : Int))) := fun m v h => h
/-- The limbs of a number's parts are at most so many. -/
def Nz (k : Nat) (q : Rat) : Prop := (lims q.num.natAbs).length ≤ k ∧ (lims q.den).length ≤ k
theorem Nz.num {k : Nat} {q : Rat} (h : Nz k q) : (lims q.num.natAbs).length ≤ k := h.1
theorem Nz.den {k : Nat} {q : Rat} (h : Nz k q) : (lims (q.den : Int).natAbs).length ≤ k := h.2
theorem lims_mul_len {a b : Int} {j k : Nat} (ha : (lims a.natAbs).length ≤ j) (hb : (lims b.natAbs).length ≤ k) : (lims (a * b).natAbs).length ≤ j + k := by
  refine lims_len_of_lt ?_
  rw [Int.natAbs_mul, Nat.pow_add]
  have h1 := lval_lt (lims_ok a.natAbs)
  have h2 := lval_lt (lims_ok b.natAbs)
  rw [lval_lims] at h1 h2
  have g1 : a.natAbs < 1000000000 ^ j := Nat.lt_of_lt_of_le h1 (Nat.pow_le_pow_right (by decide) ha)
  have g2 : b.natAbs < 1000000000 ^ k := Nat.lt_of_lt_of_le h2 (Nat.pow_le_pow_right (by decide) hb)
  exact Nat.mul_lt_mul'' g1 g2
theorem lims_add_len {a b : Int} {k : Nat} (ha : (lims a.natAbs).length ≤ k) (hb : (lims b.natAbs).length ≤ k) : (lims (a + b).natAbs).length ≤ k + 1 := by
  refine lims_len_of_lt ?_
  have h1 := lval_lt (lims_ok a.natAbs)
  have h2 := lval_lt (lims_ok b.natAbs)
  rw [lval_lims] at h1 h2
  have g1 : a.natAbs < 1000000000 ^ k := Nat.lt_of_lt_of_le h1 (Nat.pow_le_pow_right (by decide) ha)
  have g2 : b.natAbs < 1000000000 ^ k := Nat.lt_of_lt_of_le h2 (Nat.pow_le_pow_right (by decide) hb)
  have h3 := Int.natAbs_add_le a b
  rw [Nat.pow_succ]
  generalize 1000000000 ^ k = p at *
  omega

theorem EnvSub.napp {Γ Γ' : Env} (h : EnvSub Γ Γ') : EnvSub Γ ([] ++ Γ') := h

/-! ### Decimal texts -/
abbrev dec := Lib.decDigits
theorem dec_small {n : Nat} (h : n < 10) : dec n = [UInt8.ofNat (48 + n)] := by show Lib.decDigits n = _; rw [Lib.decDigits, dif_pos h]
theorem dec_big {n : Nat} (h : ¬ n < 10) : dec n = dec (n / 10) ++ [UInt8.ofNat (48 + n % 10)] := by show Lib.decDigits n = _; rw [Lib.decDigits, dif_neg h]
/-- The last k digits. -/
def low : Nat → Nat → List UInt8
  | 0, _ => []
  | k + 1, x => low k (x / 10) ++ [UInt8.ofNat (48 + x % 10)]
theorem low_len : ∀ (k x : Nat), (low k x).length = k
  | 0, _ => rfl
  | k + 1, x => by rw [low, List.length_append, low_len k]; rfl
theorem dec_split : ∀ (k x v : Nat), x < 10 ^ k → 0 < v → dec (x + 10 ^ k * v) = dec v ++ low k x
  | 0, x, v, hx, hv => by rw [low, List.append_nil]; congr 1; simp at hx; omega
  | k + 1, x, v, hx, hv => by
    have hp : 1 ≤ 10 ^ k := Nat.one_le_pow _ _ (by decide)
    have hm : 1 ≤ 10 ^ k * v := Nat.mul_pos hp hv
    rw [Nat.pow_succ] at hx
    have e : 10 ^ (k + 1) * v = 10 * (10 ^ k * v) := by rw [Nat.pow_succ, Nat.mul_comm (10 ^ k) 10, Nat.mul_assoc]
    rw [e, dec_big (by omega), low, show (x + 10 * (10 ^ k * v)) / 10 = x / 10 + 10 ^ k * v by omega, show (x + 10 * (10 ^ k * v)) % 10 = x % 10 by omega, dec_split k (x / 10) v (by omega) hv, List.append_assoc]
theorem dec_pos (n : Nat) : 1 ≤ (dec n).length := by
  by_cases h : n < 10
  · rw [dec_small h]; simp
  · rw [dec_big h]; simp
theorem dec_le : ∀ (k x : Nat), x < 10 ^ (k + 1) → (dec x).length ≤ k + 1
  | 0, x, h => by rw [dec_small (by simpa using h)]; simp
  | k + 1, x, h => by
    by_cases h1 : x < 10
    · rw [dec_small h1]; simp
    · rw [dec_big h1, List.length_append]
      rw [Nat.pow_succ] at h
      have := dec_le k (x / 10) (by omega)
      simp; omega
theorem low_pad : ∀ (k x : Nat), x < 10 ^ (k + 1) → low (k + 1) x = List.replicate (k + 1 - (dec x).length) 48 ++ dec x
  | 0, x, h => by
    have h1 : x < 10 := by simpa using h
    rw [dec_small h1, low, low, Nat.mod_eq_of_lt h1]; rfl
  | k + 1, x, h => by
    rw [Nat.pow_succ] at h
    have ih := low_pad k (x / 10) (by omega)
    by_cases h1 : x < 10
    · rw [low, ih, show x / 10 = 0 by omega, dec_small h1, dec_small (n := 0) (by decide), Nat.mod_eq_of_lt h1]
      simp only [List.length_cons, List.length_nil]
      rw [show k + 1 + 1 - (0 + 1) = (k + 1 - (0 + 1)) + 1 by omega, List.replicate_succ']; rfl
    · rw [low, ih, dec_big h1, List.length_append, List.append_assoc]
      simp only [List.length_cons, List.length_nil]
      rw [show k + 1 + 1 - ((dec (x / 10)).length + (0 + 1)) = k + 1 - (dec (x / 10)).length by omega]
def dval (l : List UInt8) : Nat := l.foldl (fun a c => 10 * a + (c.toNat - 48)) 0
theorem dval_snoc (l : List UInt8) (c : UInt8) : dval (l ++ [c]) = 10 * dval l + (c.toNat - 48) := by unfold dval; rw [List.foldl_append]; rfl
theorem dig_nat {d : Nat} (h : d < 10) : (UInt8.ofNat (48 + d)).toNat = 48 + d := by rw [UInt8.toNat_ofNat_of_lt']; show 48 + d < 256; omega
theorem dval_low : ∀ (k x : Nat), x < 10 ^ k → dval (low k x) = x
  | 0, x, h => by simp at h; subst h; rfl
  | k + 1, x, h => by
    rw [Nat.pow_succ] at h
    rw [low, dval_snoc, dval_low k (x / 10) (by omega), dig_nat (by omega)]; omega
theorem dval_dec (n : Nat) : dval (dec n) = n := by
  induction n using Nat.strongRecOn with
  | _ n ih =>
    by_cases h : n < 10
    · rw [dec_small h]
      show 10 * 0 + ((UInt8.ofNat (48 + n)).toNat - 48) = n
      rw [dig_nat h]; omega
    · rw [dec_big h, dval_snoc, ih (n / 10) (by omega), dig_nat (by omega)]; omega
def isDig (c : UInt8) : Prop := 48 ≤ c.toNat ∧ c.toNat ≤ 57
theorem low_digs : ∀ (k x : Nat), ∀ c ∈ low k x, isDig c
  | 0, x, c, h => by cases h
  | k + 1, x, c, h => by
    rw [low] at h
    rcases List.mem_append.1 h with h | h
    · exact low_digs k _ c h
    · rw [List.mem_singleton.1 h]; unfold isDig; rw [dig_nat (by omega)]; omega
theorem dec_digs (n : Nat) : ∀ c ∈ dec n, isDig c := by
  induction n using Nat.strongRecOn with
  | _ n ih =>
    intro c hc
    by_cases h : n < 10
    · rw [dec_small h] at hc; rw [List.mem_singleton.1 hc]; unfold isDig; rw [dig_nat h]; omega
    · rw [dec_big h] at hc
      rcases List.mem_append.1 hc with h2 | h2
      · exact ih (n / 10) (by omega) c h2
      · rw [List.mem_singleton.1 h2]; unfold isDig; rw [dig_nat (by omega)]; omega
theorem dec_head {n : Nat} (h : 0 < n) : ∃ c l, dec n = c :: l ∧ 49 ≤ c.toNat := by
  induction n using Nat.strongRecOn with
  | _ n ih =>
    by_cases h1 : n < 10
    · exact ⟨_, _, dec_small h1, by rw [dig_nat h1]; omega⟩
    · obtain ⟨c, l, h2, h3⟩ := ih (n / 10) (by omega) (by omega)
      exact ⟨c, l ++ _, by rw [dec_big h1, h2]; rfl, h3⟩
theorem dec_inj {a b : Nat} (h : dec a = dec b) : a = b := by rw [← dval_dec a, ← dval_dec b, h]
theorem itoa_nn {z : Int} (h : 0 ≤ z) : Lib.itoa z = dec z.natAbs := by unfold Lib.itoa; rw [if_neg (by omega)]; show dec _ = _; congr 1; omega
theorem itoa_neg {z : Int} (h : z < 0) : Lib.itoa z = 45 :: dec z.natAbs := by unfold Lib.itoa; rw [if_pos h]

end Go.Proofs.YtknflgfkhkdomaaGreatDoor.Mono

/-! WkI -/
set_option linter.unusedVariables false
set_option linter.unusedSimpArgs false
set_option maxRecDepth 4000
set_option maxHeartbeats 4000000
namespace Go.Proofs.YtknflgfkhkdomaaGreatDoor.Mono
open Go Go.RowKit

theorem natmod (x y : Nat) : (x : Int) % (y : Int) = ((x % y : Nat) : Int) := (Int.natCast_emod x y).symm
theorem len2 {B : Nat} (h : (lims B).length ≤ 2) : B < 1000000000000000000 := by
  have := lval_lt (lims_ok B)
  rw [lval_lims] at this
  have h2 : 1000000000 ^ (lims B).length ≤ 1000000000 ^ 2 := Nat.pow_le_pow_right (by decide) h
  omega

theorem en98 : Enters Tryz.prog 98 := enters_fn Tryz.func98 (by kernel_rfl) rfl

theorem w67 {w o : Int} (hw : (lims w.natAbs).length ≤ 3000000) (ho : (lims o.natAbs).length ≤ 3000000) : Spec CC 67 [Ty.of Kd.whole w, Ty.of Kd.whole o] (Ty.of Kd.whole (Int.gcd w o : Int)) := by
  refine spec_of_JS Tryz.func67 rfl (Nat.le_of_ble_eq_true rfl) (fun gh0 wd0 => ?_)
  refine JS_seq ?_
  -- region 0
  refine sR ?_
  refine kO (T_box rfl (ol rfl (Ty.le.refl _))) rfl ?_
  refine kO (T_box rfl (ol rfl (Ty.le.refl _))) rfl ?_
  refine kT ?_
  refine JT_alloc (S0 := Seg.cat [Seg.of Kd.bool false, Seg.of (Kd.slice (Kd.int .u32)) []]) rfl rfl rfl rfl z83 h0_83 (fun g4 => ?_)
  refine JT_done ?_
  refine JS_seq ?_
  -- region 1
  refine sRD mixed ?_
  refine kO (T_fieldAddr rfl fa83_1 (whole_mag _) rfl) rfl ?_
  refine kO (T_ld rfl rfl ti81) rfl ?_
  refine kO (T_fieldAddr rfl fa83_1 (whole_mag _) rfl) rfl ?_
  refine kO (T_ld rfl rfl ti81) rfl ?_
  refine kA rfl rfl ?_
  refine kA rfl rfl ?_
  refine kD (by decide) ?_
  refine JS_seq ?_
  refine JS_block ?_
  refine sLoop2 (fun (A : Nat) (B : Nat) => [(5, Ty.of (Kd.slice (Kd.int .u32)) (lims A)), (6, Ty.of (Kd.slice (Kd.int .u32)) (lims B))]) [4] (fun (A : Nat) (B : Nat) => []) (fun (A : Nat) (B : Nat) => Nat.gcd A B = Int.gcd w o ∧ (lims A).length ≤ 3000000 ∧ (lims B).length ≤ 3000000) (fun (A : Nat) (B : Nat) => B) w.natAbs o.natAbs (⟨rfl, hw, ho⟩) rfl (EnvSub.consLe rfl (of_eq (rfl)) (EnvSub.consLe rfl (of_eq (rfl)) (EnvSub.nil _))) (fun A B (hI : Nat.gcd A B = Int.gcd w o ∧ (lims A).length ≤ 3000000 ∧ (lims B).length ≤ 3000000) => ?_)
  obtain ⟨i1, i2, i3⟩ := hI
  refine JS_seq ?_
  refine JS_seq ?_
  -- region 2
  refine sR ?_
  refine kM rfl rfl ?_
  refine kO (T_len_slice rfl rfl u81 rfl) rfl ?_
  refine kO (T_gt rfl rfl rfl) rfl ?_
  refine kE ?_
  refine JS_if rfl (fun c20 => ?_) (fun c20 => ?_)
  · have hB : 0 < B := by have := (lims_len B).2; omega
    have hlt : A % B < B := Nat.mod_lt _ hB
    refine JS_skip ?_
    refine JS_block ?_
    refine JS_seq ?_
    -- region 3
    refine sR ?_
    refine kM rfl rfl ?_
    refine kM rfl rfl ?_
    refine kO (T_callL rfl en96 (w96 (by omega) (by omega) (by omega)) (oa (ol rfl (Ty.le.refl _)) (oa (ol rfl (Ty.le.refl _)) oa0))) rfl ?_
    refine kM rfl rfl ?_
    refine kO (T_extract rfl rfl rfl) rfl ?_
    refine kO (T_extract rfl rfl rfl) rfl ?_
    refine kA rfl rfl ?_
    refine kA rfl rfl ?_
    refine kE ?_
    -- region 4
    refine JS_ex (s := 8) rfl (fun r hr => ?_)
    refine sR ?_
    refine kM rfl rfl ?_
    refine kM rfl rfl ?_
    refine kO (T_callL rfl en97 (w97 hr.1 hr.2) (oa (ol rfl (Ty.le.refl _)) (oa (ol rfl (Ty.le.refl _)) oa0))) rfl ?_
    refine kO (T_fld rfl rfl (whole_mag _) rfl fd83_1 ti81) rfl ?_
    refine kA rfl rfl ?_
    refine kA rfl rfl ?_
    refine kE ?_
    refine JS_end_inB ?_
    exact JS_round (B, (A % B)) (by try dsimp only; exact (⟨by rw [← i1, Nat.gcd_comm A B, Nat.gcd_rec B A, Nat.gcd_comm], i3, Nat.le_trans (lims_len_le (Nat.le_of_lt hlt)) i3⟩)) (by try dsimp only; exact (hlt)) rfl (EnvSub.consLe rfl (of_eq (rfl)) (EnvSub.consLe rfl (of_eq (by rw [sgn_abs])) (EnvSub.pick1 rfl (EnvSub.nil _))))
  · refine JS_exit (JE_loop_exit (JE_inB_here ?_))
    refine JS_seq ?_
    refine JS_seq ?_
    -- region 5
    refine sR ?_
    refine kM rfl rfl ?_
    refine kO (T_len_slice rfl rfl u81 rfl) rfl ?_
    refine kO (T_eq rfl rfl rfl) rfl ?_
    refine kE ?_
    refine JS_if rfl (fun c33 => ?_) (fun c33 => ?_)
    · obtain rfl : B = 0 := (lims_len B).1 (by omega)
      rw [Nat.gcd_zero_right] at i1
      refine JS_seq ?_
      -- region 6
      refine sR ?_
      refine kM rfl rfl ?_
      refine kO (T_callL rfl en97 (w97 (lims_ok _) (lval_lims _)) (oa (ol rfl (Ty.le.refl _)) (oa (ol rfl (Ty.le.refl _)) oa0))) rfl ?_
      refine kT ?_
      refine JT_store (i := 0) rfl rfl rfl rfl rfl (ol rfl (Ty.le.refl _)) (Upd.self _ _ rfl) sz83 ?_
      refine JT_done ?_
      exact JS_ret (JE_ret_one rfl rfl (.cell (i := 0) rfl rfl ti83 .nil) ((of_eq (by rw [i1]; unfold sgn; simp))))
    · have hB : 0 < B := by have := (lims_len B).2; omega
      have hlt : A % B < B := Nat.mod_lt _ hB
      have hl2 := lims_len_le (Nat.le_of_lt hlt)
      refine JS_skip ?_
      refine JS_seq ?_
      -- region 7
      refine sR ?_
      refine kM rfl rfl ?_
      refine kM rfl rfl ?_
      refine kO (T_callL rfl en96 (w96 (by omega) (by omega) (by omega)) (oa (ol rfl (Ty.le.refl _)) (oa (ol rfl (Ty.le.refl _)) oa0))) rfl ?_
      refine kM rfl rfl ?_
      refine kO (T_extract rfl rfl rfl) rfl ?_
      refine kO (T_extract rfl rfl rfl) rfl ?_
      refine kA rfl rfl ?_
      refine kA rfl rfl ?_
      refine kE ?_
      refine JS_seq ?_
      -- region 8
      refine JS_ex (s := 10) rfl (fun r hr => ?_)
      refine sR ?_
      refine kM rfl rfl ?_
      refine kO (T_callL rfl en98 (w98 (lims_ok _) (by omega)) (oa (ol rfl (Ty.le.refl _)) oa0)) rfl ?_
      refine kM rfl rfl ?_
      refine kO (T_callL rfl en97 (w97 hr.1 hr.2) (oa (ol rfl (Ty.le.refl _)) (oa (ol rfl (Ty.le.refl _)) oa0))) rfl ?_
      refine kO (T_fld rfl rfl (whole_mag _) rfl fd83_1 ti81) rfl ?_
      refine kO (T_callL rfl en98 (w98 (lims_ok _) (by rw [sgn_abs]; omega)) (oa (ol rfl (Ty.le.refl _)) oa0)) rfl ?_
      refine kA rfl rfl ?_
      refine kA rfl rfl ?_
      refine kE ?_
      refine JS_seq ?_
      refine JS_block ?_
      refine sLoop2 (fun (x : Nat) (y : Nat) => [(11, Ty.val (.int .u64 (x : Int))), (12, Ty.val (.int .u64 (y : Int)))]) [4] (fun (x : Nat) (y : Nat) => []) (fun (x : Nat) (y : Nat) => Nat.gcd x y = Int.gcd w o ∧ x < 1000000000000000000 ∧ y < 1000000000000000000) (fun (x : Nat) (y : Nat) => y) B (A % B) (⟨by rw [← i1, Nat.gcd_comm A B, Nat.gcd_rec B A, Nat.gcd_comm], len2 (by omega), by have := len2 (B := B) (by omega); omega⟩) rfl (EnvSub.consLe rfl (int_eq (by rw [lval_lims])) (EnvSub.consLe rfl (int_eq (by rw [lval_lims, sgn_abs])) (EnvSub.nil _))) (fun x y (hI : Nat.gcd x y = Int.gcd w o ∧ x < 1000000000000000000 ∧ y < 1000000000000000000) => ?_)
      obtain ⟨j1, j2, j3⟩ := hI
      refine JS_seq ?_
      refine JS_seq ?_
      -- region 9
      refine sR ?_
      refine kM rfl rfl ?_
      refine kO (T_gt rfl rfl rfl) rfl ?_
      refine kE ?_
      refine JS_if rfl (fun c49 => ?_) (fun c49 => ?_)
      · have hlt : x % y < y := Nat.mod_lt _ (by omega)
        refine JS_skip ?_
        refine JS_block ?_
        -- region 10
        refine sRD mixed ?_
        refine kM rfl rfl ?_
        refine kM rfl rfl ?_
        refine kM rfl rfl ?_
        refine kO (T_rem rfl rfl rfl (by omega) (rem_nn (by omega))) rfl ?_
        refine kA rfl rfl ?_
        refine kA rfl rfl ?_
        refine kD (by decide) ?_
        refine JS_end_inB ?_
        exact JS_round (y, (x % y)) (by try dsimp only; exact (⟨by rw [← j1, Nat.gcd_comm x y, Nat.gcd_rec y x, Nat.gcd_comm], j3, by omega⟩)) (by try dsimp only; exact (hlt)) rfl (EnvSub.consLe rfl (int_eq (rfl)) (EnvSub.consLe rfl (int_eq (natmod x y)) (EnvSub.pick1 rfl (EnvSub.nil _))))
      · obtain rfl : y = 0 := by omega
        rw [Nat.gcd_zero_right] at j1
        refine JS_exit (JE_loop_exit (JE_inB_here ?_))
        refine JS_seq ?_
        -- region 11
        refine sR ?_
        refine kO (T_build (S0 := Seg.cat [Seg.of Kd.bool false, Seg.of Kd.val (.slice none 0 0)]) rfl fk83 z83 h0_83bool_val (Fill.nil _) rfl) rfl ?_
        refine kT ?_
        refine JT_alloc (S0 := Seg.cat [Seg.of Kd.bool false, Seg.of (Kd.slice (Kd.int .u32)) []]) rfl rfl rfl rfl z83 h0_83 (fun g13 => ?_)
        refine JT_store (i := 0) rfl rfl rfl rfl rfl (ol rfl (Ty.le.refl _)) (Upd.self _ _ rfl) sz83 ?_
        refine JT_done ?_
        refine JS_seq ?_
        refine JS_block ?_
        refine JS_own_nil 126 (Kd.int .u32) ?_
        refine sLoop3 (fun (u : Nat) (v : Value) (xs : List Int) => [(11, Ty.val (.int .u64 (u : Int)))]) [4, 13] (fun (u : Nat) (v : Value) (xs : List Int) => [(1, Res.box g13 83 (Seg.cat [Seg.of Kd.bool false, Seg.of Kd.val v])), (0, Res.sl v 126 (Kd.int .u32) xs)]) (fun (u : Nat) (v : Value) (xs : List Int) => lims (Int.gcd w o) = xs ++ lims u ∧ u < 1000000000000000000) (fun (u : Nat) (v : Value) (xs : List Int) => u) (Int.gcd w o) (.slice none 0 0) [] (⟨rfl, by omega⟩) rfl (EnvSub.consLe rfl (int_eq (by omega)) (EnvSub.nil _)) (fun u v xs (hK : lims (Int.gcd w o) = xs ++ lims u ∧ u < 1000000000000000000) => ?_)
        have hxl : xs.length ≤ 2 := by have h1 := congrArg List.length hK.1; rw [List.length_append] at h1; have := lims_len_of_lt (n := Int.gcd w o) (k := 2) (by omega); omega
        refine JS_seq ?_
        refine JS_seq ?_
        -- region 12
        refine sR ?_
        refine kM rfl rfl ?_
        refine kO (T_gt rfl rfl rfl) rfl ?_
        refine kE ?_
        refine JS_if rfl (fun c56 => ?_) (fun c56 => ?_)
        · refine JS_skip ?_
          refine JS_seq ?_
          refine JS_block ?_
          -- region 14
          refine sR ?_
          refine kO (T_fieldAddr_ptr rfl fa83_1 rfl rfl) rfl ?_
          refine kO (T_load_own_val (i := 1) rfl rfl rfl (sc (i := 1) rfl rfl) ti81) rfl ?_
          refine kM rfl rfl ?_
          refine kO (T_rem rfl rfl rfl (by omega) (rem_nn (by omega))) rfl ?_
          refine kO (T_conv rfl u32 u126 rfl (wrap_u32 (by omega) (by omega))) rfl ?_
          refine kO (T_lits (xs := [.tmp 63]) (d := (Kd.int .u32)) [_] rfl rfl u81 ti126 z126 rfl rfl (by decide) (by decide) (oa (ol rfl (val_int _ _)) oa0) rfl) rfl ?_
          refine kT ?_
          refine JT_append (i := 0) rfl rfl rfl rfl u81 ei126 rfl rfl (by decide) rfl rfl (ol rfl (Ty.le.refl _)) (by simp only [maxLen, List.length_cons, List.length_nil]; omega) (by simp only [List.length_cons, List.length_nil]; omega) (fun v65 => ?_)
          refine jO (T_fieldAddr_ptr rfl fa83_1 rfl rfl) rfl ?_
          refine JT_one (i := 0) rfl (fun ov65 => ?_)
          refine JT_store (i := 1) rfl rfl rfl rfl rfl (ol rfl (to_kval ov65)) (uc (i := 1) rfl rfl rfl) sz81 ?_
          refine JT_done ?_
          refine JS_end_inB ?_
          -- region 13
          refine sR ?_
          refine kM rfl rfl ?_
          refine kO (T_quo rfl rfl rfl (by omega) (quo_u64 (by omega) (by omega) (by omega))) rfl ?_
          refine kA rfl rfl ?_
          refine kE ?_
          exact JS_round ((u / 1000000000), v65, (xs ++ [((u % 1000000000 : Nat) : Int)])) (by try dsimp only; exact (⟨by rw [hK.1, lims_pos (by omega)]; simp, by omega⟩)) (by try dsimp only; exact ((by omega))) rfl (EnvSub.consLe rfl (int_eq (by omega)) (EnvSub.pick1 rfl (EnvSub.pick1 rfl (EnvSub.nil _))))
        · have hu0 : u = 0 := by omega
          subst hu0
          rw [lims_zero, List.append_nil] at hK
          refine JS_exit (JE_loop_exit (JE_inB_here ?_))
          refine JS_seq ?_
          -- region 15
          refine JS_freeze_fld (i := 1) (j := 0) (k := 1) rfl rfl rfl rfl ?_
          refine sR ?_
          refine kO (T_load_own (i := 0) rfl rfl rfl (Sub.self _) ti83) rfl ?_
          refine kT ?_
          refine JT_store (i := 1) rfl rfl rfl rfl rfl (ol rfl (Ty.le.refl _)) (Upd.self _ _ rfl) sz83 ?_
          refine JT_done ?_
          exact JS_ret (JE_ret_one rfl rfl (.cell (i := 1) rfl rfl ti83 .nil) ((mk_whole (by simp) (by rw [Int.natAbs_natCast]; exact hK.1.symm))))

theorem gcd_len {n d : Int} {k : Nat} (hd0 : d ≠ 0) (hd : (lims d.natAbs).length ≤ k) : (lims ((Int.gcd n d : Nat) : Int).natAbs).length ≤ k := by
  rw [Int.natAbs_natCast]
  refine Nat.le_trans (lims_len_le ?_) hd
  have h := Int.gcd_dvd_natAbs_right n d
  exact Nat.le_of_dvd (by omega) h
theorem sgn_len {d : Int} {g k : Nat} (h : (lims (g : Int).natAbs).length ≤ k) : (lims (d.sign * (g : Int)).natAbs).length ≤ k := by
  refine Nat.le_trans (lims_len_le ?_) h
  rcases Int.lt_trichotomy d 0 with h1 | h1 | h1
  · rw [Int.sign_eq_neg_one_of_neg h1]; omega
  · subst h1; simp
  · rw [Int.sign_eq_one_of_pos h1]; omega

theorem z85 : ZeroOf Tryz.prog 85 (.agg #[.bool false, .slice none 0 0, .bool false, .slice none 0 0]) := by unfold ZeroOf; kernel_rfl

theorem en67 : Enters Tryz.prog 67 := enters_fn Tryz.func67 (by kernel_rfl) rfl

theorem en69 : Enters Tryz.prog 69 := enters_fn Tryz.func69 (by kernel_rfl) rfl

theorem h0_85 : ∀ m, (Seg.cat [Seg.of Kd.whole 0, Seg.of Kd.whole 0]).p m (Value.cells (.agg #[.bool false, .slice none 0 0, .bool false, .slice none 0 0])).toList := fun m => ⟨[.bool false, .slice none 0 0], _, rfl, z_whole m, ⟨[.bool false, .slice none 0 0], _, rfl, z_whole m, rfl⟩⟩

theorem fk85 : FieldsKnown Tryz.prog 85 := by unfold FieldsKnown; kernel_rfl

theorem sz85 : (Tryz.prog.info? 85).map (·.size) = some 4 := by kernel_rfl

theorem ti85 : TI Tryz.prog 85 true 4 := ⟨by kernel_rfl, by kernel_rfl⟩

theorem w46 {n d : Int} (hn : (lims n.natAbs).length ≤ 3000000) (hd : (lims d.natAbs).length ≤ 3000000) (hd0 : d ≠ 0) : Spec CC 46 [Ty.of Kd.whole n, Ty.of Kd.whole d] (Ty.of Kd.num (Rat.divInt n d)) := by
  refine spec_of_JS Tryz.func46 rfl (Nat.le_of_ble_eq_true rfl) (fun gh0 wd0 => ?_)
  refine JS_seq ?_
  -- region 0
  refine sR ?_
  refine kT ?_
  refine JT_box rfl rfl rfl rfl (ol rfl (Ty.le.refl _)) (fun g2 => ?_)
  refine JT_box rfl rfl rfl rfl (ol rfl (Ty.le.refl _)) (fun g3 => ?_)
  refine JT_alloc (S0 := Seg.of Kd.num0 none) rfl rfl rfl rfl z85 z_num0 (fun g4 => ?_)
  refine JT_done ?_
  refine JS_seq ?_
  -- region 1
  refine sR ?_
  refine kO (T_load_own (i := 2) rfl rfl rfl (Sub.self _) ti83) rfl ?_
  refine kO (T_load_own (i := 1) rfl rfl rfl (Sub.self _) ti83) rfl ?_
  refine kO (T_callL rfl en67 (w67 (by omega) (by omega)) (oa (ol rfl (Ty.le.refl _)) (oa (ol rfl (Ty.le.refl _)) oa0))) rfl ?_
  refine kT ?_
  refine JT_alloc (S0 := Seg.cat [Seg.of Kd.bool false, Seg.of (Kd.slice (Kd.int .u32)) []]) rfl rfl rfl rfl z83 h0_83 (fun g5 => ?_)
  refine JT_store (i := 0) rfl rfl rfl rfl rfl (ol rfl (Ty.le.refl _)) (Upd.self _ _ rfl) sz83 ?_
  refine JT_done ?_
  refine JS_seq ?_
  refine JS_seq ?_
  -- region 2
  refine sR ?_
  refine kO (T_fieldAddr_ptr rfl fa83_0 rfl rfl) rfl ?_
  refine kO (T_load_own_bool (i := 2) rfl rfl rfl (whole_neg _) ti4) rfl ?_
  refine kE ?_
  refine JS_join1 (fun (g : Int) => []) [2, 3, 4, 5] (fun (g : Int) => [(0, Res.box g5 83 (Seg.of Kd.whole g))]) (fun (g : Int) => g = d.sign * (Int.gcd n d : Int)) ?_ (fun g (hG : g = d.sign * (Int.gcd n d : Int)) => ?_)
  · refine JS_if rfl (fun c10 => ?_) (fun c10 => ?_)
    · -- region 3
      refine sR ?_
      refine kO (T_load_own (i := 0) rfl rfl rfl (Sub.self _) ti83) rfl ?_
      refine kO (T_callL rfl en68 (w68 ) (oa (ol rfl (Ty.le.refl _)) oa0)) rfl ?_
      refine kT ?_
      refine JT_store (i := 0) rfl rfl rfl rfl rfl (ol rfl (Ty.le.refl _)) (Upd.self _ _ rfl) sz83 ?_
      refine JT_done ?_
      exact JS_meet _ (by rw [Int.sign_eq_neg_one_of_neg c10]; omega) rfl (EnvSub.napp (EnvSub.pick1 rfl (EnvSub.pick1 rfl (EnvSub.pick1 rfl (EnvSub.pick1 rfl (EnvSub.nil _))))))
    · refine JS_skip ?_
      exact JS_meet _ (by rw [Int.sign_eq_one_of_pos (by omega)]; omega) rfl (EnvSub.napp (EnvSub.pick1 rfl (EnvSub.pick1 rfl (EnvSub.pick1 rfl (EnvSub.pick1 rfl (EnvSub.nil _))))))
  · have hgl := sgn_len (d := d) (gcd_len (n := n) hd0 hd)
    have hg0 := sgn_gcd_ne (n := n) hd0
    have hq := divInt_parts (n := n) hd0
    rw [← hG] at hgl hg0 hq
    have hlen1 : 1 ≤ (lims g.natAbs).length := by have := (lims_len g.natAbs).1; omega
    refine JS_seq ?_
    refine JS_seq ?_
    -- region 4
    refine sR ?_
    refine kO (T_fieldAddr_ptr rfl fa83_1 rfl rfl) rfl ?_
    refine kO (T_load_own (i := 0) rfl rfl rfl (whole_mag _) ti81) rfl ?_
    refine kO (T_len_slice rfl rfl u81 rfl) rfl ?_
    refine kO (T_gt rfl rfl rfl) rfl ?_
    refine kM rfl rfl ?_
    refine tk_if (d := 17) rfl (fun g17 => ?_) (fun g17 => ?_)
    · refine kS (uTD g17 rfl rfl rfl) rfl ?_
      refine kS (uTD g17 rfl rfl rfl) rfl ?_
      refine kO (T_pickD g17 rfl rfl rfl) rfl ?_
      refine kM rfl rfl ?_
      refine kS (wF rfl rfl rfl (by decide)) rfl ?_
      refine kS (wF rfl rfl rfl (by decide)) rfl ?_
      refine kS (wF rfl rfl rfl (by decide)) rfl ?_
      refine kS (wF rfl rfl rfl (by decide)) rfl ?_
      refine kS (wF rfl rfl rfl (by decide)) rfl ?_
      refine kO (T_pickT rfl rfl rfl rfl) rfl ?_
      refine kE ?_
      refine JS_ct rfl ?_
      refine JS_seq ?_
      -- region 5
      refine sR ?_
      refine kO (T_load_own (i := 3) rfl rfl rfl (Sub.self _) ti83) rfl ?_
      refine kO (T_load_own (i := 0) rfl rfl rfl (Sub.self _) ti83) rfl ?_
      refine kO (T_callL rfl en69 (w69 (by omega) (by omega) hg0) (oa (ol rfl (Ty.le.refl _)) (oa (ol rfl (Ty.le.refl _)) oa0))) rfl ?_
      refine kM rfl rfl ?_
      refine kO (T_extract rfl rfl rfl) rfl ?_
      refine kO (T_extract rfl rfl rfl) rfl ?_
      refine kT ?_
      refine JT_store (i := 3) rfl rfl rfl rfl rfl (ol rfl (Ty.le.refl _)) (Upd.self _ _ rfl) sz83 ?_
      refine JT_done ?_
      -- region 6
      refine sR ?_
      refine kO (T_load_own (i := 2) rfl rfl rfl (Sub.self _) ti83) rfl ?_
      refine kO (T_load_own (i := 0) rfl rfl rfl (Sub.self _) ti83) rfl ?_
      refine kO (T_callL rfl en69 (w69 (by omega) (by omega) hg0) (oa (ol rfl (Ty.le.refl _)) (oa (ol rfl (Ty.le.refl _)) oa0))) rfl ?_
      refine kM rfl rfl ?_
      refine kO (T_extract rfl rfl rfl) rfl ?_
      refine kO (T_extract rfl rfl rfl) rfl ?_
      refine kT ?_
      refine JT_store (i := 2) rfl rfl rfl rfl rfl (ol rfl (Ty.le.refl _)) (Upd.self _ _ rfl) sz83 ?_
      refine JT_done ?_
      refine JS_seq ?_
      -- region 7
      refine sR ?_
      refine kO (T_load_own (i := 3) rfl rfl rfl (Sub.self _) ti83) rfl ?_
      refine kO (T_load_own (i := 2) rfl rfl rfl (Sub.self _) ti83) rfl ?_
      refine kO (T_sub (T_build (S0 := Seg.cat [Seg.of Kd.whole 0, Seg.of Kd.whole 0]) rfl fk85 z85 h0_85 (fc (ol rfl (Ty.le.refl _)) (uc (i := 0) rfl rfl rfl) rfl (fc (ol rfl (Ty.le.refl _)) (uc (i := 1) rfl rfl rfl) rfl (Fill.nil _))) rfl) (mk_num hq.1.symm hq.2.symm)) rfl ?_
      refine kT ?_
      refine JT_store (i := 1) rfl rfl rfl rfl rfl (ol rfl (Ty.le.refl _)) (Upd.self _ _ rfl) sz85 ?_
      refine JT_done ?_
      exact JS_ret (JE_ret_one rfl rfl (.cell (i := 1) rfl rfl ti85 .nil) (of_eq (rfl)))
    · refine kG (wFD g17 rfl rfl rfl) (T_fieldAddr_ptr rfl fa83_0 rfl rfl) rfl ?_
      refine kG (wFD g17 rfl rfl rfl) (T_load_own_bool (i := 0) rfl rfl rfl (whole_neg _) ti4) rfl ?_
      refine kO (T_pickN g17 rfl rfl rfl) rfl ?_
      refine kM rfl rfl ?_
      refine tk_if (d := 21) rfl (fun g21 => ?_) (fun g21 => ?_)
      · refine kS (uTD g21 rfl rfl rfl) rfl ?_
        refine kS (uTD g21 rfl rfl rfl) rfl ?_
        refine kS (uTD g21 rfl rfl rfl) rfl ?_
        refine kS (uTD g21 rfl rfl rfl) rfl ?_
        refine kS (uTD g21 rfl rfl rfl) rfl ?_
        refine kO (T_pickD g21 rfl rfl rfl) rfl ?_
        refine kE ?_
        refine JS_ct rfl ?_
        refine JS_seq ?_
        -- region 5
        refine sR ?_
        refine kO (T_load_own (i := 3) rfl rfl rfl (Sub.self _) ti83) rfl ?_
        refine kO (T_load_own (i := 0) rfl rfl rfl (Sub.self _) ti83) rfl ?_
        refine kO (T_callL rfl en69 (w69 (by omega) (by omega) hg0) (oa (ol rfl (Ty.le.refl _)) (oa (ol rfl (Ty.le.refl _)) oa0))) rfl ?_
        refine kM rfl rfl ?_
        refine kO (T_extract rfl rfl rfl) rfl ?_
        refine kO (T_extract rfl rfl rfl) rfl ?_
        refine kT ?_
        refine JT_store (i := 3) rfl rfl rfl rfl rfl (ol rfl (Ty.le.refl _)) (Upd.self _ _ rfl) sz83 ?_
        refine JT_done ?_
        -- region 6
        refine sR ?_
        refine kO (T_load_own (i := 2) rfl rfl rfl (Sub.self _) ti83) rfl ?_
        refine kO (T_load_own (i := 0) rfl rfl rfl (Sub.self _) ti83) rfl ?_
        refine kO (T_callL rfl en69 (w69 (by omega) (by omega) hg0) (oa (ol rfl (Ty.le.refl _)) (oa (ol rfl (Ty.le.refl _)) oa0))) rfl ?_
        refine kM rfl rfl ?_
        refine kO (T_extract rfl rfl rfl) rfl ?_
        refine kO (T_extract rfl rfl rfl) rfl ?_
        refine kT ?_
        refine JT_store (i := 2) rfl rfl rfl rfl rfl (ol rfl (Ty.le.refl _)) (Upd.self _ _ rfl) sz83 ?_
        refine JT_done ?_
        refine JS_seq ?_
        -- region 7
        refine sR ?_
        refine kO (T_load_own (i := 3) rfl rfl rfl (Sub.self _) ti83) rfl ?_
        refine kO (T_load_own (i := 2) rfl rfl rfl (Sub.self _) ti83) rfl ?_
        refine kO (T_sub (T_build (S0 := Seg.cat [Seg.of Kd.whole 0, Seg.of Kd.whole 0]) rfl fk85 z85 h0_85 (fc (ol rfl (Ty.le.refl _)) (uc (i := 0) rfl rfl rfl) rfl (fc (ol rfl (Ty.le.refl _)) (uc (i := 1) rfl rfl rfl) rfl (Fill.nil _))) rfl) (mk_num hq.1.symm hq.2.symm)) rfl ?_
        refine kT ?_
        refine JT_store (i := 1) rfl rfl rfl rfl rfl (ol rfl (Ty.le.refl _)) (Upd.self _ _ rfl) sz85 ?_
        refine JT_done ?_
        exact JS_ret (JE_ret_one rfl rfl (.cell (i := 1) rfl rfl ti85 .nil) (of_eq (rfl)))
      · refine kG (wFD g21 rfl rfl rfl) (T_fieldAddr_ptr rfl fa83_1 rfl rfl) rfl ?_
        refine kG (wFD g21 rfl rfl rfl) (T_load_own (i := 0) rfl rfl rfl (whole_mag _) ti81) rfl ?_
        refine kG (wFD g21 rfl rfl rfl) (T_ix rfl rfl rfl u81 ti126 (by omega) (by omega) (getD_at (0) (by omega) _)) rfl ?_
        refine kG (wFD g21 rfl rfl rfl) (T_load_int rfl ti126 rfl) rfl ?_
        refine kG (wFD g21 rfl rfl rfl) (T_ne rfl rfl rfl) rfl ?_
        refine kO (T_pickN g21 rfl rfl rfl) rfl ?_
        refine kE ?_
        refine JS_if rfl (fun c27 => ?_) (fun c27 => ?_)
        · refine JS_seq ?_
          -- region 5
          refine sR ?_
          refine kO (T_load_own (i := 3) rfl rfl rfl (Sub.self _) ti83) rfl ?_
          refine kO (T_load_own (i := 0) rfl rfl rfl (Sub.self _) ti83) rfl ?_
          refine kO (T_callL rfl en69 (w69 (by omega) (by omega) hg0) (oa (ol rfl (Ty.le.refl _)) (oa (ol rfl (Ty.le.refl _)) oa0))) rfl ?_
          refine kM rfl rfl ?_
          refine kO (T_extract rfl rfl rfl) rfl ?_
          refine kO (T_extract rfl rfl rfl) rfl ?_
          refine kT ?_
          refine JT_store (i := 3) rfl rfl rfl rfl rfl (ol rfl (Ty.le.refl _)) (Upd.self _ _ rfl) sz83 ?_
          refine JT_done ?_
          -- region 6
          refine sR ?_
          refine kO (T_load_own (i := 2) rfl rfl rfl (Sub.self _) ti83) rfl ?_
          refine kO (T_load_own (i := 0) rfl rfl rfl (Sub.self _) ti83) rfl ?_
          refine kO (T_callL rfl en69 (w69 (by omega) (by omega) hg0) (oa (ol rfl (Ty.le.refl _)) (oa (ol rfl (Ty.le.refl _)) oa0))) rfl ?_
          refine kM rfl rfl ?_
          refine kO (T_extract rfl rfl rfl) rfl ?_
          refine kO (T_extract rfl rfl rfl) rfl ?_
          refine kT ?_
          refine JT_store (i := 2) rfl rfl rfl rfl rfl (ol rfl (Ty.le.refl _)) (Upd.self _ _ rfl) sz83 ?_
          refine JT_done ?_
          refine JS_seq ?_
          -- region 7
          refine sR ?_
          refine kO (T_load_own (i := 3) rfl rfl rfl (Sub.self _) ti83) rfl ?_
          refine kO (T_load_own (i := 2) rfl rfl rfl (Sub.self _) ti83) rfl ?_
          refine kO (T_sub (T_build (S0 := Seg.cat [Seg.of Kd.whole 0, Seg.of Kd.whole 0]) rfl fk85 z85 h0_85 (fc (ol rfl (Ty.le.refl _)) (uc (i := 0) rfl rfl rfl) rfl (fc (ol rfl (Ty.le.refl _)) (uc (i := 1) rfl rfl rfl) rfl (Fill.nil _))) rfl) (mk_num hq.1.symm hq.2.symm)) rfl ?_
          refine kT ?_
          refine JT_store (i := 1) rfl rfl rfl rfl rfl (ol rfl (Ty.le.refl _)) (Upd.self _ _ rfl) sz85 ?_
          refine JT_done ?_
          exact JS_ret (JE_ret_one rfl rfl (.cell (i := 1) rfl rfl ti85 .nil) (of_eq (rfl)))
        · have hg1 : g = 1 := one_of (by omega) g21 c27 hlen1
          rw [hg1, Int.fdiv_one, Int.fdiv_one] at hq
          refine JS_skip ?_
          refine JS_seq ?_
          -- region 7
          refine sR ?_
          refine kO (T_load_own (i := 3) rfl rfl rfl (Sub.self _) ti83) rfl ?_
          refine kO (T_load_own (i := 2) rfl rfl rfl (Sub.self _) ti83) rfl ?_
          refine kO (T_sub (T_build (S0 := Seg.cat [Seg.of Kd.whole 0, Seg.of Kd.whole 0]) rfl fk85 z85 h0_85 (fc (ol rfl (Ty.le.refl _)) (uc (i := 0) rfl rfl rfl) rfl (fc (ol rfl (Ty.le.refl _)) (uc (i := 1) rfl rfl rfl) rfl (Fill.nil _))) rfl) (mk_num hq.1.symm hq.2.symm)) rfl ?_
          refine kT ?_
          refine JT_store (i := 1) rfl rfl rfl rfl rfl (ol rfl (Ty.le.refl _)) (Upd.self _ _ rfl) sz85 ?_
          refine JT_done ?_
          exact JS_ret (JE_ret_one rfl rfl (.cell (i := 1) rfl rfl ti85 .nil) (of_eq (rfl)))

theorem fa85_0 : FieldAt Tryz.prog 85 0 0 := by unfold FieldAt; kernel_rfl

theorem fa85_1 : FieldAt Tryz.prog 85 1 2 := by unfold FieldAt; kernel_rfl

theorem en77 : Enters Tryz.prog 77 := enters_fn Tryz.func77 (by kernel_rfl) rfl

theorem en46 : Enters Tryz.prog 46 := enters_fn Tryz.func46 (by kernel_rfl) rfl

theorem w55 {x y : Rat} (hx : Nz 400000 x) (hy : Nz 400000 y) : Spec CC 55 [Ty.of Kd.num x, Ty.of Kd.num y] (Ty.of Kd.num (x + y)) := by
  refine spec_of_JS Tryz.func55 rfl (Nat.le_of_ble_eq_true rfl) (fun gh0 wd0 => ?_)
  have x1 := hx.num
  have x2 := hx.den
  have y1 := hy.num
  have y2 := hy.den
  have l1 := lims_mul_len x1 y2
  have l2 := lims_mul_len y1 x2
  have l3 := lims_mul_len x2 y2
  have l4 := lims_add_len l1 l2
  refine JS_seq ?_
  -- region 0
  refine sR ?_
  refine kO (T_box rfl (ol rfl (Ty.le.refl _))) rfl ?_
  refine kO (T_box rfl (ol rfl (Ty.le.refl _))) rfl ?_
  refine kT ?_
  refine JT_alloc (S0 := Seg.of Kd.num0 none) rfl rfl rfl rfl z85 z_num0 (fun g4 => ?_)
  refine JT_done ?_
  refine JS_seq ?_
  -- region 1
  refine sRD mixed ?_
  refine kO (T_fieldAddr rfl fa85_0 (num_n _) rfl) rfl ?_
  refine kO (T_ld rfl rfl ti83) rfl ?_
  refine kO (T_fieldAddr rfl fa85_1 (num_d _) rfl) rfl ?_
  refine kO (T_ld rfl rfl ti83) rfl ?_
  refine kO (T_callL rfl en77 (w77 (by omega) (by omega)) (oa (ol rfl (Ty.le.refl _)) (oa (ol rfl (Ty.le.refl _)) oa0))) rfl ?_
  refine kO (T_fieldAddr rfl fa85_0 (num_n _) rfl) rfl ?_
  refine kO (T_ld rfl rfl ti83) rfl ?_
  refine kO (T_fieldAddr rfl fa85_1 (num_d _) rfl) rfl ?_
  refine kO (T_ld rfl rfl ti83) rfl ?_
  refine kO (T_callL rfl en77 (w77 (by omega) (by omega)) (oa (ol rfl (Ty.le.refl _)) (oa (ol rfl (Ty.le.refl _)) oa0))) rfl ?_
  refine kO (T_callL rfl en79 (w79 (by omega) (by omega)) (oa (ol rfl (Ty.le.refl _)) (oa (ol rfl (Ty.le.refl _)) oa0))) rfl ?_
  refine kO (T_fieldAddr rfl fa85_1 (num_d _) rfl) rfl ?_
  refine kO (T_ld rfl rfl ti83) rfl ?_
  refine kO (T_fieldAddr rfl fa85_1 (num_d _) rfl) rfl ?_
  refine kO (T_ld rfl rfl ti83) rfl ?_
  refine kO (T_callL rfl en77 (w77 (by omega) (by omega)) (oa (ol rfl (Ty.le.refl _)) (oa (ol rfl (Ty.le.refl _)) oa0))) rfl ?_
  refine kO (T_callL rfl en46 (w46 (by omega) (by omega) (den_mul_ne x y)) (oa (ol rfl (Ty.le.refl _)) (oa (ol rfl (Ty.le.refl _)) oa0))) rfl ?_
  refine kTD (by decide) ?_
  refine JT_store (i := 0) rfl rfl rfl rfl rfl (ol rfl (Ty.le.refl _)) (Upd.self _ _ rfl) sz85 ?_
  refine JT_done ?_
  exact JS_ret (JE_ret_one rfl rfl (.cell (i := 0) rfl rfl ti85 .nil) ((of_eq (add_div x y))))

theorem w57 {x y : Rat} (hx : Nz 400000 x) (hy : Nz 400000 y) : Spec CC 57 [Ty.of Kd.num x, Ty.of Kd.num y] (Ty.of Kd.num (x * y)) := by
  refine spec_of_JS Tryz.func57 rfl (Nat.le_of_ble_eq_true rfl) (fun gh0 wd0 => ?_)
  have x1 := hx.num
  have x2 := hx.den
  have y1 := hy.num
  have y2 := hy.den
  have l1 := lims_mul_len x1 y1
  have l3 := lims_mul_len x2 y2
  refine JS_seq ?_
  -- region 0
  refine sR ?_
  refine kO (T_box rfl (ol rfl (Ty.le.refl _))) rfl ?_
  refine kO (T_box rfl (ol rfl (Ty.le.refl _))) rfl ?_
  refine kT ?_
  refine JT_alloc (S0 := Seg.of Kd.num0 none) rfl rfl rfl rfl z85 z_num0 (fun g4 => ?_)
  refine JT_done ?_
  refine JS_seq ?_
  -- region 1
  refine sRD mixed ?_
  refine kO (T_fieldAddr rfl fa85_0 (num_n _) rfl) rfl ?_
  refine kO (T_ld rfl rfl ti83) rfl ?_
  refine kO (T_fieldAddr rfl fa85_0 (num_n _) rfl) rfl ?_
  refine kO (T_ld rfl rfl ti83) rfl ?_
  refine kO (T_callL rfl en77 (w77 (by omega) (by omega)) (oa (ol rfl (Ty.le.refl _)) (oa (ol rfl (Ty.le.refl _)) oa0))) rfl ?_
  refine kO (T_fieldAddr rfl fa85_1 (num_d _) rfl) rfl ?_
  refine kO (T_ld rfl rfl ti83) rfl ?_
  refine kO (T_fieldAddr rfl fa85_1 (num_d _) rfl) rfl ?_
  refine kO (T_ld rfl rfl ti83) rfl ?_
  refine kO (T_callL rfl en77 (w77 (by omega) (by omega)) (oa (ol rfl (Ty.le.refl _)) (oa (ol rfl (Ty.le.refl _)) oa0))) rfl ?_
  refine kO (T_callL rfl en46 (w46 (by omega) (by omega) (den_mul_ne x y)) (oa (ol rfl (Ty.le.refl _)) (oa (ol rfl (Ty.le.refl _)) oa0))) rfl ?_
  refine kTD (by decide) ?_
  refine JT_store (i := 0) rfl rfl rfl rfl rfl (ol rfl (Ty.le.refl _)) (Upd.self _ _ rfl) sz85 ?_
  refine JT_done ?_
  exact JS_ret (JE_ret_one rfl rfl (.cell (i := 0) rfl rfl ti85 .nil) ((of_eq (mul_div x y))))

theorem en78 : Enters Tryz.prog 78 := enters_fn Tryz.func78 (by kernel_rfl) rfl

theorem w54 {x y : Rat} (hx : Nz 400000 x) (hy : Nz 400000 y) : Spec CC 54 [Ty.of Kd.num x, Ty.of Kd.num y] (Ty.val (.int .i64 (cmpQ x y))) := by
  refine spec_of_JS Tryz.func54 rfl (Nat.le_of_ble_eq_true rfl) (fun gh0 wd0 => ?_)
  have x1 := hx.num
  have x2 := hx.den
  have y1 := hy.num
  have y2 := hy.den
  refine JS_seq ?_
  -- region 0
  refine sR ?_
  refine kO (T_box rfl (ol rfl (Ty.le.refl _))) rfl ?_
  refine kO (T_box rfl (ol rfl (Ty.le.refl _))) rfl ?_
  refine kA rfl rfl ?_
  refine kE ?_
  refine JS_seq ?_
  -- region 1
  refine sRD mixed ?_
  refine kO (T_fieldAddr rfl fa85_0 (num_n _) rfl) rfl ?_
  refine kO (T_ld rfl rfl ti83) rfl ?_
  refine kO (T_fieldAddr rfl fa85_1 (num_d _) rfl) rfl ?_
  refine kO (T_ld rfl rfl ti83) rfl ?_
  refine kO (T_callL rfl en77 (w77 (by omega) (by omega)) (oa (ol rfl (Ty.le.refl _)) (oa (ol rfl (Ty.le.refl _)) oa0))) rfl ?_
  refine kO (T_fieldAddr rfl fa85_0 (num_n _) rfl) rfl ?_
  refine kO (T_ld rfl rfl ti83) rfl ?_
  refine kO (T_fieldAddr rfl fa85_1 (num_d _) rfl) rfl ?_
  refine kO (T_ld rfl rfl ti83) rfl ?_
  refine kO (T_callL rfl en77 (w77 (by omega) (by omega)) (oa (ol rfl (Ty.le.refl _)) (oa (ol rfl (Ty.le.refl _)) oa0))) rfl ?_
  refine kO (T_callL rfl en78 (w78 ) (oa (ol rfl (Ty.le.refl _)) (oa (ol rfl (Ty.le.refl _)) oa0))) rfl ?_
  refine kA rfl rfl ?_
  refine kD (by decide) ?_
  exact JS_ret (JE_ret_one rfl rfl (.tmp rfl .nil) ((int_eq (cmp_div x y))))

theorem w52 {x : Rat} : Spec CC 52 [Ty.of Kd.num x] (Ty.val (.bool (decide (x.den = 1)))) := by
  refine spec_of_JS Tryz.func52 rfl (Nat.le_of_ble_eq_true rfl) (fun gh0 wd0 => ?_)
  refine JS_seq ?_
  -- region 0
  refine sR ?_
  refine kO (T_box rfl (ol rfl (Ty.le.refl _))) rfl ?_
  refine kA rfl rfl ?_
  refine kE ?_
  refine JS_seq ?_
  -- region 1
  refine sR ?_
  refine kO (T_fieldAddr rfl fa85_1 (num_d _) rfl) rfl ?_
  refine kO (T_fieldAddr rfl fa83_1 (whole_mag _) rfl) rfl ?_
  refine kO (T_ld rfl rfl ti81) rfl ?_
  refine kO (T_len_slice rfl rfl u81 rfl) rfl ?_
  refine kO (T_eq rfl rfl rfl) rfl ?_
  refine kM rfl rfl ?_
  refine tk_if (d := 8) rfl (fun g8 => ?_) (fun g8 => ?_)
  · refine kG (wTD g8 rfl rfl rfl) (T_fieldAddr rfl fa85_1 (num_d _) rfl) rfl ?_
    refine kG (wTD g8 rfl rfl rfl) (T_fieldAddr rfl fa83_1 (whole_mag _) rfl) rfl ?_
    refine kG (wTD g8 rfl rfl rfl) (T_ld rfl rfl ti81) rfl ?_
    refine kG (wTD g8 rfl rfl rfl) (T_ix rfl rfl rfl u81 ti126 (by omega) (by omega) (getD_at (0) (by omega) _)) rfl ?_
    refine kG (wTD g8 rfl rfl rfl) (T_load_int rfl ti126 rfl) rfl ?_
    refine kG (wTD g8 rfl rfl rfl) (T_eq rfl rfl rfl) rfl ?_
    refine kO (T_pickD g8 rfl rfl rfl) rfl ?_
    refine kA rfl rfl ?_
    refine kE ?_
    exact JS_ret (JE_ret_one rfl rfl (.tmp rfl .nil) ((dec_eq (by rw [whole_one (den_pos' x) g8]; omega))))
  · refine kS (uFD g8 rfl rfl rfl) rfl ?_
    refine kS (uFD g8 rfl rfl rfl) rfl ?_
    refine kS (uFD g8 rfl rfl rfl) rfl ?_
    refine kS (uFD g8 rfl rfl rfl) rfl ?_
    refine kS (uFD g8 rfl rfl rfl) rfl ?_
    refine kS (uFD g8 rfl rfl rfl) rfl ?_
    refine kO (T_pickN g8 rfl rfl rfl) rfl ?_
    refine kA rfl rfl ?_
    refine kE ?_
    exact JS_ret (JE_ret_one rfl rfl (.tmp rfl .nil) ((bool_eq (by have h : ¬ x.den = 1 := fun e => g8 (by rw [e, show ((1 : Nat) : Int).natAbs = 1 from rfl, lims_1]; rfl); simp [h]))))

end Go.Proofs.YtknflgfkhkdomaaGreatDoor.Mono

/-! MonoA -/
set_option linter.unusedVariables false
set_option linter.unusedSimpArgs false
namespace Go.Proofs.YtknflgfkhkdomaaGreatDoor.Mono
open Go Go.RowKit
variable {C : Ctx} {Δ : List Res} {Γ : Env} {o : Oper} {F : Fr} {Q : Post} {cs : List Code}

/-! ### Bits -/
theorem T_shr {t yt : TypeId} {x y : Operand} {k k' : IntKind} {a b n : Int} (ho : o.op = .binOp .shr t x y yt) (hx : Opd Γ x (Ty.val (.int k a))) (hy : Opd Γ y (Ty.val (.int k' b))) (hb : 0 ≤ b) (hn : a.fdiv (2 ^ (min b.toNat k.bits)) = n) : TOp C Δ Γ o (Ty.val (.int k n)) := by
  intro m w ac hs _ _ _ htt
  have h1 : ac.eval x = .int k a := hx.p htt (by simp [ho, Op.operands])
  have h2 : ac.eval y = .int k' b := hy.p htt (by simp [ho, Op.operands])
  have hb' : ¬ b < 0 := by omega
  exact Gives.value (by simp [ho]) (by simp [execOp, ho, h1, h2, eqGuard_int, binOp, Op.shift, hb', hn]) hs rfl
theorem T_shl {t yt : TypeId} {x y : Operand} {k k' : IntKind} {a b n : Int} (ho : o.op = .binOp .shl t x y yt) (hx : Opd Γ x (Ty.val (.int k a))) (hy : Opd Γ y (Ty.val (.int k' b))) (hb : 0 ≤ b) (hn : k.wrap (a * 2 ^ (min b.toNat k.bits)) = n) : TOp C Δ Γ o (Ty.val (.int k n)) := by
  intro m w ac hs _ _ _ htt
  have h1 : ac.eval x = .int k a := hx.p htt (by simp [ho, Op.operands])
  have h2 : ac.eval y = .int k' b := hy.p htt (by simp [ho, Op.operands])
  have hb' : ¬ b < 0 := by omega
  exact Gives.value (by simp [ho]) (by simp [execOp, ho, h1, h2, eqGuard_int, binOp, Op.shift, hb', hn]) hs rfl
def bitI (op : BinOp) (k : IntKind) (a b : Int) : Int :=
  match op with
  | .and => k.wrap (BitVec.ofInt k.bits a &&& BitVec.ofInt k.bits b).toNat
  | .or => k.wrap (BitVec.ofInt k.bits a ||| BitVec.ofInt k.bits b).toNat
  | .xor => k.wrap (BitVec.ofInt k.bits a ^^^ BitVec.ofInt k.bits b).toNat
  | _ => k.wrap (BitVec.ofInt k.bits a &&& ~~~ BitVec.ofInt k.bits b).toNat
theorem T_bits {op : BinOp} {t yt : TypeId} {x y : Operand} {k : IntKind} {a b n : Int} (ho : o.op = .binOp op t x y yt) (hop : op = .and ∨ op = .or ∨ op = .xor ∨ op = .andNot) (hx : Opd Γ x (Ty.val (.int k a))) (hy : Opd Γ y (Ty.val (.int k b))) (hn : bitI op k a b = n) : TOp C Δ Γ o (Ty.val (.int k n)) := by
  intro m w ac hs _ _ _ htt
  have h1 : ac.eval x = .int k a := hx.p htt (by simp [ho, Op.operands])
  have h2 : ac.eval y = .int k b := hy.p htt (by simp [ho, Op.operands])
  subst hn
  rcases hop with rfl | rfl | rfl | rfl <;> exact Gives.value (by simp [ho]) (by simp only [execOp, ho, h1, h2, Sem.run_bind, eqGuard_int, Result.andThen_ok, binOp, ne_eq, not_true_eq_false, if_false, Op.intBits, Sem.run_pure, bitI]) hs rfl
theorem shr_u64 {X : Nat} {b : Int} (h0 : 0 ≤ b) (h : b ≤ 64) : (X : Int).fdiv (2 ^ (min b.toNat IntKind.u64.bits)) = ((X >>> b.toNat : Nat) : Int) := by
  have e : min b.toNat IntKind.u64.bits = b.toNat := by show min b.toNat 64 = _; omega
  rw [e, Nat.shiftRight_eq_div_pow, Int.fdiv_eq_ediv_of_nonneg _ (Int.pow_nonneg (by decide))]
  rw [Int.natCast_ediv, Int.natCast_pow]; rfl
theorem shl1_u64 {b : Int} (h0 : 0 ≤ b) (h : b < 64) : IntKind.u64.wrap (1 * 2 ^ (min b.toNat IntKind.u64.bits)) = ((2 ^ b.toNat : Nat) : Int) := by
  have e : min b.toNat IntKind.u64.bits = b.toNat := by show min b.toNat 64 = _; omega
  have h2 : 2 ^ b.toNat ≤ 2 ^ 63 := Nat.pow_le_pow_right (by decide) (by omega)
  rw [show (2 : Nat) ^ 63 = 9223372036854775808 by decide] at h2
  rw [e, Int.one_mul, show ((2 : Int) ^ b.toNat) = ((2 ^ b.toNat : Nat) : Int) by rw [Int.natCast_pow]; rfl]
  generalize 2 ^ b.toNat = p at *
  rw [wrap_u64 (by omega) (by omega)]
theorem and_u64 {X Y : Nat} (hX : X < 18446744073709551616) (hY : Y < 18446744073709551616) : bitI .and .u64 (X : Int) (Y : Int) = ((X &&& Y : Nat) : Int) := by
  show IntKind.u64.wrap ((BitVec.ofInt 64 (X : Int) &&& BitVec.ofInt 64 (Y : Int)).toNat : Int) = _
  have h1 := @Nat.and_le_left X Y
  rw [BitVec.ofInt_natCast, BitVec.ofInt_natCast, BitVec.toNat_and, BitVec.toNat_ofNat, BitVec.toNat_ofNat, Nat.mod_eq_of_lt hX, Nat.mod_eq_of_lt hY]
  rw [wrap_u64 (by omega) (by omega)]
theorem or_u64 {X Y : Nat} (hX : X < 18446744073709551616) (hY : Y < 18446744073709551616) : bitI .or .u64 (X : Int) (Y : Int) = ((X ||| Y : Nat) : Int) := by
  show IntKind.u64.wrap ((BitVec.ofInt 64 (X : Int) ||| BitVec.ofInt 64 (Y : Int)).toNat : Int) = _
  have h1 := @Nat.or_lt_two_pow X Y 64 hX hY
  rw [show (2 : Nat) ^ 64 = 18446744073709551616 by decide] at h1
  rw [BitVec.ofInt_natCast, BitVec.ofInt_natCast, BitVec.toNat_or, BitVec.toNat_ofNat, BitVec.toNat_ofNat, Nat.mod_eq_of_lt hX, Nat.mod_eq_of_lt hY]
  rw [wrap_u64 (by omega) (by omega)]
/-- X without the bits of Y. -/
def minusB (X Y : Nat) : Nat := X &&& (18446744073709551615 - Y)
theorem andNot_u64 {X Y : Nat} (hX : X < 18446744073709551616) (hY : Y < 18446744073709551616) : bitI .andNot .u64 (X : Int) (Y : Int) = ((minusB X Y : Nat) : Int) := by
  unfold minusB
  show IntKind.u64.wrap ((BitVec.ofInt 64 (X : Int) &&& ~~~ BitVec.ofInt 64 (Y : Int)).toNat : Int) = _
  have h1 := @Nat.and_le_left X (18446744073709551615 - Y)
  rw [BitVec.ofInt_natCast, BitVec.ofInt_natCast, BitVec.toNat_and, BitVec.toNat_not, BitVec.toNat_ofNat, BitVec.toNat_ofNat, Nat.mod_eq_of_lt hX, Nat.mod_eq_of_lt hY]
  rw [show 2 ^ 64 - 1 - Y = 18446744073709551615 - Y by omega, wrap_u64 (by omega) (by omega)]
theorem and1_u64 {X : Nat} (hX : X < 18446744073709551616) : bitI .and .u64 (X : Int) 1 = ((X % 2 : Nat) : Int) := by
  have := and_u64 (X := X) (Y := 1) hX (by decide)
  rw [Nat.and_one_is_mod] at this
  exact this
theorem minusB_bit {X Y : Nat} (hX : X < 18446744073709551616) (hY : Y < 18446744073709551616) (i : Nat) : (minusB X Y).testBit i = (X.testBit i && !Y.testBit i) := by
  unfold minusB
  rw [Nat.testBit_and]
  by_cases h : i < 64
  · rw [show 18446744073709551615 - Y = 2 ^ 64 - (Y + 1) by omega, Nat.testBit_two_pow_sub_succ hY]
    simp [h]
  · have : X.testBit i = false := Nat.testBit_lt_two_pow (Nat.lt_of_lt_of_le hX (show 18446744073709551616 ≤ 2 ^ i from (show (18446744073709551616 : Nat) = 2 ^ 64 by decide) ▸ Nat.pow_le_pow_right (by decide) (by omega)))
    simp [this]
theorem bit_mod (X n : Nat) : (X >>> n) % 2 = if X.testBit n then 1 else 0 := by
  unfold Nat.testBit
  rw [Nat.and_comm, Nat.and_one_is_mod]
  have := Nat.mod_two_eq_zero_or_one (X >>> n)
  rcases this with h | h <;> simp [h]
theorem bit_on {X n : Nat} (h : (((X >>> n) % 2 : Nat) : Int) = 1) : X.testBit n = true := by
  rw [bit_mod] at h; split at h
  · assumption
  · omega
theorem bit_off {X n : Nat} (h : (((X >>> n) % 2 : Nat) : Int) = 0) : X.testBit n = false := by
  rw [bit_mod] at h
  cases h2 : X.testBit n with
  | false => rfl
  | true => simp [h2] at h
theorem bit_non {X n : Nat} (h : ¬ (((X >>> n) % 2 : Nat) : Int) = 0) : X.testBit n = true := by
  rw [bit_mod] at h; split at h
  · assumption
  · exact absurd rfl h
theorem bit_noff {X n : Nat} (h : ¬ (((X >>> n) % 2 : Nat) : Int) = 1) : X.testBit n = false := by
  rw [bit_mod] at h
  cases h2 : X.testBit n with
  | false => rfl
  | true => simp [h2] at h

/-! ### Pointers that are not nil -/
theorem T_nilCheck {x : Operand} {S : Seg} (ho : o.op = .nilCheck x) (hx : Opd Γ x (Ty.place S)) : TOp C Δ Γ o (Ty.place S) := by
  intro m w ac hs _ _ _ htt
  have h1 := hx.p htt (by simp [ho, Op.operands])
  have h1' := h1
  obtain ⟨b, off, cs, h2, _⟩ := h1
  exact Gives.value (v := ac.eval x) (by simp [ho]) (by simp [execOp, ho, h2]) hs h1'
theorem T_nilCheckO {x : Operand} {g off : Nat} (ho : o.op = .nilCheck x) (hx : Opd Γ x (Ty.val (ptr g off))) : TOp C Δ Γ o (Ty.val (ptr g off)) := by
  intro m w ac hs _ _ _ htt
  have h1 : ac.eval x = ptr g off := hx.p htt (by simp [ho, Op.operands])
  exact Gives.value (v := ptr g off) (by simp [ho]) (by simp [execOp, ho, h1]) hs rfl

/-! ### Structs of many fields -/
def Kd.st {γ : Type} (f : γ → List Seg) (n : Nat) (h : ∀ x, sizes (f x) = n) : Kd γ where
  sz := n
  agg := true
  K := fun m x cs => CatP m (f x) cs
  up := fun hm h => h.up hm
  len := fun hp => by rw [hp.len, h]
  one := fun h => h.one
  flat := fun h => by simp at h
theorem st_sub {γ : Type} {f : γ → List Seg} {n : Nat} {h : ∀ x, sizes (f x) = n} {x : γ} {S : Seg} {off i : Nat} (hi : (f x)[i]? = some S) (ho : sizes ((f x).take i) = off) : Sub (Seg.of (Kd.st f n h) x) off S := fun m cs hp => Sub.cat i hi ho m cs hp
theorem st_mk {γ : Type} {f : γ → List Seg} {n : Nat} {h : ∀ x, sizes (f x) = n} {Ss : List Seg} (x : γ) (e : Ss = f x) : Ty.le (Ty.seg (Seg.cat Ss)) (Ty.of (Kd.st f n h) x) := by subst e; exact fun m v hv => hv
theorem st_z {γ : Type} {f : γ → List Seg} {n : Nat} {h : ∀ x, sizes (f x) = n} {x : γ} {m : GH} {cs : List Value} (hp : (Seg.cat (f x)).p m cs) : (Seg.of (Kd.st f n h) x).p m cs := hp

/-! ### Arrays -/
theorem arr_mk {α : Type} {d : Kd α} {n : Nat} {Ss : List Seg} (xs : List α) (e : Ss = xs.map (Seg.of d)) (hn : xs.length = n) : Ty.le (Ty.seg (Seg.cat Ss)) (Ty.of (Kd.arr n d) xs) := by
  subst e; exact fun m v ⟨cs, h1, h2⟩ => ⟨cs, ⟨hn, cat_reps xs cs h1⟩, h2⟩
theorem T_buildArr {t e n : Nat} {parts : Array (Nat × Operand)} {z : Value} {S0 S : Seg} {sz : Nat} {agg : Bool} (ho : o.op = .build t parts) (hu : C.P.underlying t = some (.array n e)) (hti : TI C.P e agg sz) (hz : ZeroOf C.P t z) (h0 : ∀ m, S0.p m z.cells.toList) (hf : Fill Γ (fun i => some (i * sz, sz)) S0 parts.toList S) (hagg : S.agg = true) : TOp C Δ Γ o (Ty.seg S) := by
  intro m w ac hs _ _ _ htt
  obtain ⟨cs', k1, k2⟩ := run_fill hf (m := m) (ac := ac) (fun s hs' U hU => htt s (by simpa [ho, Op.operands] using hs') U hU) (h0 m)
  refine Gives.value (v := .agg cs'.toArray) (by simp [ho]) ?_ hs ⟨cs', k2, by rw [hagg]; rfl⟩
  have e : Instr.fill (fun i => some (i * sz, sz)) z.cells (parts.toList.map fun p => (p.1, ac.eval p.2)) = some cs'.toArray := by simpa using k1
  simp only [execOp, ho, Sem.run_bind, Instr.build, hz.run w, Result.andThen_ok, Go.underlying, run_program, hu, Sem.run_pure, hti.size w]
  simp only [Array.toList_map, e, Sem.run_pure, Result.andThen_ok]
theorem T_index_arr {t e n : Nat} {x i : Operand} {k : IntKind} {j : Int} {α : Type} {d : Kd α} {xs : List α} {y : α} (ho : o.op = .index t x i) (hx : Opd Γ x (Ty.of (Kd.arr n d) xs)) (hi : Opd Γ i (Ty.val (.int k j))) (hu : C.P.underlying t = some (.array n e)) (hti : TI C.P e d.agg d.sz) (h0 : 0 ≤ j) (hlt : j.toNat < n) (hy : xs[j.toNat]? = some y) : TOp C Δ Γ o (Ty.of d y) := by
  intro m w ac hs _ _ _ htt
  obtain ⟨cs, ⟨hl, h1⟩, h2⟩ := hx.p htt (by simp [ho, Op.operands])
  have h3 : ac.eval i = .int k j := hi.p htt (by simp [ho, Op.operands])
  obtain ⟨c1, c2, c3, g1, g2, g3, _, _⟩ := h1.at_ j.toNat (by omega)
  have hy' : xs[j.toNat] = y := by rw [List.getElem?_eq_getElem (by omega)] at hy; exact Option.some.inj hy
  rw [hy'] at g3
  refine Gives.value (v := mkV d.agg c2) (by simp [ho]) ?_ hs ⟨c2, g3, rfl⟩
  have hl2 := d.len g3
  have hr := run_part (P := C.P) (w := w) (t := e) (c1 := c1) (c2 := c2) (c3 := c3) (by rw [hl2]; exact hti) (fun h => by rw [hl2]; exact d.flat h)
  have hjn : j < (n : Int) := by omega
  have h2' : ac.eval x = .agg cs.toArray := h2
  simp only [execOp, ho, Sem.run_bind, Instr.index, h2', h3, asIntOf, Go.underlying, run_program, Result.andThen_ok, hu, Sem.run_pure, h0, hjn, and_self, if_true, hti.size w, g1]
  rw [← g2, hr]
  rfl
theorem T_ia_arr {t e n : Nat} {x i : Operand} {k : IntKind} {j : Int} {α : Type} {d : Kd α} {xs : List α} {y : α} (ho : o.op = .indexAddr t x i) (hx : Opd Γ x (Ty.place (Seg.of (Kd.arr n d) xs))) (hi : Opd Γ i (Ty.val (.int k j))) (hu : C.P.underlying t = some (.array n e)) (hti : TI C.P e d.agg d.sz) (h0 : 0 ≤ j) (hlt : j.toNat < n) (hy : xs[j.toNat]? = some y) : TOp C Δ Γ o (Ty.place (Seg.of d y)) := by
  intro m w ac hs _ _ _ htt
  obtain ⟨b, off, cs, h1, h2, hl, h3⟩ := hx.p htt (by simp [ho, Op.operands])
  have h4 : ac.eval i = .int k j := hi.p htt (by simp [ho, Op.operands])
  obtain ⟨c1, c2, c3, g1, g2, g3, _, _⟩ := h3.at_ j.toNat (by omega)
  have hy' : xs[j.toNat] = y := by rw [List.getElem?_eq_getElem (by omega)] at hy; exact Option.some.inj hy
  rw [hy'] at g3
  refine Gives.value (v := .pointer (some ⟨b, off + j.toNat * d.sz, none⟩)) (by simp [ho]) ?_ hs ⟨b, _, c2, rfl, ?_, g3⟩
  · have hjn : j < (n : Int) := by omega
    simp only [execOp, ho, Sem.run_bind, Instr.indexAt, h1, h4, asIntOf, Go.underlying, run_program, Result.andThen_ok, hu, Sem.run_pure, Instr.sureAddr, h0, hjn, and_self, if_true, hti.size w, add_none]
  · rw [g1] at h2; rw [← g2]; exact h2.sub

/-! ### Functions as values -/
theorem T_mkfn {X : Type} {ins : X → List Ty} {out : X → Ty} {caps : List Ty} {f : FuncId} {first cap : Array Operand} (ho : o.op = .makeFunc (.func f) first cap) (hfst : first = #[]) (he : Enters C.P f) (hf : ∀ x, Spec C f (ins x ++ caps) (out x)) (hx : OpdAllLe Γ cap.toList caps) : TOp C Δ Γ o (Ty.fn C ins out) := by
  obtain ⟨Us, h1, h2, h3⟩ := hx.spec
  refine T_makeFunc ho (fun m w a hs hg _ htt => ⟨f, _, _, rfl, he, fun x m' w' args hle hs' hg' hargs => ?_⟩)
  subst hfst
  have hc := h1.p htt (fun y hy => by simp [ho, Op.operands, hy])
  have hc2 : TyAll m' caps (cap.toList.map a.eval) := (hc.le h2 h3).up hle
  refine hf x m' w' _ hs' hg' ?_
  simp only [List.map_toArray, Array.toList_append, Array.toList_map]
  have happ : ∀ (Ts : List Ty) (vs : List Value), TyAll m' Ts vs → TyAll m' (Ts ++ caps) (vs ++ cap.toList.map a.eval) := by
    intro Ts
    induction Ts with
    | nil => intro vs h; match vs, h with | [], _ => exact hc2
    | cons T Ts ih => intro vs h; match vs, h with | v :: vs, h => exact ⟨h.1, ih vs h.2⟩
  simpa using happ (ins x) args.toList hargs
theorem T_fnval {X : Type} {ins : X → List Ty} {out : X → Ty} {f : FuncId} {Γ : Env} {T : Ty} (he : Enters C.P f) (hf : ∀ x, Spec C f (ins x) (out x)) : Ty.le (Ty.val (.func (.func f) #[] #[])) (Ty.fn C ins out) := fun m v hv => ⟨f, #[], #[], hv, he, fun x m' w' args _ hs hg ht => by
  simpa using hf x m' w' args hs hg ht⟩
theorem T_callvL {x : Operand} {xs : Array Operand} {ts : Array TypeId} {X : Type} {ins : X → List Ty} {out : X → Ty} (y : X) (ho : o.op = .call { callee := .value x, args := xs, argTypes := ts }) (hf : Opd Γ x (Ty.fn C ins out)) (hx : OpdAllLe Γ xs.toList (ins y)) : TOp C Δ Γ o (out y) := by
  obtain ⟨Us, h1, h2, h3⟩ := hx.spec
  intro m w a hs hg _ _ htt
  obtain ⟨f, first, cap, k1, k2, k3⟩ := hf.p htt (by simp [ho, Op.operands, Call.operands])
  have hargs := (h1.p htt (fun z hz => by simp [ho, Op.operands, Call.operands, Array.mem_toList_iff.1 hz])).le h2 h3
  refine ⟨by simp [ho], .inr ⟨f, first ++ xs.map a.eval ++ cap, ?_, k3 y m w _ (GH.le.refl m) hs hg (by simpa using hargs)⟩⟩
  have := run_call (C := C) (ρ := a.eval) (c := { callee := .value x, args := xs, argTypes := ts }) (ty := o.type) (x := x) rfl k1 k2 w
  simpa [execOp, ho] using this
end Go.Proofs.YtknflgfkhkdomaaGreatDoor.Mono

/-! MonoB -/
set_option linter.unusedVariables false
set_option linter.unusedSimpArgs false
namespace Go.Proofs.YtknflgfkhkdomaaGreatDoor.Mono
open Go Go.RowKit
variable {C : Ctx} {Δ : List Res} {Γ : Env} {o : Oper} {F : Fr} {Q : Post} {cs : List Code} {ops : Array Oper} {l : List Oper}

def Kd.byte : Kd UInt8 := Kd.scalar (fun b => Value.int .u8 (b.toNat : Int)) (fun _ => rfl)
theorem val_byte (b : UInt8) : Ty.le (Ty.val (.int .u8 (b.toNat : Int))) (Ty.of Kd.byte b) := fun m v hv => ⟨[v], by rw [show v = _ from hv]; rfl, rfl⟩
theorem byte_val (b : UInt8) : Ty.le (Ty.of Kd.byte b) (Ty.val (.int .u8 (b.toNat : Int))) := fun m v ⟨cs, h1, h2⟩ => by rw [show cs = _ from h1] at h2; exact h2
theorem val_byteE {n : Int} (b : UInt8) (h : n = (b.toNat : Int)) : Ty.le (Ty.val (.int .u8 n)) (Ty.of Kd.byte b) := by subst h; exact val_byte b
theorem reps_byte {m : GH} : ∀ {xs : List UInt8} {cs : List Value}, Reps m Kd.byte xs cs → cs = xs.map fun b => Value.int .u8 (b.toNat : Int)
  | [], _, h => h
  | x :: xs, _, ⟨c, r, h1, h2, h3⟩ => by rw [h1, show c = _ from h2, reps_byte h3]; rfl
theorem byte_reps (m : GH) : ∀ (xs : List UInt8), Reps m Kd.byte xs (xs.map fun b => Value.int .u8 (b.toNat : Int))
  | [] => rfl
  | x :: xs => ⟨[_], _, rfl, rfl, byte_reps m xs⟩

/-! ### Pointers held against each other -/
def isNil : Value → Bool
  | .pointer none => true
  | _ => false
def PtrOk (p : Value) : Prop := p = .pointer none ∨ ∃ a, p = .pointer (some a)
theorem isNil_eq {p : Value} (h : isNil p = true) : p = .pointer none := by
  unfold isNil at h; split at h
  · rfl
  · cases h
theorem T_isNil {t te yt : TypeId} {x y : Operand} {p : Value} (ho : o.op = .binOp .eql t x y yt) (hx : Opd Γ x (Ty.val p)) (hy : Opd Γ y (Ty.val (.pointer none))) (hu : C.P.underlying t = some (.pointer te)) (hp : PtrOk p) : TOp C Δ Γ o (Ty.val (.bool (isNil p))) := by
  intro m w ac hs _ _ _ htt
  have h1 : ac.eval x = p := hx.p htt (by simp [ho, Op.operands])
  have h2 : ac.eval y = .pointer none := hy.p htt (by simp [ho, Op.operands])
  refine Gives.value (by simp [ho]) ?_ hs rfl
  rcases hp with rfl | ⟨ad, rfl⟩
  · have h : ∀ d : Nat, (Op.equalIn (d + 1) t (.pointer none) (.pointer none)).run C.P w = .ok true w := fun d => by simp [Op.equalIn, run_underlying hu]
    simp only [execOp, ho, Sem.run_bind, h1, h2]
    simp [eqGuard, binOp, Op.equal, Op.maxDepth, h 9999, isNil]
  · have h : ∀ d : Nat, (Op.equalIn (d + 1) t (.pointer (some ad)) (.pointer none)).run C.P w = .ok false w := fun d => by simp [Op.equalIn, run_underlying hu]
    simp only [execOp, ho, Sem.run_bind, h1, h2]
    simp [eqGuard, binOp, Op.equal, Op.maxDepth, h 9999, isNil]
theorem T_pneS {t te yt : TypeId} {x y : Operand} {g off : Nat} {agg : Bool} {sz : Nat} (ho : o.op = .binOp .neq t x y yt) (hx : Opd Γ x (Ty.val (ptr g off))) (hy : Opd Γ y (Ty.val (ptr g off))) (hu : C.P.underlying t = some (.pointer te)) (hti : (C.P.info? te).map (·.size) = some sz) : TOp C Δ Γ o (Ty.val (.bool false)) := by
  intro m w ac hs _ _ _ htt
  have h1 : ac.eval x = ptr g off := hx.p htt (by simp [ho, Op.operands])
  have h2 : ac.eval y = ptr g off := hy.p htt (by simp [ho, Op.operands])
  obtain ⟨j, hj, _⟩ := Option.map_eq_some_iff.1 hti
  refine Gives.value (by simp [ho]) ?_ hs rfl
  simp only [execOp, ho, Sem.run_bind, h1, h2]
  have := Lib.run_neq_ptr_same (P := C.P) w ⟨g, off, none⟩ hu hj
  simp [eqGuard, this]

/-! ### unsafe.Pointer and back -/
theorem box_shape {g : Nat} {t : TypeId} {S : Seg} {m : GH} {w : World} (h : (Res.box g t S).p m w) : w.shape? g = some (t, S.sz) := by
  obtain ⟨vs, h1, h2⟩ := h
  simp [World.shape?, h1, S.len h2]
theorem T_toU {src dst t t' : TypeId} {x : Operand} {g i : Nat} {S : Seg} (ho : o.op = .convert src dst x) (hx : Opd Γ x (Ty.val (ptr g 0))) (hi : Δ[i]? = some (Res.box g t' S)) (hs : C.P.underlying src = some (.pointer t)) (hd : C.P.underlying dst = some .unsafePointer)
    (ht : (C.P.info? t).map (fun j => Nat.blt 0 j.size) = some true) (hS : Nat.blt 0 S.sz = true) : TOp C Δ Γ o (Ty.val (ptr g 0)) := by
  intro m w ac hsat _ hΔ _ htt
  have h1 : ac.eval x = ptr g 0 := hx.p htt (by simp [ho, Op.operands])
  obtain ⟨j, hj, hj2⟩ := Option.map_eq_some_iff.1 ht
  have hsh := box_shape (hΔ _ (List.mem_of_getElem? hi))
  refine Gives.value (v := ptr g 0) (by simp [ho]) ?_ hsat rfl
  have := Lib.run_to_unsafe (P := C.P) w ⟨g, 0, none⟩ hs hd hj (by simp at hj2; omega) hsh (by simpa using hS)
  simp only [execOp, ho, Sem.run_bind, h1, this, Result.andThen_ok, Sem.run_pure]
theorem T_fromU {src dst u t' : TypeId} {x : Operand} {g i : Nat} {S : Seg} (ho : o.op = .convert src dst x) (hx : Opd Γ x (Ty.val (ptr g 0))) (hi : Δ[i]? = some (Res.box g t' S)) (hs : C.P.underlying src = some .unsafePointer) (hd : C.P.underlying dst = some (.pointer u))
    (ht : (C.P.info? u).isSome = true) (hl : liesAt C.P C.P.depth t' (S.sz / C.P.cellsOf t') 0 u 1 = true) : TOp C Δ Γ o (Ty.val (ptr g 0)) := by
  intro m w ac hsat _ hΔ _ htt
  have h1 : ac.eval x = ptr g 0 := hx.p htt (by simp [ho, Op.operands])
  obtain ⟨j, hj⟩ := Option.isSome_iff_exists.1 ht
  have hsh := box_shape (hΔ _ (List.mem_of_getElem? hi))
  refine Gives.value (v := ptr g 0) (by simp [ho]) ?_ hsat rfl
  have := Lib.run_from_unsafe (P := C.P) w ⟨g, 0, none⟩ hs hd hj hsh hl
  simp only [execOp, ho, Sem.run_bind, h1, this, Result.andThen_ok, Sem.run_pure]
theorem T_noEsc {f : FuncId} {fn : Func} {x : Operand} {ts : Array TypeId} {v : Value} (ho : o.op = .call { callee := .value (.func f), args := #[x], argTypes := ts }) (hx : Opd Γ x (Ty.val v)) (hf : C.P.funcs[f]? = some fn) (hname : (fn.name == "runtime.NumGoroutine") = false)
    (hb : fn.body.isNone = true) (hn : Extern.findNext fn = none) (he : Extern.find fn = some Extern.AbiNoEscape.same) : TOp C Δ Γ o (Ty.val v) := by
  intro m w ac hsat _ hΔ _ htt
  have h1 : ac.eval x = v := hx.p htt (by simp [ho, Op.operands, Call.operands])
  refine Gives.value (v := v) (by simp [ho]) ?_ hsat rfl
  have := run_callFunc_extern (P := C.P) hf hname hb hn he #[v] w
  rw [Lib.run_noEscape] at this
  simp only [execOp, ho, Sem.run_bind, resolve, Sem.run_pure, Result.andThen_ok, invoke, Act.eval, Deferred.ofValue]
  simp [h1, this]

/-! ### Bytes of one's own -/
theorem append_str_at {P : Program} {w : World} {t u ty e : TypeId} {i : TypeInfo} (ht : P.underlying t = some (.slice e)) (hu : P.underlying u = some .string) (hi : P.info? e = some i) (hz : i.zero = some (.int .u8 0)) (hsize : i.size = 1) (hby : i.bytes = 1)
    {v : Value} {n : Nat} {xs : List Value} (hown : w.ownsRow 0 e 1 v n xs) (s : ByteArray) (h63 : n + s.size ≤ maxLen) (hbytes : n + s.size ≤ 140737488355328)
    {v' : Value} {w' : World} (hr : (Builtin.append_ #[t, u] ty #[v, .string s]).run P w = .ok v' w') : v'.ownBlock = v.ownBlock ∨ v'.ownBlock = some w.heap.size := by
  have hsmall : n + s.size ≤ 9223372036854775807 := by simp only [maxLen] at h63; omega
  have hxl : xs.length = n := by simpa using hown.1
  rcases hown.2 with ⟨rfl, rfl⟩ | ⟨g, cap, cur, rfl, hbg, hg, hnc, hcm, hcs, htake⟩
  · by_cases hm : s.size = 0
    · left
      have hf := Lib.run_firstCells_string (P := P) w 1 s
      rw [hm] at hf
      have : (Builtin.append_ #[t, u] ty #[.slice none 0 0, .string s]).run P w = .ok (.slice none 0 0) w := by simp [Builtin.append_, run_underlying ht, run_underlying hu, sizeOf, typeInfo, hi, hsize, Builtin.lenOf, hm, hf]
      rw [this] at hr; injection hr with h1 h2; rw [← h1]
    · right
      have := run_append_nil_string (P := P) w t u ty e i (.int .u8 0) ht hu hi hz s (by omega) (by omega) (by rw [hby]; omega)
      rw [this] at hr; injection hr with h1 h2; rw [← h1]; rfl
  · by_cases hroom : n + s.size ≤ cap
    · left
      have hcs' : cur.size = cap := by simpa using hcs
      have := Lib.run_append_room_string (P := P) w t u ty e i ht hu hi hsize g n cap cur hg s hroom (by omega)
      rw [this] at hr; injection hr with h1 h2; rw [← h1]; rfl
    · right
      have holds : ∀ j u, xs[j]? = some u → w.cell? ((⟨g, 0, none⟩ : Addr).add j) = some u := hown.cells (g := g) rfl
      have := Lib.run_append_grow_string (P := P) w t u ty e i (.int .u8 0) ht hu hi hz ⟨g, 0, none⟩ n cap xs (by rw [hsize]; simpa using hxl) holds s (by omega) (by omega) (by rw [hby]; exact growslice_fits (by omega) (by omega))
      rw [this] at hr; injection hr with h1 h2; rw [← h1]; rfl
theorem JT_appendS {t u e : TypeId} {d : Tmp} {s x : Operand} {i : Nat} {xs ys : List UInt8} {v : Value} (ho : o.op = .call { callee := .builtin .append, args := #[s, x], argTypes := #[t, u] }) (hw : Wanted Γ ops o true) (hd : o.dst = some d) (hN : Nat.blt d F.N = true)
    (hu : F.C.P.underlying t = some (.slice e)) (hus : F.C.P.underlying u = some .string) (hei : EI F.C.P e 1 1 (.int .u8 0)) (hs0 : Opd Γ s (Ty.val v)) (hi : Δ[i]? = some (Res.sl v e Kd.byte xs)) (hx : OpdLe Γ x (Ty.of Kd.str ys))
    (hlen : xs.length + ys.length ≤ 140737488355328)
    (h : ∀ v', JT F Q cs ops ((d, Ty.val v') :: Γ) (Δ.set i (Res.sl v' e Kd.byte (xs ++ ys))) l) : JT F Q cs ops Γ Δ (o :: l) := by
  refine JT_step (Y := Value) (T := fun v => Ty.val v) (Δ' := fun v' => Δ.set i (Res.sl v' e Kd.byte (xs ++ ys))) hw (by simp [ho]) (fun m w a hs => ?_) (fun v => by rw [hd]; exact h v)
  obtain ⟨ti, hti, hi1, hi2, hi3⟩ := hei.spec
  have h1 : a.eval s = v := hs0.p (hs.typed [s]) (by simp)
  have h2 : a.eval x = .string (Kd.bs ys) := str_opdL hx (hs.typed [x]) (by simp)
  obtain ⟨cells, hown, hreps⟩ := hs.own _ (List.mem_of_getElem? hi)
  have hsz : (Kd.bs ys).size = ys.length := Kd.size_bs ys
  have hb1 : xs.length + (Kd.bs ys).size ≤ maxLen := by rw [hsz]; unfold maxLen; omega
  have hb2 : xs.length + (Kd.bs ys).size ≤ 140737488355328 := by rw [hsz]; omega
  obtain ⟨v', w', hr, hown', hg', _⟩ := Lib.run_append_own_string (P := F.C.P) w 0 t u o.type e ti hu hus hti hi3 hi1 hi2 v xs.length cells hown (Kd.bs ys) hb1 hb2 (Nat.zero_le _)
  have hat := append_str_at hu hus hti hi3 hi1 hi2 hown (Kd.bs ys) hb1 hb2 hr
  have hexec : (execOp a.eval o).run F.C.P w = .ok (.value v') w' := by
    simp only [execOp, ho, Sem.run_bind, resolve, Sem.run_pure, Result.andThen_ok, invoke, builtin, h1, h2]
    simp [h1, h2, hr]
  refine ⟨v', v', w', .inl hexec, m, ?_⟩
  refine hs.own_step hi (by rw [hd]; exact hN) rfl (ext_grown hg') ⟨cells ++ Lib.strCells (Kd.bs ys), by rw [List.length_append, ← hsz]; exact hown', hreps.append ?_⟩ (fun k hk => ?_)
  · have : Lib.strCells (Kd.bs ys) = ys.map fun b => Value.int .u8 (b.toNat : Int) := rfl
    rw [this]; exact byte_reps m ys
  · have hk' : v'.ownBlock = some k := by simpa [Res.sl] using hk
    rcases hat with hat | hat
    · left; rw [hat] at hk'; simp [Res.sl, hk']
    · right; rw [hat] at hk'; simp at hk'; omega
theorem JT_callM2 {f : FuncId} {xs : Array Operand} {ts : Array TypeId} {ins : List Ty} {r r2 : Res} {i j : Nat} {Y : Type} {out : Y → Ty} {Δout : Y → List Res} (ho : o.op = .call { callee := .value (.func f), args := xs, argTypes := ts }) (hw : Wanted Γ ops o true) (hd : dstOk F.N o.dst = true)
    (he : Enters F.C.P f) (hi : Δ[i]? = some r) (hj : (Δ.eraseIdx i)[j]? = some r2) (hf : SpecM F.C f ins [r, r2] out Δout) (hx : OpdAllLe Γ xs.toList ins) (h : ∀ y, JT F Q cs ops (Env.put Γ o.dst (out y)) (Δout y ++ (Δ.eraseIdx i).eraseIdx j) l) : JT F Q cs ops Γ Δ (o :: l) := by
  obtain ⟨Us, h1, h2, h3⟩ := hx.spec
  exact JT_perm ((perm_front hi).trans ((perm_front hj).cons r)) (JT_callM ho hw hd he (hf.arg h2 h3) h1 (Δin := [r, r2]) (Δr := (Δ.eraseIdx i).eraseIdx j) rfl h)

/-! ### Its text -/
def dataPtr : Value → Value
  | .slice b _ _ => .pointer b
  | _ => undef
theorem byte_row {w : World} {m : GH} {v : Value} {e : TypeId} {xs : List UInt8} (h : (Res.sl v e Kd.byte xs).p m w) (hne : xs ≠ []) : ∃ g cap cur, v = .slice (some ⟨g, 0, none⟩) xs.length cap ∧ cap ≠ 0 ∧ w.heap[g]? = some (.cells cur e (0, 0)) ∧ xs.length ≤ cur.size ∧ ∀ j x, xs[j]? = some x → w.cell? ⟨g, j, none⟩ = some (.int .u8 x.toNat) := by
  obtain ⟨cells, hown, hreps⟩ := h
  have hpos : 0 < xs.length := List.length_pos_iff.2 hne
  have hc := reps_byte hreps
  rcases hown.2 with ⟨rfl, h0⟩ | ⟨g, cap, cur, rfl, hbg, hg, hnc, hcm, hcs, htake⟩
  · omega
  · refine ⟨g, cap, cur, rfl, by omega, hg, by have h2 : cur.size = cap * 1 := hcs; omega, fun j x hj => ?_⟩
    have := hown.cells (g := g) rfl j (.int .u8 (x.toNat : Int)) (by rw [hc]; simp [hj])
    rw [add_none] at this; simpa using this
theorem T_uData {x : Operand} {t : TypeId} {v : Value} {i : Nat} {e : TypeId} {xs : List UInt8} (ho : o.op = .call { callee := .builtin .unsafeSliceData, args := #[x], argTypes := #[t] }) (hx : Opd Γ x (Ty.val v)) (hi : Δ[i]? = some (Res.sl v e Kd.byte xs)) (hne : xs ≠ []) : TOp C Δ Γ o (Ty.val (dataPtr v)) := by
  intro m w ac hsat _ hΔ _ htt
  have h1 : ac.eval x = v := hx.p htt (by simp [ho, Op.operands, Call.operands])
  obtain ⟨g, cap, cur, rfl, hc, _⟩ := byte_row (hΔ _ (List.mem_of_getElem? hi)) hne
  refine Gives.value (v := .pointer (some ⟨g, 0, none⟩)) (by simp [ho]) ?_ hsat rfl
  have := Lib.run_unsafeSliceData_row (P := C.P) w #[t] o.type ⟨g, 0, none⟩ xs.length cap hc
  simp only [execOp, ho, Sem.run_bind, resolve, Sem.run_pure, Result.andThen_ok, invoke, builtin, h1]
  simp [h1, this]
theorem ext_freeze {m : GH} {w : World} {g n : Nat} : Ext [g] m w m (w.freeze ⟨g, 0, none⟩ n) := by
  unfold World.freeze
  split
  · exact Ext.refl _ _ _
  · exact ⟨GH.le.refl m, fun k h h' => absurd h' h, by simp, fun k hk hkr => by
      show (w.heap.modify g _)[k]? = _
      rw [Array.getElem?_modify, if_neg (fun e => hkr (by simp [e]))], rfl, rfl, rfl⟩
theorem JT_uStr {pt it e : TypeId} {d : Tmp} {x y : Operand} {i : Nat} {xs : List UInt8} {v : Value} (ho : o.op = .call { callee := .builtin .unsafeString, args := #[x, y], argTypes := #[pt, it] }) (hw : Wanted Γ ops o true) (hd : o.dst = some d) (hN : Nat.blt d F.N = true)
    (hu : F.C.P.underlying pt = some (.pointer e)) (hc : F.C.P.cellsOf e = 1) (hx : Opd Γ x (Ty.val (dataPtr v))) (hy : Opd Γ y (Ty.val (.int .i64 xs.length))) (hi : Δ[i]? = some (Res.sl v e Kd.byte xs)) (hne : xs ≠ []) (hlen : xs.length ≤ 9223372036854775807)
    (h : JT F Q cs ops ((d, Ty.of Kd.str xs) :: Γ) (Δ.set i (Res.sl (.slice none 0 0) e Kd.byte [])) l) : JT F Q cs ops Γ Δ (o :: l) := by
  refine JT_step (Y := Unit) (T := fun _ => Ty.of Kd.str xs) (Δ' := fun _ => Δ.set i (Res.sl (.slice none 0 0) e Kd.byte [])) hw (by simp [ho]) (fun m w a hs => ?_) (fun _ => by rw [hd]; exact h)
  have h1 : a.eval x = dataPtr v := hx.p (hs.typed [x]) (by simp)
  have h2 : a.eval y = .int .i64 xs.length := hy.p (hs.typed [y]) (by simp)
  obtain ⟨g, cap, cur, rfl, hcap, hg, hcur, hcell⟩ := byte_row (hs.own _ (List.mem_of_getElem? hi)) hne
  have hsh : w.shape? g = some (e, cur.size) := by simp [World.shape?, hg]
  have hr := Lib.run_unsafeString_row (P := F.C.P) w pt it o.type e hu hc g cur.size hsh xs hne hcur hlen (fun j x hj => by rw [add_none, Nat.zero_add]; exact hcell j x hj)
  refine ⟨(), .string (Kd.bs xs), w.freeze ⟨g, 0, none⟩ xs.length, .inl ?_, m, ?_⟩
  · simp only [execOp, ho, Sem.run_bind, resolve, Sem.run_pure, Result.andThen_ok, invoke, builtin]
    simp only [List.map_toArray, List.map_cons, List.map_nil, h1, h2, dataPtr, hr]
    rfl
  · exact hs.own_step hi (by rw [hd]; exact hN) ⟨[_], rfl, rfl⟩ (ext_freeze (n := xs.length)) ⟨[], ⟨by simp, .inl ⟨rfl, rfl⟩⟩, rfl⟩ (fun k hk => by simp [Res.sl, Value.ownBlock] at hk)
end Go.Proofs.YtknflgfkhkdomaaGreatDoor.Mono

/-! WkJ -/
set_option linter.unusedVariables false
set_option linter.unusedSimpArgs false
set_option maxRecDepth 4000
set_option maxHeartbeats 4000000
namespace Go.Proofs.YtknflgfkhkdomaaGreatDoor.Mono
open Go Go.RowKit

theorem fa133_0 : FieldAt Tryz.prog 133 0 0 := by unfold FieldAt; kernel_rfl

theorem ti130 : TI Tryz.prog 130 false 1 := ⟨by kernel_rfl, by kernel_rfl⟩

theorem u130 : Tryz.prog.underlying 130 = some (.pointer 133) := by kernel_rfl

theorem u193 : Tryz.prog.underlying 193 = some (.unsafePointer) := by kernel_rfl

theorem ps133 : (Tryz.prog.info? 133).map (fun j => Nat.blt 0 j.size) = some true := by kernel_rfl

theorem fn131 : Tryz.prog.funcs[131]? = some Tryz.f131 := by kernel_rfl

theorem ii133 : (Tryz.prog.info? 133).isSome = true := by kernel_rfl

theorem la133 : liesAt Tryz.prog Tryz.prog.depth 133 (2 / Tryz.prog.cellsOf 133) 0 133 1 = true := by kernel_rfl

theorem sz130 : (Tryz.prog.info? 130).map (·.size) = some 1 := by kernel_rfl

theorem sz133 : (Tryz.prog.info? 133).map (·.size) = some 2 := by kernel_rfl

theorem m102 {p v : Value} {g : Nat} (hp : p = .pointer none ∨ p = ptr g 0) : SpecM CC 102 [Ty.val (ptr g 0)] [Res.box g 133 (Seg.cat [Seg.of Kd.val p, Seg.of Kd.val v])] (Y := Unit) (fun _ => Ty.any) (fun _ => [Res.box g 133 (Seg.cat [Seg.of Kd.val (ptr g 0), Seg.of Kd.val v])]) := by
  refine specM_of_JS Tryz.func102 rfl (Nat.le_of_ble_eq_true rfl) (fun gh0 wd0 => ?_)
  refine JS_seq ?_
  -- region 0
  refine sR ?_
  refine kM rfl rfl ?_
  refine kO (T_nilCheckO rfl rfl) rfl ?_
  refine kO (T_fieldAddr_ptr rfl fa133_0 rfl rfl) rfl ?_
  refine kO (T_load_own_val (i := 0) rfl rfl rfl (sc (i := 0) rfl rfl) ti130) rfl ?_
  refine kO (T_isNil rfl rfl rfl u130 (hp.imp id (fun h => ⟨_, h⟩))) rfl ?_
  refine kE ?_
  refine JS_cond rfl (fun c6 => ?_) (fun c6 => ?_)
  · -- region 1
    refine sR ?_
    refine kM rfl rfl ?_
    refine kM rfl rfl ?_
    refine kO (T_toU (i := 0) rfl rfl rfl u130 u193 ps133 rfl) rfl ?_
    refine kO (T_noEsc rfl rfl fn131 (by kernel_rfl) (by kernel_rfl) (by kernel_rfl) (by kernel_rfl)) rfl ?_
    refine kO (T_fromU (i := 0) rfl rfl rfl u193 u130 ii133 la133) rfl ?_
    refine kO (T_nilCheckO rfl rfl) rfl ?_
    refine kO (T_fieldAddr_ptr rfl fa133_0 rfl rfl) rfl ?_
    refine kT ?_
    refine JT_store (i := 0) rfl rfl rfl rfl rfl (ol rfl (to_kval rfl)) (uc (i := 0) rfl rfl rfl) sz130 ?_
    refine JT_done ?_
    exact JS_nil (JE_normal (JE_retM0 () rfl rfl rfl rfl rfl))
  · obtain rfl : p = ptr g 0 := hp.resolve_left (fun e => by rw [e] at c6; cases c6)
    refine JS_seq ?_
    -- region 2
    refine sR ?_
    refine kM rfl rfl ?_
    refine kO (T_nilCheckO rfl rfl) rfl ?_
    refine kO (T_fieldAddr_ptr rfl fa133_0 rfl rfl) rfl ?_
    refine kO (T_load_own_val (i := 0) rfl rfl rfl (sc (i := 0) rfl rfl) ti130) rfl ?_
    refine kM rfl rfl ?_
    refine kO (T_pneS (agg := true) rfl rfl rfl u130 sz133) rfl ?_
    refine kE ?_
    refine JS_cf rfl ?_
    refine JS_skip ?_
    exact JS_nil (JE_normal (JE_retM0 () rfl rfl rfl rfl rfl))

theorem en102 : Enters Tryz.prog 102 := enters_fn Tryz.func102 (by kernel_rfl) rfl

theorem fa133_1 : FieldAt Tryz.prog 133 1 1 := by unfold FieldAt; kernel_rfl

theorem ti131 : TI Tryz.prog 131 false 1 := ⟨by kernel_rfl, by kernel_rfl⟩

theorem ei5 : EI Tryz.prog 5 1 1 (.int .u8 (0)) := by unfold EI; kernel_rfl

theorem u131 : Tryz.prog.underlying 131 = some (.slice 5) := by kernel_rfl

theorem ti5 : TI Tryz.prog 5 false 1 := ⟨by kernel_rfl, by kernel_rfl⟩

theorem z5 : ZeroOf Tryz.prog 5 (.int .u8 (0)) := by unfold ZeroOf; kernel_rfl

theorem sz131 : (Tryz.prog.info? 131).map (·.size) = some 1 := by kernel_rfl

theorem m74 {p v : Value} {g : Nat} {bs : List UInt8} {c : UInt8} (hp : p = .pointer none ∨ p = ptr g 0) (hl : bs.length ≤ 100000000) : SpecM CC 74 [Ty.val (ptr g 0), Ty.val (.int .u8 (c.toNat : Int))] [Res.box g 133 (Seg.cat [Seg.of Kd.val p, Seg.of Kd.val v]), Res.sl v 5 Kd.byte bs] (Y := Value) (fun _ => Ty.any) (fun v => [Res.box g 133 (Seg.cat [Seg.of Kd.val (ptr g 0), Seg.of Kd.val v]), Res.sl v 5 Kd.byte (bs ++ [c])]) := by
  refine specM_of_JS Tryz.func74 rfl (Nat.le_of_ble_eq_true rfl) (fun gh0 wd0 => ?_)
  refine JS_seq ?_
  -- region 0
  refine sR ?_
  refine kA rfl rfl ?_
  refine kE ?_
  refine JS_seq ?_
  -- region 1
  refine sR ?_
  refine kM rfl rfl ?_
  refine kT ?_
  refine JT_callM1 (i := 0) rfl rfl rfl en102 rfl (m102 (by first | exact .inl rfl | exact .inr rfl | assumption)) (oa (ol rfl (Ty.le.refl _)) oa0) (fun y6 => ?_)
  refine JT_done ?_
  refine JS_seq ?_
  -- region 2
  refine sR ?_
  refine kM rfl rfl ?_
  refine kM rfl rfl ?_
  refine kO (T_nilCheckO rfl rfl) rfl ?_
  refine kO (T_fieldAddr_ptr rfl fa133_1 rfl rfl) rfl ?_
  refine kO (T_load_own_val (i := 0) rfl rfl rfl (sc (i := 1) rfl rfl) ti131) rfl ?_
  refine kM rfl rfl ?_
  refine kO (T_lits (xs := [.tmp 12]) (d := Kd.byte) [c] rfl rfl u131 ti5 z5 rfl rfl (by decide) (by decide) (oa (ol rfl (val_int _ _)) oa0) rfl) rfl ?_
  refine kT ?_
  refine JT_append (i := 1) rfl rfl rfl rfl u131 ei5 rfl rfl (by decide) rfl rfl (ol rfl (Ty.le.refl _)) (by simp only [maxLen, List.length_cons, List.length_nil]; omega) (by simp only [List.length_cons, List.length_nil]; omega) (fun v14 => ?_)
  refine jO (T_nilCheckO rfl rfl) rfl ?_
  refine jO (T_fieldAddr_ptr rfl fa133_1 rfl rfl) rfl ?_
  refine JT_one (i := 1) rfl (fun ov14 => ?_)
  refine JT_store (i := 0) rfl rfl rfl rfl rfl (ol rfl (to_kval ov14)) (uc (i := 1) rfl rfl rfl) sz131 ?_
  refine JT_done ?_
  refine JS_seq ?_
  -- region 3
  refine sR ?_
  refine kA rfl rfl ?_
  refine kE ?_
  exact JS_ret (JE_retM1 v14 rfl rfl (.tmp rfl .nil) (Ty.le_any _) rfl rfl rfl)

theorem u9 : Tryz.prog.underlying 9 = some (.string) := by kernel_rfl

theorem m75 {p v : Value} {g : Nat} {bs s : List UInt8} (hp : p = .pointer none ∨ p = ptr g 0) (hl : bs.length ≤ 100000000) (hs : s.length ≤ 100000000) : SpecM CC 75 [Ty.val (ptr g 0), Ty.of Kd.str s] [Res.box g 133 (Seg.cat [Seg.of Kd.val p, Seg.of Kd.val v]), Res.sl v 5 Kd.byte bs] (Y := Value) (fun _ => Ty.tup [Ty.any, Ty.any]) (fun v => [Res.box g 133 (Seg.cat [Seg.of Kd.val (ptr g 0), Seg.of Kd.val v]), Res.sl v 5 Kd.byte (bs ++ s)]) := by
  refine specM_of_JS Tryz.func75 rfl (Nat.le_of_ble_eq_true rfl) (fun gh0 wd0 => ?_)
  refine JS_seq ?_
  -- region 0
  refine sR ?_
  refine kA rfl rfl ?_
  refine kA rfl rfl ?_
  refine kE ?_
  refine JS_seq ?_
  -- region 1
  refine sR ?_
  refine kM rfl rfl ?_
  refine kT ?_
  refine JT_callM1 (i := 0) rfl rfl rfl en102 rfl (m102 (by first | exact .inl rfl | exact .inr rfl | assumption)) (oa (ol rfl (Ty.le.refl _)) oa0) (fun y7 => ?_)
  refine JT_done ?_
  refine JS_seq ?_
  -- region 2
  refine sR ?_
  refine kM rfl rfl ?_
  refine kM rfl rfl ?_
  refine kO (T_nilCheckO rfl rfl) rfl ?_
  refine kO (T_fieldAddr_ptr rfl fa133_1 rfl rfl) rfl ?_
  refine kO (T_load_own_val (i := 0) rfl rfl rfl (sc (i := 1) rfl rfl) ti131) rfl ?_
  refine kM rfl rfl ?_
  refine kT ?_
  refine JT_appendS (i := 1) rfl rfl rfl rfl u131 u9 (by unfold EI; kernel_rfl) rfl rfl (ol rfl (Ty.le.refl _)) (by omega) (fun v14 => ?_)
  refine jO (T_nilCheckO rfl rfl) rfl ?_
  refine jO (T_fieldAddr_ptr rfl fa133_1 rfl rfl) rfl ?_
  refine JT_one (i := 1) rfl (fun ov14 => ?_)
  refine JT_store (i := 0) rfl rfl rfl rfl rfl (ol rfl (to_kval ov14)) (uc (i := 1) rfl rfl rfl) sz131 ?_
  refine JT_done ?_
  refine JS_seq ?_
  -- region 3
  refine sR ?_
  refine kM rfl rfl ?_
  refine kO (T_len_str rfl rfl u9 rfl) rfl ?_
  refine kA rfl rfl ?_
  refine kA rfl rfl ?_
  refine kE ?_
  exact JS_ret (JE_retMN (out := fun _ => [Ty.any, Ty.any]) v14 rfl (by decide) (.le (.tmp rfl (.le (.tmp rfl .nil) (Ty.le_any _))) (Ty.le_any _)) rfl rfl rfl)

theorem u165 : Tryz.prog.underlying 165 = some (.pointer 5) := by kernel_rfl

theorem m76 {p v : Value} {g : Nat} {bs : List UInt8} (hne : bs ≠ []) (hl : bs.length ≤ 100000000) : SpecM CC 76 [Ty.val (ptr g 0)] [Res.box g 133 (Seg.cat [Seg.of Kd.val p, Seg.of Kd.val v]), Res.sl v 5 Kd.byte bs] (Y := Unit) (fun _ => Ty.of Kd.str bs) (fun _ => []) := by
  refine specM_of_JS Tryz.func76 rfl (Nat.le_of_ble_eq_true rfl) (fun gh0 wd0 => ?_)
  refine JS_seq ?_
  -- region 0
  refine sR ?_
  refine kO (T_sub (T_move (.inr rfl) rfl) (val_str [])) rfl ?_
  refine kE ?_
  refine JS_seq ?_
  -- region 1
  refine sRD mixed ?_
  refine kM rfl rfl ?_
  refine kO (T_nilCheckO rfl rfl) rfl ?_
  refine kO (T_fieldAddr_ptr rfl fa133_1 rfl rfl) rfl ?_
  refine kO (T_load_own_val (i := 0) rfl rfl rfl (sc (i := 1) rfl rfl) ti131) rfl ?_
  refine kO (T_uData (i := 1) rfl rfl rfl hne) rfl ?_
  refine kM rfl rfl ?_
  refine kO (T_nilCheckO rfl rfl) rfl ?_
  refine kO (T_fieldAddr_ptr rfl fa133_1 rfl rfl) rfl ?_
  refine kO (T_load_own_val (i := 0) rfl rfl rfl (sc (i := 1) rfl rfl) ti131) rfl ?_
  refine kO (T_len_own (i := 1) rfl rfl u131 rfl rfl) rfl ?_
  refine kTD (by decide) ?_
  refine JT_uStr (i := 1) rfl rfl rfl rfl u165 (by kernel_rfl) rfl rfl rfl hne (by omega) ?_
  refine jA rfl rfl ?_
  refine JT_done ?_
  refine JS_drop 0 ?_
  refine JS_drop 0 ?_
  exact JS_ret (JE_retM1 () rfl rfl (.tmp rfl .nil) (of_eq (rfl)) rfl rfl rfl)

end Go.Proofs.YtknflgfkhkdomaaGreatDoor.Mono

/-! MonoH -/
set_option linter.unusedVariables false
set_option linter.unusedSimpArgs false
namespace Go.Proofs.YtknflgfkhkdomaaGreatDoor.Mono
open Go Go.RowKit

theorem below_grow {B : Nat} {a w : World} (h : Below B a w) (hB : B ≤ w.heap.size) (os : Array Obj) : Below B a (Go.Sort.grow w os) := h.trans ⟨rfl, rfl, rfl, by show _ ≤ (w.heap ++ os).size; simp, fun k hk => by
  show (w.heap ++ os)[k]? = _
  rw [Array.getElem?_append_left (by omega)]⟩
theorem below_drewN' {B : Nat} {a w : World} (h : Below B a w) (n : Nat) : Below B a (w.drewN n) := h.trans ⟨rfl, rfl, rfl, Nat.le_refl _, fun _ _ => rfl⟩
theorem below_bytes {w : World} (e : TypeId) (s : ByteArray) : Below w.heap.size w (Lib.bytesWorld w e s) := by
  unfold Lib.bytesWorld
  refine Lib.below_freeze (B := w.heap.size) ?_ (Nat.le_refl _) 1
  exact (Below.drew (Below.refl _ w)).alloc (Nat.le_refl _) _
theorem callsTo_below {C : Ctx} {f : FuncId} {args : Array Value} {m : GH} {w : World} {T : Ty} {v : Value} (hs : Sat w m) (hT : T.p m v) (h : Calls C.P f args w fun e w' => e = .returned v ∧ Below w.heap.size w w') : CallsTo C f args m w T :=
  Calls.mono h fun e w' ⟨h1, h2⟩ => ⟨v, m, h1, Ext.of_below h2, hs.of_below h2, hT⟩
theorem tab_is {m : GH} {w : World} (hs : Sat w m) (hg : CC.G m) : Lib.TabIs Tryz.prog w "internal/strconv.uint64pow10" .u64 Lib.pow10Tab := by
  obtain ⟨_, o, h1, t, fr, rfl⟩ := hg
  have := hs _ _ h1
  unfold Lib.TabIs World.var?
  rw [show Tryz.prog.globalNamed "internal/strconv.uint64pow10" = some 1 by kernel_rfl]
  simp only [Option.bind_some, this]
  rfl
theorem max_len {m : GH} {w : World} (hs : Sat w m) (hg : CC.G m) : ∃ n : Int, w.cell? ⟨0, 0, none⟩ = some (.int .i64 n) := by
  obtain ⟨⟨o, h1, n, t, fr, rfl⟩, _⟩ := hg
  have := hs _ _ h1
  exact ⟨n, by simp [World.cell?, this]⟩

theorem args1 {m : GH} {T : Ty} {args : Array Value} (h : TyAll m [T] args.toList) : ∃ v, args = #[v] ∧ T.p m v := by
  obtain ⟨l⟩ := args
  match l, h with
  | [v], h => exact ⟨v, rfl, h.1⟩
theorem args2 {m : GH} {T U : Ty} {args : Array Value} (h : TyAll m [T, U] args.toList) : ∃ v u, args = #[v, u] ∧ T.p m v ∧ U.p m u := by
  obtain ⟨l⟩ := args
  match l, h with
  | [v, u], h => exact ⟨v, u, rfl, h.1, h.2.1⟩
theorem args3 {m : GH} {T U V : Ty} {args : Array Value} (h : TyAll m [T, U, V] args.toList) : ∃ v u x, args = #[v, u, x] ∧ T.p m v ∧ U.p m u ∧ V.p m x := by
  obtain ⟨l⟩ := args
  match l, h with
  | [v, u, x], h => exact ⟨v, u, x, rfl, h.1, h.2.1, h.2.2.1⟩
theorem str_is {m : GH} {l : List UInt8} {v : Value} (h : (Ty.of Kd.str l).p m v) : v = .string (Kd.bs l) := by
  obtain ⟨cs, h1, h2⟩ := h
  rw [h2, show cs = _ from h1]; rfl
theorem is_str (m : GH) (l : List UInt8) : (Ty.of Kd.str l).p m (.string ⟨l.toArray⟩) := ⟨[_], rfl, rfl⟩
theorem spec_itoa {n : Int} (h0 : -9223372036854775808 ≤ n) (h1 : n ≤ 9223372036854775807) : Spec CC 73 [Ty.val (.int .i64 n)] (Ty.of Kd.str (Lib.itoa n)) := fun m w args hs hg ha => by
  obtain ⟨v, rfl, hv⟩ := args1 ha
  rw [show v = _ from hv]
  refine callsTo_below hs (is_str m _) ((Tryz.strconv_Itoa n h0 h1 w (tab_is hs hg)).mono ?_)
  rintro e w' ⟨h1, k, os, rfl⟩
  exact ⟨h1, below_grow (below_drewN' (Below.refl _ w) k) (Nat.le_refl _) os⟩
theorem spec_trim {s p : List UInt8} : Spec CC 108 [Ty.of Kd.str s, Ty.of Kd.str p] (Ty.of Kd.str (Lib.trimPrefix s p)) := fun m w args hs hg ha => by
  obtain ⟨v, u, rfl, hv, hu⟩ := args2 ha
  rw [str_is hv, str_is hu]
  refine callsTo_below hs (is_str m _) ((Tryz.strings_TrimPrefix (Kd.bs s) (Kd.bs p) w).mono ?_)
  rintro e w' ⟨h1, rfl⟩
  exact ⟨h1, Below.refl _ _⟩
theorem digits_parse : ∀ (l : List UInt8) (acc k : Nat), (∀ c ∈ l, isDig c) → acc < 10 ^ k → k + l.length ≤ 9 → Lib.parseUintM (2 ^ 32 - 1) acc l = .ok (l.foldl (fun a c => 10 * a + (c.toNat - 48)) acc)
  | [], acc, k, _, _, _ => rfl
  | c :: r, acc, k, h, hacc, hl => by
    have hc := h c (by simp)
    unfold isDig at hc
    rw [List.length_cons] at hl
    have hk : 10 ^ k ≤ 10 ^ 8 := Nat.pow_le_pow_right (by decide) (by omega)
    have e : 10 ^ (k + 1) = 10 * 10 ^ k := by rw [Nat.pow_succ, Nat.mul_comm]
    have hk2 : 10 ^ (k + 1) ≤ 10 ^ 9 := Nat.pow_le_pow_right (by decide) (by omega)
    have hn : acc * 10 + (c.toNat - 48) < 10 ^ (k + 1) := by omega
    rw [Lib.parseUintM, if_pos hc, if_neg (by omega), if_neg (by omega), digits_parse r _ (k + 1) (fun x hx => h x (by simp [hx])) hn (by omega)]
    rw [List.foldl_cons, Nat.mul_comm acc 10]
theorem parse_digits {l : List UInt8} (h : ∀ c ∈ l, isDig c) (h0 : l ≠ []) (hl : l.length ≤ 9) : Lib.parseUintB 32 l = .ok (dval l) := by
  unfold Lib.parseUintB dval
  rw [if_neg h0, digits_parse l 0 0 h (by decide) (by omega)]
theorem spec_parse {l : List UInt8} (h : ∀ c ∈ l, isDig c) (h0 : l ≠ []) (hl : l.length ≤ 9) : Spec CC 109 [Ty.of Kd.str l, Ty.val (.int .i64 10), Ty.val (.int .i64 32)] (Ty.tup [Ty.val (.int .u64 (dval l : Int)), Ty.val .nilIface]) := fun m w args hs hg ha => by
  obtain ⟨v, u, x, rfl, hv, hu, hx⟩ := args3 ha
  rw [str_is hv, show u = _ from hu, show x = _ from hx]
  refine callsTo_below (v := .tuple #[.int .u64 (dval l : Int), .nilIface]) hs ⟨_, rfl, rfl, rfl, trivial⟩ ((Tryz.strconv_ParseUint_10_at32_ok (Kd.bs l) (by rw [Kd.size_bs]; omega) (dval l) (parse_digits h h0 hl) w).mono ?_)
  rintro e w' ⟨h1, h2⟩
  refine ⟨h1, ?_⟩
  rcases h2 with rfl | rfl
  · exact Below.refl _ _
  · exact below_bytes _ _
theorem spec_cut {s p : List UInt8} (hl : s.length < 4294967281) : Spec CC 80 [Ty.of Kd.str s, Ty.of Kd.str p] (Ty.tup [Ty.of Kd.str (Lib.cut s p).1, Ty.of Kd.str (Lib.cut s p).2.1, Ty.val (.bool (Lib.cut s p).2.2)]) := fun m w args hs hg ha => by
  obtain ⟨v, u, rfl, hv, hu⟩ := args2 ha
  rw [str_is hv, str_is hu]
  obtain ⟨n, hn⟩ := max_len hs hg
  refine callsTo_below (v := .tuple #[.string ⟨(Lib.cut s p).1.toArray⟩, .string ⟨(Lib.cut s p).2.1.toArray⟩, .bool (Lib.cut s p).2.2]) hs ⟨_, rfl, is_str m _, is_str m _, rfl, trivial⟩ ((Tryz.strings_Cut (Kd.bs s) (Kd.bs p) n w (by rw [Kd.size_bs]; exact hl) hn).mono ?_)
  rintro e w' ⟨h1, k, rfl⟩
  exact ⟨h1, below_drewN' (Below.refl _ w) k⟩
theorem spec_atoi {l : List UInt8} {n : Int} (hl : l.length ≤ 18) (h : Lib.atoi l = some n) : Spec CC 138 [Ty.of Kd.str l] (Ty.tup [Ty.val (.int .i64 n), Ty.val .nilIface]) := fun m w args hs hg ha => by
  obtain ⟨v, rfl, hv⟩ := args1 ha
  rw [str_is hv]
  refine callsTo_below (v := .tuple #[.int .i64 n, .nilIface]) hs ⟨_, rfl, rfl, rfl, trivial⟩ ((Tryz.strconv_Atoi (Kd.bs l) n (by rw [Kd.size_bs]; exact hl) h w).mono ?_)
  rintro e w' ⟨h1, t, rfl⟩
  exact ⟨h1, below_bytes _ _⟩
end Go.Proofs.YtknflgfkhkdomaaGreatDoor.Mono

/-! MonoG -/
set_option linter.unusedVariables false
set_option linter.unusedSimpArgs false
namespace Go.Proofs.YtknflgfkhkdomaaGreatDoor.Mono
open Go Go.RowKit

theorem T_sstr_lC {C : Ctx} {Δ : List Res} {Γ : Env} {o : Oper} {t : TypeId} {x y : Operand} {k : IntKind} {l : Int} {s : List UInt8} (ho : o.op = .slice t x (some y) none none) (hu : C.P.underlying t = some .string)
    (hx : OpdLe Γ x (Ty.of Kd.str s)) (hy : Opd Γ y (Ty.val (.int k l))) (h0 : 0 ≤ l) (h1 : l.toNat ≤ s.length) : TOp C Δ Γ o (Ty.of Kd.str (s.drop l.toNat)) := by
  intro m w ac hs _ _ _ htt
  have g1 := str_opdL hx htt (by simp [ho, Op.operands])
  have hl := opt_eval (x := some y) (n := some l) (k := k) hy htt (fun z hz => by cases hz; simp [ho, Op.operands])
  have hr := run_bounds (P := C.P) (w := w) (isS := false) (k := k) (k' := k) (lo := some l) (hi := none) (n := s.length) ⟨(fun l' hl => by cases hl; exact h0), (fun h' hh => by cases hh), by simpa [loOf, hiOf] using h1, Nat.le_refl _⟩ (Nat.le_refl _)
  refine Gives.value (v := .string (Kd.bs (s.drop l.toNat))) (by simp [ho]) ?_ hs ⟨[_], rfl, rfl⟩
  have e : (s.drop l.toNat) = ((s.drop (loOf (some l))).take (hiOf s.length none - loOf (some l))) := by
    simp only [loOf, hiOf]; rw [List.take_of_length_le (by simp)]
  rw [e, ← bs_extract]
  simp only [Option.map_some, Option.map_none] at hl hr
  simp only [execOp, ho, Instr.sliceAt, Sem.run_bind, Go.underlying, run_program, Result.andThen_ok, hu, Sem.run_pure, Instr.slice, g1, hl, Kd.size_bs, hr, Option.map_some, Option.map_none, Option.isSome_none, Bool.false_eq_true, if_false]

/-! ### Integers' texts by limbs -/
def sg (z : Int) : List UInt8 := if z < 0 then [45] else []
theorem sg_len (z : Int) : (sg z).length ≤ 1 := by unfold sg; split <;> simp
def wtext (l : List Int) (j : Nat) : List UInt8 := if j = l.length then [] else dec (lval (l.drop j))
theorem wtext_all (l : List Int) : wtext l l.length = [] := if_pos rfl
theorem itoa_limb {x : Int} (h : 0 ≤ x) : Lib.itoa x = dec x.toNat := by rw [itoa_nn h]; congr 1; omega
theorem wtext_top {l : List Int} (hok : LOk l) {i : Nat} (h : i + 1 = l.length) : wtext l i = Lib.itoa (l.getD i 0) := by
  have hx := hok.get i
  unfold wtext
  rw [if_neg (by omega), itoa_limb hx.1, List.drop_eq_getElem_cons (by omega), List.drop_of_length_le (by omega)]
  have e : l[i]'(by omega) = l.getD i 0 := by rw [List.getD_eq_getElem?_getD, List.getElem?_eq_getElem (by omega)]; rfl
  show dec (_ + 1000000000 * 0) = _
  rw [e, Nat.mul_zero, Nat.add_zero]
theorem drop_top {l : List Int} (ht : LTop l) : ∀ (i : Nat), LTop (l.drop i) := by
  intro i
  induction i generalizing l with
  | zero => simpa using ht
  | succ i ih =>
    cases l with
    | nil => simpa using ht
    | cons x l => simpa using ih ht.tail
theorem wtext_step {l : List Int} (hok : LOk l) (ht : LTop l) {i : Nat} (h : i + 1 < l.length) : wtext l (i + 1) ++ ([48, 48, 48, 48, 48, 48, 48, 48, 48] : List UInt8).drop (Lib.itoa (l.getD i 0)).length ++ Lib.itoa (l.getD i 0) = wtext l i := by
  have hx := hok.get i
  have hp := lval_pos (l := l.drop (i + 1)) (fun y hy => hok y (List.mem_of_mem_drop hy)) (drop_top ht (i + 1)) (by intro e; have := congrArg List.length e; simp at this; omega)
  unfold wtext
  rw [if_neg (by omega), if_neg (by omega), itoa_limb hx.1, List.drop_eq_getElem_cons (i := i) (by omega)]
  have e : l[i]'(by omega) = l.getD i 0 := by rw [List.getD_eq_getElem?_getD, List.getElem?_eq_getElem (by omega)]; rfl
  rw [e]
  show _ = dec ((l.getD i 0).toNat + 1000000000 * lval (l.drop (i + 1)))
  have h10 : (1000000000 : Nat) = 10 ^ 9 := by decide
  rw [h10, dec_split 9 _ _ (by omega) hp, low_pad 8 _ (by omega), List.append_assoc]
  congr 1
  rw [show ([48, 48, 48, 48, 48, 48, 48, 48, 48] : List UInt8) = List.replicate 9 48 from rfl, List.drop_replicate]
theorem wtext_zero {z : Int} (hz : ¬ ((lims z.natAbs).length : Int) = 0) : sg z ++ wtext (lims z.natAbs) 0 = Lib.itoa z := by
  have e : wtext (lims z.natAbs) 0 = dec z.natAbs := by
    unfold wtext
    rw [if_neg (by omega), List.drop_zero, lval_lims]
  rw [e]
  unfold sg
  by_cases h : z < 0
  · rw [if_pos h, itoa_neg h]; rfl
  · rw [if_neg h, itoa_nn (by omega)]; rfl
theorem dec_len9 {l : List Int} (hok : LOk l) (h : l ≠ []) : (dec (lval l)).length ≤ 9 * l.length := by
  have h1 := lval_lt hok
  obtain ⟨k, hk⟩ : ∃ k, 9 * l.length = k + 1 := ⟨9 * l.length - 1, by have := List.length_pos_iff.2 h; omega⟩
  rw [hk]
  refine dec_le k _ ?_
  rw [← hk, Nat.pow_mul]; exact h1
theorem wtext_len {l : List Int} (hok : LOk l) {j : Nat} (hj : j ≤ l.length) : (wtext l j).length ≤ 9 * l.length := by
  unfold wtext
  split
  · simp
  · have h2 := List.length_drop (i := j) (l := l)
    have := dec_len9 (l := l.drop j) (fun y hy => hok y (List.mem_of_mem_drop hy)) (by intro e; rw [e] at h2; simp at h2; omega)
    omega
theorem limb_len {x : Int} (h : 0 ≤ x ∧ x < 1000000000) : (Lib.itoa x).length ≤ 9 := by
  rw [itoa_limb h.1]; exact dec_le 8 _ (by omega)
theorem itoa_pos (x : Int) : 1 ≤ (Lib.itoa x).length := by
  by_cases h : x < 0
  · rw [itoa_neg h]; simp
  · rw [itoa_nn (by omega)]; exact dec_pos _
theorem itoa_zero : Lib.itoa 0 = [48] := by rw [itoa_nn (by decide)]; exact dec_small (by decide)
/-- The digits of an integer. -/
theorem digits_eq {z : Int} (h : ¬ ((lims z.natAbs).length : Int) = 0) {x : Int} (hx : x = (lims z.natAbs).getD ((lims z.natAbs).length - 1) 0) : 9 * (((lims z.natAbs).length : Int) - 1) + (Lib.itoa x).length = (dec z.natAbs).length := by
  have key : ∀ (l : List Int), LOk l → LTop l → l ≠ [] → (dec (lval l)).length = 9 * (l.length - 1) + (Lib.itoa (l.getD (l.length - 1) 0)).length := by
    intro l
    induction l with
    | nil => intro _ _ h; exact absurd rfl h
    | cons x l ih =>
      intro hok ht _
      have hx := hok x (by simp)
      cases l with
      | nil =>
        show (dec (x.toNat + 1000000000 * 0)).length = _
        rw [Nat.mul_zero, Nat.add_zero]
        show _ = 0 + (Lib.itoa x).length
        rw [itoa_limb hx.1, Nat.zero_add]
      | cons y l =>
        have hp := lval_pos (l := y :: l) (fun z hz => hok z (List.mem_cons_of_mem _ hz)) ht.tail (by simp)
        have ih := ih (fun z hz => hok z (List.mem_cons_of_mem _ hz)) ht.tail (by simp)
        show (dec (x.toNat + 1000000000 * lval (y :: l))).length = _
        rw [show (1000000000 : Nat) = 10 ^ 9 by decide, dec_split 9 _ _ (by omega) hp, List.length_append, low_len, ih]
        have e : (x :: y :: l).getD ((x :: y :: l).length - 1) 0 = (y :: l).getD ((y :: l).length - 1) 0 := by
          simp only [List.length_cons, Nat.add_sub_cancel]
          rw [List.getD_cons_succ]
        rw [e]
        simp only [List.length_cons]
        omega
  have hl := key (lims z.natAbs) (lims_ok _) (lims_top _) (by intro e; rw [e] at h; simp at h)
  rw [lval_lims] at hl
  rw [hx]; omega

/-! ### Reading -/
/-- The first k limbs of a number. -/
def limK (n : Nat) : Nat → List Int
  | 0 => []
  | k + 1 => limK n k ++ [((n / 10 ^ (9 * k) % 1000000000 : Nat) : Int)]
theorem limK_len (n : Nat) : ∀ k, (limK n k).length = k
  | 0 => rfl
  | k + 1 => by rw [limK, List.length_append, limK_len n k]; rfl
theorem limK_ok (n : Nat) : ∀ k, LOk (limK n k)
  | 0 => fun x hx => by cases hx
  | k + 1 => fun x hx => by
    rw [limK] at hx
    rcases List.mem_append.1 hx with h | h
    · exact limK_ok n k x h
    · rw [List.mem_singleton.1 h]; omega
theorem limK_val (n : Nat) : ∀ k, lval (limK n k) = n % 10 ^ (9 * k)
  | 0 => by simp [limK, lval, Nat.mod_one]
  | k + 1 => by
    rw [limK, lval_append, limK_val n k, limK_len]
    show _ + _ * (((n / 10 ^ (9 * k) % 1000000000 : Nat) : Int).toNat + 1000000000 * 0) = _
    rw [Int.toNat_natCast, Nat.mul_zero, Nat.add_zero]
    rw [show 9 * (k + 1) = 9 * k + 9 by omega, Nat.pow_add, Nat.mod_mul, show (10 : Nat) ^ 9 = 1000000000 by decide, Nat.pow_mul]
/-- What is left of a number's digits behind some nines of them. -/
theorem dec_take {n k : Nat} (h : k < (dec n).length) : (dec n).take ((dec n).length - k) = dec (n / 10 ^ k) := by
  by_cases hv : n / 10 ^ k = 0
  · have hlt : n < 10 ^ k := by
      have hp : 0 < 10 ^ k := Nat.pow_pos (by decide)
      rcases Nat.lt_or_ge n (10 ^ k) with h1 | h1
      · exact h1
      · have := Nat.div_pos h1 hp; omega
    cases k with
    | zero => simp at hlt; subst hlt; simp
    | succ k => have := dec_le k n hlt; omega
  · have e := dec_split k (n % 10 ^ k) (n / 10 ^ k) (Nat.mod_lt _ (Nat.pow_pos (by decide))) (Nat.pos_of_ne_zero hv)
    rw [Nat.mod_add_div] at e
    rw [e, List.length_append, low_len, Nat.add_sub_cancel, List.take_left]
theorem dec_len_div {n k : Nat} (h : k < (dec n).length) : (dec (n / 10 ^ k)).length = (dec n).length - k := by
  rw [← dec_take h, List.length_take]; omega
/-- The nine digits that are read next. -/
theorem read_part {n k : Nat} (h : 9 * k < (dec n).length) {lo : Nat} (hlo : lo = (dec n).length - 9 * k - 9) :
    dval (((dec n).drop lo).take ((dec n).length - 9 * k - lo)) = n / 10 ^ (9 * k) % 1000000000 ∧ (∀ c ∈ ((dec n).drop lo).take ((dec n).length - 9 * k - lo), isDig c) ∧ ((dec n).drop lo).take ((dec n).length - 9 * k - lo) ≠ [] ∧ (((dec n).drop lo).take ((dec n).length - 9 * k - lo)).length ≤ 9 := by
  have hlen : (((dec n).drop lo).take ((dec n).length - 9 * k - lo)).length = (dec n).length - 9 * k - lo := by rw [List.length_take, List.length_drop]; omega
  refine ⟨?_, fun c hc => dec_digs n c (List.mem_of_mem_drop (List.mem_of_mem_take hc)), fun e => by rw [e] at hlen; simp at hlen; omega, by omega⟩
  have e1 : ((dec n).drop lo).take ((dec n).length - 9 * k - lo) = (dec (n / 10 ^ (9 * k))).drop lo := by
    rw [← dec_take h, List.drop_take]
  rw [e1]
  have hl := dec_len_div h
  generalize n / 10 ^ (9 * k) = v at *
  by_cases h9 : v < 10 ^ 9
  · have : (dec v).length ≤ 9 := dec_le 8 v h9
    rw [show lo = 0 by omega, List.drop_zero, dval_dec, Nat.mod_eq_of_lt (by rw [show (1000000000 : Nat) = 10 ^ 9 by decide]; exact h9)]
  · have h10 : (10 : Nat) ^ 9 = 1000000000 := by decide
    have e := dec_split 9 (v % 10 ^ 9) (v / 10 ^ 9) (Nat.mod_lt _ (by decide)) (by omega)
    rw [Nat.mod_add_div] at e
    have hl2 : (dec v).length = (dec (v / 10 ^ 9)).length + 9 := by rw [e, List.length_append, low_len]
    have hp := dec_pos (v / 10 ^ 9)
    rw [e, List.drop_append, show lo = (dec (v / 10 ^ 9)).length by omega, List.drop_length, Nat.sub_self, List.drop_zero, List.nil_append, dval_low 9 _ (Nat.mod_lt _ (by decide)), h10]
theorem trim_itoa (z : Int) : Lib.trimPrefix (Lib.itoa z) [45] = dec z.natAbs := by
  unfold Lib.trimPrefix Lib.hasPrefix
  by_cases h : z < 0
  · rw [itoa_neg h]; rfl
  · rw [itoa_nn (by omega)]
    have : ∃ c l, dec z.natAbs = c :: l ∧ c ≠ 45 := by
      by_cases h0 : z.natAbs = 0
      · exact ⟨48, [], by rw [h0]; exact dec_small (by decide), by decide⟩
      · obtain ⟨c, l, h1, h2⟩ := dec_head (n := z.natAbs) (by omega)
        exact ⟨c, l, h1, fun e => by rw [e] at h2; exact absurd h2 (by decide)⟩
    obtain ⟨c, l, h1, h2⟩ := this
    rw [h1]
    have : ([45] : List UInt8).isPrefixOf (c :: l) = false := by
      simp [List.isPrefixOf]; exact fun e => h2 e.symm
    rw [if_neg (by rw [this]; simp)]
theorem itoa_neg_len (z : Int) : ((dec z.natAbs).length : Int) < (Lib.itoa z).length ↔ z < 0 := by
  by_cases h : z < 0
  · rw [itoa_neg h, List.length_cons]; constructor <;> intro <;> omega
  · rw [itoa_nn (by omega)]; simp [h]
theorem dec_lt_pow (n : Nat) : n < 10 ^ (dec n).length := by
  induction n using Nat.strongRecOn with
  | _ n ih =>
    by_cases h : n < 10
    · rw [dec_small h]; simpa using h
    · rw [dec_big h, List.length_append, show ([UInt8.ofNat (48 + n % 10)] : List UInt8).length = 1 from rfl, Nat.pow_succ]
      have := ih (n / 10) (by omega)
      omega
theorem limK_full {n k : Nat} (h : (dec n).length ≤ 9 * k) : lval (limK n k) = n := by
  rw [limK_val]
  exact Nat.mod_eq_of_lt (Nat.lt_of_lt_of_le (dec_lt_pow n) (Nat.pow_le_pow_right (by decide) h))

/-! ### Fractions' texts -/
def qtext (q : Rat) : List UInt8 := if q.den = 1 then Lib.itoa q.num else Lib.itoa q.num ++ 47 :: dec q.den
theorem itoa_nat (n : Nat) : Lib.itoa (n : Int) = dec n := by rw [itoa_nn (by omega), Int.natAbs_natCast]
theorem itoa_noslash (z : Int) : ∀ c ∈ Lib.itoa z, c ≠ 47 := by
  have hd : ∀ c ∈ dec z.natAbs, c ≠ 47 := fun c hc e => by
    have := dec_digs _ c hc
    rw [e] at this; unfold isDig at this; exact absurd this.1 (by decide)
  by_cases h : z < 0
  · rw [itoa_neg h]
    intro c hc
    rcases List.mem_cons.1 hc with rfl | hc
    · decide
    · exact hd c hc
  · rw [itoa_nn (by omega)]; exact hd
end Go.Proofs.YtknflgfkhkdomaaGreatDoor.Mono
