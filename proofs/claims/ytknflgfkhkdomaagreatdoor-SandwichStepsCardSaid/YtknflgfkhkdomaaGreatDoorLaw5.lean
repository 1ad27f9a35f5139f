/- croupierlaw22.SandwichSteps returns true for every input. (part 5 of 8.) Conditions: none beyond the given row. -/
import Derived.Test.YtknflgfkhkdomaaGreatDoorLaw4
import Derived.ScopeJumps
import Derived.Lib.ConvBytes
/-! WkK -/
set_option linter.unusedVariables false
set_option linter.unusedSimpArgs false
set_option maxRecDepth 4000
set_option maxHeartbeats 4000000
namespace Go.Proofs.YtknflgfkhkdomaaGreatDoor.Mono
open Go Go.RowKit

theorem itoa_ne (z : Int) : Lib.itoa z ≠ [] := fun e => by have := itoa_pos z; rw [e] at this; simp at this
theorem zero_of {z : Int} (h : ((lims z.natAbs).length : Int) = 0) : z = 0 := by have := (lims_len z.natAbs).1 (by omega); omega
theorem itoa_len9 (z : Int) : (Lib.itoa z).length ≤ 9 * (lims z.natAbs).length + 1 := by
  by_cases h : ((lims z.natAbs).length : Int) = 0
  · rw [zero_of h, itoa_zero]; simp
  · rw [← wtext_zero h, List.length_append]
    have h1 := sg_len z
    have h2 := wtext_len (lims_ok z.natAbs) (Nat.zero_le _)
    omega
theorem all0 {l : List Int} {b : List UInt8} : b = b ++ wtext l l.length := by rw [wtext_all, List.append_nil]
theorem getI {l : List Int} {i : Nat} {j : Int} (h : j = ((i + 1 : Nat) : Int)) {n : Int} (hn : n = j - 1) (hlt : n.toNat < l.length) : l[n.toNat] = l.getD i 0 := by
  have e : n.toNat = i := by omega
  rw [List.getD_eq_getElem?_getD, List.getElem?_eq_getElem (by omega)]; simp [e]

theorem h0_133 : ∀ m, (Seg.cat [Seg.of Kd.val (.pointer none), Seg.of Kd.val (.slice none 0 0)]).p m (Value.cells (.agg #[.pointer none, .slice none 0 0])).toList := fun m => ⟨_, _, rfl, (fun _ => ⟨rfl, rfl⟩) m, ⟨_, _, rfl, (fun _ => ⟨rfl, rfl⟩) m, rfl⟩⟩

theorem z133 : ZeroOf Tryz.prog 133 (.agg #[.pointer none, .slice none 0 0]) := by unfold ZeroOf; kernel_rfl

theorem en74 : Enters Tryz.prog 74 := enters_fn Tryz.func74 (by kernel_rfl) rfl

theorem en73 : Enters Tryz.prog 73 := enters_fn Tryz.func73 (by kernel_rfl) rfl

theorem en75 : Enters Tryz.prog 75 := enters_fn Tryz.func75 (by kernel_rfl) rfl

theorem en76 : Enters Tryz.prog 76 := enters_fn Tryz.func76 (by kernel_rfl) rfl

theorem w53 {z : Int} (hl : (lims z.natAbs).length ≤ 1000000) : Spec CC 53 [Ty.of Kd.whole z] (Ty.of Kd.str (Lib.itoa z)) := by
  refine spec_of_JS Tryz.func53 rfl (Nat.le_of_ble_eq_true rfl) (fun gh0 wd0 => ?_)
  refine JS_seq ?_
  -- region 0
  refine sR ?_
  refine kO (T_box rfl (ol rfl (Ty.le.refl _))) rfl ?_
  refine kO (T_sub (T_move (.inr rfl) rfl) (val_str [])) rfl ?_
  refine kE ?_
  refine JS_seq ?_
  refine JS_seq ?_
  -- region 1
  refine sR ?_
  refine kO (T_fieldAddr rfl fa83_1 (whole_mag _) rfl) rfl ?_
  refine kO (T_ld rfl rfl ti81) rfl ?_
  refine kO (T_len_slice rfl rfl u81 rfl) rfl ?_
  refine kO (T_eq rfl rfl rfl) rfl ?_
  refine kE ?_
  refine JS_if rfl (fun c9 => ?_) (fun c9 => ?_)
  · refine JS_seq ?_
    -- region 2
    refine sR ?_
    refine kO (T_sub (T_move (.inr rfl) rfl) (val_str [48])) rfl ?_
    refine kE ?_
    exact JS_ret (JE_ret_one rfl rfl (.tmp rfl .nil) ((of_eq (by rw [zero_of c9, itoa_zero]))))
  · refine JS_skip ?_
    refine JS_seq ?_
    -- region 3
    refine sR ?_
    refine kT ?_
    refine JT_alloc (S0 := Seg.cat [Seg.of Kd.val (.pointer none), Seg.of Kd.val (.slice none 0 0)]) rfl rfl rfl rfl z133 h0_133 (fun g3 => ?_)
    refine JT_done ?_
    refine JS_seq ?_
    refine JS_seq ?_
    -- region 4
    refine JS_own_nil 5 Kd.byte ?_
    refine JS_perm (List.Perm.swap _ _ _) ?_
    refine sR ?_
    refine kO (T_fieldAddr rfl fa83_0 (whole_neg _) rfl) rfl ?_
    refine kO (T_load_bool rfl ti4 rfl) rfl ?_
    refine kE ?_
    refine JS_join2 (fun (p : Value) (v : Value) => []) [1, 3] (fun (p : Value) (v : Value) => [(0, Res.box g3 133 (Seg.cat [Seg.of Kd.val p, Seg.of Kd.val v])), (1, Res.sl v 5 Kd.byte (sg z))]) (fun (p : Value) (v : Value) => (p = .pointer none ∨ p = ptr g3 0)) ?_ (fun p v (hP : (p = .pointer none ∨ p = ptr g3 0)) => ?_)
    · refine JS_if rfl (fun c11 => ?_) (fun c11 => ?_)
      · -- region 5
        refine sR ?_
        refine kT ?_
        refine JT_callM2 (i := 0) (j := 0) rfl rfl rfl en74 rfl rfl (m74 (c := 45) (.inl rfl) (by simp)) (oa (ol rfl (Ty.le.refl _)) (oa (ol rfl (Ty.le.refl _)) oa0)) (fun q12 => ?_)
        refine JT_done ?_
        exact JS_meet (_, _) (by try dsimp only; exact (.inr rfl)) (by unfold sg; rw [if_pos c11]; rfl) (EnvSub.napp (EnvSub.pick1 rfl (EnvSub.pick1 rfl (EnvSub.nil _))))
      · refine JS_skip ?_
        exact JS_meet (_, _) (by try dsimp only; exact (.inl rfl)) (by unfold sg; rw [if_neg c11]; rfl) (EnvSub.napp (EnvSub.pick1 rfl (EnvSub.pick1 rfl (EnvSub.nil _))))
    · refine JS_seq ?_
      refine JS_seq ?_
      -- region 6
      refine sR ?_
      refine kO (T_fieldAddr rfl fa83_1 (whole_mag _) rfl) rfl ?_
      refine kO (T_ld rfl rfl ti81) rfl ?_
      refine kO (T_len_slice rfl rfl u81 rfl) rfl ?_
      refine kO (T_subI rfl rfl rfl (wrap_i64 (by omega) (by omega))) rfl ?_
      refine kA rfl rfl ?_
      refine kE ?_
      refine JS_block ?_
      refine sLoop3 (fun (j : Nat) (p : Value) (v : Value) => [(4, Ty.val (.int .i64 ((j : Int) - 1)))]) [1, 3] (fun (j : Nat) (p : Value) (v : Value) => [(0, Res.box g3 133 (Seg.cat [Seg.of Kd.val p, Seg.of Kd.val v])), (1, Res.sl v 5 Kd.byte (sg z ++ wtext (lims z.natAbs) j))]) (fun (j : Nat) (p : Value) (v : Value) => j ≤ (lims z.natAbs).length ∧ (p = .pointer none ∨ p = ptr g3 0)) (fun (j : Nat) (p : Value) (v : Value) => j) ((lims z.natAbs).length) p v (⟨Nat.le_refl _, hP⟩) (by rw [← all0]; rfl) (EnvSub.consLe rfl (int_eq (rfl)) (EnvSub.nil _)) (fun j p v (hI : j ≤ (lims z.natAbs).length ∧ (p = .pointer none ∨ p = ptr g3 0)) => ?_)
      obtain ⟨i1, i2⟩ := hI
      have s1 := sg_len z
      have w1 := wtext_len (lims_ok z.natAbs) i1
      refine JS_seq ?_
      refine JS_seq ?_
      -- region 7
      refine sR ?_
      refine kM rfl rfl ?_
      refine kO (T_ge rfl rfl rfl) rfl ?_
      refine kE ?_
      refine JS_if rfl (fun c18 => ?_) (fun c18 => ?_)
      · obtain ⟨i, rfl⟩ : ∃ i, j = i + 1 := ⟨j - 1, by omega⟩
        have gx := (lims_ok z.natAbs).get i
        have gl := limb_len gx
        have gp := itoa_pos ((lims z.natAbs).getD i 0)
        refine JS_skip ?_
        refine JS_seq ?_
        refine JS_block ?_
        refine JS_seq ?_
        -- region 9
        refine sR ?_
        refine kO (T_fieldAddr rfl fa83_1 (whole_mag _) rfl) rfl ?_
        refine kO (T_ld rfl rfl ti81) rfl ?_
        refine kM rfl rfl ?_
        refine kO (T_ix rfl rfl rfl u81 ti126 (by omega) (by omega) (getI rfl rfl _)) rfl ?_
        refine kO (T_load_int rfl ti126 rfl) rfl ?_
        refine kO (T_conv rfl u126 u3 rfl (wrap_i64 (by omega) (by omega))) rfl ?_
        refine kO (T_callL rfl en73 (spec_itoa (by omega) (by omega)) (oa (ol rfl (Ty.le.refl _)) oa0)) rfl ?_
        refine kA rfl rfl ?_
        refine kE ?_
        refine JS_seq ?_
        refine JS_seq ?_
        -- region 10
        refine sR ?_
        refine kM rfl rfl ?_
        refine kO (T_fieldAddr rfl fa83_1 (whole_mag _) rfl) rfl ?_
        refine kO (T_ld rfl rfl ti81) rfl ?_
        refine kO (T_len_slice rfl rfl u81 rfl) rfl ?_
        refine kO (T_subI rfl rfl rfl (wrap_i64 (by omega) (by omega))) rfl ?_
        refine kO (T_lt rfl rfl rfl) rfl ?_
        refine kE ?_
        refine JS_if rfl (fun c33 => ?_) (fun c33 => ?_)
        · -- region 11
          refine sR ?_
          refine kM rfl rfl ?_
          refine kO (T_len_str rfl rfl u9 rfl) rfl ?_
          refine kO (T_sstr_lC rfl u9 (ol rfl (val_str [48, 48, 48, 48, 48, 48, 48, 48, 48])) rfl (by omega) (by simp only [List.length_cons, List.length_nil]; omega)) rfl ?_
          refine kT ?_
          refine JT_callM2 (i := 0) (j := 0) rfl rfl rfl en75 rfl rfl (m75 i2 (by rw [List.length_append]; omega) (by simp only [List.length_drop, List.length_cons, List.length_nil]; omega)) (oa (ol rfl (Ty.le.refl _)) (oa (ol rfl (Ty.le.refl _)) oa0)) (fun q37 => ?_)
          refine JT_done ?_
          -- region 12
          refine sR ?_
          refine kM rfl rfl ?_
          refine kT ?_
          refine JT_callM2 (i := 0) (j := 0) rfl rfl rfl en75 rfl rfl (m75 (by first | exact i2 | exact .inr rfl) (by simp only [List.length_append, List.length_drop, List.length_cons, List.length_nil]; omega) (by omega)) (oa (ol rfl (Ty.le.refl _)) (oa (ol rfl (Ty.le.refl _)) oa0)) (fun q39 => ?_)
          refine JT_done ?_
          refine JS_end_inB ?_
          -- region 8
          refine sR ?_
          refine kM rfl rfl ?_
          refine kO (T_subI rfl rfl rfl (wrap_i64 (by omega) (by omega))) rfl ?_
          refine kA rfl rfl ?_
          refine kE ?_
          exact JS_round (i, _, _) (by try dsimp only; exact (⟨by omega, .inr rfl⟩)) (by try dsimp only; exact ((by omega))) (by rw [List.append_assoc, List.append_assoc, ← List.append_assoc (wtext _ _), Int.toNat_natCast, wtext_step (lims_ok _) (lims_top _) (by omega)]; rfl) (EnvSub.consLe rfl (int_eq (by omega)) (EnvSub.pick1 rfl (EnvSub.pick1 rfl (EnvSub.nil _))))
        · refine JS_skip ?_
          -- region 12
          refine sR ?_
          refine kM rfl rfl ?_
          refine kT ?_
          refine JT_callM2 (i := 0) (j := 0) rfl rfl rfl en75 rfl rfl (m75 (by first | exact i2 | exact .inr rfl) (by simp only [List.length_append, List.length_drop, List.length_cons, List.length_nil]; omega) (by omega)) (oa (ol rfl (Ty.le.refl _)) (oa (ol rfl (Ty.le.refl _)) oa0)) (fun q39 => ?_)
          refine JT_done ?_
          refine JS_end_inB ?_
          -- region 8
          refine sR ?_
          refine kM rfl rfl ?_
          refine kO (T_subI rfl rfl rfl (wrap_i64 (by omega) (by omega))) rfl ?_
          refine kA rfl rfl ?_
          refine kE ?_
          exact JS_round (i, _, _) (by try dsimp only; exact (⟨by omega, .inr rfl⟩)) (by try dsimp only; exact ((by omega))) (by rw [show i + 1 = (lims z.natAbs).length by omega, wtext_all, List.append_nil, ← wtext_top (lims_ok _) (show i + 1 = (lims z.natAbs).length by omega)]; rfl) (EnvSub.consLe rfl (int_eq (by omega)) (EnvSub.pick1 rfl (EnvSub.pick1 rfl (EnvSub.nil _))))
      · obtain rfl : j = 0 := by omega
        rw [wtext_zero c9]
        have hL := itoa_len9 z
        refine JS_exit (JE_loop_exit (JE_inB_here ?_))
        refine JS_seq ?_
        -- region 13
        refine sR ?_
        refine kT ?_
        refine JT_callM2 (i := 0) (j := 0) rfl rfl rfl en76 rfl rfl (m76 (itoa_ne z) (by omega)) (oa (ol rfl (Ty.le.refl _)) oa0) (fun q40 => ?_)
        refine jA rfl rfl ?_
        refine JT_done ?_
        exact JS_ret (JE_ret_one rfl rfl (.tmp rfl .nil) (of_eq (rfl)))

theorem w51 {z : Int} (hl : (lims z.natAbs).length ≤ 1000000) : Spec CC 51 [Ty.of Kd.whole z] (Ty.val (.int .i64 ((dec z.natAbs).length : Int))) := by
  refine spec_of_JS Tryz.func51 rfl (Nat.le_of_ble_eq_true rfl) (fun gh0 wd0 => ?_)
  refine JS_seq ?_
  -- region 0
  refine sR ?_
  refine kO (T_box rfl (ol rfl (Ty.le.refl _))) rfl ?_
  refine kA rfl rfl ?_
  refine kE ?_
  refine JS_seq ?_
  -- region 1
  refine sR ?_
  refine kO (T_fieldAddr rfl fa83_1 (whole_mag _) rfl) rfl ?_
  refine kO (T_ld rfl rfl ti81) rfl ?_
  refine kO (T_len_slice rfl rfl u81 rfl) rfl ?_
  refine kA rfl rfl ?_
  refine kE ?_
  refine JS_seq ?_
  refine JS_seq ?_
  -- region 2
  refine sR ?_
  refine kM rfl rfl ?_
  refine kO (T_eq rfl rfl rfl) rfl ?_
  refine kE ?_
  refine JS_if rfl (fun c8 => ?_) (fun c8 => ?_)
  · refine JS_seq ?_
    -- region 3
    refine sR ?_
    refine kA rfl rfl ?_
    refine kE ?_
    exact JS_ret (JE_ret_one rfl rfl (.tmp rfl .nil) ((int_eq (by rw [zero_of c8, show (0 : Int).natAbs = 0 from rfl, dec_small (by decide)]; rfl))))
  · have gx := (lims_ok z.natAbs).get ((lims z.natAbs).length - 1)
    have gl := limb_len gx
    have hd := digits_eq c8 rfl
    refine JS_skip ?_
    refine JS_seq ?_
    -- region 4
    refine sR ?_
    refine kM rfl rfl ?_
    refine kO (T_subI rfl rfl rfl (wrap_i64 (by omega) (by omega))) rfl ?_
    refine kO (T_mul rfl rfl rfl (wrap_i64 (by omega) (by omega))) rfl ?_
    refine kO (T_fieldAddr rfl fa83_1 (whole_mag _) rfl) rfl ?_
    refine kO (T_ld rfl rfl ti81) rfl ?_
    refine kM rfl rfl ?_
    refine kO (T_subI rfl rfl rfl (wrap_i64 (by omega) (by omega))) rfl ?_
    refine kO (T_ix rfl rfl rfl u81 ti126 (by omega) (by omega) (getD_at ((lims z.natAbs).length - 1) (by omega) _)) rfl ?_
    refine kO (T_load_int rfl ti126 rfl) rfl ?_
    refine kO (T_conv rfl u126 u3 rfl (wrap_i64 (by omega) (by omega))) rfl ?_
    refine kO (T_callL rfl en73 (spec_itoa (by omega) (by omega)) (oa (ol rfl (Ty.le.refl _)) oa0)) rfl ?_
    refine kO (T_len_str rfl rfl u9 rfl) rfl ?_
    refine kO (T_add rfl rfl rfl (wrap_i64 (by omega) (by omega))) rfl ?_
    refine kA rfl rfl ?_
    refine kE ?_
    exact JS_ret (JE_ret_one rfl rfl (.tmp rfl .nil) ((int_eq (hd))))

theorem en51 : Enters Tryz.prog 51 := enters_fn Tryz.func51 (by kernel_rfl) rfl

theorem w32 {x : Rat} {k : Int} (hx : Nz 1000000 x) : Spec CC 32 [Ty.of Kd.num x, Ty.val (.int .i64 k)] (Ty.val (.bool (decide (((dec x.num.natAbs).length : Int) ≤ k ∧ ((dec x.den).length : Int) ≤ k)))) := by
  refine spec_of_JS Tryz.func32 rfl (Nat.le_of_ble_eq_true rfl) (fun gh0 wd0 => ?_)
  have x1 := hx.num
  have x2 := hx.den
  refine JS_seq ?_
  -- region 0
  refine sR ?_
  refine kO (T_box rfl (ol rfl (Ty.le.refl _))) rfl ?_
  refine kA rfl rfl ?_
  refine kE ?_
  refine JS_seq ?_
  -- region 1
  refine sR ?_
  refine kO (T_fieldAddr rfl fa85_0 (num_n _) rfl) rfl ?_
  refine kO (T_ld rfl rfl ti83) rfl ?_
  refine kO (T_callL rfl en51 (w51 (by omega)) (oa (ol rfl (Ty.le.refl _)) oa0)) rfl ?_
  refine kM rfl rfl ?_
  refine kO (T_le rfl rfl rfl) rfl ?_
  refine kM rfl rfl ?_
  refine tk_if (d := 10) rfl (fun g10 => ?_) (fun g10 => ?_)
  · refine kG (wTD g10 rfl rfl rfl) (T_fieldAddr rfl fa85_1 (num_d _) rfl) rfl ?_
    refine kG (wTD g10 rfl rfl rfl) (T_ld rfl rfl ti83) rfl ?_
    refine kG (wTD g10 rfl rfl rfl) (T_callL rfl en51 (w51 (by omega)) (oa (ol rfl (Ty.le.refl _)) oa0)) rfl ?_
    refine kG (wTD g10 rfl rfl rfl) (T_move (.inl rfl) rfl) rfl ?_
    refine kG (wTD g10 rfl rfl rfl) (T_le rfl rfl rfl) rfl ?_
    refine kO (T_pickD g10 rfl rfl rfl) rfl ?_
    refine kA rfl rfl ?_
    refine kE ?_
    exact JS_ret (JE_ret_one rfl rfl (.tmp rfl .nil) ((dec_eq (by rw [Int.natAbs_natCast]; exact ⟨fun h => ⟨g10, h⟩, fun h => h.2⟩))))
  · refine kS (uFD g10 rfl rfl rfl) rfl ?_
    refine kS (uFD g10 rfl rfl rfl) rfl ?_
    refine kS (uFD g10 rfl rfl rfl) rfl ?_
    refine kS (uFD g10 rfl rfl rfl) rfl ?_
    refine kS (uFD g10 rfl rfl rfl) rfl ?_
    refine kO (T_pickN g10 rfl rfl rfl) rfl ?_
    refine kA rfl rfl ?_
    refine kE ?_
    exact JS_ret (JE_ret_one rfl rfl (.tmp rfl .nil) ((bool_eq (by simp [g10]))))

theorem en52 : Enters Tryz.prog 52 := enters_fn Tryz.func52 (by kernel_rfl) rfl

theorem en53 : Enters Tryz.prog 53 := enters_fn Tryz.func53 (by kernel_rfl) rfl

theorem w33 {x : Rat} (hx : Nz 1000000 x) : Spec CC 33 [Ty.of Kd.num x] (Ty.of Kd.str (qtext x)) := by
  refine spec_of_JS Tryz.func33 rfl (Nat.le_of_ble_eq_true rfl) (fun gh0 wd0 => ?_)
  have x1 := hx.num
  have x2 := hx.den
  have t1 := itoa_len9 x.num
  have t2 := itoa_len9 (x.den : Int)
  refine JS_seq ?_
  -- region 0
  refine sR ?_
  refine kO (T_box rfl (ol rfl (Ty.le.refl _))) rfl ?_
  refine kO (T_sub (T_move (.inr rfl) rfl) (val_str [])) rfl ?_
  refine kE ?_
  refine JS_seq ?_
  refine JS_seq ?_
  -- region 1
  refine sR ?_
  refine kO (T_ld rfl rfl ti85) rfl ?_
  refine kO (T_callL rfl en52 (w52 ) (oa (ol rfl (Ty.le.refl _)) oa0)) rfl ?_
  refine kE ?_
  refine JS_if rfl (fun c4 => ?_) (fun c4 => ?_)
  · refine JS_seq ?_
    -- region 2
    refine sR ?_
    refine kO (T_fieldAddr rfl fa85_0 (num_n _) rfl) rfl ?_
    refine kO (T_ld rfl rfl ti83) rfl ?_
    refine kO (T_callL rfl en53 (w53 (by omega)) (oa (ol rfl (Ty.le.refl _)) oa0)) rfl ?_
    refine kA rfl rfl ?_
    refine kE ?_
    exact JS_ret (JE_ret_one rfl rfl (.tmp rfl .nil) ((of_eq (by unfold qtext; rw [if_pos c4]))))
  · refine JS_skip ?_
    refine JS_seq ?_
    -- region 3
    refine sRD mixed ?_
    refine kO (T_fieldAddr rfl fa85_0 (num_n _) rfl) rfl ?_
    refine kO (T_ld rfl rfl ti83) rfl ?_
    refine kO (T_callL rfl en53 (w53 (by omega)) (oa (ol rfl (Ty.le.refl _)) oa0)) rfl ?_
    refine kO (T_sadd rfl (ol rfl (Ty.le.refl _)) (ol rfl (val_str [47])) (by simp only [List.length_cons, List.length_nil, maxLen]; omega)) rfl ?_
    refine kO (T_fieldAddr rfl fa85_1 (num_d _) rfl) rfl ?_
    refine kO (T_ld rfl rfl ti83) rfl ?_
    refine kO (T_callL rfl en53 (w53 (by omega)) (oa (ol rfl (Ty.le.refl _)) oa0)) rfl ?_
    refine kO (T_sadd rfl (ol rfl (Ty.le.refl _)) (ol rfl (Ty.le.refl _)) (by simp only [List.length_append, List.length_cons, List.length_nil, maxLen]; omega)) rfl ?_
    refine kA rfl rfl ?_
    refine kD (by decide) ?_
    exact JS_ret (JE_ret_one rfl rfl (.tmp rfl .nil) ((of_eq (by unfold qtext; rw [if_neg c4, itoa_nat, List.append_assoc]; rfl))))

end Go.Proofs.YtknflgfkhkdomaaGreatDoor.Mono

/-! MonoI -/
set_option linter.unusedVariables false
set_option linter.unusedSimpArgs false
namespace Go.Proofs.YtknflgfkhkdomaaGreatDoor.Mono
open Go Go.RowKit
section scopes
variable {F : Fr} {Q : Post} {Γ : Env} {Δ : List Res} {cs : List Code}

/-- Behind a scope's code: a jump to its label comes with a smaller measure. -/
def gotoQ (F : Fr) (l : Nat) {X : Type} (inv : X → Inv) (good : X → Prop) (μ : X → Nat) (n : Nat) (K : Act → World → Prop) (Q : Post) : Post
  | .normal, a, w => K a w
  | .goto l', a, w => l' = l ∧ ∃ x, good x ∧ μ x < n ∧ ∃ m, St F (inv x).Γ (inv x).Δ m w a
  | e, a, w => Q e a w
def scopeQ (K : Act → World → Prop) (Q : Post) : Post
  | .normal, a, w => K a w
  | .goto _, _, _ => False
  | e, a, w => Q e a w
theorem JS_scopeS (hr : F.r = none) {c : Code} (h : JS F (scopeQ (stk F Q cs) Q) Γ Δ [c]) : JS F Q Γ Δ (.scope c :: cs) := fun m w a hs => by
  show (Code.scope c).wpIn _ _ _ _ _ _
  have h1 := h m w a hs
  have h2 : c.wpIn (FW F.r) 1 F.C.P (Exit.then (stk F (scopeQ (stk F Q cs) Q) []) (scopeQ (stk F Q cs) Q)) a w := h1
  rw [hr] at h2 ⊢
  refine wpIn_wide.2 (wp_scope_straight ?_)
  refine (wpIn_wide (n := 1)).1 (wpIn_mono h2 ?_)
  intro e a' w' hq
  cases e with
  | normal => exact hq
  | exit i => exact hq
  | goto l => exact hq
  | ret => exact hq
  | panic c => exact hq
  | outgrown => exact hq
theorem JS_scopeL {X : Type} (inv : X → Inv) (good : X → Prop) (μ : X → Nat) (x0 : X) (h0 : good x0) (hr : F.r = none) (hΔ : Δ = (inv x0).Δ) (hΓ : EnvSub Γ (inv x0).Γ) {l : Nat} {b : Code}
    (h : ∀ x, good x → JS F (gotoQ F l inv good μ (μ x) (stk F Q cs) Q) (inv x).Γ (inv x).Δ [b]) : JS F Q Γ Δ (.scope (.seq (.label l) b) :: cs) := by
  intro m w a hs
  show (Code.scope _).wpIn _ _ _ _ _ _
  let J : Act → World → Prop := fun a w => ∃ n, ∃ x, n = μ x ∧ good x ∧ ∃ m, St F (inv x).Γ (inv x).Δ m w a
  let ν : Act → World → Nat := fun a w => leastOf (fun n => ∃ x, n = μ x ∧ good x ∧ ∃ m, St F (inv x).Γ (inv x).Δ m w a)
  have body : ∀ a w, J a w → b.wp F.C.P (Exit.jump l (fun a' w' => J a' w' ∧ ν a' w' < ν a w) (Exit.then (stk F Q cs) Q)) a w := by
    intro a w hI
    obtain ⟨⟨x, hn, hg, m, hst⟩, hmin⟩ := leastOf_spec hI
    have h2 : b.wpIn (FW F.r) 1 F.C.P (Exit.then (stk F (gotoQ F l inv good μ (μ x) (stk F Q cs) Q) []) (gotoQ F l inv good μ (μ x) (stk F Q cs) Q)) a w := h x hg m w a hst
    rw [hr] at h2
    refine (wpIn_wide (n := 1)).1 (wpIn_mono h2 ?_)
    intro e a' w' hq
    cases e with
    | normal => exact hq
    | exit i => exact hq
    | goto l' =>
      obtain ⟨hl, x', hg', hlt, m', hst'⟩ := hq
      have hI' : ∃ n, ∃ x, n = μ x ∧ good x ∧ ∃ m, St F (inv x).Γ (inv x).Δ m w' a' := ⟨μ x', x', rfl, hg', m', hst'⟩
      refine ⟨hl, hI', ?_⟩
      show leastOf _ < leastOf _
      rw [hn]
      exact Nat.lt_of_le_of_lt ((leastOf_spec hI').2 _ ⟨x', rfl, hg', m', hst'⟩) hlt
    | ret => exact hq
    | panic c => exact hq
    | outgrown => exact hq
  rw [hr]
  refine wpIn_wide.2 (wp_scope_jumps l J ν (rest := .seq .skip b) (by simp [findLabel]) ?_ (fun a w hJ => ?_))
  · have hJ : J a w := ⟨_, x0, rfl, h0, m, by rw [← hΔ]; exact hs.sub hΓ⟩
    refine (wpIn_wide (n := 1)).1 (wpIn_seq (wpIn_label ?_))
    refine wpIn_wide.2 ?_
    refine (wpIn_wide (n := 1)).1 (wpIn_mono (wpIn_wide.2 (body a w hJ)) ?_)
    intro e a' w' hq
    cases e with
    | goto l' => exact ⟨hq.1, hq.2.1⟩
    | normal => exact hq
    | exit i => exact hq
    | ret => exact hq
    | panic c => exact hq
    | outgrown => exact hq
  · refine (wpIn_wide (n := 1)).1 (wpIn_seq (wpIn_skip ?_))
    exact wpIn_wide.2 (body a w hJ)
theorem JS_scopeL1 {X : Type} (md : X → Env) (keep : List Nat) (ch : X → List (Nat × Res)) (good : X → Prop) (μ : X → Nat) (x0 : X) (h0 : good x0) (hr : F.r = none) (hΔ : Δ = sets (ch x0) Δ) (hΓ : EnvSub Γ (md x0)) {l : Nat} {b : Code}
    (h : ∀ x, good x → JS F (gotoQ F l (fun x => ⟨md x ++ pick Γ keep, sets (ch x) Δ⟩) good μ (μ x) (stk F Q cs) Q) (md x ++ pick Γ keep) (sets (ch x) Δ) [b]) : JS F Q Γ Δ (.scope (.seq (.label l) b) :: cs) :=
  JS_scopeL (fun x => ⟨md x ++ pick Γ keep, sets (ch x) Δ⟩) good μ x0 h0 hr hΔ (EnvSub.append hΓ (pick_sub Γ keep)) h
theorem JE_goto_here {l n : Nat} {X : Type} {inv : X → Inv} {good : X → Prop} {μ : X → Nat} {K : Act → World → Prop} (x : X) (hg : good x) (hlt : μ x < n) (hΔ : Δ = (inv x).Δ) (hΓ : EnvSub Γ (inv x).Γ) : JE F (gotoQ F l inv good μ n K Q) Γ Δ (.goto l) :=
  fun m w a hs => ⟨rfl, x, hg, hlt, m, by rw [← hΔ]; exact hs.sub hΓ⟩
theorem JE_goto_exit {l n i : Nat} {X : Type} {inv : X → Inv} {good : X → Prop} {μ : X → Nat} {K : Act → World → Prop} (h : JE F Q Γ Δ (.exit i)) : JE F (gotoQ F l inv good μ n K Q) Γ Δ (.exit i) := fun m w a hs => h m w a hs
theorem JE_goto_ret {l n : Nat} {X : Type} {inv : X → Inv} {good : X → Prop} {μ : X → Nat} {K : Act → World → Prop} (h : JE F Q Γ Δ .ret) : JE F (gotoQ F l inv good μ n K Q) Γ Δ .ret := fun m w a hs => h m w a hs
theorem JS_goto_end {l n : Nat} {X : Type} {inv : X → Inv} {good : X → Prop} {μ : X → Nat} {Q' : Post} (h : JS F Q Γ Δ cs) : JS F (gotoQ F l inv good μ n (stk F Q cs) Q') Γ Δ [] := fun m w a hs => h m w a hs
theorem JE_scope_exit {i : Nat} {K : Act → World → Prop} (h : JE F Q Γ Δ (.exit i)) : JE F (scopeQ K Q) Γ Δ (.exit i) := fun m w a hs => h m w a hs
theorem JE_scope_ret {K : Act → World → Prop} (h : JE F Q Γ Δ .ret) : JE F (scopeQ K Q) Γ Δ .ret := fun m w a hs => h m w a hs
theorem JS_scope_end {Q' : Post} (h : JS F Q Γ Δ cs) : JS F (scopeQ (stk F Q cs) Q') Γ Δ [] := fun m w a hs => h m w a hs
end scopes

/-! ### A text as bytes -/
theorem T_str_bytes {C : Ctx} {Δ : List Res} {Γ : Env} {o : Oper} {src dst e : TypeId} {u : TypeDesc} {x : Operand} {l : List UInt8} (ho : o.op = .convert src dst x) (hs : C.P.underlying src = some u) (hd : C.P.underlying dst = some (.slice e)) (he : C.P.underlying e = some (.int .u8))
    (hx : OpdLe Γ x (Ty.of Kd.str l)) (hl : l.length ≤ 1000000000) : TOp C Δ Γ o (Ty.of (Kd.slice Kd.byte) l) := by
  intro m w ac hsat _ _ _ htt
  have h1 := str_opdL hx htt (by simp [ho, Op.operands])
  have hsz := Kd.size_bs l
  have hb := below_bytes (w := w) e (Kd.bs l)
  have hnew := Lib.bytesWorld_at_new w e (Kd.bs l)
  have hold := Lib.bytesWorld_at_old w e (Kd.bs l)
  have hcap := grownCap_ge w (Kd.bs l).size 0 e
  have hmax := grownCap_le_maxLen w (Kd.bs l).size 0 e (by rw [hsz]; unfold maxLen; omega)
  refine ⟨by simp [ho], .inl ⟨.slice (some ⟨w.heap.size, 0, none⟩) (Kd.bs l).size (grownCap w (Kd.bs l).size 0 e), m.lay w.heap.size (.cells (Lib.bytesCells w e (Kd.bs l)) e ((Lib.bytesCells w e (Kd.bs l)).size, (Lib.bytesCells w e (Kd.bs l)).size + 1)), Lib.bytesWorld w e (Kd.bs l), ?_, ⟨GH.lay_le (sat_none hsat), fun k hk hn => .inl ?_, ?_, fun k hk _ => hold k hk, hb.os, hb.tape, hb.output⟩, fun k o' hk => ?_, ?_⟩⟩
  · have := Lib.run_convert_string_bytes (P := C.P) w src dst e (Kd.bs l) hs hd he
    simp only [execOp, ho, Sem.run_bind, h1, this, Result.andThen_ok, Sem.run_pure]
  · unfold GH.lay at hk
    by_cases e' : k = w.heap.size
    · omega
    · simp [e', hn] at hk
  · rw [Lib.bytesWorld_size]; omega
  · unfold GH.lay at hk
    by_cases e' : k = w.heap.size
    · subst e'; simp at hk; subst hk; exact hnew
    · rw [if_neg e'] at hk
      rw [hold k (hsat.lt (by rw [hk]; simp))]; exact hsat k o' hk
  · refine ⟨[_], ⟨_, rfl, some ⟨w.heap.size, 0, none⟩, grownCap w (Kd.bs l).size 0 e, by rw [hsz], by rw [← hsz]; exact hcap, hmax, .inr ⟨w.heap.size, 0, l.map fun b => Value.int .u8 (b.toNat : Int), rfl, ⟨_, _, _, [], List.replicate (grownCap w (Kd.bs l).size 0 e - (Kd.bs l).size) (.int .u8 0), GH.lay_same _ _ _, ?_, rfl⟩, byte_reps _ l⟩⟩, rfl⟩
    simp [Lib.bytesCells, Kd.bs]

/-! ### Cut texts -/
theorem index_slash : ∀ (a b : List UInt8), (∀ c ∈ a, c ≠ 47) → Lib.index (a ++ 47 :: b) [47] = a.length
  | [], b, _ => by unfold Lib.index; simp [List.isPrefixOf]
  | c :: a, b, h => by
    have hc := h c (by simp)
    have ih := index_slash a b (fun x hx => h x (by simp [hx]))
    rw [List.cons_append]
    unfold Lib.index
    have : ([47] : List UInt8).isPrefixOf (c :: (a ++ 47 :: b)) = false := by simp [List.isPrefixOf]; exact fun e => hc e.symm
    rw [this, ih]
    have h2 : ((a.length : Int) == -1) = false := by rw [beq_eq_false_iff_ne]; omega
    simp [h2]
theorem index_none' : ∀ (a : List UInt8), (∀ c ∈ a, c ≠ 47) → Lib.index a [47] = -1
  | [], _ => by unfold Lib.index; simp [List.isPrefixOf]
  | c :: a, h => by
    have hc := h c (by simp)
    have ih := index_none' a (fun x hx => h x (by simp [hx]))
    unfold Lib.index
    have : ([47] : List UInt8).isPrefixOf (c :: a) = false := by simp [List.isPrefixOf]; exact fun e => hc e.symm
    rw [this, ih]; rfl
theorem cut_slash {a b : List UInt8} (h : ∀ c ∈ a, c ≠ 47) : Lib.cut (a ++ 47 :: b) [47] = (a, b, true) := by
  unfold Lib.cut
  rw [index_slash a b h, if_pos (by omega), Int.toNat_natCast, List.take_left]
  have : (a ++ 47 :: b).drop (a.length + ([47] : List UInt8).length) = b := by
    rw [show a ++ 47 :: b = (a ++ [47]) ++ b by simp, show a.length + ([47] : List UInt8).length = (a ++ [47]).length by simp, List.drop_left]
  rw [this]
theorem cut_none {a : List UInt8} (h : ∀ c ∈ a, c ≠ 47) : Lib.cut a [47] = (a, [], false) := by
  unfold Lib.cut
  rw [index_none' a h]; rfl
theorem cut_qtext (q : Rat) : Lib.cut (qtext q) [47] = if q.den = 1 then (Lib.itoa q.num, [], false) else (Lib.itoa q.num, dec q.den, true) := by
  unfold qtext
  split
  · exact cut_none (itoa_noslash _)
  · exact cut_slash (itoa_noslash _)
end Go.Proofs.YtknflgfkhkdomaaGreatDoor.Mono

/-! WkL -/
set_option linter.unusedVariables false
set_option linter.unusedSimpArgs false
set_option maxRecDepth 4000
set_option maxHeartbeats 4000000
namespace Go.Proofs.YtknflgfkhkdomaaGreatDoor.Mono
open Go Go.RowKit

theorem lims_digits {n k : Nat} (h : (dec n).length ≤ 9 * k) : (lims n).length ≤ k := by
  refine lims_len_of_lt (Nat.lt_of_lt_of_le (dec_lt_pow n) ?_)
  rw [show (1000000000 : Nat) = 10 ^ 9 by decide, ← Nat.pow_mul]
  exact Nat.pow_le_pow_right (by decide) h
/-- Both parts have at most so many digits. -/
def Dz (k : Nat) (q : Rat) : Prop := (dec q.num.natAbs).length ≤ k ∧ (dec q.den).length ≤ k
theorem Dz.nz {q : Rat} (h : Dz 2000 q) : Nz 1000 q := ⟨lims_digits (Nat.le_trans h.1 (by decide)), lims_digits (Nat.le_trans h.2 (by decide))⟩
theorem Nz.up {j k : Nat} {q : Rat} (h : Nz j q) (hk : j ≤ k) : Nz k q := ⟨Nat.le_trans h.1 hk, Nat.le_trans h.2 hk⟩
theorem cutb_eq (x : Rat) : (Lib.cut (qtext x) [47]).2.2 = decide (x.den ≠ 1) := by rw [cut_qtext]; split <;> simp_all
theorem cutn_eq (x : Rat) : (Lib.cut (qtext x) [47]).1 = Lib.itoa x.num := by rw [cut_qtext]; split <;> rfl
theorem cutd_eq {x : Rat} (h : x.den ≠ 1) : (Lib.cut (qtext x) [47]).2.1 = Lib.itoa (x.den : Int) := by rw [cut_qtext, if_neg h, itoa_nat]
theorem qtext_len {x : Rat} {k : Nat} (h : Dz k x) : (qtext x).length ≤ 2 * k + 2 := by
  have h1 : (Lib.itoa x.num).length ≤ k + 1 := by
    have := h.1
    by_cases h2 : x.num < 0
    · rw [itoa_neg h2]; simp; omega
    · rw [itoa_nn (by omega)]; omega
  have h3 := h.2
  unfold qtext
  split
  · omega
  · simp; omega

theorem en108 : Enters Tryz.prog 108 := enters_fn Tryz.func108 (by kernel_rfl) rfl

theorem en109 : Enters Tryz.prog 109 := enters_fn Tryz.func109 (by kernel_rfl) rfl

theorem w81 {z : Int} (hd : (dec z.natAbs).length ≤ 1000000) : Spec CC 81 [Ty.of Kd.str (Lib.itoa z)] (Ty.of Kd.whole z) := by
  refine spec_of_JS Tryz.func81 rfl (Nat.le_of_ble_eq_true rfl) (fun gh0 wd0 => ?_)
  refine JS_seq ?_
  -- region 0
  refine sR ?_
  refine kT ?_
  refine JT_alloc (S0 := Seg.cat [Seg.of Kd.bool false, Seg.of (Kd.slice (Kd.int .u32)) []]) rfl rfl rfl rfl z83 h0_83 (fun g2 => ?_)
  refine JT_done ?_
  refine JS_seq ?_
  -- region 1
  refine sR ?_
  refine kM rfl rfl ?_
  refine kO (T_callL rfl en108 (spec_trim ) (oa (ol rfl (Ty.le.refl _)) (oa (ol rfl (val_str [45])) oa0))) rfl ?_
  refine kA rfl rfl ?_
  refine kE ?_
  refine JS_seq ?_
  -- region 2
  refine JS_re (s := 3) (T := Ty.of Kd.str (dec z.natAbs)) rfl (of_eq (trim_itoa z)) ?_
  refine sR ?_
  refine kM rfl rfl ?_
  refine kO (T_len_str rfl rfl u9 rfl) rfl ?_
  refine kM rfl rfl ?_
  refine kO (T_len_str rfl rfl u9 rfl) rfl ?_
  refine kO (T_lt rfl rfl rfl) rfl ?_
  refine kO (T_build (S0 := Seg.cat [Seg.of Kd.bool false, Seg.of Kd.val (.slice none 0 0)]) rfl fk83 z83 h0_83bool_val (fc (ol rfl (val_bool _)) (uc (i := 0) rfl rfl rfl) rfl (Fill.nil _)) rfl) rfl ?_
  refine kT ?_
  refine JT_alloc (S0 := Seg.cat [Seg.of Kd.bool false, Seg.of (Kd.slice (Kd.int .u32)) []]) rfl rfl rfl rfl z83 h0_83 (fun g4 => ?_)
  refine JT_store (i := 0) rfl rfl rfl rfl rfl (ol rfl (Ty.le.refl _)) (Upd.self _ _ rfl) sz83 ?_
  refine JT_done ?_
  refine JS_seq ?_
  refine JS_seq ?_
  -- region 3
  refine sR ?_
  refine kM rfl rfl ?_
  refine kO (T_len_str rfl rfl u9 rfl) rfl ?_
  refine kA rfl rfl ?_
  refine kE ?_
  refine JS_block ?_
  refine JS_own_nil 126 (Kd.int .u32) ?_
  refine sLoop2 (fun (k : Nat) (v : Value) => [(5, Ty.val (.int .i64 (((dec z.natAbs).length : Int) - 9 * (k : Int))))]) [2, 3, 4] (fun (k : Nat) (v : Value) => [(1, Res.box g4 83 (Seg.cat [Seg.of Kd.bool (decide (((dec z.natAbs).length : Int) < (Lib.itoa z).length)), Seg.of Kd.val v])), (0, Res.sl v 126 (Kd.int .u32) (limK z.natAbs k))]) (fun (k : Nat) (v : Value) => 9 * k < (dec z.natAbs).length + 9) (fun (k : Nat) (v : Value) => (dec z.natAbs).length + 9 - 9 * k) 0 (.slice none 0 0) (by omega) rfl (EnvSub.consLe rfl (int_eq (by omega)) (EnvSub.nil _)) (fun k v (hI : 9 * k < (dec z.natAbs).length + 9) => ?_)
  have lk := limK_len z.natAbs k
  refine JS_seq ?_
  refine JS_seq ?_
  -- region 4
  refine sR ?_
  refine kM rfl rfl ?_
  refine kO (T_gt rfl rfl rfl) rfl ?_
  refine kE ?_
  refine JS_if rfl (fun c19 => ?_) (fun c19 => ?_)
  · have eh : (((dec z.natAbs).length : Int) - 9 * (k : Int)).toNat = (dec z.natAbs).length - 9 * k := by omega
    have rp := (read_part (n := z.natAbs) (k := k) (by omega) (lo := (max 0 (((dec z.natAbs).length : Int) - 9 * (k : Int) - 9)).toNat) (by omega))
    rw [← eh] at rp
    have rb := Nat.mod_lt (z.natAbs / 10 ^ (9 * k)) (show 0 < 1000000000 by decide)
    rw [← rp.1] at rb
    refine JS_skip ?_
    refine JS_seq ?_
    refine JS_block ?_
    refine JS_seq ?_
    -- region 6
    refine sR ?_
    refine kM rfl rfl ?_
    refine kM rfl rfl ?_
    refine kO (T_subI rfl rfl rfl (wrap_i64 (by omega) (by omega))) rfl ?_
    refine kO (T_max rfl rfl rfl) rfl ?_
    refine kM rfl rfl ?_
    refine kO (T_sstr_lh rfl u9 rfl rfl rfl (by omega) (by omega) (by omega)) rfl ?_
    refine kO (T_callL rfl en109 (spec_parse rp.2.1 rp.2.2.1 rp.2.2.2) (oa (ol rfl (Ty.le.refl _)) (oa (ol rfl (Ty.le.refl _)) (oa (ol rfl (Ty.le.refl _)) oa0)))) rfl ?_
    refine kM rfl rfl ?_
    refine kO (T_extract rfl rfl rfl) rfl ?_
    refine kO (T_extract rfl rfl rfl) rfl ?_
    refine kA rfl rfl ?_
    refine kA rfl rfl ?_
    refine kE ?_
    -- region 7
    refine sR ?_
    refine kO (T_fieldAddr_ptr rfl fa83_1 rfl rfl) rfl ?_
    refine kO (T_load_own_val (i := 1) rfl rfl rfl (sc (i := 1) rfl rfl) ti81) rfl ?_
    refine kM rfl rfl ?_
    refine kO (T_conv rfl u32 u126 rfl (wrap_u32 (by omega) (by omega))) rfl ?_
    refine kO (T_lits (xs := [.tmp 35]) (d := (Kd.int .u32)) [_] rfl rfl u81 ti126 z126 rfl rfl (by decide) (by decide) (oa (ol rfl (val_int _ _)) oa0) rfl) rfl ?_
    refine kT ?_
    refine JT_append (i := 0) rfl rfl rfl rfl u81 ei126 rfl rfl (by decide) rfl rfl (ol rfl (Ty.le.refl _)) (by have := limK_len z.natAbs k; simp only [maxLen, List.length_cons, List.length_nil, this]; omega) (by have := limK_len z.natAbs k; simp only [List.length_cons, List.length_nil, this]; omega) (fun v37 => ?_)
    refine jO (T_fieldAddr_ptr rfl fa83_1 rfl rfl) rfl ?_
    refine JT_one (i := 0) rfl (fun ov37 => ?_)
    refine JT_store (i := 1) rfl rfl rfl rfl rfl (ol rfl (to_kval ov37)) (uc (i := 1) rfl rfl rfl) sz81 ?_
    refine JT_done ?_
    refine JS_end_inB ?_
    -- region 5
    refine sR ?_
    refine kM rfl rfl ?_
    refine kO (T_subI rfl rfl rfl (wrap_i64 (by omega) (by omega))) rfl ?_
    refine kA rfl rfl ?_
    refine kE ?_
    exact JS_round ((k + 1), v37) (by try dsimp only; exact (by omega)) (by try dsimp only; exact ((by omega))) (by rw [limK, ← rp.1]; rfl) (EnvSub.consLe rfl (int_eq (by omega)) (EnvSub.pick1 rfl (EnvSub.pick1 rfl (EnvSub.pick1 rfl (EnvSub.nil _)))))
  · refine JS_exit (JE_loop_exit (JE_inB_here ?_))
    refine JS_seq ?_
    -- region 8
    refine JS_freeze_fld (i := 1) (j := 0) (k := 1) rfl rfl rfl rfl ?_
    refine sR ?_
    refine kO (T_fieldAddr_ptr rfl fa83_0 rfl rfl) rfl ?_
    refine kO (T_load_own_bool (i := 0) rfl rfl rfl (sc (i := 0) rfl rfl) ti4) rfl ?_
    refine kO (T_fieldAddr_ptr rfl fa83_1 rfl rfl) rfl ?_
    refine kO (T_load_own (i := 0) rfl rfl rfl (sc (i := 1) rfl rfl) ti81) rfl ?_
    refine kO (T_callL rfl en97 (w97 (limK_ok _ _) (limK_full (n := z.natAbs) (k := k) (by omega))) (oa (ol rfl (Ty.le.refl _)) (oa (ol rfl (Ty.le.refl _)) oa0))) rfl ?_
    refine kT ?_
    refine JT_store (i := 1) rfl rfl rfl rfl rfl (ol rfl (Ty.le.refl _)) (Upd.self _ _ rfl) sz83 ?_
    refine JT_done ?_
    exact JS_ret (JE_ret_one rfl rfl (.cell (i := 1) rfl rfl ti83 .nil) ((of_eq (by simp only [itoa_neg_len]; exact sgn_of z))))

theorem en80 : Enters Tryz.prog 80 := enters_fn Tryz.func80 (by kernel_rfl) rfl

theorem en81 : Enters Tryz.prog 81 := enters_fn Tryz.func81 (by kernel_rfl) rfl

theorem w56 {x : Rat} (hd : Dz 1000000 x) : Spec CC 56 [Ty.of Kd.str (qtext x)] (Ty.of Kd.num x) := by
  refine spec_of_JS Tryz.func56 rfl (Nat.le_of_ble_eq_true rfl) (fun gh0 wd0 => ?_)
  have d1 := hd.1
  have d2 := hd.2
  have ql := qtext_len hd
  refine JS_seq ?_
  -- region 0
  refine sR ?_
  refine kT ?_
  refine JT_alloc (S0 := Seg.of Kd.num0 none) rfl rfl rfl rfl z85 z_num0 (fun g2 => ?_)
  refine JT_done ?_
  refine JS_seq ?_
  -- region 1
  refine sR ?_
  refine kM rfl rfl ?_
  refine kO (T_callL rfl en80 (spec_cut (by omega)) (oa (ol rfl (Ty.le.refl _)) (oa (ol rfl (val_str [47])) oa0))) rfl ?_
  refine kM rfl rfl ?_
  refine kO (T_extract rfl rfl rfl) rfl ?_
  refine kO (T_extract rfl rfl rfl) rfl ?_
  refine kO (T_extract rfl rfl rfl) rfl ?_
  refine kA rfl rfl ?_
  refine kA rfl rfl ?_
  refine kA rfl rfl ?_
  refine kE ?_
  refine JS_seq ?_
  refine JS_seq ?_
  -- region 2
  refine JS_re (s := 3) (T := Ty.of Kd.str (Lib.itoa x.num)) rfl (of_eq (cutn_eq x)) ?_
  refine JS_re (s := 5) (T := Ty.val (.bool (decide (x.den ≠ 1)))) rfl (bool_eq (cutb_eq x)) ?_
  refine sR ?_
  refine kM rfl rfl ?_
  refine kO (T_notD rfl rfl) rfl ?_
  refine kE ?_
  refine JS_if rfl (fun c13 => ?_) (fun c13 => ?_)
  · refine JS_seq ?_
    -- region 3
    refine sR ?_
    refine kM rfl rfl ?_
    refine kO (T_callL rfl en81 (w81 (by omega)) (oa (ol rfl (Ty.le.refl _)) oa0)) rfl ?_
    refine kO (T_callL rfl en47 (w47 (by omega) (by omega)) (oa (ol rfl (Ty.le.refl _)) oa0)) rfl ?_
    refine kO (T_sub (T_build (S0 := Seg.cat [Seg.of Kd.whole 0, Seg.of Kd.whole 0]) rfl fk85 z85 h0_85 (fc (ol rfl (Ty.le.refl _)) (uc (i := 0) rfl rfl rfl) rfl (fc (ol rfl (Ty.le.refl _)) (uc (i := 1) rfl rfl rfl) rfl (Fill.nil _))) rfl) (mk_num (q := x) rfl (by omega))) rfl ?_
    refine kT ?_
    refine JT_store (i := 0) rfl rfl rfl rfl rfl (ol rfl (Ty.le.refl _)) (Upd.self _ _ rfl) sz85 ?_
    refine JT_done ?_
    exact JS_ret (JE_ret_one rfl rfl (.cell (i := 0) rfl rfl ti85 .nil) (of_eq (rfl)))
  · refine JS_skip ?_
    refine JS_seq ?_
    -- region 4
    refine JS_re (s := 4) (T := Ty.of Kd.str (Lib.itoa (x.den : Int))) rfl (of_eq (cutd_eq (Classical.not_not.1 c13))) ?_
    refine sR ?_
    refine kM rfl rfl ?_
    refine kO (T_callL rfl en81 (w81 (by omega)) (oa (ol rfl (Ty.le.refl _)) oa0)) rfl ?_
    refine kM rfl rfl ?_
    refine kO (T_callL rfl en81 (w81 (by rw [Int.natAbs_natCast]; omega)) (oa (ol rfl (Ty.le.refl _)) oa0)) rfl ?_
    refine kO (T_sub (T_build (S0 := Seg.cat [Seg.of Kd.whole 0, Seg.of Kd.whole 0]) rfl fk85 z85 h0_85 (fc (ol rfl (Ty.le.refl _)) (uc (i := 0) rfl rfl rfl) rfl (fc (ol rfl (Ty.le.refl _)) (uc (i := 1) rfl rfl rfl) rfl (Fill.nil _))) rfl) (mk_num (q := x) rfl rfl)) rfl ?_
    refine kT ?_
    refine JT_store (i := 0) rfl rfl rfl rfl rfl (ol rfl (Ty.le.refl _)) (Upd.self _ _ rfl) sz85 ?_
    refine JT_done ?_
    exact JS_ret (JE_ret_one rfl rfl (.cell (i := 0) rfl rfl ti85 .nil) (of_eq (rfl)))

theorem w145 {x : Rat} : Spec CC 145 [Ty.of Kd.num x] (Ty.tup [Ty.of Kd.whole x.num, Ty.of Kd.whole (x.den : Int)]) := by
  refine spec_of_JS Tryz.func145 rfl (Nat.le_of_ble_eq_true rfl) (fun gh0 wd0 => ?_)
  refine JS_seq ?_
  -- region 0
  refine sR ?_
  refine kO (T_box rfl (ol rfl (Ty.le.refl _))) rfl ?_
  refine kT ?_
  refine JT_alloc (S0 := Seg.cat [Seg.of Kd.bool false, Seg.of (Kd.slice (Kd.int .u32)) []]) rfl rfl rfl rfl z83 h0_83 (fun g2 => ?_)
  refine JT_alloc (S0 := Seg.cat [Seg.of Kd.bool false, Seg.of (Kd.slice (Kd.int .u32)) []]) rfl rfl rfl rfl z83 h0_83 (fun g3 => ?_)
  refine JT_done ?_
  refine JS_seq ?_
  -- region 1
  refine JS_drawT [4, 5] (fun (Δ0 : List Res) (sd : List Nat) (Γd : Env) (Δ1 : List Res) => (sd = [] ∧ Γd = [] ∧ Δ1 = Δ0) ∨ (sd = [4] ∧ Γd = [] ∧ Δ1 = Δ0.set 1 (Res.box g2 83 (Seg.of Kd.whole x.num))) ∨ (sd = [5] ∧ Γd = [] ∧ Δ1 = Δ0.set 0 (Res.box g3 83 (Seg.of Kd.whole (x.den : Int)))) ∨ (sd = [5, 4] ∧ Γd = [] ∧ Δ1 = (Δ0.set 1 (Res.box g2 83 (Seg.of Kd.whole x.num))).set 0 (Res.box g3 83 (Seg.of Kd.whole (x.den : Int)))) ∨ (sd = [4, 5] ∧ Γd = [] ∧ Δ1 = (Δ0.set 0 (Res.box g3 83 (Seg.of Kd.whole (x.den : Int)))).set 1 (Res.box g2 83 (Seg.of Kd.whole x.num)))) (fun i => if i = 4 then [2, 5] else if i = 5 then [3, 7] else []) mixed (by decide) (by decide) (.inl ⟨rfl, rfl, rfl⟩) (fun sd Γd Δ1 hs => by rcases hs with ⟨rfl, rfl, rfl⟩ | ⟨rfl, rfl, rfl⟩ | ⟨rfl, rfl, rfl⟩ | ⟨rfl, rfl, rfl⟩ | ⟨rfl, rfl, rfl⟩ <;> rfl) ?_
  refine dOpA (fun _ => T_fieldAddr rfl fa85_0 (num_n _) rfl) rfl rfl rfl ?_
  refine dOpA (fun _ => T_ld rfl rfl ti83) rfl rfl rfl ?_
  refine dOpA (fun _ => T_fieldAddr rfl fa85_1 (num_d _) rfl) rfl rfl rfl ?_
  refine dOpA (fun _ => T_ld rfl rfl ti83) rfl rfl rfl ?_
  refine dDyn rfl ?_
  refine dDyn rfl ?_
  refine dEnd ⟨?_, ?_⟩
  · intro Q1 cs1 i o sd Γd Δ1 Γx hi ho hn hb hinv hk
    simp only [List.mem_cons, List.not_mem_nil, or_false] at hi
    rcases hi with rfl | rfl
    · obtain rfl := Option.some.inj ho
      rcases hinv with ⟨rfl, rfl, rfl⟩ | ⟨rfl, rfl, rfl⟩ | ⟨rfl, rfl, rfl⟩ | ⟨rfl, rfl, rfl⟩ | ⟨rfl, rfl, rfl⟩
      · refine JT_store (i := 1) rfl rfl rfl rfl rfl (ol rfl (Ty.le.refl _)) (Upd.self _ _ rfl) sz83 ?_
        exact JT_done (hk [] _ (.inr (.inl ⟨rfl, rfl, rfl⟩)))
      · exact absurd (by simp) hn
      · refine JT_store (i := 1) rfl rfl rfl rfl rfl (ol rfl (Ty.le.refl _)) (Upd.self _ _ rfl) sz83 ?_
        exact JT_done (hk [] _ (.inr (.inr (.inr (.inr ⟨rfl, rfl, rfl⟩)))))
      · exact absurd (by simp) hn
      · exact absurd (by simp) hn
    · obtain rfl := Option.some.inj ho
      rcases hinv with ⟨rfl, rfl, rfl⟩ | ⟨rfl, rfl, rfl⟩ | ⟨rfl, rfl, rfl⟩ | ⟨rfl, rfl, rfl⟩ | ⟨rfl, rfl, rfl⟩
      · exact absurd (hb 4 rfl (by decide)) (by simp)
      · refine JT_store (i := 0) rfl rfl rfl rfl rfl (ol rfl (Ty.le.refl _)) (Upd.self _ _ rfl) sz83 ?_
        exact JT_done (hk [] _ (.inr (.inr (.inr (.inl ⟨rfl, rfl, rfl⟩)))))
      · exact absurd (by simp) hn
      · exact absurd (by simp) hn
      · exact absurd (by simp) hn
  · intro sd Γd Δ1 hinv hall
    rcases hinv with ⟨rfl, rfl, rfl⟩ | ⟨rfl, rfl, rfl⟩ | ⟨rfl, rfl, rfl⟩ | ⟨rfl, rfl, rfl⟩ | ⟨rfl, rfl, rfl⟩
    · exact absurd (hall 4 (by decide) rfl) (by simp)
    · exact absurd (hall 5 (by decide) rfl) (by simp)
    · exact absurd (hall 4 (by decide) rfl) (by simp)
    · exact JS_ret (JE_ret_many rfl (by decide) (.le (.cell (i := 1) rfl rfl ti83 (.le (.cell (i := 0) rfl rfl ti83 .nil) (of_eq (rfl)))) (of_eq (rfl))))
    · exact JS_ret (JE_ret_many rfl (by decide) (.le (.cell (i := 1) rfl rfl ti83 (.le (.cell (i := 0) rfl rfl ti83 .nil) (of_eq (rfl)))) (of_eq (rfl))))

theorem w30 {n d : Int} (h1 : -9223372036854775808 ≤ n) (h2 : n ≤ 9223372036854775807) (h3 : -9223372036854775808 ≤ d) (h4 : d ≤ 9223372036854775807) (hd0 : d ≠ 0) : Spec CC 30 [Ty.val (.int .i64 n), Ty.val (.int .i64 d)] (Ty.of Kd.num (Rat.divInt n d)) := by
  refine spec_of_JS Tryz.func30 rfl (Nat.le_of_ble_eq_true rfl) (fun gh0 wd0 => ?_)
  have l1 := lims_len_of_lt (n := n.natAbs) (k := 3) (by omega)
  have l2 := lims_len_of_lt (n := d.natAbs) (k := 3) (by omega)
  refine JS_seq ?_
  -- region 0
  refine sR ?_
  refine kT ?_
  refine JT_alloc (S0 := Seg.of Kd.num0 none) rfl rfl rfl rfl z85 z_num0 (fun g4 => ?_)
  refine JT_done ?_
  refine JS_seq ?_
  -- region 1
  refine sR ?_
  refine kM rfl rfl ?_
  refine kO (T_callL rfl en47 (w47 (by omega) (by omega)) (oa (ol rfl (Ty.le.refl _)) oa0)) rfl ?_
  refine kM rfl rfl ?_
  refine kO (T_callL rfl en47 (w47 (by omega) (by omega)) (oa (ol rfl (Ty.le.refl _)) oa0)) rfl ?_
  refine kO (T_callL rfl en46 (w46 (by omega) (by omega) (by omega)) (oa (ol rfl (Ty.le.refl _)) (oa (ol rfl (Ty.le.refl _)) oa0))) rfl ?_
  refine kT ?_
  refine JT_store (i := 0) rfl rfl rfl rfl rfl (ol rfl (Ty.le.refl _)) (Upd.self _ _ rfl) sz85 ?_
  refine JT_done ?_
  exact JS_ret (JE_ret_one rfl rfl (.cell (i := 0) rfl rfl ti85 .nil) (of_eq (rfl)))

theorem take_succ_map {α β : Type} (f : α → β) {l : List α} {i : Nat} (h : i < l.length) {y : β} (hy : y = f l[i]) : (l.take i).map f ++ [y] = (l.take (i + 1)).map f := by
  rw [hy, List.take_succ_eq_append_getElem h, List.map_append]; rfl
theorem toNat_get {α : Type} {l : List α} {i : Nat} (h : ((i : Int)).toNat < l.length) : l[((i : Int)).toNat] = l[i]'(by simpa using h) := by simp only [Int.toNat_natCast]

theorem u49 : Tryz.prog.underlying 49 = some (.slice 85) := by kernel_rfl

theorem u35 : Tryz.prog.underlying 35 = some (.slice 43) := by kernel_rfl

theorem ei43 : EI Tryz.prog 43 1 16 (.string ⟨#[]⟩) := by unfold EI; kernel_rfl

theorem en32 : Enters Tryz.prog 32 := enters_fn Tryz.func32 (by kernel_rfl) rfl

theorem en33 : Enters Tryz.prog 33 := enters_fn Tryz.func33 (by kernel_rfl) rfl

theorem ti43 : TI Tryz.prog 43 false 1 := ⟨by kernel_rfl, by kernel_rfl⟩

theorem z43 : ZeroOf Tryz.prog 43 (.string ⟨#[]⟩) := by unfold ZeroOf; kernel_rfl

theorem w16 {l : List Rat} (hl : ∀ x ∈ l, Dz 2000 x) (hn : l.length ≤ 1000) : Spec CC 16 [Ty.of (Kd.slice Kd.num) l] (Ty.tup [Ty.of (Kd.slice Kd.str) (l.map qtext), Ty.val (.bool true)]) := by
  refine spec_of_JS Tryz.func16 rfl (Nat.le_of_ble_eq_true rfl) (fun gh0 wd0 => ?_)
  refine JS_bound (s := 0) rfl (fun b0 => ?_)
  unfold maxLen at b0
  refine JS_seq ?_
  -- region 0
  refine sR ?_
  refine kA rfl rfl ?_
  refine kA rfl rfl ?_
  refine kE ?_
  refine JS_seq ?_
  -- region 1
  refine sR ?_
  refine kM rfl rfl ?_
  refine kO (T_len_slice rfl rfl u49 rfl) rfl ?_
  refine kT ?_
  refine JT_make (K := Kd.str) (z0 := []) rfl rfl rfl rfl u35 ei43 rfl (by decide) (fun _ => rfl) rfl rfl (by omega) (by omega) (by omega) (by omega) (fun v9 => ?_)
  refine jA rfl rfl ?_
  refine JT_done ?_
  refine JS_seq ?_
  refine JS_seq ?_
  -- region 2
  refine sR ?_
  refine kM rfl rfl ?_
  refine kO (T_len_slice rfl rfl u49 rfl) rfl ?_
  refine kM rfl rfl ?_
  refine kE ?_
  refine JS_block ?_
  refine sLoop2 (fun (i : Nat) (v : Value) => [(12, Ty.val (.int .i64 (i : Int))), (4, Ty.val (v))]) [10, 11] (fun (i : Nat) (v : Value) => [(0, Res.sl v 43 Kd.str ((l.take i).map qtext))]) (fun (i : Nat) (v : Value) => i ≤ l.length) (fun (i : Nat) (v : Value) => l.length - i) 0 v9 (Nat.zero_le _) rfl (EnvSub.consLe rfl (int_eq (rfl)) (EnvSub.consLe rfl (Ty.le.refl _) (EnvSub.nil _))) (fun i v (hI : i ≤ l.length) => ?_)
  refine JS_seq ?_
  -- region 3
  refine sR ?_
  refine kO (T_lt rfl rfl rfl) rfl ?_
  refine kE ?_
  refine JS_seq ?_
  refine JS_if rfl (fun c13 => ?_) (fun c13 => ?_)
  · have hx := hl (l[((i : Int)).toNat]'(by omega)) (List.getElem_mem _)
    refine JS_skip ?_
    refine JS_seq ?_
    refine JS_block ?_
    refine JS_seq ?_
    -- region 4
    refine sR ?_
    refine kO (T_ix rfl rfl rfl u49 ti85 (by omega) (by omega) rfl) rfl ?_
    refine kO (T_ld rfl rfl ti85) rfl ?_
    refine kT ?_
    refine JT_alloc (S0 := Seg.of Kd.num0 none) rfl rfl rfl rfl z85 z_num0 (fun g6 => ?_)
    refine JT_store (i := 0) rfl rfl rfl rfl rfl (ol rfl (Ty.le.refl _)) (Upd.self _ _ rfl) sz85 ?_
    refine JT_done ?_
    refine JS_seq ?_
    refine JS_seq ?_
    -- region 5
    refine sR ?_
    refine kO (T_load_own (i := 0) rfl rfl rfl (Sub.self _) ti85) rfl ?_
    refine kO (T_callL rfl en32 (w32 (hx.nz.up (by decide))) (oa (ol rfl (Ty.le.refl _)) (oa (ol rfl (Ty.le.refl _)) oa0))) rfl ?_
    refine kO (T_notD rfl rfl) rfl ?_
    refine kE ?_
    refine JS_if rfl (fun c18 => ?_) (fun c18 => ?_)
    · exact absurd ⟨by have := hx.1; omega, by have := hx.2; omega⟩ c18
    · refine JS_skip ?_
      -- region 7
      refine sR ?_
      refine kM rfl rfl ?_
      refine kO (T_load_own (i := 0) rfl rfl rfl (Sub.self _) ti85) rfl ?_
      refine kO (T_callL rfl en33 (w33 (hx.nz.up (by decide))) (oa (ol rfl (Ty.le.refl _)) oa0)) rfl ?_
      refine kO (T_lits (xs := [.tmp 21]) (d := Kd.str) [_] rfl rfl u35 ti43 z43 rfl rfl (by decide) (by decide) (oa (ol rfl (Ty.le.refl _)) oa0) rfl) rfl ?_
      refine kT ?_
      refine JT_append (i := 1) rfl rfl rfl rfl u35 ei43 rfl rfl (by decide) rfl rfl (ol rfl (Ty.le.refl _)) (by simp only [maxLen, List.length_map, List.length_take, List.length_cons, List.length_nil]; omega) (by simp only [List.length_map, List.length_take, List.length_cons, List.length_nil]; omega) (fun v23 => ?_)
      refine jA rfl rfl ?_
      refine JT_done ?_
      refine JS_end_inB ?_
      -- region 8
      refine sR ?_
      refine kO (T_add rfl rfl rfl (wrap_i64 (by omega) (by omega))) rfl ?_
      refine kM rfl rfl ?_
      refine kE ?_
      refine JS_drop 0 ?_
      exact JS_round ((i + 1), v23) (by try dsimp only; exact (by omega)) (by try dsimp only; exact ((by omega))) (by rw [take_succ_map qtext (by omega) (by rw [toNat_get])]; rfl) (EnvSub.consLe rfl (int_eq (rfl)) (EnvSub.consLe rfl (Ty.le.refl _) (EnvSub.pick1 rfl (EnvSub.pick1 rfl (EnvSub.nil _)))))
  · obtain rfl : i = l.length := by omega
    rw [List.take_length]
    refine JS_exit (JE_loop_exit (JE_inB_here ?_))
    refine JS_seq ?_
    -- region 9
    refine sR ?_
    refine kM rfl rfl ?_
    refine kA rfl rfl ?_
    refine kA rfl rfl ?_
    refine kE ?_
    refine JS_freeze_sl (i := 0) (s := 2) rfl rfl ?_
    exact JS_ret (JE_ret_many rfl (by decide) (.le (.tmp rfl (.le (.tmp rfl .nil) (bool_eq (rfl)))) (of_eq (rfl))))

end Go.Proofs.YtknflgfkhkdomaaGreatDoor.Mono

/-! WkM -/
set_option linter.unusedVariables false
set_option linter.unusedSimpArgs false
set_option maxRecDepth 4000
set_option maxHeartbeats 4000000
namespace Go.Proofs.YtknflgfkhkdomaaGreatDoor.Mono
open Go Go.RowKit

def Kd.rnum : Kd (Option Rat × Int) := Kd.pair Kd.num0 (Kd.int .i64) (·.1) (·.2)
theorem rnum_n (q : Option Rat × Int) : Sub (Seg.of Kd.rnum q) 0 (Seg.of Kd.num0 q.1) := Sub.fst _ _ _ _ q
theorem rnum_e (q : Option Rat × Int) : Sub (Seg.of Kd.rnum q) 4 (Seg.of (Kd.int .i64) q.2) := Sub.snd _ _ _ _ q rfl
theorem z_rnum : ∀ m, (Seg.of Kd.rnum (none, 0)).p m [.bool false, .slice none 0 0, .bool false, .slice none 0 0, .int .i64 0] := fun m => ⟨[_, _, _, _], [_], rfl, z_num0 m, rfl⟩
theorem mk_rnum (a : Option Rat) (b : Int) : Ty.le (Ty.seg (Seg.cat [Seg.of Kd.num0 a, Seg.of (Kd.int .i64) b])) (Ty.of Kd.rnum (a, b)) := pair_le (f := fun x : Option Rat × Int => x.1) (g := fun x : Option Rat × Int => x.2) (a, b)
theorem dec_ne (n : Nat) : dec n ≠ [] := fun e => by have := dec_pos n; rw [e] at this; simp at this
theorem dig_bd {l : List UInt8} (h : ∀ c ∈ l, isDig c) (n : Nat) (hn : n < l.length) : (48 : Int) ≤ (l[n].toNat : Int) ∧ (l[n].toNat : Int) ≤ 57 := by
  have := h _ (List.getElem_mem hn)
  unfold isDig at this; omega
theorem itoa_48 {z : Int} (h : ¬ Lib.itoa z = [48]) : 0 < z.natAbs := by
  refine Nat.pos_of_ne_zero (fun e => h ?_)
  rw [show z = 0 by omega, itoa_zero]
theorem head_ne {n : Nat} (hn : 0 < n) (h : 0 < (dec n).length) : ((dec n)[0].toNat : Int) ≠ 48 := by
  obtain ⟨c, l, h1, h2⟩ := dec_head hn
  have : (dec n)[0] = c := by simp [h1]
  rw [this]; omega
theorem den2 {x : Rat} (h : x.den ≠ 1) : ¬ cmp3 (x.den : Int) 1 ≤ 0 := by
  have := x.den_nz
  unfold cmp3
  rw [if_neg (by omega), if_pos (by omega)]; decide
theorem red3 (x : Rat) : ¬ cmp3 ((Int.gcd x.num (x.den : Int) : Nat) : Int) 1 ≠ 0 := by
  have : Int.gcd x.num (x.den : Int) = 1 := x.reduced
  rw [this]; decide
theorem den1_itoa {x : Rat} (h : ¬ x.den ≠ 1) : dec x.den = [49] := by rw [Classical.not_not.1 h]; exact dec_small (by decide)

theorem u5 : Tryz.prog.underlying 5 = some (.int .u8) := by kernel_rfl

theorem w165 {z : Int} (hd : (dec z.natAbs).length ≤ 2000) : Spec CC 165 [Ty.of Kd.str (Lib.itoa z)] (Ty.val (.int .i64 0)) := by
  refine spec_of_JS Tryz.func165 rfl (Nat.le_of_ble_eq_true rfl) (fun gh0 wd0 => ?_)
  have hdg := dig_bd (dec_digs z.natAbs)
  have hdp := dec_pos z.natAbs
  refine JS_seq ?_
  -- region 0
  refine sR ?_
  refine kA rfl rfl ?_
  refine kE ?_
  refine JS_scopeS rfl ?_
  refine JS_seq ?_
  -- region 1
  refine sR ?_
  refine kM rfl rfl ?_
  refine kO (T_callL rfl en108 (spec_trim ) (oa (ol rfl (Ty.le.refl _)) (oa (ol rfl (val_str [45])) oa0))) rfl ?_
  refine kA rfl rfl ?_
  refine kE ?_
  refine JS_seq ?_
  -- region 2
  refine JS_re (s := 3) (T := Ty.of Kd.str (dec z.natAbs)) rfl (of_eq (trim_itoa z)) ?_
  refine sR ?_
  refine kA rfl rfl ?_
  refine kE ?_
  refine JS_seq ?_
  refine JS_label ?_
  refine JS_seq ?_
  refine JS_block ?_
  refine JS_seq ?_
  -- region 11
  refine sR ?_
  refine kM rfl rfl ?_
  refine kO (T_seq rfl (ol rfl (Ty.le.refl _)) (ol rfl (val_str [48]))) rfl ?_
  refine kA rfl rfl ?_
  refine kE ?_
  refine JS_if rfl (fun c26 => ?_) (fun c26 => ?_)
  · refine JS_skip ?_
    refine JS_end_inB ?_
    refine JS_seq ?_
    -- region 14
    refine sR ?_
    refine kM rfl rfl ?_
    refine kA rfl rfl ?_
    refine kE ?_
    exact JS_ret (JE_scope_ret (JE_ret_one rfl rfl (.tmp rfl .nil) (int_eq (rfl))))
  · have hz0 := itoa_48 c26
    refine JS_seq ?_
    -- region 12
    refine sR ?_
    refine kM rfl rfl ?_
    refine kO (T_seq rfl (ol rfl (Ty.le.refl _)) (ol rfl (val_str []))) rfl ?_
    refine kM rfl rfl ?_
    refine tk_if (d := 32) rfl (fun g32 => ?_) (fun g32 => ?_)
    · exact absurd g32 (dec_ne _)
    · refine kG (wFD g32 rfl rfl rfl) (T_move (.inl rfl) rfl) rfl ?_
      refine kG (wFD g32 rfl rfl rfl) (T_ixs rfl rfl rfl u9 (by omega) (by omega) rfl) rfl ?_
      refine kG (wFD g32 rfl rfl rfl) (T_eq rfl rfl rfl) rfl ?_
      refine kO (T_pickN g32 rfl rfl rfl) rfl ?_
      refine kA rfl rfl ?_
      refine kE ?_
      refine JS_if rfl (fun c29 => ?_) (fun c29 => ?_)
      · exact absurd c29 (head_ne hz0 (by omega))
      · refine JS_seq ?_
        refine JS_seq ?_
        -- region 3
        refine sR ?_
        refine kM rfl rfl ?_
        refine kO (T_str_bytes rfl u9 u131 u5 (ol rfl (Ty.le.refl _)) (by omega)) rfl ?_
        refine kO (T_len_slice rfl rfl u131 rfl) rfl ?_
        refine kM rfl rfl ?_
        refine kE ?_
        refine JS_block ?_
        refine sLoop1 (fun (i : Nat) => [(12, Ty.val (.int .i64 (i : Int))), (4, Ty.val (.int .i64 0))]) [3, 10, 11] (fun (i : Nat) => []) (fun (i : Nat) => i ≤ (dec z.natAbs).length) (fun (i : Nat) => (dec z.natAbs).length - i) 0 (Nat.zero_le _) rfl (EnvSub.consLe rfl (int_eq (rfl)) (EnvSub.consLe rfl (int_eq (rfl)) (EnvSub.nil _))) (fun i (hI : i ≤ (dec z.natAbs).length) => ?_)
        refine JS_seq ?_
        -- region 4
        refine sR ?_
        refine kO (T_lt rfl rfl rfl) rfl ?_
        refine kE ?_
        refine JS_seq ?_
        refine JS_if rfl (fun c13 => ?_) (fun c13 => ?_)
        · refine JS_skip ?_
          refine JS_seq ?_
          refine JS_block ?_
          refine JS_seq ?_
          -- region 5
          refine sR ?_
          refine kO (T_ix rfl rfl rfl u131 ti5 (by omega) (by omega) rfl) rfl ?_
          refine kO (T_sub (T_ld rfl rfl ti5) (byte_val _)) rfl ?_
          refine kA rfl rfl ?_
          refine kE ?_
          refine JS_seq ?_
          -- region 6
          refine sR ?_
          refine kM rfl rfl ?_
          refine kO (T_lt rfl rfl rfl) rfl ?_
          refine kM rfl rfl ?_
          refine tk_if (d := 18) rfl (fun g18 => ?_) (fun g18 => ?_)
          · exact absurd g18 (by have := hdg ((i : Int)).toNat (by omega); omega)
          · refine kG (wFD g18 rfl rfl rfl) (T_move (.inl rfl) rfl) rfl ?_
            refine kG (wFD g18 rfl rfl rfl) (T_gt rfl rfl rfl) rfl ?_
            refine kO (T_pickN g18 rfl rfl rfl) rfl ?_
            refine kE ?_
            refine JS_if rfl (fun c21 => ?_) (fun c21 => ?_)
            · exact absurd c21 (by have := hdg ((i : Int)).toNat (by omega); omega)
            · refine JS_skip ?_
              refine JS_end_inB ?_
              -- region 8
              refine sR ?_
              refine kO (T_add rfl rfl rfl (wrap_i64 (by omega) (by omega))) rfl ?_
              refine kM rfl rfl ?_
              refine kE ?_
              exact JS_round (i + 1) (by omega) ((by omega)) rfl (EnvSub.consLe rfl (int_eq (rfl)) (EnvSub.consLe rfl (int_eq (rfl)) (EnvSub.pick1 rfl (EnvSub.pick1 rfl (EnvSub.pick1 rfl (EnvSub.nil _))))))
        · refine JS_exit (JE_loop_exit (JE_inB_here ?_))
          refine JS_seq ?_
          -- region 9
          refine sR ?_
          refine kM rfl rfl ?_
          refine kO (T_len_str rfl rfl u9 rfl) rfl ?_
          refine kO (T_gt rfl rfl rfl) rfl ?_
          refine kE ?_
          refine JS_if rfl (fun c25 => ?_) (fun c25 => ?_)
          · exact absurd c25 (by omega)
          · refine JS_skip ?_
            refine JS_end_inB ?_
            refine JS_seq ?_
            -- region 14
            refine sR ?_
            refine kM rfl rfl ?_
            refine kA rfl rfl ?_
            refine kE ?_
            exact JS_ret (JE_scope_ret (JE_ret_one rfl rfl (.tmp rfl .nil) (int_eq (rfl))))

theorem z202 : ZeroOf Tryz.prog 202 (.agg #[.bool false, .slice none 0 0, .bool false, .slice none 0 0, .int .i64 (0)]) := by unfold ZeroOf; kernel_rfl

theorem en165 : Enters Tryz.prog 165 := enters_fn Tryz.func165 (by kernel_rfl) rfl

theorem en56 : Enters Tryz.prog 56 := enters_fn Tryz.func56 (by kernel_rfl) rfl

theorem h0_202 : ∀ m, (Seg.cat [Seg.of Kd.num0 none, Seg.of (Kd.int .i64) 0]).p m (Value.cells (.agg #[.bool false, .slice none 0 0, .bool false, .slice none 0 0, .int .i64 (0)])).toList := fun m => ⟨[.bool false, .slice none 0 0, .bool false, .slice none 0 0], _, rfl, z_num0 m, ⟨_, _, rfl, (fun _ => rfl) m, rfl⟩⟩

theorem fk202 : FieldsKnown Tryz.prog 202 := by unfold FieldsKnown; kernel_rfl

theorem sz202 : (Tryz.prog.info? 202).map (·.size) = some 5 := by kernel_rfl

theorem fa202_0 : FieldAt Tryz.prog 202 0 0 := by unfold FieldAt; kernel_rfl

theorem en145 : Enters Tryz.prog 145 := enters_fn Tryz.func145 (by kernel_rfl) rfl

theorem ti202 : TI Tryz.prog 202 true 5 := ⟨by kernel_rfl, by kernel_rfl⟩

theorem w144 {x : Rat} (hd : Dz 2000 x) : Spec CC 144 [Ty.of Kd.str (qtext x)] (Ty.of Kd.rnum (some x, 0)) := by
  refine spec_of_JS Tryz.func144 rfl (Nat.le_of_ble_eq_true rfl) (fun gh0 wd0 => ?_)
  have d1 := hd.1
  have d2 := hd.2
  have ql := qtext_len hd
  have nz := hd.nz
  have x1 := nz.num
  have x2 := nz.den
  have l1 := lims_len_of_lt (n := (1 : Int).natAbs) (k := 3) (by decide)
  refine JS_seq ?_
  -- region 0
  refine sR ?_
  refine kT ?_
  refine JT_alloc (S0 := Seg.of Kd.rnum (none, 0)) rfl rfl rfl rfl z202 z_rnum (fun g2 => ?_)
  refine JT_done ?_
  refine JS_seq ?_
  -- region 1
  refine sR ?_
  refine kM rfl rfl ?_
  refine kO (T_callL rfl en80 (spec_cut (by omega)) (oa (ol rfl (Ty.le.refl _)) (oa (ol rfl (val_str [47])) oa0))) rfl ?_
  refine kM rfl rfl ?_
  refine kO (T_extract rfl rfl rfl) rfl ?_
  refine kO (T_extract rfl rfl rfl) rfl ?_
  refine kO (T_extract rfl rfl rfl) rfl ?_
  refine kA rfl rfl ?_
  refine kA rfl rfl ?_
  refine kA rfl rfl ?_
  refine kE ?_
  refine JS_seq ?_
  refine JS_seq ?_
  -- region 2
  refine JS_re (s := 3) (T := Ty.of Kd.str (Lib.itoa x.num)) rfl (of_eq (cutn_eq x)) ?_
  refine JS_re (s := 5) (T := Ty.val (.bool (decide (x.den ≠ 1)))) rfl (bool_eq (cutb_eq x)) ?_
  refine sR ?_
  refine kM rfl rfl ?_
  refine kO (T_notD rfl rfl) rfl ?_
  refine kE ?_
  refine JS_join1 (fun (u : Unit) => [(4, Ty.of Kd.str (Lib.itoa (x.den : Int)))]) [0, 2, 3, 5] (fun (u : Unit) => []) (fun (u : Unit) => True) ?_ (fun u (hJ : True) => ?_)
  · refine JS_if rfl (fun c17 => ?_) (fun c17 => ?_)
    · -- region 3
      refine sR ?_
      refine kO (T_sub (T_move (.inr rfl) rfl) (val_str [49])) rfl ?_
      refine kE ?_
      exact JS_meet () (trivial) rfl (EnvSub.consLe rfl (of_eq (by rw [itoa_nat, den1_itoa c17])) (EnvSub.pick1 rfl (EnvSub.pick1 rfl (EnvSub.pick1 rfl (EnvSub.pick1 rfl (EnvSub.nil _))))))
    · refine JS_skip ?_
      exact JS_meet () (trivial) rfl (EnvSub.consLe rfl (of_eq (cutd_eq (Classical.not_not.1 c17))) (EnvSub.pick1 rfl (EnvSub.pick1 rfl (EnvSub.pick1 rfl (EnvSub.pick1 rfl (EnvSub.nil _))))))
  · refine JS_seq ?_
    refine JS_seq ?_
    -- region 4
    refine sR ?_
    refine kM rfl rfl ?_
    refine kO (T_callL rfl en165 (w165 (by omega)) (oa (ol rfl (Ty.le.refl _)) oa0)) rfl ?_
    refine kO (T_eq rfl rfl rfl) rfl ?_
    refine kM rfl rfl ?_
    refine tk_if (d := 21) rfl (fun g21 => ?_) (fun g21 => ?_)
    · exact absurd g21 (by decide)
    · refine kG (wFD g21 rfl rfl rfl) (T_move (.inl rfl) rfl) rfl ?_
      refine kG (wFD g21 rfl rfl rfl) (T_callL rfl en165 (w165 (by rw [Int.natAbs_natCast]; omega)) (oa (ol rfl (Ty.le.refl _)) oa0)) rfl ?_
      refine kG (wFD g21 rfl rfl rfl) (T_eq rfl rfl rfl) rfl ?_
      refine kO (T_pickN g21 rfl rfl rfl) rfl ?_
      refine kE ?_
      refine JS_if rfl (fun c25 => ?_) (fun c25 => ?_)
      · exact absurd c25 (by decide)
      · refine JS_skip ?_
        refine JS_seq ?_
        -- region 6
        refine sR ?_
        refine kM rfl rfl ?_
        refine kO (T_callL rfl en56 (w56 ⟨by omega, by omega⟩) (oa (ol rfl (Ty.le.refl _)) oa0)) rfl ?_
        refine kO (T_sub (T_build (S0 := Seg.cat [Seg.of Kd.num0 none, Seg.of (Kd.int .i64) 0]) rfl fk202 z202 h0_202 (fc (ol rfl (num_num0 _)) (uc (i := 0) rfl rfl rfl) rfl (Fill.nil _)) rfl) (mk_rnum _ _)) rfl ?_
        refine kT ?_
        refine JT_alloc (S0 := Seg.of Kd.rnum (none, 0)) rfl rfl rfl rfl z202 z_rnum (fun g6 => ?_)
        refine JT_store (i := 0) rfl rfl rfl rfl rfl (ol rfl (Ty.le.refl _)) (Upd.self _ _ rfl) sz202 ?_
        refine JT_done ?_
        refine JS_seq ?_
        -- region 7
        refine sR ?_
        refine kO (T_fieldAddr_ptr rfl fa202_0 rfl rfl) rfl ?_
        refine kO (T_load_own (i := 0) rfl rfl rfl (rnum_n _) ti85) rfl ?_
        refine kO (T_callL rfl en145 (w145 ) (oa (ol rfl (num0_num _)) oa0)) rfl ?_
        refine kM rfl rfl ?_
        refine kO (T_extract rfl rfl rfl) rfl ?_
        refine kO (T_extract rfl rfl rfl) rfl ?_
        refine kT ?_
        refine JT_alloc (S0 := Seg.cat [Seg.of Kd.bool false, Seg.of (Kd.slice (Kd.int .u32)) []]) rfl rfl rfl rfl z83 h0_83 (fun g7 => ?_)
        refine JT_alloc (S0 := Seg.cat [Seg.of Kd.bool false, Seg.of (Kd.slice (Kd.int .u32)) []]) rfl rfl rfl rfl z83 h0_83 (fun g8 => ?_)
        refine JT_store (i := 1) rfl rfl rfl rfl rfl (ol rfl (Ty.le.refl _)) (Upd.self _ _ rfl) sz83 ?_
        refine JT_store (i := 0) rfl rfl rfl rfl rfl (ol rfl (Ty.le.refl _)) (Upd.self _ _ rfl) sz83 ?_
        refine JT_done ?_
        refine JS_seq ?_
        -- region 8
        refine sR ?_
        refine kO (T_callL rfl en47 (w47 (by decide) (by decide)) (oa (ol rfl (Ty.le.refl _)) oa0)) rfl ?_
        refine kT ?_
        refine JT_alloc (S0 := Seg.cat [Seg.of Kd.bool false, Seg.of (Kd.slice (Kd.int .u32)) []]) rfl rfl rfl rfl z83 h0_83 (fun g9 => ?_)
        refine JT_store (i := 0) rfl rfl rfl rfl rfl (ol rfl (Ty.le.refl _)) (Upd.self _ _ rfl) sz83 ?_
        refine JT_done ?_
        refine JS_seq ?_
        refine JS_block ?_
        refine JS_seq ?_
        -- region 9
        refine sRD mixed ?_
        refine kM rfl rfl ?_
        refine kM rfl rfl ?_
        refine tk_if (d := 39) rfl (fun g39 => ?_) (fun g39 => ?_)
        · refine kG (wTD g39 rfl rfl rfl) (T_load_own (i := 1) rfl rfl rfl (Sub.self _) ti83) rfl ?_
          refine kG (wTD g39 rfl rfl rfl) (T_load_own (i := 0) rfl rfl rfl (Sub.self _) ti83) rfl ?_
          refine kG (wTD g39 rfl rfl rfl) (T_callL rfl en78 (w78 ) (oa (ol rfl (Ty.le.refl _)) (oa (ol rfl (Ty.le.refl _)) oa0))) rfl ?_
          refine kG (wTD g39 rfl rfl rfl) (T_le rfl rfl rfl) rfl ?_
          refine kG (wTD g39 rfl rfl rfl) (T_move (.inl rfl) rfl) rfl ?_
          refine tk_if (d := 44) rfl (fun g44 => ?_) (fun g44 => ?_)
          · exact absurd g44 (den2 g39)
          · refine kG (wFD g44 rfl rfl rfl) (T_load_own (i := 2) rfl rfl rfl (Sub.self _) ti83) rfl ?_
            refine kG (wFD g44 rfl rfl rfl) (T_load_own (i := 1) rfl rfl rfl (Sub.self _) ti83) rfl ?_
            refine kG (wFD g44 rfl rfl rfl) (T_callL rfl en67 (w67 (by omega) (by omega)) (oa (ol rfl (Ty.le.refl _)) (oa (ol rfl (Ty.le.refl _)) oa0))) rfl ?_
            refine kG (wFD g44 rfl rfl rfl) (T_load_own (i := 0) rfl rfl rfl (Sub.self _) ti83) rfl ?_
            refine kG (wFD g44 rfl rfl rfl) (T_callL rfl en78 (w78 ) (oa (ol rfl (Ty.le.refl _)) (oa (ol rfl (Ty.le.refl _)) oa0))) rfl ?_
            refine kG (wFD g44 rfl rfl rfl) (T_ne rfl rfl rfl) rfl ?_
            refine kG (wTD g39 rfl rfl rfl) (T_pickN g44 rfl rfl rfl) rfl ?_
            refine kO (T_pickD g39 rfl rfl rfl) rfl ?_
            refine kA rfl rfl ?_
            refine kD (by decide) ?_
            refine JS_if rfl (fun c37 => ?_) (fun c37 => ?_)
            · exact absurd c37 (red3 x)
            · refine JS_seq ?_
              -- region 11
              refine sR ?_
              refine kO (T_fieldAddr_ptr rfl fa202_0 rfl rfl) rfl ?_
              refine kO (T_load_own (i := 3) rfl rfl rfl (rnum_n _) ti85) rfl ?_
              refine kO (T_callL rfl en32 (w32 (nz.up (by decide))) (oa (ol rfl (num0_num _)) (oa (ol rfl (Ty.le.refl _)) oa0))) rfl ?_
              refine kO (T_notD rfl rfl) rfl ?_
              refine kA rfl rfl ?_
              refine kE ?_
              refine JS_if rfl (fun c54 => ?_) (fun c54 => ?_)
              · exact absurd ⟨by omega, by omega⟩ c54
              · refine JS_skip ?_
                refine JS_end_inB ?_
                refine JS_seq ?_
                -- region 13
                refine sR ?_
                refine kO (T_load_own (i := 3) rfl rfl rfl (Sub.self _) ti202) rfl ?_
                refine kT ?_
                refine JT_store (i := 4) rfl rfl rfl rfl rfl (ol rfl (Ty.le.refl _)) (Upd.self _ _ rfl) sz202 ?_
                refine JT_done ?_
                exact JS_ret (JE_ret_one rfl rfl (.cell (i := 4) rfl rfl ti202 .nil) (of_eq (rfl)))
        · refine kS (uFD g39 rfl rfl rfl) rfl ?_
          refine kS (uFD g39 rfl rfl rfl) rfl ?_
          refine kS (uFD g39 rfl rfl rfl) rfl ?_
          refine kS (uFD g39 rfl rfl rfl) rfl ?_
          refine kS (uFD g39 rfl rfl rfl) rfl ?_
          refine kS (wU rfl rfl rfl) rfl ?_
          refine kS (wU rfl rfl rfl) rfl ?_
          refine kS (wU rfl rfl rfl) rfl ?_
          refine kS (wU rfl rfl rfl) rfl ?_
          refine kS (wU rfl rfl rfl) rfl ?_
          refine kS (wU rfl rfl rfl) rfl ?_
          refine kS (uFD g39 rfl rfl rfl) rfl ?_
          refine kO (T_pickN g39 rfl rfl rfl) rfl ?_
          refine kA rfl rfl ?_
          refine kD (by decide) ?_
          refine JS_cf rfl ?_
          refine JS_seq ?_
          -- region 11
          refine sR ?_
          refine kO (T_fieldAddr_ptr rfl fa202_0 rfl rfl) rfl ?_
          refine kO (T_load_own (i := 3) rfl rfl rfl (rnum_n _) ti85) rfl ?_
          refine kO (T_callL rfl en32 (w32 (nz.up (by decide))) (oa (ol rfl (num0_num _)) (oa (ol rfl (Ty.le.refl _)) oa0))) rfl ?_
          refine kO (T_notD rfl rfl) rfl ?_
          refine kA rfl rfl ?_
          refine kE ?_
          refine JS_if rfl (fun c54 => ?_) (fun c54 => ?_)
          · exact absurd ⟨by omega, by omega⟩ c54
          · refine JS_skip ?_
            refine JS_end_inB ?_
            refine JS_seq ?_
            -- region 13
            refine sR ?_
            refine kO (T_load_own (i := 3) rfl rfl rfl (Sub.self _) ti202) rfl ?_
            refine kT ?_
            refine JT_store (i := 4) rfl rfl rfl rfl rfl (ol rfl (Ty.le.refl _)) (Upd.self _ _ rfl) sz202 ?_
            refine JT_done ?_
            exact JS_ret (JE_ret_one rfl rfl (.cell (i := 4) rfl rfl ti202 .nil) (of_eq (rfl)))

theorem en144 : Enters Tryz.prog 144 := enters_fn Tryz.func144 (by kernel_rfl) rfl

theorem fa202_1 : FieldAt Tryz.prog 202 1 4 := by unfold FieldAt; kernel_rfl

theorem ti36 : TI Tryz.prog 36 false 1 := ⟨by kernel_rfl, by kernel_rfl⟩

theorem w121 {x : Rat} (hd : Dz 2000 x) : Spec CC 121 [Ty.of Kd.str (qtext x)] (Ty.val (.bool (decide (((dec x.num.natAbs).length : Int) ≤ 4 ∧ ((dec x.den).length : Int) ≤ 4)))) := by
  refine spec_of_JS Tryz.func121 rfl (Nat.le_of_ble_eq_true rfl) (fun gh0 wd0 => ?_)
  have nz := hd.nz
  refine JS_seq ?_
  -- region 0
  refine sR ?_
  refine kA rfl rfl ?_
  refine kE ?_
  refine JS_seq ?_
  -- region 1
  refine sR ?_
  refine kM rfl rfl ?_
  refine kO (T_callL rfl en144 (w144 hd) (oa (ol rfl (Ty.le.refl _)) oa0)) rfl ?_
  refine kT ?_
  refine JT_alloc (S0 := Seg.of Kd.rnum (none, 0)) rfl rfl rfl rfl z202 z_rnum (fun g3 => ?_)
  refine JT_store (i := 0) rfl rfl rfl rfl rfl (ol rfl (Ty.le.refl _)) (Upd.self _ _ rfl) sz202 ?_
  refine JT_done ?_
  refine JS_seq ?_
  -- region 2
  refine sR ?_
  refine kO (T_fieldAddr_ptr rfl fa202_1 rfl rfl) rfl ?_
  refine kO (T_load_own_int (i := 0) rfl rfl rfl (rnum_e _) ti36) rfl ?_
  refine kO (T_eq rfl rfl rfl) rfl ?_
  refine kM rfl rfl ?_
  refine tk_if (d := 9) rfl (fun g9 => ?_) (fun g9 => ?_)
  · refine kG (wTD g9 rfl rfl rfl) (T_fieldAddr_ptr rfl fa202_0 rfl rfl) rfl ?_
    refine kG (wTD g9 rfl rfl rfl) (T_load_own (i := 0) rfl rfl rfl (rnum_n _) ti85) rfl ?_
    refine kG (wTD g9 rfl rfl rfl) (T_callL rfl en32 (w32 (nz.up (by decide))) (oa (ol rfl (num0_num _)) (oa (ol rfl (Ty.le.refl _)) oa0))) rfl ?_
    refine kO (T_pickD g9 rfl rfl rfl) rfl ?_
    refine kA rfl rfl ?_
    refine kE ?_
    exact JS_ret (JE_ret_one rfl rfl (.tmp rfl .nil) (dec_eq (Iff.rfl)))
  · exact absurd rfl g9

theorem w122 {x : Rat} (hd : Dz 2000 x) : Spec CC 122 [Ty.of Kd.str (qtext x)] (Ty.tup [Ty.of Kd.str (Lib.itoa x.num), Ty.of Kd.str (Lib.itoa (x.den : Int)), Ty.val (.int .i64 0)]) := by
  refine spec_of_JS Tryz.func122 rfl (Nat.le_of_ble_eq_true rfl) (fun gh0 wd0 => ?_)
  have d1 := hd.1
  have d2 := hd.2
  have ql := qtext_len hd
  have nz := hd.nz
  have x1 := nz.num
  have x2 := nz.den
  have l1 := lims_len_of_lt (n := (1 : Int).natAbs) (k := 3) (by decide)
  refine JS_seq ?_
  -- region 0
  refine sR ?_
  refine kO (T_sub (T_move (.inr rfl) rfl) (val_str [])) rfl ?_
  refine kO (T_sub (T_move (.inr rfl) rfl) (val_str [])) rfl ?_
  refine kA rfl rfl ?_
  refine kE ?_
  refine JS_seq ?_
  -- region 1
  refine sR ?_
  refine kM rfl rfl ?_
  refine kO (T_callL rfl en144 (w144 hd) (oa (ol rfl (Ty.le.refl _)) oa0)) rfl ?_
  refine kT ?_
  refine JT_alloc (S0 := Seg.of Kd.rnum (none, 0)) rfl rfl rfl rfl z202 z_rnum (fun g5 => ?_)
  refine JT_store (i := 0) rfl rfl rfl rfl rfl (ol rfl (Ty.le.refl _)) (Upd.self _ _ rfl) sz202 ?_
  refine JT_done ?_
  refine JS_seq ?_
  refine JS_seq ?_
  -- region 2
  refine sR ?_
  refine kO (T_fieldAddr_ptr rfl fa202_1 rfl rfl) rfl ?_
  refine kO (T_load_own_int (i := 0) rfl rfl rfl (rnum_e _) ti36) rfl ?_
  refine kO (T_ne rfl rfl rfl) rfl ?_
  refine kE ?_
  refine JS_if rfl (fun c12 => ?_) (fun c12 => ?_)
  · exact absurd rfl c12
  · refine JS_skip ?_
    refine JS_seq ?_
    -- region 4
    refine sR ?_
    refine kO (T_fieldAddr_ptr rfl fa202_0 rfl rfl) rfl ?_
    refine kO (T_load_own (i := 0) rfl rfl rfl (rnum_n _) ti85) rfl ?_
    refine kO (T_callL rfl en145 (w145 ) (oa (ol rfl (num0_num _)) oa0)) rfl ?_
    refine kM rfl rfl ?_
    refine kO (T_extract rfl rfl rfl) rfl ?_
    refine kO (T_extract rfl rfl rfl) rfl ?_
    refine kT ?_
    refine JT_alloc (S0 := Seg.cat [Seg.of Kd.bool false, Seg.of (Kd.slice (Kd.int .u32)) []]) rfl rfl rfl rfl z83 h0_83 (fun g6 => ?_)
    refine JT_alloc (S0 := Seg.cat [Seg.of Kd.bool false, Seg.of (Kd.slice (Kd.int .u32)) []]) rfl rfl rfl rfl z83 h0_83 (fun g7 => ?_)
    refine JT_store (i := 1) rfl rfl rfl rfl rfl (ol rfl (Ty.le.refl _)) (Upd.self _ _ rfl) sz83 ?_
    refine JT_store (i := 0) rfl rfl rfl rfl rfl (ol rfl (Ty.le.refl _)) (Upd.self _ _ rfl) sz83 ?_
    refine JT_done ?_
    refine JS_seq ?_
    -- region 5
    refine sRD mixed ?_
    refine kO (T_load_own (i := 1) rfl rfl rfl (Sub.self _) ti83) rfl ?_
    refine kO (T_callL rfl en53 (w53 (by omega)) (oa (ol rfl (Ty.le.refl _)) oa0)) rfl ?_
    refine kO (T_load_own (i := 0) rfl rfl rfl (Sub.self _) ti83) rfl ?_
    refine kO (T_callL rfl en53 (w53 (by omega)) (oa (ol rfl (Ty.le.refl _)) oa0)) rfl ?_
    refine kA rfl rfl ?_
    refine kA rfl rfl ?_
    refine kA rfl rfl ?_
    refine kD (by decide) ?_
    exact JS_ret (JE_ret_many rfl (by decide) (.le (.tmp rfl (.le (.tmp rfl (.le (.tmp rfl .nil) (int_eq (rfl)))) (of_eq (rfl)))) (of_eq (rfl))))

end Go.Proofs.YtknflgfkhkdomaaGreatDoor.Mono

/-! WkN -/
set_option linter.unusedVariables false
set_option linter.unusedSimpArgs false
set_option maxRecDepth 4000
set_option maxHeartbeats 4000000
namespace Go.Proofs.YtknflgfkhkdomaaGreatDoor.Mono
open Go Go.RowKit

theorem dval_lt {l : List UInt8} (h : ∀ c ∈ l, isDig c) : dval l < 10 ^ l.length := by
  have key : ∀ (l : List UInt8) (a k : Nat), (∀ c ∈ l, isDig c) → a < 10 ^ k → l.foldl (fun a c => 10 * a + (c.toNat - 48)) a < 10 ^ (k + l.length) := by
    intro l
    induction l with
    | nil => intro a k _ ha; simpa using ha
    | cons c l ih =>
      intro a k h ha
      have hc := h c (by simp)
      unfold isDig at hc
      rw [List.foldl_cons, List.length_cons, show k + (l.length + 1) = (k + 1) + l.length by omega]
      exact ih _ (k + 1) (fun x hx => h x (by simp [hx])) (by rw [Nat.pow_succ]; omega)
  have := key l 0 0 h (by decide)
  simpa [dval] using this
theorem dval_take {l : List UInt8} {i : Nat} (h : i < l.length) : dval (l.take (i + 1)) = 10 * dval (l.take i) + (l[i].toNat - 48) := by
  rw [List.take_succ_eq_append_getElem h, dval_snoc]
theorem small_digs {n : Nat} (h : n ≤ 9999) : (dec n).length ≤ 4 := dec_le 3 n (by omega)
theorem digs_small {n : Nat} (h : (dec n).length ≤ 4) : n ≤ 9999 := by
  have h1 := dec_lt_pow n
  have h2 : 10 ^ (dec n).length ≤ 10 ^ 4 := Nat.pow_le_pow_right (by decide) h
  omega
theorem take_bd {n i : Nat} (h : n ≤ 9999) (hi : i ≤ (dec n).length) : dval ((dec n).take i) < 10000 := by
  have h1 := dval_lt (l := (dec n).take i) (fun c hc => dec_digs n c (List.mem_of_mem_take hc))
  have h2 := small_digs h
  have h3 : 10 ^ ((dec n).take i).length ≤ 10 ^ 4 := Nat.pow_le_pow_right (by decide) (by rw [List.length_take]; omega)
  omega

theorem w123p {n : Nat} (hn : n ≤ 9999) : Spec CC 123 [Ty.of Kd.str (dec n)] (Ty.val (.int .i64 (n : Int))) := by
  refine spec_of_JS Tryz.func123 rfl (Nat.le_of_ble_eq_true rfl) (fun gh0 wd0 => ?_)
  have hdg := dig_bd (dec_digs n)
  have hdp := dec_pos n
  have hl := small_digs hn
  refine JS_seq ?_
  -- region 0
  refine sR ?_
  refine kA rfl rfl ?_
  refine kE ?_
  refine JS_seq ?_
  refine JS_seq ?_
  -- region 1
  refine sR ?_
  refine kM rfl rfl ?_
  refine kO (T_ixs rfl rfl rfl u9 (by omega) (by omega) rfl) rfl ?_
  refine kO (T_eq rfl rfl rfl) rfl ?_
  refine kE ?_
  refine JS_if rfl (fun c7 => ?_) (fun c7 => ?_)
  · exact absurd c7 (by have := hdg (0 : Int).toNat (by omega); omega)
  · refine JS_skip ?_
    refine JS_seq ?_
    -- region 3
    refine sR ?_
    refine kA rfl rfl ?_
    refine kE ?_
    refine JS_seq ?_
    refine JS_seq ?_
    -- region 4
    refine sR ?_
    refine kM rfl rfl ?_
    refine kO (T_len_str rfl rfl u9 rfl) rfl ?_
    refine kM rfl rfl ?_
    refine kE ?_
    refine JS_block ?_
    refine sLoop1 (fun (i : Nat) => [(14, Ty.val (.int .i64 (i : Int))), (3, Ty.val (.int .i64 (dval ((dec n).take i) : Int)))]) [0, 13] (fun (i : Nat) => []) (fun (i : Nat) => i ≤ (dec n).length) (fun (i : Nat) => (dec n).length - i) 0 (Nat.zero_le _) rfl (EnvSub.consLe rfl (int_eq (rfl)) (EnvSub.consLe rfl (int_eq (by simp [dval])) (EnvSub.nil _))) (fun i (hI : i ≤ (dec n).length) => ?_)
    refine JS_seq ?_
    -- region 5
    refine sR ?_
    refine kO (T_lt rfl rfl rfl) rfl ?_
    refine kE ?_
    refine JS_seq ?_
    refine JS_if rfl (fun c15 => ?_) (fun c15 => ?_)
    · have hc := hdg ((i : Int)).toNat (by omega)
      have hc2 := hdg i (by omega)
      have hb := take_bd hn hI
      refine JS_skip ?_
      refine JS_seq ?_
      refine JS_block ?_
      refine JS_seq ?_
      -- region 6
      refine sR ?_
      refine kM rfl rfl ?_
      refine kA rfl rfl ?_
      refine kE ?_
      -- region 7
      refine sR ?_
      refine kM rfl rfl ?_
      refine kO (T_mul rfl rfl rfl (wrap_i64 (by omega) (by omega))) rfl ?_
      refine kM rfl rfl ?_
      refine kM rfl rfl ?_
      refine kO (T_ixs rfl rfl rfl u9 (by omega) (by omega) rfl) rfl ?_
      refine kO (T_subI rfl rfl rfl (wrap_u8 (by omega) (by omega))) rfl ?_
      refine kO (T_conv rfl u5 u3 rfl (wrap_i64 (by omega) (by omega))) rfl ?_
      refine kO (T_add rfl rfl rfl (wrap_i64 (by omega) (by omega))) rfl ?_
      refine kA rfl rfl ?_
      refine kE ?_
      refine JS_end_inB ?_
      -- region 8
      refine sR ?_
      refine kO (T_add rfl rfl rfl (wrap_i64 (by omega) (by omega))) rfl ?_
      refine kM rfl rfl ?_
      refine kE ?_
      exact JS_round (i + 1) (by omega) ((by omega)) rfl (EnvSub.consLe rfl (int_eq (rfl)) (EnvSub.consLe rfl (int_eq (by rw [dval_take (by omega), toNat_get]; omega)) (EnvSub.pick1 rfl (EnvSub.pick1 rfl (EnvSub.nil _)))))
    · obtain rfl : i = (dec n).length := by omega
      refine JS_exit (JE_loop_exit (JE_inB_here ?_))
      refine JS_seq ?_
      -- region 9
      refine sR ?_
      refine kM rfl rfl ?_
      refine kA rfl rfl ?_
      refine kE ?_
      exact JS_ret (JE_ret_one rfl rfl (.tmp rfl .nil) ((int_eq (by rw [List.take_length, dval_dec]))))

theorem en123 : Enters Tryz.prog 123 := enters_fn Tryz.func123 (by kernel_rfl) rfl

theorem w123n {k : Nat} (hk : k ≤ 9999) : Spec CC 123 [Ty.of Kd.str (45 :: dec k)] (Ty.val (.int .i64 (-(k : Int)))) := by
  refine spec_of_JS Tryz.func123 rfl (Nat.le_of_ble_eq_true rfl) (fun gh0 wd0 => ?_)
  refine JS_seq ?_
  -- region 0
  refine sR ?_
  refine kA rfl rfl ?_
  refine kE ?_
  refine JS_seq ?_
  refine JS_seq ?_
  -- region 1
  refine sR ?_
  refine kM rfl rfl ?_
  refine kO (T_ixs rfl rfl rfl u9 (by omega) (by simp) rfl) rfl ?_
  refine kO (T_eq rfl rfl rfl) rfl ?_
  refine kE ?_
  refine JS_if rfl (fun c7 => ?_) (fun c7 => ?_)
  · refine JS_seq ?_
    -- region 2
    refine sR ?_
    refine kM rfl rfl ?_
    refine kO (T_sstr_l rfl u9 rfl rfl (by omega) (by simp)) rfl ?_
    refine kO (T_callL rfl en123 (w123p (n := k) hk) (oa (ol rfl (Ty.le.refl _)) oa0)) rfl ?_
    refine kO (T_neg rfl rfl (wrap_i64 (by omega) (by omega))) rfl ?_
    refine kA rfl rfl ?_
    refine kE ?_
    exact JS_ret (JE_ret_one rfl rfl (.tmp rfl .nil) ((int_eq (by omega))))
  · exact absurd rfl c7

theorem w123 {z : Int} (h : z.natAbs ≤ 9999) : Spec CC 123 [Ty.of Kd.str (Lib.itoa z)] (Ty.val (.int .i64 z)) := by
  by_cases h0 : z < 0
  · have := w123n (k := z.natAbs) h
    rw [itoa_neg h0]
    rwa [show -(z.natAbs : Int) = z by omega] at this
  · have := w123p (n := z.natAbs) h
    rw [itoa_nn (by omega)]
    rwa [show (z.natAbs : Int) = z by omega] at this

theorem w124 {a b : Nat} (ha : a ≤ 1000000000000000000) (hb : b ≤ 1000000000000000000) : Spec CC 124 [Ty.val (.int .i64 (a : Int)), Ty.val (.int .i64 (b : Int))] (Ty.val (.int .i64 ((Nat.gcd a b : Nat) : Int))) := by
  refine spec_of_JS Tryz.func124 rfl (Nat.le_of_ble_eq_true rfl) (fun gh0 wd0 => ?_)
  refine JS_seq ?_
  -- region 0
  refine sR ?_
  refine kA rfl rfl ?_
  refine kE ?_
  refine JS_seq ?_
  refine JS_block ?_
  refine sLoop2 (fun (x : Nat) (y : Nat) => [(0, Ty.val (.int .i64 (x : Int))), (1, Ty.val (.int .i64 (y : Int)))]) [] (fun (x : Nat) (y : Nat) => []) (fun (x : Nat) (y : Nat) => Nat.gcd x y = Nat.gcd a b ∧ x ≤ 1000000000000000000 ∧ y ≤ 1000000000000000000) (fun (x : Nat) (y : Nat) => y) a b (⟨rfl, ha, hb⟩) rfl (EnvSub.consLe rfl (int_eq (rfl)) (EnvSub.consLe rfl (int_eq (rfl)) (EnvSub.nil _))) (fun x y (hI : Nat.gcd x y = Nat.gcd a b ∧ x ≤ 1000000000000000000 ∧ y ≤ 1000000000000000000) => ?_)
  obtain ⟨j1, j2, j3⟩ := hI
  refine JS_seq ?_
  refine JS_seq ?_
  -- region 1
  refine sR ?_
  refine kM rfl rfl ?_
  refine kO (T_gt rfl rfl rfl) rfl ?_
  refine kE ?_
  refine JS_if rfl (fun c6 => ?_) (fun c6 => ?_)
  · have hlt : x % y < y := Nat.mod_lt _ (by omega)
    refine JS_skip ?_
    refine JS_block ?_
    -- region 2
    refine sRD mixed ?_
    refine kM rfl rfl ?_
    refine kM rfl rfl ?_
    refine kM rfl rfl ?_
    refine kO (T_rem rfl rfl rfl (by omega) (rem_nn (by omega))) rfl ?_
    refine kA rfl rfl ?_
    refine kA rfl rfl ?_
    refine kD (by decide) ?_
    refine JS_end_inB ?_
    exact JS_round (y, (x % y)) (by try dsimp only; exact (⟨by rw [← j1, Nat.gcd_comm x y, Nat.gcd_rec y x, Nat.gcd_comm], j3, by omega⟩)) (by try dsimp only; exact (hlt)) rfl (EnvSub.consLe rfl (int_eq (rfl)) (EnvSub.consLe rfl (int_eq (natmod x y)) (EnvSub.nil _)))
  · obtain rfl : y = 0 := by omega
    rw [Nat.gcd_zero_right] at j1
    refine JS_exit (JE_loop_exit (JE_inB_here ?_))
    refine JS_seq ?_
    -- region 3
    refine sR ?_
    refine kM rfl rfl ?_
    refine kA rfl rfl ?_
    refine kE ?_
    exact JS_ret (JE_ret_one rfl rfl (.tmp rfl .nil) ((int_eq (by rw [j1]))))

theorem en121 : Enters Tryz.prog 121 := enters_fn Tryz.func121 (by kernel_rfl) rfl

theorem en122 : Enters Tryz.prog 122 := enters_fn Tryz.func122 (by kernel_rfl) rfl

theorem w93 {x : Rat} (hd : Dz 4 x) : Spec CC 93 [Ty.of Kd.str (qtext x)] (Ty.tup [Ty.val (.int .i64 x.num), Ty.val (.int .i64 (x.den : Int)), Ty.val (.bool true)]) := by
  refine spec_of_JS Tryz.func93 rfl (Nat.le_of_ble_eq_true rfl) (fun gh0 wd0 => ?_)
  have d1 := hd.1
  have d2 := hd.2
  have dd : Dz 2000 x := ⟨by omega, by omega⟩
  have s1 := digs_small d1
  have s2 := digs_small d2
  refine JS_seq ?_
  -- region 0
  refine sR ?_
  refine kA rfl rfl ?_
  refine kA rfl rfl ?_
  refine kA rfl rfl ?_
  refine kE ?_
  refine JS_seq ?_
  refine JS_seq ?_
  -- region 1
  refine sR ?_
  refine kM rfl rfl ?_
  refine kO (T_callL rfl en121 (w121 dd) (oa (ol rfl (Ty.le.refl _)) oa0)) rfl ?_
  refine kO (T_notD rfl rfl) rfl ?_
  refine kE ?_
  refine JS_if rfl (fun c10 => ?_) (fun c10 => ?_)
  · exact absurd ⟨by omega, by omega⟩ c10
  · refine JS_skip ?_
    refine JS_seq ?_
    -- region 3
    refine sR ?_
    refine kM rfl rfl ?_
    refine kO (T_callL rfl en122 (w122 dd) (oa (ol rfl (Ty.le.refl _)) oa0)) rfl ?_
    refine kM rfl rfl ?_
    refine kO (T_extract rfl rfl rfl) rfl ?_
    refine kO (T_extract rfl rfl rfl) rfl ?_
    refine kO (T_extract rfl rfl rfl) rfl ?_
    refine kA rfl rfl ?_
    refine kA rfl rfl ?_
    refine kA rfl rfl ?_
    refine kE ?_
    refine JS_seq ?_
    -- region 4
    refine sR ?_
    refine kM rfl rfl ?_
    refine kO (T_callL rfl en123 (w123 (by omega)) (oa (ol rfl (Ty.le.refl _)) oa0)) rfl ?_
    refine kM rfl rfl ?_
    refine kO (T_callL rfl en123 (w123 (by omega)) (oa (ol rfl (Ty.le.refl _)) oa0)) rfl ?_
    refine kM rfl rfl ?_
    refine kO (T_eq rfl rfl rfl) rfl ?_
    refine kA rfl rfl ?_
    refine kA rfl rfl ?_
    refine kA rfl rfl ?_
    refine kE ?_
    exact JS_ret (JE_ret_many rfl (by decide) (.le (.tmp rfl (.le (.tmp rfl (.le (.tmp rfl .nil) (bool_eq (rfl)))) (int_eq (rfl)))) (int_eq (rfl))))

theorem ti3 : TI Tryz.prog 3 false 1 := ⟨by kernel_rfl, by kernel_rfl⟩

theorem en124 : Enters Tryz.prog 124 := enters_fn Tryz.func124 (by kernel_rfl) rfl

theorem sz3 : (Tryz.prog.info? 3).map (·.size) = some 1 := by kernel_rfl

theorem m94 {g off T a b : Nat} {d : Nat} {S S1 : Seg} (hs : Sub S off (Seg.of (Kd.int .i64) (a : Int))) (hu : Upd S off (Seg.of (Kd.int .i64) (b : Int)) S1) (hs1 : Sub S1 off (Seg.of (Kd.int .i64) (b : Int))) (ha : 1 ≤ a ∧ a ≤ 9999) (hd : 1 ≤ d ∧ d ≤ 9999) (hb : b = a / Nat.gcd a d * d) : SpecM CC 94 [Ty.val (ptr g off), Ty.val (.int .i64 (d : Int))] [Res.box g T S] (Y := Unit) (fun _ => Ty.val (.bool (decide ((b : Int) ≤ 9999)))) (fun _ => [Res.box g T S1]) := by
  refine specM_of_JS Tryz.func94 rfl (Nat.le_of_ble_eq_true rfl) (fun gh0 wd0 => ?_)
  have hg : 0 < Nat.gcd a d := Nat.gcd_pos_of_pos_left d (by omega)
  have hq : a / Nat.gcd a d ≤ a := Nat.div_le_self _ _
  have hm : a / Nat.gcd a d * d ≤ 9999 * 9999 := Nat.mul_le_mul (by omega) (by omega)
  have hbi : ((a : Int) / ((Nat.gcd a d : Nat) : Int)) * (d : Int) = (b : Int) := by rw [hb]; simp
  have hbm : b ≤ 9999 * 9999 := by omega
  refine JS_seq ?_
  -- region 0
  refine sR ?_
  refine kA rfl rfl ?_
  refine kE ?_
  refine JS_seq ?_
  -- region 1
  refine sRD mixed ?_
  refine kM rfl rfl ?_
  refine kM rfl rfl ?_
  refine kO (T_nilCheckO rfl rfl) rfl ?_
  refine kO (T_load_own_int (i := 0) rfl rfl rfl hs ti3) rfl ?_
  refine kM rfl rfl ?_
  refine kO (T_nilCheckO rfl rfl) rfl ?_
  refine kO (T_load_own_int (i := 0) rfl rfl rfl hs ti3) rfl ?_
  refine kM rfl rfl ?_
  refine kO (T_callL rfl en124 (w124 (by omega) (by omega)) (oa (ol rfl (Ty.le.refl _)) (oa (ol rfl (Ty.le.refl _)) oa0))) rfl ?_
  refine kO (T_quo rfl rfl rfl (by omega) (quo_i64 (by omega) (by omega) (by omega))) rfl ?_
  refine kM rfl rfl ?_
  refine kO (T_mul rfl rfl rfl ((wrap_i64 (by rw [hbi]; omega) (by rw [hbi]; omega)).trans hbi)) rfl ?_
  refine kO (T_nilCheckO rfl rfl) rfl ?_
  refine kTD (by decide) ?_
  refine JT_store (i := 0) rfl rfl rfl rfl rfl (ol rfl (val_int _ _)) hu sz3 ?_
  refine JT_done ?_
  refine JS_seq ?_
  -- region 2
  refine sR ?_
  refine kM rfl rfl ?_
  refine kO (T_nilCheckO rfl rfl) rfl ?_
  refine kO (T_load_own_int (i := 0) rfl rfl rfl hs1 ti3) rfl ?_
  refine kO (T_le rfl rfl rfl) rfl ?_
  refine kA rfl rfl ?_
  refine kE ?_
  exact JS_ret (JE_retM1 () rfl rfl (.tmp rfl .nil) (dec_eq (Iff.rfl)) rfl rfl rfl)

end Go.Proofs.YtknflgfkhkdomaaGreatDoor.Mono

/-! WkO -/
set_option linter.unusedVariables false
set_option linter.unusedSimpArgs false
set_option maxRecDepth 4000
set_option maxHeartbeats 4000000
namespace Go.Proofs.YtknflgfkhkdomaaGreatDoor.Mono
open Go Go.RowKit

theorem decFrom_digs : ∀ (l : List UInt8) (a : Nat), (∀ c ∈ l, isDig c) → Lib.decFrom a l = some (l.foldl (fun a c => 10 * a + (c.toNat - 48)) a)
  | [], a, _ => rfl
  | c :: l, a, h => by
    have hc := h c (by simp)
    unfold isDig at hc
    rw [Lib.decFrom, Lib.digitVal, if_pos hc]
    show Lib.decFrom (a * 10 + (c.toNat - 48)) l = _
    rw [decFrom_digs l _ (fun x hx => h x (by simp [hx])), List.foldl_cons, Nat.mul_comm a 10]
theorem atoi_dec (n : Nat) : Lib.atoi (dec n) = some (n : Int) := by
  have hd := dec_digs n
  have hv := dval_dec n
  cases e : dec n with
  | nil => exact absurd e (dec_ne n)
  | cons c r =>
    rw [e] at hd hv
    have hc := hd c (by simp)
    unfold isDig at hc
    have h1 : (c == 45) = false := by rw [beq_eq_false_iff_ne]; intro h; rw [h] at hc; exact absurd hc.1 (by decide)
    have h2 : (c == 43) = false := by rw [beq_eq_false_iff_ne]; intro h; rw [h] at hc; exact absurd hc.1 (by decide)
    unfold Lib.atoi
    simp only [h1, h2, Bool.false_eq_true, if_false]
    unfold Lib.decNat
    simp only [List.isEmpty_cons, Bool.false_eq_true, if_false]
    rw [decFrom_digs _ _ hd]
    show some (((dval (c :: r) : Nat)) : Int) = _
    rw [hv]
theorem dec9 {a : Nat} (h : a < 1000000000) : (dec a).length ≤ 9 := dec_le 8 a (by omega)
theorem dec_48 {a : Nat} (h : 0 < a) : dec a ≠ [48] := fun e => by
  have : dec a = dec 0 := by rw [e]; exact (dec_small (n := 0) (by decide)).symm
  have := dec_inj this; omega
theorem dec_49 {a : Nat} : dec a = [49] ↔ a = 1 := by
  constructor
  · intro e
    exact dec_inj (b := 1) (by rw [e]; exact (dec_small (n := 1) (by decide)).symm)
  · rintro rfl; exact dec_small (by decide)
theorem make_q {a b : Nat} (hb : 0 < b) : (Rat.divInt a b).num = ((a / Nat.gcd a b : Nat) : Int) ∧ (Rat.divInt a b).den = b / Nat.gcd a b := by
  obtain ⟨h1, h2⟩ := divInt_parts (n := (a : Int)) (d := (b : Int)) (by omega)
  have hs : ((b : Int)).sign = 1 := Int.sign_eq_one_of_pos (by omega)
  rw [hs, Int.one_mul, show Int.gcd (a : Int) (b : Int) = Nat.gcd a b from rfl] at h1 h2
  have e : ∀ x y : Nat, ((x : Int)).fdiv (y : Int) = ((x / y : Nat) : Int) := fun x y => by rw [Int.fdiv_eq_ediv_of_nonneg _ (by omega)]; exact (Int.natCast_ediv x y).symm
  rw [e] at h1 h2
  exact ⟨h1, by omega⟩
theorem make_text {a b : Nat} (hb : 0 < b) : qtext (Rat.divInt a b) = if b / Nat.gcd a b = 1 then dec (a / Nat.gcd a b) else dec (a / Nat.gcd a b) ++ 47 :: dec (b / Nat.gcd a b) := by
  obtain ⟨h1, h2⟩ := make_q (a := a) hb
  unfold qtext
  rw [h1, h2, itoa_nat]
theorem natdiv (x y : Nat) : (x : Int) / (y : Int) = ((x / y : Nat) : Int) := (Int.natCast_ediv x y).symm

theorem w59 {n : Int} (h1 : -9223372036854775808 ≤ n) (h2 : n ≤ 9223372036854775807) : Spec CC 59 [Ty.val (.int .i64 n)] (Ty.of Kd.str (Lib.itoa n)) := by
  refine spec_of_JS Tryz.func59 rfl (Nat.le_of_ble_eq_true rfl) (fun gh0 wd0 => ?_)
  refine JS_seq ?_
  -- region 0
  refine sR ?_
  refine kO (T_sub (T_move (.inr rfl) rfl) (val_str [])) rfl ?_
  refine kE ?_
  refine JS_seq ?_
  -- region 1
  refine sR ?_
  refine kM rfl rfl ?_
  refine kO (T_callL rfl en73 (spec_itoa (by omega) (by omega)) (oa (ol rfl (Ty.le.refl _)) oa0)) rfl ?_
  refine kA rfl rfl ?_
  refine kE ?_
  exact JS_ret (JE_ret_one rfl rfl (.tmp rfl .nil) (of_eq (rfl)))

theorem w114 {n : Nat} : Spec CC 114 [Ty.of Kd.str (dec n)] (Ty.val (.bool false)) := by
  refine spec_of_JS Tryz.func114 rfl (Nat.le_of_ble_eq_true rfl) (fun gh0 wd0 => ?_)
  have hdg := dig_bd (dec_digs n)
  have hdp := dec_pos n
  refine JS_seq ?_
  -- region 0
  refine sR ?_
  refine kA rfl rfl ?_
  refine kE ?_
  refine JS_seq ?_
  -- region 1
  refine sR ?_
  refine kM rfl rfl ?_
  refine kO (T_ixs rfl rfl rfl u9 (by omega) (by omega) rfl) rfl ?_
  refine kO (T_eq rfl rfl rfl) rfl ?_
  refine kA rfl rfl ?_
  refine kE ?_
  exact JS_ret (JE_ret_one rfl rfl (.tmp rfl .nil) (bool_eq (decide_eq_false (by have := hdg (0 : Int).toNat (by omega); omega))))

theorem en114 : Enters Tryz.prog 114 := enters_fn Tryz.func114 (by kernel_rfl) rfl

theorem w83 {a : Nat} (ha : 0 < a) : Spec CC 83 [Ty.of Kd.str (dec a)] (Ty.val (.int .i64 1)) := by
  refine spec_of_JS Tryz.func83 rfl (Nat.le_of_ble_eq_true rfl) (fun gh0 wd0 => ?_)
  refine JS_seq ?_
  -- region 0
  refine sR ?_
  refine kA rfl rfl ?_
  refine kE ?_
  refine JS_seq ?_
  refine JS_seq ?_
  -- region 1
  refine sR ?_
  refine kM rfl rfl ?_
  refine kO (T_seq rfl (ol rfl (Ty.le.refl _)) (ol rfl (val_str [48]))) rfl ?_
  refine kE ?_
  refine JS_if rfl (fun c4 => ?_) (fun c4 => ?_)
  · exact absurd c4 (dec_48 ha)
  · refine JS_skip ?_
    refine JS_seq ?_
    refine JS_seq ?_
    -- region 3
    refine sR ?_
    refine kM rfl rfl ?_
    refine kO (T_callL rfl en114 (w114 ) (oa (ol rfl (Ty.le.refl _)) oa0)) rfl ?_
    refine kE ?_
    refine JS_cf rfl ?_
    refine JS_skip ?_
    refine JS_seq ?_
    -- region 5
    refine sR ?_
    refine kA rfl rfl ?_
    refine kE ?_
    exact JS_ret (JE_ret_one rfl rfl (.tmp rfl .nil) (int_eq (rfl)))

theorem en138 : Enters Tryz.prog 138 := enters_fn Tryz.func138 (by kernel_rfl) rfl

theorem w110 {a b : Nat} (ha : a < 1000000000) (hb : b < 1000000000) : Spec CC 110 [Ty.of Kd.str (dec a), Ty.of Kd.str (dec b)] (Ty.tup [Ty.val (.int .i64 (a : Int)), Ty.val (.int .i64 (b : Int)), Ty.val (.bool true)]) := by
  refine spec_of_JS Tryz.func110 rfl (Nat.le_of_ble_eq_true rfl) (fun gh0 wd0 => ?_)
  have da := dec9 ha
  have db := dec9 hb
  refine JS_seq ?_
  -- region 0
  refine sR ?_
  refine kA rfl rfl ?_
  refine kA rfl rfl ?_
  refine kA rfl rfl ?_
  refine kE ?_
  refine JS_seq ?_
  refine JS_seq ?_
  -- region 1
  refine sR ?_
  refine kM rfl rfl ?_
  refine kO (T_len_str rfl rfl u9 rfl) rfl ?_
  refine kO (T_gt rfl rfl rfl) rfl ?_
  refine kM rfl rfl ?_
  refine tk_if (d := 14) rfl (fun g14 => ?_) (fun g14 => ?_)
  · exact absurd g14 (by omega)
  · refine kG (wFD g14 rfl rfl rfl) (T_move (.inl rfl) rfl) rfl ?_
    refine kG (wFD g14 rfl rfl rfl) (T_len_str rfl rfl u9 rfl) rfl ?_
    refine kG (wFD g14 rfl rfl rfl) (T_gt rfl rfl rfl) rfl ?_
    refine kO (T_pickN g14 rfl rfl rfl) rfl ?_
    refine kE ?_
    refine JS_if rfl (fun c18 => ?_) (fun c18 => ?_)
    · exact absurd c18 (by omega)
    · refine JS_skip ?_
      refine JS_seq ?_
      -- region 3
      refine sR ?_
      refine kM rfl rfl ?_
      refine kO (T_callL rfl en138 (spec_atoi (by omega) (atoi_dec _)) (oa (ol rfl (Ty.le.refl _)) oa0)) rfl ?_
      refine kM rfl rfl ?_
      refine kO (T_extract rfl rfl rfl) rfl ?_
      refine kO (T_extract rfl rfl rfl) rfl ?_
      refine kA rfl rfl ?_
      refine kA rfl rfl ?_
      refine kE ?_
      refine JS_seq ?_
      -- region 4
      refine sR ?_
      refine kM rfl rfl ?_
      refine kO (T_callL rfl en138 (spec_atoi (by omega) (atoi_dec _)) (oa (ol rfl (Ty.le.refl _)) oa0)) rfl ?_
      refine kM rfl rfl ?_
      refine kO (T_extract rfl rfl rfl) rfl ?_
      refine kO (T_extract rfl rfl rfl) rfl ?_
      refine kA rfl rfl ?_
      refine kA rfl rfl ?_
      refine kE ?_
      refine JS_seq ?_
      -- region 5
      refine sR ?_
      refine kM rfl rfl ?_
      refine kM rfl rfl ?_
      refine kA rfl rfl ?_
      refine kA rfl rfl ?_
      refine kA rfl rfl ?_
      refine kE ?_
      exact JS_ret (JE_ret_many rfl (by decide) (.le (.tmp rfl (.le (.tmp rfl (.le (.tmp rfl .nil) (Ty.le.refl _))) (int_eq (rfl)))) (int_eq (rfl))))

theorem en110 : Enters Tryz.prog 110 := enters_fn Tryz.func110 (by kernel_rfl) rfl

theorem en59 : Enters Tryz.prog 59 := enters_fn Tryz.func59 (by kernel_rfl) rfl

theorem w82 {a b : Nat} (ha : a < 1000000000) (hb : b < 1000000000) : Spec CC 82 [Ty.of Kd.str (dec a), Ty.of Kd.str (dec b)] (Ty.of Kd.str (dec (Nat.gcd a b))) := by
  refine spec_of_JS Tryz.func82 rfl (Nat.le_of_ble_eq_true rfl) (fun gh0 wd0 => ?_)
  refine JS_seq ?_
  -- region 0
  refine sR ?_
  refine kO (T_sub (T_move (.inr rfl) rfl) (val_str [])) rfl ?_
  refine kE ?_
  refine JS_seq ?_
  refine JS_seq ?_
  -- region 1
  refine sR ?_
  refine kM rfl rfl ?_
  refine kM rfl rfl ?_
  refine kO (T_callL rfl en110 (w110 (by omega) (by omega)) (oa (ol rfl (Ty.le.refl _)) (oa (ol rfl (Ty.le.refl _)) oa0))) rfl ?_
  refine kM rfl rfl ?_
  refine kO (T_extract rfl rfl rfl) rfl ?_
  refine kO (T_extract rfl rfl rfl) rfl ?_
  refine kO (T_extract rfl rfl rfl) rfl ?_
  refine kA rfl rfl ?_
  refine kA rfl rfl ?_
  refine kA rfl rfl ?_
  refine kE ?_
  refine JS_seq ?_
  -- region 2
  refine sR ?_
  refine kM rfl rfl ?_
  refine kE ?_
  refine JS_ct rfl ?_
  refine JS_seq ?_
  refine JS_block ?_
  refine sLoop2 (fun (x : Nat) (y : Nat) => [(5, Ty.val (.int .i64 (x : Int))), (6, Ty.val (.int .i64 (y : Int)))]) [] (fun (x : Nat) (y : Nat) => []) (fun (x : Nat) (y : Nat) => Nat.gcd x y = Nat.gcd a b ∧ x < 1000000000 ∧ y < 1000000000) (fun (x : Nat) (y : Nat) => y) a b (⟨rfl, ha, hb⟩) rfl (EnvSub.consLe rfl (int_eq (rfl)) (EnvSub.consLe rfl (int_eq (rfl)) (EnvSub.nil _))) (fun x y (hI : Nat.gcd x y = Nat.gcd a b ∧ x < 1000000000 ∧ y < 1000000000) => ?_)
  obtain ⟨j1, j2, j3⟩ := hI
  refine JS_seq ?_
  refine JS_seq ?_
  -- region 3
  refine sR ?_
  refine kM rfl rfl ?_
  refine kO (T_ne rfl rfl rfl) rfl ?_
  refine kE ?_
  refine JS_if rfl (fun c22 => ?_) (fun c22 => ?_)
  · have hlt : x % y < y := Nat.mod_lt _ (by omega)
    refine JS_skip ?_
    refine JS_block ?_
    refine JS_seq ?_
    -- region 4
    refine sR ?_
    refine kM rfl rfl ?_
    refine kM rfl rfl ?_
    refine kO (T_rem rfl rfl rfl (by omega) (rem_nn (by omega))) rfl ?_
    refine kA rfl rfl ?_
    refine kE ?_
    refine JS_seq ?_
    -- region 5
    refine sR ?_
    refine kM rfl rfl ?_
    refine kA rfl rfl ?_
    refine kE ?_
    -- region 6
    refine sR ?_
    refine kM rfl rfl ?_
    refine kA rfl rfl ?_
    refine kE ?_
    refine JS_end_inB ?_
    exact JS_round (y, (x % y)) (by try dsimp only; exact (⟨by rw [← j1, Nat.gcd_comm x y, Nat.gcd_rec y x, Nat.gcd_comm], j3, by omega⟩)) (by try dsimp only; exact (hlt)) rfl (EnvSub.consLe rfl (int_eq (rfl)) (EnvSub.consLe rfl (int_eq (natmod x y)) (EnvSub.nil _)))
  · obtain rfl : y = 0 := by omega
    rw [Nat.gcd_zero_right] at j1
    refine JS_exit (JE_loop_exit (JE_inB_here ?_))
    refine JS_seq ?_
    -- region 7
    refine sR ?_
    refine kM rfl rfl ?_
    refine kM rfl rfl ?_
    refine kO (T_neg rfl rfl (wrap_i64 (by omega) (by omega))) rfl ?_
    refine kO (T_max rfl rfl rfl) rfl ?_
    refine kO (T_callL rfl en59 (w59 (by omega) (by omega)) (oa (ol rfl (Ty.le.refl _)) oa0)) rfl ?_
    refine kA rfl rfl ?_
    refine kE ?_
    exact JS_ret (JE_ret_one rfl rfl (.tmp rfl .nil) ((of_eq (by rw [show max (x : Int) (0 - (x : Int)) = (x : Int) by omega, itoa_nat, j1]))))

theorem w85 {a b : Nat} (ha : a < 1000000000) (hb : b < 1000000000) (hb0 : 0 < b) : Spec CC 85 [Ty.of Kd.str (dec a), Ty.of Kd.str (dec b)] (Ty.tup [Ty.of Kd.str (dec (a / b)), Ty.of Kd.str (dec (a % b))]) := by
  refine spec_of_JS Tryz.func85 rfl (Nat.le_of_ble_eq_true rfl) (fun gh0 wd0 => ?_)
  have hm : (b : Int) * ((a / b : Nat) : Int) = (a : Int) - ((a % b : Nat) : Int) := by have := Nat.div_add_mod a b; rw [← Int.natCast_mul]; omega
  have hq : a / b ≤ a := Nat.div_le_self _ _
  have hr := Nat.mod_lt a hb0
  have hr2 := Nat.mod_le a b
  refine JS_seq ?_
  -- region 0
  refine sR ?_
  refine kO (T_sub (T_move (.inr rfl) rfl) (val_str [])) rfl ?_
  refine kO (T_sub (T_move (.inr rfl) rfl) (val_str [])) rfl ?_
  refine kE ?_
  refine JS_seq ?_
  refine JS_seq ?_
  -- region 1
  refine sR ?_
  refine kM rfl rfl ?_
  refine kM rfl rfl ?_
  refine kO (T_callL rfl en110 (w110 (by omega) (by omega)) (oa (ol rfl (Ty.le.refl _)) (oa (ol rfl (Ty.le.refl _)) oa0))) rfl ?_
  refine kM rfl rfl ?_
  refine kO (T_extract rfl rfl rfl) rfl ?_
  refine kO (T_extract rfl rfl rfl) rfl ?_
  refine kO (T_extract rfl rfl rfl) rfl ?_
  refine kA rfl rfl ?_
  refine kA rfl rfl ?_
  refine kA rfl rfl ?_
  refine kE ?_
  refine JS_seq ?_
  -- region 2
  refine sR ?_
  refine kM rfl rfl ?_
  refine kE ?_
  refine JS_ct rfl ?_
  refine JS_seq ?_
  -- region 3
  refine sR ?_
  refine kM rfl rfl ?_
  refine kM rfl rfl ?_
  refine kO (T_quo rfl rfl rfl (by omega) (quo_i64 (by omega) (by omega) (by omega))) rfl ?_
  refine kA rfl rfl ?_
  refine kE ?_
  refine JS_seq ?_
  refine JS_seq ?_
  -- region 4
  refine JS_re (s := 9) (T := Ty.val (.int .i64 ((a / b : Nat) : Int))) rfl (int_eq (natdiv a b)) ?_
  refine sR ?_
  refine kM rfl rfl ?_
  refine kM rfl rfl ?_
  refine kO (T_rem rfl rfl rfl (by omega) (rem_nn (by omega))) rfl ?_
  refine kO (T_ne rfl rfl rfl) rfl ?_
  refine kM rfl rfl ?_
  refine tk_if (d := 28) rfl (fun g28 => ?_) (fun g28 => ?_)
  · refine kG (wTD g28 rfl rfl rfl) (T_move (.inl rfl) rfl) rfl ?_
    refine kG (wTD g28 rfl rfl rfl) (T_lt rfl rfl rfl) rfl ?_
    refine kG (wTD g28 rfl rfl rfl) (T_move (.inl rfl) rfl) rfl ?_
    refine kG (wTD g28 rfl rfl rfl) (T_lt rfl rfl rfl) rfl ?_
    refine kG (wTD g28 rfl rfl rfl) (T_bool_ne rfl u4 rfl rfl) rfl ?_
    refine kO (T_pickD g28 rfl rfl rfl) rfl ?_
    refine kE ?_
    refine JS_cond rfl (fun c34 => ?_) (fun c34 => ?_)
    · rw [decide_eq_false (show ¬ (a : Int) < 0 by omega), decide_eq_false (show ¬ (b : Int) < 0 by omega)] at c34
      exact absurd c34 (by decide)
    · refine JS_skip ?_
      refine JS_seq ?_
      -- region 6
      refine sR ?_
      refine kM rfl rfl ?_
      refine kO (T_callL rfl en59 (w59 (Int.le_trans (by decide) (Int.natCast_nonneg _)) (Int.le_trans (Int.ofNat_le.2 hq) (by omega))) (oa (ol rfl (Ty.le.refl _)) oa0)) rfl ?_
      refine kM rfl rfl ?_
      refine kM rfl rfl ?_
      refine kM rfl rfl ?_
      refine kO (T_mul rfl rfl rfl ((wrap_i64 (by rw [hm]; omega) (by rw [hm]; omega)).trans hm)) rfl ?_
      refine kO (T_subI rfl rfl rfl (wrap_i64 (by omega) (by omega))) rfl ?_
      refine kO (T_callL rfl en59 (w59 (by omega) (by omega)) (oa (ol rfl (Ty.le.refl _)) oa0)) rfl ?_
      refine kA rfl rfl ?_
      refine kA rfl rfl ?_
      refine kE ?_
      exact JS_ret (JE_ret_many rfl (by decide) (.le (.tmp rfl (.le (.tmp rfl .nil) (of_eq (by rw [show (a : Int) - ((a : Int) - ((a % b : Nat) : Int)) = ((a % b : Nat) : Int) by omega, itoa_nat])))) (of_eq (itoa_nat _))))
  · refine kS (uFD g28 rfl rfl rfl) rfl ?_
    refine kS (uFD g28 rfl rfl rfl) rfl ?_
    refine kS (uFD g28 rfl rfl rfl) rfl ?_
    refine kS (uFD g28 rfl rfl rfl) rfl ?_
    refine kS (uFD g28 rfl rfl rfl) rfl ?_
    refine kO (T_pickN g28 rfl rfl rfl) rfl ?_
    refine kE ?_
    refine JS_cf rfl ?_
    refine JS_skip ?_
    refine JS_seq ?_
    -- region 6
    refine sR ?_
    refine kM rfl rfl ?_
    refine kO (T_callL rfl en59 (w59 (Int.le_trans (by decide) (Int.natCast_nonneg _)) (Int.le_trans (Int.ofNat_le.2 hq) (by omega))) (oa (ol rfl (Ty.le.refl _)) oa0)) rfl ?_
    refine kM rfl rfl ?_
    refine kM rfl rfl ?_
    refine kM rfl rfl ?_
    refine kO (T_mul rfl rfl rfl ((wrap_i64 (by rw [hm]; omega) (by rw [hm]; omega)).trans hm)) rfl ?_
    refine kO (T_subI rfl rfl rfl (wrap_i64 (by omega) (by omega))) rfl ?_
    refine kO (T_callL rfl en59 (w59 (by omega) (by omega)) (oa (ol rfl (Ty.le.refl _)) oa0)) rfl ?_
    refine kA rfl rfl ?_
    refine kA rfl rfl ?_
    refine kE ?_
    exact JS_ret (JE_ret_many rfl (by decide) (.le (.tmp rfl (.le (.tmp rfl .nil) (of_eq (by rw [show (a : Int) - ((a : Int) - ((a % b : Nat) : Int)) = ((a % b : Nat) : Int) by omega, itoa_nat])))) (of_eq (itoa_nat _))))

theorem en82 : Enters Tryz.prog 82 := enters_fn Tryz.func82 (by kernel_rfl) rfl

theorem en83 : Enters Tryz.prog 83 := enters_fn Tryz.func83 (by kernel_rfl) rfl

theorem en85 : Enters Tryz.prog 85 := enters_fn Tryz.func85 (by kernel_rfl) rfl

theorem w58 {a b : Nat} (ha : a < 1000000000) (hb : b < 1000000000) (hb0 : 0 < b) : Spec CC 58 [Ty.of Kd.str (dec a), Ty.of Kd.str (dec b)] (Ty.of Kd.str (qtext (Rat.divInt a b))) := by
  refine spec_of_JS Tryz.func58 rfl (Nat.le_of_ble_eq_true rfl) (fun gh0 wd0 => ?_)
  have hg : 0 < Nat.gcd a b := Nat.gcd_pos_of_pos_right a hb0
  have hg2 : Nat.gcd a b ≤ b := Nat.le_of_dvd hb0 (Nat.gcd_dvd_right a b)
  have q1 : a / Nat.gcd a b ≤ a := Nat.div_le_self _ _
  have q2 : b / Nat.gcd a b ≤ b := Nat.div_le_self _ _
  have da := dec9 (a := a / Nat.gcd a b) (by omega)
  have db := dec9 (a := b / Nat.gcd a b) (by omega)
  refine JS_seq ?_
  -- region 0
  refine sR ?_
  refine kO (T_sub (T_move (.inr rfl) rfl) (val_str [])) rfl ?_
  refine kE ?_
  refine JS_seq ?_
  -- region 1
  refine sR ?_
  refine kM rfl rfl ?_
  refine kM rfl rfl ?_
  refine kO (T_callL rfl en82 (w82 (by omega) (by omega)) (oa (ol rfl (Ty.le.refl _)) (oa (ol rfl (Ty.le.refl _)) oa0))) rfl ?_
  refine kA rfl rfl ?_
  refine kE ?_
  refine JS_seq ?_
  refine JS_seq ?_
  -- region 2
  refine sR ?_
  refine kM rfl rfl ?_
  refine kO (T_callL rfl en83 (w83 (by omega)) (oa (ol rfl (Ty.le.refl _)) oa0)) rfl ?_
  refine kO (T_lt rfl rfl rfl) rfl ?_
  refine kE ?_
  refine JS_join1 (fun (u : Unit) => [(5, Ty.of Kd.str (dec (Nat.gcd a b)))]) [0, 1] (fun (u : Unit) => []) (fun (u : Unit) => True) ?_ (fun u (hJ : True) => ?_)
  · refine JS_if rfl (fun c11 => ?_) (fun c11 => ?_)
    · exact absurd c11 (by decide)
    · refine JS_skip ?_
      exact JS_meet () (trivial) rfl (EnvSub.consLe rfl (of_eq (rfl)) (EnvSub.pick1 rfl (EnvSub.pick1 rfl (EnvSub.nil _))))
  · refine JS_seq ?_
    -- region 4
    refine sR ?_
    refine kM rfl rfl ?_
    refine kM rfl rfl ?_
    refine kO (T_callL rfl en85 (w85 (by omega) (by omega) (by omega)) (oa (ol rfl (Ty.le.refl _)) (oa (ol rfl (Ty.le.refl _)) oa0))) rfl ?_
    refine kM rfl rfl ?_
    refine kO (T_extract rfl rfl rfl) rfl ?_
    refine kO (T_extract rfl rfl rfl) rfl ?_
    refine kA rfl rfl ?_
    refine kE ?_
    refine JS_seq ?_
    -- region 5
    refine sR ?_
    refine kM rfl rfl ?_
    refine kM rfl rfl ?_
    refine kO (T_callL rfl en85 (w85 (by omega) (by omega) (by omega)) (oa (ol rfl (Ty.le.refl _)) (oa (ol rfl (Ty.le.refl _)) oa0))) rfl ?_
    refine kM rfl rfl ?_
    refine kO (T_extract rfl rfl rfl) rfl ?_
    refine kO (T_extract rfl rfl rfl) rfl ?_
    refine kA rfl rfl ?_
    refine kE ?_
    refine JS_seq ?_
    refine JS_seq ?_
    -- region 6
    refine sR ?_
    refine kM rfl rfl ?_
    refine kO (T_seq rfl (ol rfl (Ty.le.refl _)) (ol rfl (val_str [49]))) rfl ?_
    refine kE ?_
    refine JS_if rfl (fun c27 => ?_) (fun c27 => ?_)
    · refine JS_seq ?_
      -- region 7
      refine sR ?_
      refine kM rfl rfl ?_
      refine kA rfl rfl ?_
      refine kE ?_
      exact JS_ret (JE_ret_one rfl rfl (.tmp rfl .nil) ((of_eq (by rw [make_text hb0, if_pos (dec_49.1 c27)]))))
    · refine JS_skip ?_
      refine JS_seq ?_
      -- region 8
      refine sR ?_
      refine kM rfl rfl ?_
      refine kO (T_sadd rfl (ol rfl (Ty.le.refl _)) (ol rfl (val_str [47])) (by simp only [List.length_cons, List.length_nil, maxLen]; omega)) rfl ?_
      refine kM rfl rfl ?_
      refine kO (T_sadd rfl (ol rfl (Ty.le.refl _)) (ol rfl (Ty.le.refl _)) (by simp only [List.length_append, List.length_cons, List.length_nil, maxLen]; omega)) rfl ?_
      refine kA rfl rfl ?_
      refine kE ?_
      exact JS_ret (JE_ret_one rfl rfl (.tmp rfl .nil) ((of_eq (by rw [make_text hb0, if_neg (fun e => c27 (dec_49.2 e)), List.append_assoc]; rfl))))

theorem en58 : Enters Tryz.prog 58 := enters_fn Tryz.func58 (by kernel_rfl) rfl

theorem w38 {n d : Nat} (hn : n < 1000000000) (hd : d < 1000000000) (hd0 : 0 < d) : Spec CC 38 [Ty.val (.int .i64 (n : Int)), Ty.val (.int .i64 (d : Int))] (Ty.of Kd.str (qtext (Rat.divInt n d))) := by
  refine spec_of_JS Tryz.func38 rfl (Nat.le_of_ble_eq_true rfl) (fun gh0 wd0 => ?_)
  refine JS_seq ?_
  -- region 0
  refine sR ?_
  refine kO (T_sub (T_move (.inr rfl) rfl) (val_str [])) rfl ?_
  refine kE ?_
  refine JS_seq ?_
  -- region 1
  refine sR ?_
  refine kM rfl rfl ?_
  refine kO (T_callL rfl en59 (w59 (by omega) (by omega)) (oa (ol rfl (Ty.le.refl _)) oa0)) rfl ?_
  refine kM rfl rfl ?_
  refine kO (T_callL rfl en59 (w59 (by omega) (by omega)) (oa (ol rfl (Ty.le.refl _)) oa0)) rfl ?_
  refine kO (T_callL rfl en58 (w58 (a := n) (b := d) hn hd hd0) (oa (ol rfl (Ty.le.refl _)) (oa (ol rfl (Ty.le.refl _)) oa0))) rfl ?_
  refine kA rfl rfl ?_
  refine kE ?_
  exact JS_ret (JE_ret_one rfl rfl (.tmp rfl .nil) (of_eq (rfl)))

theorem w9 {a b : List (List UInt8)} (ha : a.length ≤ 1000000) (hb : b.length ≤ 1000000) : Spec CC 9 [Ty.of (Kd.slice Kd.str) a, Ty.of (Kd.slice Kd.str) b] (Ty.val (.bool (decide (a = b)))) := by
  refine spec_of_JS Tryz.func9 rfl (Nat.le_of_ble_eq_true rfl) (fun gh0 wd0 => ?_)
  refine JS_bound (s := 0) rfl (fun b0 => ?_)
  refine JS_bound (s := 1) rfl (fun b1 => ?_)
  unfold maxLen at b0 b1
  refine JS_seq ?_
  -- region 0
  refine sR ?_
  refine kA rfl rfl ?_
  refine kE ?_
  refine JS_seq ?_
  refine JS_seq ?_
  -- region 1
  refine sR ?_
  refine kM rfl rfl ?_
  refine kO (T_len_slice rfl rfl u35 rfl) rfl ?_
  refine kM rfl rfl ?_
  refine kO (T_len_slice rfl rfl u35 rfl) rfl ?_
  refine kO (T_ne rfl rfl rfl) rfl ?_
  refine kE ?_
  refine JS_if rfl (fun c10 => ?_) (fun c10 => ?_)
  · refine JS_seq ?_
    -- region 2
    refine sR ?_
    refine kA rfl rfl ?_
    refine kE ?_
    exact JS_ret (JE_ret_one rfl rfl (.tmp rfl .nil) ((bool_eq (by simp; intro e; exact c10 (by rw [e])))))
  · refine JS_skip ?_
    refine JS_seq ?_
    refine JS_seq ?_
    -- region 3
    refine sR ?_
    refine kA rfl rfl ?_
    refine kE ?_
    refine JS_block ?_
    refine sLoop1 (fun (i : Nat) => [(5, Ty.val (.int .i64 (i : Int)))]) [0, 1] (fun (i : Nat) => []) (fun (i : Nat) => i ≤ a.length ∧ a.take i = b.take i) (fun (i : Nat) => a.length - i) 0 (⟨Nat.zero_le _, rfl⟩) rfl (EnvSub.consLe rfl (int_eq (rfl)) (EnvSub.nil _)) (fun i (hI : i ≤ a.length ∧ a.take i = b.take i) => ?_)
    obtain ⟨i1, i2⟩ := hI
    refine JS_seq ?_
    refine JS_seq ?_
    -- region 4
    refine sR ?_
    refine kM rfl rfl ?_
    refine kM rfl rfl ?_
    refine kO (T_len_slice rfl rfl u35 rfl) rfl ?_
    refine kO (T_lt rfl rfl rfl) rfl ?_
    refine kE ?_
    refine JS_if rfl (fun c14 => ?_) (fun c14 => ?_)
    · refine JS_skip ?_
      refine JS_seq ?_
      refine JS_block ?_
      refine JS_seq ?_
      -- region 6
      refine sRD mixed ?_
      refine kM rfl rfl ?_
      refine kM rfl rfl ?_
      refine kO (T_ix rfl rfl rfl u35 ti43 (by omega) (by omega) rfl) rfl ?_
      refine kO (T_ld rfl rfl ti43) rfl ?_
      refine kM rfl rfl ?_
      refine kM rfl rfl ?_
      refine kO (T_ix rfl rfl rfl u35 ti43 (by omega) (by omega) rfl) rfl ?_
      refine kO (T_ld rfl rfl ti43) rfl ?_
      refine kO (T_sne rfl (ol rfl (Ty.le.refl _)) (ol rfl (Ty.le.refl _))) rfl ?_
      refine kD (by decide) ?_
      refine JS_if rfl (fun c25 => ?_) (fun c25 => ?_)
      · refine JS_seq ?_
        -- region 7
        refine sR ?_
        refine kA rfl rfl ?_
        refine kE ?_
        exact JS_ret (JE_inB_ret (JE_loop_ret (JE_inB_ret (JE_ret_one rfl rfl (.tmp rfl .nil) ((bool_eq (by simp; intro e; subst e; exact c25 rfl)))))))
      · refine JS_skip ?_
        refine JS_end_inB ?_
        -- region 5
        refine sR ?_
        refine kM rfl rfl ?_
        refine kO (T_add rfl rfl rfl (wrap_i64 (by omega) (by omega))) rfl ?_
        refine kA rfl rfl ?_
        refine kE ?_
        exact JS_round (i + 1) (⟨by omega, by rw [List.take_succ_eq_append_getElem (by omega), List.take_succ_eq_append_getElem (by omega), i2]; have := Classical.not_not.1 c25; rw [toNat_get, toNat_get] at this; rw [this]⟩) ((by omega)) rfl (EnvSub.consLe rfl (int_eq (rfl)) (EnvSub.pick1 rfl (EnvSub.pick1 rfl (EnvSub.nil _))))
    · refine JS_exit (JE_loop_exit (JE_inB_here ?_))
      refine JS_seq ?_
      -- region 8
      refine sR ?_
      refine kA rfl rfl ?_
      refine kE ?_
      exact JS_ret (JE_ret_one rfl rfl (.tmp rfl .nil) ((bool_eq (by simp; rw [show i = a.length by omega, List.take_length, show a.length = b.length by omega, List.take_length] at i2; exact i2))))

end Go.Proofs.YtknflgfkhkdomaaGreatDoor.Mono

/-! MonoL -/
set_option linter.unusedVariables false
set_option linter.unusedSimpArgs false
namespace Go.Proofs.YtknflgfkhkdomaaGreatDoor.Mono
open Go Go.RowKit

/-! ### Calls of known function values -/
section calls
variable {F : Fr} {Q : Post} {Γ : Env} {Δ : List Res} {cs : List Code} {ops : Array Oper} {o : Oper} {l : List Oper} {C : Ctx}
open Go.RowKit in
theorem tyAll_append {m : GH} : ∀ {Ts Us : List Ty} {vs us : List Value}, TyAll m Ts vs → TyAll m Us us → TyAll m (Ts ++ Us) (vs ++ us)
  | [], _, [], _, _, h => h
  | _ :: _, _, _ :: _, _, h, h' => ⟨h.1, tyAll_append h.2 h'⟩
  | [], _, _ :: _, _, h, _ => h.elim
  | _ :: _, _, [], _, h, _ => h.elim
theorem tyAll_vals {m : GH} : ∀ (vs : List Value), TyAll m (vs.map Ty.val) vs
  | [] => trivial
  | _ :: vs => ⟨rfl, tyAll_vals vs⟩
theorem JT_callvM {f : FuncId} {cap : List Value} {x : Operand} {xs : Array Operand} {ts : Array TypeId} {ins : List Ty} {Δin Δr : List Res} {Y : Type} {out : Y → Ty} {Δout : Y → List Res} (ho : o.op = .call { callee := .value x, args := xs, argTypes := ts }) (hw : Wanted Γ ops o true) (hd : dstOk F.N o.dst = true)
    (hv : Opd Γ x (Ty.val (.func (.func f) #[] cap.toArray))) (he : Enters F.C.P f) (hf : SpecM F.C f (ins ++ cap.map Ty.val) Δin out Δout) (hx : OpdAllLe Γ xs.toList ins) (hΔ : Δ = Δin ++ Δr) (h : ∀ y, JT F Q cs ops (Env.put Γ o.dst (out y)) (Δout y ++ Δr) l) : JT F Q cs ops Γ Δ (o :: l) := by
  subst hΔ
  intro m w a hs
  simp only [runOps]
  rw [if_pos (hs.wanted hw)]
  refine ⟨fun f _ => FW_fn _ f, ?_⟩
  rw [Oper.semAt_plain _ _ _ (by simp [ho])]
  have hargs := hx.p (hs.typed xs.toList)
  have hval : a.eval x = .func (.func f) #[] cap.toArray := hv.p (hs.typed [x]) (by simp)
  have hr : (execOp a.eval o).run F.C.P w = .ok (.enter f (#[] ++ xs.map a.eval ++ cap.toArray)) w := by
    have := run_call (C := F.C) (ρ := a.eval) (c := { callee := .value x, args := xs, argTypes := ts }) (ty := o.type) (x := x) rfl hval he w
    simpa [execOp, ho] using this
  rw [hr]
  refine ⟨fun hd => by rw [FW_depth] at hd; simp at hd, FW_calls ((hf m w _ hs.sat hs.g (by simpa using tyAll_append hargs (tyAll_vals cap)) hs.ownIn).mono ?_)⟩
  rintro e w' ⟨v, m', rfl, h1, h2, y, h3, h4, h5⟩
  exact h y m' w' _ (hs.call_step hd h3 h1 h2 h4 h5)
theorem JT_callvM1 {f : FuncId} {cap : List Value} {x : Operand} {xs : Array Operand} {ts : Array TypeId} {ins : List Ty} {r : Res} {i : Nat} {Y : Type} {out : Y → Ty} {Δout : Y → List Res} (ho : o.op = .call { callee := .value x, args := xs, argTypes := ts }) (hw : Wanted Γ ops o true) (hd : dstOk F.N o.dst = true)
    (hv : Opd Γ x (Ty.val (.func (.func f) #[] cap.toArray))) (he : Enters F.C.P f) (hi : Δ[i]? = some r) (hf : SpecM F.C f (ins ++ cap.map Ty.val) [r] out Δout) (hx : OpdAllLe Γ xs.toList ins) (h : ∀ y, JT F Q cs ops (Env.put Γ o.dst (out y)) (Δout y ++ Δ.eraseIdx i) l) : JT F Q cs ops Γ Δ (o :: l) :=
  JT_perm (perm_front hi) (JT_callvM ho hw hd hv he hf hx (Δin := [r]) (Δr := Δ.eraseIdx i) rfl h)
theorem specM_of_JSM {f : FuncId} {fn : Func} {b : Code} {ins : List Ty} {Δin : List Res} {Y : Type} {out : Y → Ty} {Δout : Y → List Res} (hf : C.P.funcs[f]? = some fn) (hb : fn.body = some b) (hsz : ins.length ≤ fn.ntmps)
    (h : ∀ m w, JS { C, S := fps Δin, m0 := m, w0 := w, N := fn.ntmps, D := [], r := none } (retQM { C, S := fps Δin, m0 := m, w0 := w, N := fn.ntmps, D := [], r := none } fn (ownOut out Δout (fps Δin) w.heap.size)) (entry 0 ins) Δin [b]) : SpecM C f ins Δin out Δout := by
  intro m w args hs hg ht ho
  have hlen : args.size = ins.length := by
    have : ∀ (Ts : List Ty) (vs : List Value), TyAll m Ts vs → vs.length = Ts.length := by
      intro Ts
      induction Ts with
      | nil => intro vs h; cases vs with
        | nil => rfl
        | cons _ _ => exact h.elim
      | cons T Ts ih => intro vs h; cases vs with
        | nil => exact h.elim
        | cons v vs => simp [ih vs h.2]
    simpa using this ins args.toList ht
  exact calls_of_JSM hf hb (by omega) hs hg ht ho.own ho.apart ho.disj (fun r hr k hk => mem_fps.2 ⟨r, hr, hk⟩) (h m w)
/-- A result that lies in a block of its own. -/
theorem JE_retMx {fn : Func} {Y : Type} {out : Y → Ty} {Δout : Y → List Res} {S : List Nat} {n : Nat} {r : ResultVar} {T : Ty} {j : Nat} (y : Y) (hΔ : Δout y = Δ.eraseIdx j) (hr : fn.results = #[r]) (h : ResAll F.C.P Γ Δ [r] [T]) (hle : Ty.le T (out y)) (hS : F.S = S) (hn0 : F.w0.heap.size = n) (hD : F.D = []) : JE F (retQ F fn (ownOut out Δout S n)) Γ Δ .ret := fun m w a hs => by
  obtain ⟨vs, h1, h2, h3⟩ := h.run hs
  match vs, h2, h3 with
  | [v], h2, _ =>
    have hd := hs.drop (i := j)
    refine ⟨hs.defers.trans hD, m, v, ?_, hs.sat, hs.ext, y, hle _ _ h2.1, hΔ ▸ ⟨hd.own, hd.apart, hd.disj⟩, fun k hk => ?_⟩
    · rw [results_eq, Array.mapM_eq_mapM_toList, hr]
      simp only [Sem.run_bind, Sem.run_map, h1, Result.andThen_ok, Sem.run_pure]
      simp
    · rw [hΔ] at hk
      obtain ⟨r, hr, hkr⟩ := mem_fps.1 hk
      rw [← hS, ← hn0]; exact hd.mine r hr k hkr
/-- A pure function called where a block is one's own. -/
theorem Spec.toM {f : FuncId} {ins : List Ty} {T : Ty} (h : Spec C f ins T) : SpecM C f ins [] (fun (_ : Unit) => T) (fun _ => []) := fun m w args h1 h2 h3 _ =>
  Calls.mono (h m w args h1 h2 h3) fun e w' ⟨v, m', g1, g2, g3, g4⟩ => ⟨v, m', g1, g2, g3, (), g4, OwnOk.mk (fun r hr => by cases hr) (fun r hr => by cases hr) (fun i j r s hi => by simp at hi), fun k hk => by simp [fps] at hk⟩
end calls

/-- make, said once for all. -/
theorem T_make {C : Ctx} {Δ : List Res} {Γ : Env} {o : Oper} {t e : TypeId} {x y : Operand} {k k' : IntKind} {n c : Int} {size bytes : Nat} {z : Value} {α : Type} {K : Kd α} {z0 : α} (ho : o.op = .makeSlice t x y)
    (hu : C.P.underlying t = some (.slice e)) (hei : EI C.P e size bytes z) (hsz : K.sz = size) (hpos : z.cells.toList ≠ []) (hz : ∀ m, K.K m z0 z.cells.toList) (hx : Opd Γ x (Ty.val (.int k n))) (hy : Opd Γ y (Ty.val (.int k' c)))
    (h0 : 0 ≤ n) (hle : n ≤ c) (hb : (bytes : Int) * c ≤ 281474976710656) (hc : c ≤ 9223372036854775807) : TOp C Δ Γ o (Ty.of (Kd.slice K) (List.replicate n.toNat z0)) := by
  intro m w a hsat _ _ _ htt
  obtain ⟨i, hi, hi1, hi2, hi3⟩ := hei.spec
  have h1 : a.eval x = .int k n := hx.p htt (by simp [ho, Op.operands])
  have h2 : a.eval y = .int k' c := hy.p htt (by simp [ho, Op.operands])
  have hr := run_make (P := C.P) w t e i z hu hi hi3 k k' n c h0 hle (by rw [hi2]; exact hb) hc
  have hzl : z.cells.toList.length = size := by rw [← hsz]; exact K.len (hz m)
  have hmade : (madeCells z.cells (c.toNat * i.size)).toList = (List.replicate c.toNat z.cells.toList).flatten := by
    have := made_flatten z.cells.toList hpos c.toNat
    rw [← this, hzl, hi1]
    simp [madeCells]
  refine ⟨by simp [ho], .inl ⟨.slice (some ⟨w.heap.size, 0, none⟩) n.toNat c.toNat, m.lay w.heap.size (.cells (madeCells z.cells (c.toNat * i.size)) e), w.alloc (.cells (madeCells z.cells (c.toNat * i.size)) e), ?_, ?_, ?_, ?_⟩⟩
  · simp only [execOp, ho, h1, h2, Sem.run_bind, hr, Result.andThen_ok, Sem.run_pure]
  · have := Ext.lay hsat (.cells (madeCells z.cells (c.toNat * i.size)) e)
    exact this
  · have := Sat.lay hsat (.cells (madeCells z.cells (c.toNat * i.size)) e)
    exact this
  · have e2 : List.replicate c.toNat z.cells.toList = List.replicate n.toNat z.cells.toList ++ List.replicate (c.toNat - n.toNat) z.cells.toList := by
      rw [List.replicate_append_replicate]; congr 1; omega
    refine ⟨[_], ⟨_, rfl, some ⟨w.heap.size, 0, none⟩, c.toNat, by simp, by simp; omega, by unfold maxLen; omega, .inr ⟨w.heap.size, 0, (List.replicate n.toNat z.cells.toList).flatten, rfl, ⟨_, _, _, [], (List.replicate (c.toNat - n.toNat) z.cells.toList).flatten, GH.lay_same _ _ _, ?_, rfl⟩, Reps.replicate (hz _) _⟩⟩, rfl⟩
    rw [hmade, e2, List.flatten_append, List.nil_append]

/-! ### Models -/
structure Br where
  to : Nat
  p : Rat
structure Ch where
  act : List UInt8
  gain : Rat
  next : List Br
structure Mo where
  owner : List Int
  choices : List (List Ch)
abbrev Kd.br : Kd Br := Kd.st (fun b => [Seg.of (Kd.int .i64) (b.to : Int), Seg.of Kd.str (qtext b.p)]) 2 (fun _ => rfl)
abbrev Kd.ch : Kd Ch := Kd.st (fun c => [Seg.of Kd.str c.act, Seg.of Kd.str (qtext c.gain), Seg.of (Kd.slice Kd.br) c.next]) 3 (fun _ => rfl)
abbrev Kd.mo : Kd Mo := Kd.st (fun m => [Seg.of (Kd.slice (Kd.int .i64)) m.owner, Seg.of (Kd.slice (Kd.slice Kd.ch)) m.choices]) 2 (fun _ => rfl)
theorem br_mk {t : Int} {s : List UInt8} (b : Br) (ht : t = (b.to : Int)) (hs : s = qtext b.p) : Ty.le (Ty.seg (Seg.cat [Seg.of (Kd.int .i64) t, Seg.of Kd.str s])) (Ty.of Kd.br b) := by subst ht; subst hs; exact st_mk b rfl
theorem ch_mk {a g : List UInt8} {n : List Br} (c : Ch) (ha : a = c.act) (hg : g = qtext c.gain) (hn : n = c.next) : Ty.le (Ty.seg (Seg.cat [Seg.of Kd.str a, Seg.of Kd.str g, Seg.of (Kd.slice Kd.br) n])) (Ty.of Kd.ch c) := by subst ha; subst hg; subst hn; exact st_mk c rfl
theorem mo_mk {o : List Int} {c : List (List Ch)} (m : Mo) (ho : o = m.owner) (hc : c = m.choices) : Ty.le (Ty.seg (Seg.cat [Seg.of (Kd.slice (Kd.int .i64)) o, Seg.of (Kd.slice (Kd.slice Kd.ch)) c])) (Ty.of Kd.mo m) := by subst ho; subst hc; exact st_mk m rfl
theorem z_mo : ∀ m, (Seg.of Kd.mo ⟨[], []⟩).p m [.slice none 0 0, .slice none 0 0] := fun m => ⟨[_], _, rfl, z_slice _ m, [_], _, rfl, z_slice _ m, rfl⟩

theorem qtext_0 : qtext 0 = [48] := by unfold qtext; rw [if_pos (show (0 : Rat).den = 1 from rfl)]; exact itoa_zero
theorem qtext_1 : qtext 1 = [49] := by unfold qtext; rw [if_pos (show (1 : Rat).den = 1 from rfl)]; show Lib.itoa 1 = _; rw [itoa_nn (by decide)]; exact dec_small (by decide)
theorem qtext_inj {x y : Rat} (h : qtext x = qtext y) : x = y := by
  have h1 := cut_qtext x
  have h2 := cut_qtext y
  rw [h] at h1
  rw [h1] at h2
  have hi : ∀ {a b : Int}, Lib.itoa a = Lib.itoa b → a = b := fun {a b} e => by
    by_cases ha : a < 0 <;> by_cases hb : b < 0
    · rw [itoa_neg ha, itoa_neg hb] at e
      have := dec_inj (List.cons.inj e).2; omega
    · rw [itoa_neg ha, itoa_nn (by omega)] at e
      have hd := dec_digs b.natAbs 45 (by rw [← e]; simp)
      exact absurd hd.1 (by decide)
    · rw [itoa_nn (by omega), itoa_neg hb] at e
      have hd := dec_digs a.natAbs 45 (by rw [e]; simp)
      exact absurd hd.1 (by decide)
    · rw [itoa_nn (by omega), itoa_nn (by omega)] at e
      have := dec_inj e; omega
  by_cases hx : x.den = 1 <;> by_cases hy : y.den = 1
  · rw [if_pos hx, if_pos hy] at h2
    exact Rat.ext (hi (Prod.mk.inj h2).1) (by omega)
  · rw [if_pos hx, if_neg hy] at h2
    simp at h2
  · rw [if_neg hx, if_pos hy] at h2
    simp at h2
  · rw [if_neg hx, if_neg hy] at h2
    simp only [Prod.mk.injEq] at h2
    exact Rat.ext (hi h2.1) (dec_inj h2.2.1)

def sumQ (l : List Rat) : Rat := l.foldl (· + ·) 0
/-- A right choice of a model with n states; G: a number that all denominators of probabilities divide, H: the gains'. -/
structure CM (n G H : Nat) (c : Ch) : Prop where
  act : c.act.length ≤ 8 ∧ ∀ b ∈ c.act, 97 ≤ b.toNat ∧ b.toNat ≤ 122
  gain : Dz 4 c.gain ∧ 0 ≤ c.gain.num ∧ c.gain.den ∣ H
  next : ∀ b ∈ c.next, b.to < n ∧ Dz 4 b.p ∧ 0 < b.p.num ∧ b.p.den ∣ G
  sorted : ∀ i, i + 1 < c.next.length → (c.next.map (·.to)).getD i 0 < (c.next.map (·.to)).getD (i + 1) 0
  len : c.next.length ≤ n
  sum : sumQ (c.next.map (·.p)) = 1
/-- A right process. -/
structure GM (m : Mo) : Prop where
  n0 : 1 ≤ m.owner.length
  n1 : m.owner.length ≤ 12
  same : m.choices.length = m.owner.length
  own : ∀ o ∈ m.owner, o = 0
  some_ : ∀ l ∈ m.choices, 1 ≤ l.length ∧ l.length ≤ 4
  grain : ∃ G H : Nat, 1 ≤ G ∧ G ≤ 9999 ∧ 1 ≤ H ∧ H ≤ 9999 ∧ ∀ l ∈ m.choices, ∀ c ∈ l, CM m.owner.length G H c
end Go.Proofs.YtknflgfkhkdomaaGreatDoor.Mono

/-! WkP -/
set_option linter.unusedVariables false
set_option linter.unusedSimpArgs false
set_option maxRecDepth 4000
set_option maxHeartbeats 4000000
namespace Go.Proofs.YtknflgfkhkdomaaGreatDoor.Mono
open Go Go.RowKit

def idxF {α : Type} (p : α → Bool) (xs : List α) : Int := match xs.findIdx? p with
  | some i => (i : Int)
  | none => -1
theorem idxF_at {α : Type} {p : α → Bool} {xs : List α} {i : Nat} (h : i < xs.length) (hp : p xs[i] = true) (hb : ∀ j (hj : j < xs.length), j < i → p xs[j] = false) : idxF p xs = i := by
  unfold idxF
  rw [List.findIdx?_eq_some_iff_getElem.2 ⟨h, hp, fun j hj => by simp [hb j (by omega) hj]⟩]
theorem idxF_none {α : Type} {p : α → Bool} {xs : List α} (hb : ∀ j (hj : j < xs.length), p xs[j] = false) : idxF p xs = -1 := by
  unfold idxF
  rw [List.findIdx?_eq_none_iff.2 (fun x hx => by obtain ⟨j, hj, rfl⟩ := List.getElem_of_mem hx; exact hb j hj)]
theorem idxF_any {α : Type} (p : α → Bool) (xs : List α) : decide (0 ≤ idxF p xs) = xs.any p := by
  by_cases h : ∃ x ∈ xs, p x = true
  · have h2 : xs.any p = true := List.any_eq_true.2 h
    unfold idxF
    cases e : xs.findIdx? p with
    | none => obtain ⟨x, hx, hp⟩ := h; rw [List.findIdx?_eq_none_iff.1 e x hx] at hp; cases hp
    | some i => rw [h2]; exact decide_eq_true (by show (0 : Int) ≤ i; omega)
  · have h2 : xs.any p = false := by
      rw [Bool.eq_false_iff]; intro e; exact h (List.any_eq_true.1 e)
    rw [h2, idxF_none (fun j hj => by rw [Bool.eq_false_iff]; intro e; exact h ⟨_, List.getElem_mem hj, e⟩)]; rfl
theorem hit_step {α : Type} {p : α → Bool} {xs : List α} {i : Nat} (hi : i < xs.length) (h : ∀ j (hj : j < xs.length), j < i → p xs[j] = false) (hp : p xs[i] = false) : ∀ j (hj : j < xs.length), j < i + 1 → p xs[j] = false := fun j hj hlt => by
  by_cases e : j = i
  · subst e; exact hp
  · exact h j hj (by omega)

theorem u28 : Tryz.prog.underlying 28 = some (.slice 65) := by kernel_rfl

theorem ti65 : TI Tryz.prog 65 false 1 := ⟨by kernel_rfl, by kernel_rfl⟩

theorem w117 {xs : List (List Ch)} {p : List Ch → Bool} : Spec CC 117 [Ty.of (Kd.slice (Kd.slice Kd.ch)) xs, Ty.fn CC (X := { x : List Ch // x ∈ xs }) (fun x => [Ty.of (Kd.slice Kd.ch) x.1]) (fun x => Ty.val (.bool (p x.1)))] (Ty.val (.int .i64 (idxF p xs))) := by
  refine spec_of_JS Tryz.func117 rfl (Nat.le_of_ble_eq_true rfl) (fun gh0 wd0 => ?_)
  refine JS_bound (s := 0) rfl (fun b0 => ?_)
  unfold maxLen at b0
  refine JS_seq ?_
  -- region 0
  refine sR ?_
  refine kA rfl rfl ?_
  refine kE ?_
  refine JS_seq ?_
  refine JS_seq ?_
  -- region 1
  refine sR ?_
  refine kM rfl rfl ?_
  refine kO (T_len_slice rfl rfl u28 rfl) rfl ?_
  refine kM rfl rfl ?_
  refine kE ?_
  refine JS_block ?_
  refine sLoop1 (fun (i : Nat) => [(8, Ty.val (.int .i64 (i : Int)))]) [0, 1, 7] (fun (i : Nat) => []) (fun (i : Nat) => i ≤ xs.length ∧ ∀ j (hj : j < xs.length), j < i → p xs[j] = false) (fun (i : Nat) => xs.length - i) 0 (⟨Nat.zero_le _, fun j _ h => absurd h (by omega)⟩) rfl (EnvSub.consLe rfl (int_eq (rfl)) (EnvSub.nil _)) (fun i (hI : i ≤ xs.length ∧ ∀ j (hj : j < xs.length), j < i → p xs[j] = false) => ?_)
  obtain ⟨i1, i2⟩ := hI
  refine JS_seq ?_
  -- region 2
  refine sR ?_
  refine kO (T_lt rfl rfl rfl) rfl ?_
  refine kE ?_
  refine JS_seq ?_
  refine JS_if rfl (fun c9 => ?_) (fun c9 => ?_)
  · refine JS_skip ?_
    refine JS_seq ?_
    refine JS_block ?_
    refine JS_seq ?_
    -- region 3
    refine sR ?_
    refine kM rfl rfl ?_
    refine kA rfl rfl ?_
    refine kE ?_
    refine JS_seq ?_
    -- region 4
    refine sR ?_
    refine kM rfl rfl ?_
    refine kM rfl rfl ?_
    refine kM rfl rfl ?_
    refine kO (T_ix rfl rfl rfl u28 ti65 (by omega) (by omega) rfl) rfl ?_
    refine kO (T_ld rfl rfl ti65) rfl ?_
    refine kO (T_callvL (⟨xs[((i : Int)).toNat]'(by omega), List.getElem_mem _⟩ : { x : List Ch // x ∈ xs }) rfl rfl (oa (ol rfl (Ty.le.refl _)) oa0)) rfl ?_
    refine kE ?_
    refine JS_cond rfl (fun c16 => ?_) (fun c16 => ?_)
    · refine JS_seq ?_
      -- region 5
      refine sR ?_
      refine kM rfl rfl ?_
      refine kA rfl rfl ?_
      refine kE ?_
      exact JS_ret (JE_inB_ret (JE_loop_ret (JE_inB_ret (JE_ret_one rfl rfl (.tmp rfl .nil) ((int_eq ((idxF_at (by omega) (by rw [← toNat_get (l := xs) (i := i) (by omega)]; exact c16) i2).symm)))))))
    · refine JS_skip ?_
      refine JS_end_inB ?_
      -- region 6
      refine sR ?_
      refine kO (T_add rfl rfl rfl (wrap_i64 (by omega) (by omega))) rfl ?_
      refine kM rfl rfl ?_
      refine kE ?_
      exact JS_round (i + 1) (⟨by omega, hit_step (by omega) i2 (by rw [← toNat_get (l := xs) (i := i) (by omega)]; exact c16)⟩) ((by omega)) rfl (EnvSub.consLe rfl (int_eq (rfl)) (EnvSub.pick1 rfl (EnvSub.pick1 rfl (EnvSub.pick1 rfl (EnvSub.nil _)))))
  · refine JS_exit (JE_loop_exit (JE_inB_here ?_))
    refine JS_seq ?_
    -- region 7
    refine sR ?_
    refine kA rfl rfl ?_
    refine kE ?_
    exact JS_ret (JE_ret_one rfl rfl (.tmp rfl .nil) ((int_eq ((idxF_none (fun j hj => i2 j hj (by omega))).symm))))

theorem en117 : Enters Tryz.prog 117 := enters_fn Tryz.func117 (by kernel_rfl) rfl

theorem w86 {xs : List (List Ch)} {p : List Ch → Bool} : Spec CC 86 [Ty.of (Kd.slice (Kd.slice Kd.ch)) xs, Ty.fn CC (X := { x : List Ch // x ∈ xs }) (fun x => [Ty.of (Kd.slice Kd.ch) x.1]) (fun x => Ty.val (.bool (p x.1)))] (Ty.val (.bool (xs.any p))) := by
  refine spec_of_JS Tryz.func86 rfl (Nat.le_of_ble_eq_true rfl) (fun gh0 wd0 => ?_)
  refine JS_bound (s := 0) rfl (fun b0 => ?_)
  unfold maxLen at b0
  refine JS_seq ?_
  -- region 0
  refine sR ?_
  refine kA rfl rfl ?_
  refine kE ?_
  refine JS_seq ?_
  -- region 1
  refine sR ?_
  refine kM rfl rfl ?_
  refine kM rfl rfl ?_
  refine kO (T_callL rfl en117 (w117 ) (oa (ol rfl (Ty.le.refl _)) (oa (ol rfl (Ty.le.refl _)) oa0))) rfl ?_
  refine kO (T_ge rfl rfl rfl) rfl ?_
  refine kA rfl rfl ?_
  refine kE ?_
  exact JS_ret (JE_ret_one rfl rfl (.tmp rfl .nil) (bool_eq (idxF_any p xs)))

theorem u27 : Tryz.prog.underlying 27 = some (.slice 3) := by kernel_rfl

theorem w118 {xs : List (Int)} {p : Int → Bool} : Spec CC 118 [Ty.of (Kd.slice (Kd.int .i64)) xs, Ty.fn CC (X := { x : Int // x ∈ xs }) (fun x => [Ty.val (.int .i64 x.1)]) (fun x => Ty.val (.bool (p x.1)))] (Ty.val (.int .i64 (idxF p xs))) := by
  refine spec_of_JS Tryz.func118 rfl (Nat.le_of_ble_eq_true rfl) (fun gh0 wd0 => ?_)
  refine JS_bound (s := 0) rfl (fun b0 => ?_)
  unfold maxLen at b0
  refine JS_seq ?_
  -- region 0
  refine sR ?_
  refine kA rfl rfl ?_
  refine kE ?_
  refine JS_seq ?_
  refine JS_seq ?_
  -- region 1
  refine sR ?_
  refine kM rfl rfl ?_
  refine kO (T_len_slice rfl rfl u27 rfl) rfl ?_
  refine kM rfl rfl ?_
  refine kE ?_
  refine JS_block ?_
  refine sLoop1 (fun (i : Nat) => [(8, Ty.val (.int .i64 (i : Int)))]) [0, 1, 7] (fun (i : Nat) => []) (fun (i : Nat) => i ≤ xs.length ∧ ∀ j (hj : j < xs.length), j < i → p xs[j] = false) (fun (i : Nat) => xs.length - i) 0 (⟨Nat.zero_le _, fun j _ h => absurd h (by omega)⟩) rfl (EnvSub.consLe rfl (int_eq (rfl)) (EnvSub.nil _)) (fun i (hI : i ≤ xs.length ∧ ∀ j (hj : j < xs.length), j < i → p xs[j] = false) => ?_)
  obtain ⟨i1, i2⟩ := hI
  refine JS_seq ?_
  -- region 2
  refine sR ?_
  refine kO (T_lt rfl rfl rfl) rfl ?_
  refine kE ?_
  refine JS_seq ?_
  refine JS_if rfl (fun c9 => ?_) (fun c9 => ?_)
  · refine JS_skip ?_
    refine JS_seq ?_
    refine JS_block ?_
    refine JS_seq ?_
    -- region 3
    refine sR ?_
    refine kM rfl rfl ?_
    refine kA rfl rfl ?_
    refine kE ?_
    refine JS_seq ?_
    -- region 4
    refine sR ?_
    refine kM rfl rfl ?_
    refine kM rfl rfl ?_
    refine kM rfl rfl ?_
    refine kO (T_ix rfl rfl rfl u27 ti3 (by omega) (by omega) rfl) rfl ?_
    refine kO (T_load_int rfl ti3 rfl) rfl ?_
    refine kO (T_callvL (⟨xs[((i : Int)).toNat]'(by omega), List.getElem_mem _⟩ : { x : Int // x ∈ xs }) rfl rfl (oa (ol rfl (Ty.le.refl _)) oa0)) rfl ?_
    refine kE ?_
    refine JS_cond rfl (fun c16 => ?_) (fun c16 => ?_)
    · refine JS_seq ?_
      -- region 5
      refine sR ?_
      refine kM rfl rfl ?_
      refine kA rfl rfl ?_
      refine kE ?_
      exact JS_ret (JE_inB_ret (JE_loop_ret (JE_inB_ret (JE_ret_one rfl rfl (.tmp rfl .nil) ((int_eq ((idxF_at (by omega) (by rw [← toNat_get (l := xs) (i := i) (by omega)]; exact c16) i2).symm)))))))
    · refine JS_skip ?_
      refine JS_end_inB ?_
      -- region 6
      refine sR ?_
      refine kO (T_add rfl rfl rfl (wrap_i64 (by omega) (by omega))) rfl ?_
      refine kM rfl rfl ?_
      refine kE ?_
      exact JS_round (i + 1) (⟨by omega, hit_step (by omega) i2 (by rw [← toNat_get (l := xs) (i := i) (by omega)]; exact c16)⟩) ((by omega)) rfl (EnvSub.consLe rfl (int_eq (rfl)) (EnvSub.pick1 rfl (EnvSub.pick1 rfl (EnvSub.pick1 rfl (EnvSub.nil _)))))
  · refine JS_exit (JE_loop_exit (JE_inB_here ?_))
    refine JS_seq ?_
    -- region 7
    refine sR ?_
    refine kA rfl rfl ?_
    refine kE ?_
    exact JS_ret (JE_ret_one rfl rfl (.tmp rfl .nil) ((int_eq ((idxF_none (fun j hj => i2 j hj (by omega))).symm))))

theorem en118 : Enters Tryz.prog 118 := enters_fn Tryz.func118 (by kernel_rfl) rfl

theorem w88 {xs : List (Int)} {p : Int → Bool} : Spec CC 88 [Ty.of (Kd.slice (Kd.int .i64)) xs, Ty.fn CC (X := { x : Int // x ∈ xs }) (fun x => [Ty.val (.int .i64 x.1)]) (fun x => Ty.val (.bool (p x.1)))] (Ty.val (.bool (xs.any p))) := by
  refine spec_of_JS Tryz.func88 rfl (Nat.le_of_ble_eq_true rfl) (fun gh0 wd0 => ?_)
  refine JS_bound (s := 0) rfl (fun b0 => ?_)
  unfold maxLen at b0
  refine JS_seq ?_
  -- region 0
  refine sR ?_
  refine kA rfl rfl ?_
  refine kE ?_
  refine JS_seq ?_
  -- region 1
  refine sR ?_
  refine kM rfl rfl ?_
  refine kM rfl rfl ?_
  refine kO (T_callL rfl en118 (w118 ) (oa (ol rfl (Ty.le.refl _)) (oa (ol rfl (Ty.le.refl _)) oa0))) rfl ?_
  refine kO (T_ge rfl rfl rfl) rfl ?_
  refine kA rfl rfl ?_
  refine kE ?_
  exact JS_ret (JE_ret_one rfl rfl (.tmp rfl .nil) (bool_eq (idxF_any p xs)))

theorem w120 {xs : List (UInt8)} {p : UInt8 → Bool} : Spec CC 120 [Ty.of (Kd.slice Kd.byte) xs, Ty.fn CC (X := { x : UInt8 // x ∈ xs }) (fun x => [Ty.val (.int .u8 (x.1.toNat : Int))]) (fun x => Ty.val (.bool (p x.1)))] (Ty.val (.int .i64 (idxF p xs))) := by
  refine spec_of_JS Tryz.func120 rfl (Nat.le_of_ble_eq_true rfl) (fun gh0 wd0 => ?_)
  refine JS_bound (s := 0) rfl (fun b0 => ?_)
  unfold maxLen at b0
  refine JS_seq ?_
  -- region 0
  refine sR ?_
  refine kA rfl rfl ?_
  refine kE ?_
  refine JS_seq ?_
  refine JS_seq ?_
  -- region 1
  refine sR ?_
  refine kM rfl rfl ?_
  refine kO (T_len_slice rfl rfl u131 rfl) rfl ?_
  refine kM rfl rfl ?_
  refine kE ?_
  refine JS_block ?_
  refine sLoop1 (fun (i : Nat) => [(8, Ty.val (.int .i64 (i : Int)))]) [0, 1, 7] (fun (i : Nat) => []) (fun (i : Nat) => i ≤ xs.length ∧ ∀ j (hj : j < xs.length), j < i → p xs[j] = false) (fun (i : Nat) => xs.length - i) 0 (⟨Nat.zero_le _, fun j _ h => absurd h (by omega)⟩) rfl (EnvSub.consLe rfl (int_eq (rfl)) (EnvSub.nil _)) (fun i (hI : i ≤ xs.length ∧ ∀ j (hj : j < xs.length), j < i → p xs[j] = false) => ?_)
  obtain ⟨i1, i2⟩ := hI
  refine JS_seq ?_
  -- region 2
  refine sR ?_
  refine kO (T_lt rfl rfl rfl) rfl ?_
  refine kE ?_
  refine JS_seq ?_
  refine JS_if rfl (fun c9 => ?_) (fun c9 => ?_)
  · refine JS_skip ?_
    refine JS_seq ?_
    refine JS_block ?_
    refine JS_seq ?_
    -- region 3
    refine sR ?_
    refine kM rfl rfl ?_
    refine kA rfl rfl ?_
    refine kE ?_
    refine JS_seq ?_
    -- region 4
    refine sR ?_
    refine kM rfl rfl ?_
    refine kM rfl rfl ?_
    refine kM rfl rfl ?_
    refine kO (T_ix rfl rfl rfl u131 ti5 (by omega) (by omega) rfl) rfl ?_
    refine kO (T_sub (T_ld rfl rfl ti5) (byte_val _)) rfl ?_
    refine kO (T_callvL (⟨xs[((i : Int)).toNat]'(by omega), List.getElem_mem _⟩ : { x : UInt8 // x ∈ xs }) rfl rfl (oa (ol rfl (Ty.le.refl _)) oa0)) rfl ?_
    refine kE ?_
    refine JS_cond rfl (fun c16 => ?_) (fun c16 => ?_)
    · refine JS_seq ?_
      -- region 5
      refine sR ?_
      refine kM rfl rfl ?_
      refine kA rfl rfl ?_
      refine kE ?_
      exact JS_ret (JE_inB_ret (JE_loop_ret (JE_inB_ret (JE_ret_one rfl rfl (.tmp rfl .nil) ((int_eq ((idxF_at (by omega) (by rw [← toNat_get (l := xs) (i := i) (by omega)]; exact c16) i2).symm)))))))
    · refine JS_skip ?_
      refine JS_end_inB ?_
      -- region 6
      refine sR ?_
      refine kO (T_add rfl rfl rfl (wrap_i64 (by omega) (by omega))) rfl ?_
      refine kM rfl rfl ?_
      refine kE ?_
      exact JS_round (i + 1) (⟨by omega, hit_step (by omega) i2 (by rw [← toNat_get (l := xs) (i := i) (by omega)]; exact c16)⟩) ((by omega)) rfl (EnvSub.consLe rfl (int_eq (rfl)) (EnvSub.pick1 rfl (EnvSub.pick1 rfl (EnvSub.pick1 rfl (EnvSub.nil _)))))
  · refine JS_exit (JE_loop_exit (JE_inB_here ?_))
    refine JS_seq ?_
    -- region 7
    refine sR ?_
    refine kA rfl rfl ?_
    refine kE ?_
    exact JS_ret (JE_ret_one rfl rfl (.tmp rfl .nil) ((int_eq ((idxF_none (fun j hj => i2 j hj (by omega))).symm))))

theorem en120 : Enters Tryz.prog 120 := enters_fn Tryz.func120 (by kernel_rfl) rfl

theorem w91 {xs : List (UInt8)} {p : UInt8 → Bool} : Spec CC 91 [Ty.of (Kd.slice Kd.byte) xs, Ty.fn CC (X := { x : UInt8 // x ∈ xs }) (fun x => [Ty.val (.int .u8 (x.1.toNat : Int))]) (fun x => Ty.val (.bool (p x.1)))] (Ty.val (.bool (xs.any p))) := by
  refine spec_of_JS Tryz.func91 rfl (Nat.le_of_ble_eq_true rfl) (fun gh0 wd0 => ?_)
  refine JS_bound (s := 0) rfl (fun b0 => ?_)
  unfold maxLen at b0
  refine JS_seq ?_
  -- region 0
  refine sR ?_
  refine kA rfl rfl ?_
  refine kE ?_
  refine JS_seq ?_
  -- region 1
  refine sR ?_
  refine kM rfl rfl ?_
  refine kM rfl rfl ?_
  refine kO (T_callL rfl en120 (w120 ) (oa (ol rfl (Ty.le.refl _)) (oa (ol rfl (Ty.le.refl _)) oa0))) rfl ?_
  refine kO (T_ge rfl rfl rfl) rfl ?_
  refine kA rfl rfl ?_
  refine kE ?_
  exact JS_ret (JE_ret_one rfl rfl (.tmp rfl .nil) (bool_eq (idxF_any p xs)))

theorem u65 : Tryz.prog.underlying 65 = some (.slice 60) := by kernel_rfl

theorem w87 {l : List Ch} : Spec CC 87 [Ty.of (Kd.slice Kd.ch) l] (Ty.val (.bool (decide (¬ (1 ≤ l.length ∧ l.length ≤ 4))))) := by
  refine spec_of_JS Tryz.func87 rfl (Nat.le_of_ble_eq_true rfl) (fun gh0 wd0 => ?_)
  refine JS_bound (s := 0) rfl (fun b0 => ?_)
  unfold maxLen at b0
  refine JS_seq ?_
  -- region 0
  refine sR ?_
  refine kA rfl rfl ?_
  refine kE ?_
  refine JS_seq ?_
  -- region 1
  refine sR ?_
  refine kM rfl rfl ?_
  refine kO (T_len_slice rfl rfl u65 rfl) rfl ?_
  refine kO (T_lt rfl rfl rfl) rfl ?_
  refine kM rfl rfl ?_
  refine tk_if (d := 6) rfl (fun g6 => ?_) (fun g6 => ?_)
  · refine kS (uTD g6 rfl rfl rfl) rfl ?_
    refine kS (uTD g6 rfl rfl rfl) rfl ?_
    refine kS (uTD g6 rfl rfl rfl) rfl ?_
    refine kO (T_pickD g6 rfl rfl rfl) rfl ?_
    refine kA rfl rfl ?_
    refine kE ?_
    exact JS_ret (JE_ret_one rfl rfl (.tmp rfl .nil) ((bool_eq ((decide_eq_true (by omega)).symm))))
  · refine kG (wFD g6 rfl rfl rfl) (T_move (.inl rfl) rfl) rfl ?_
    refine kG (wFD g6 rfl rfl rfl) (T_len_slice rfl rfl u65 rfl) rfl ?_
    refine kG (wFD g6 rfl rfl rfl) (T_gt rfl rfl rfl) rfl ?_
    refine kO (T_pickN g6 rfl rfl rfl) rfl ?_
    refine kA rfl rfl ?_
    refine kE ?_
    exact JS_ret (JE_ret_one rfl rfl (.tmp rfl .nil) ((dec_eq (by omega))))

theorem w89 {o : Int} : Spec CC 89 [Ty.val (.int .i64 o)] (Ty.val (.bool (decide (o ≠ 0 ∧ o ≠ 1)))) := by
  refine spec_of_JS Tryz.func89 rfl (Nat.le_of_ble_eq_true rfl) (fun gh0 wd0 => ?_)
  refine JS_seq ?_
  -- region 0
  refine sR ?_
  refine kA rfl rfl ?_
  refine kE ?_
  refine JS_seq ?_
  -- region 1
  refine sR ?_
  refine kM rfl rfl ?_
  refine kO (T_ne rfl rfl rfl) rfl ?_
  refine kM rfl rfl ?_
  refine tk_if (d := 5) rfl (fun g5 => ?_) (fun g5 => ?_)
  · refine kG (wTD g5 rfl rfl rfl) (T_move (.inl rfl) rfl) rfl ?_
    refine kG (wTD g5 rfl rfl rfl) (T_ne rfl rfl rfl) rfl ?_
    refine kO (T_pickD g5 rfl rfl rfl) rfl ?_
    refine kA rfl rfl ?_
    refine kE ?_
    exact JS_ret (JE_ret_one rfl rfl (.tmp rfl .nil) ((dec_eq (by simp_all))))
  · refine kS (uFD g5 rfl rfl rfl) rfl ?_
    refine kS (uFD g5 rfl rfl rfl) rfl ?_
    refine kO (T_pickN g5 rfl rfl rfl) rfl ?_
    refine kA rfl rfl ?_
    refine kE ?_
    exact JS_ret (JE_ret_one rfl rfl (.tmp rfl .nil) ((bool_eq (by simp_all))))

theorem w92 {b : UInt8} : Spec CC 92 [Ty.val (.int .u8 (b.toNat : Int))] (Ty.val (.bool (decide (¬ (97 ≤ b.toNat ∧ b.toNat ≤ 122))))) := by
  refine spec_of_JS Tryz.func92 rfl (Nat.le_of_ble_eq_true rfl) (fun gh0 wd0 => ?_)
  refine JS_seq ?_
  -- region 0
  refine sR ?_
  refine kA rfl rfl ?_
  refine kE ?_
  refine JS_seq ?_
  -- region 1
  refine sR ?_
  refine kM rfl rfl ?_
  refine kO (T_lt rfl rfl rfl) rfl ?_
  refine kM rfl rfl ?_
  refine tk_if (d := 5) rfl (fun g5 => ?_) (fun g5 => ?_)
  · refine kS (uTD g5 rfl rfl rfl) rfl ?_
    refine kS (uTD g5 rfl rfl rfl) rfl ?_
    refine kO (T_pickD g5 rfl rfl rfl) rfl ?_
    refine kA rfl rfl ?_
    refine kE ?_
    exact JS_ret (JE_ret_one rfl rfl (.tmp rfl .nil) ((bool_eq ((decide_eq_true (by omega)).symm))))
  · refine kG (wFD g5 rfl rfl rfl) (T_move (.inl rfl) rfl) rfl ?_
    refine kG (wFD g5 rfl rfl rfl) (T_gt rfl rfl rfl) rfl ?_
    refine kO (T_pickN g5 rfl rfl rfl) rfl ?_
    refine kA rfl rfl ?_
    refine kE ?_
    exact JS_ret (JE_ret_one rfl rfl (.tmp rfl .nil) ((dec_eq (by omega))))

end Go.Proofs.YtknflgfkhkdomaaGreatDoor.Mono

/-! WkQ -/
set_option linter.unusedVariables false
set_option linter.unusedSimpArgs false
set_option maxRecDepth 4000
set_option maxHeartbeats 4000000
namespace Go.Proofs.YtknflgfkhkdomaaGreatDoor.Mono
open Go Go.RowKit

theorem idx_decide {xs : List Int} {v : Int} : decide (0 ≤ idxF (fun x => decide (v = x)) xs) = xs.any (fun x => decide (v = x)) := idxF_any _ _

theorem w65 {xs : List Int} {v : Int} : Spec CC 65 [Ty.of (Kd.slice (Kd.int .i64)) xs, Ty.val (.int .i64 v)] (Ty.val (.int .i64 (idxF (fun x => decide (v = x)) xs))) := by
  refine spec_of_JS Tryz.func65 rfl (Nat.le_of_ble_eq_true rfl) (fun gh0 wd0 => ?_)
  refine JS_bound (s := 0) rfl (fun b0 => ?_)
  unfold maxLen at b0
  refine JS_seq ?_
  -- region 0
  refine sR ?_
  refine kA rfl rfl ?_
  refine kE ?_
  refine JS_seq ?_
  refine JS_seq ?_
  -- region 1
  refine sR ?_
  refine kM rfl rfl ?_
  refine kO (T_len_slice rfl rfl u27 rfl) rfl ?_
  refine kM rfl rfl ?_
  refine kE ?_
  refine JS_block ?_
  refine sLoop1 (fun (i : Nat) => [(8, Ty.val (.int .i64 (i : Int)))]) [0, 1, 7] (fun (i : Nat) => []) (fun (i : Nat) => i ≤ xs.length ∧ ∀ j (hj : j < xs.length), j < i → (fun x => decide (v = x)) xs[j] = false) (fun (i : Nat) => xs.length - i) 0 (⟨Nat.zero_le _, fun j _ h => absurd h (by omega)⟩) rfl (EnvSub.consLe rfl (int_eq (rfl)) (EnvSub.nil _)) (fun i (hI : i ≤ xs.length ∧ ∀ j (hj : j < xs.length), j < i → (fun x => decide (v = x)) xs[j] = false) => ?_)
  obtain ⟨i1, i2⟩ := hI
  refine JS_seq ?_
  -- region 2
  refine sR ?_
  refine kO (T_lt rfl rfl rfl) rfl ?_
  refine kE ?_
  refine JS_seq ?_
  refine JS_if rfl (fun c9 => ?_) (fun c9 => ?_)
  · refine JS_skip ?_
    refine JS_seq ?_
    refine JS_block ?_
    refine JS_seq ?_
    -- region 3
    refine sR ?_
    refine kM rfl rfl ?_
    refine kA rfl rfl ?_
    refine kE ?_
    refine JS_seq ?_
    -- region 4
    refine sR ?_
    refine kM rfl rfl ?_
    refine kM rfl rfl ?_
    refine kM rfl rfl ?_
    refine kO (T_ix rfl rfl rfl u27 ti3 (by omega) (by omega) rfl) rfl ?_
    refine kO (T_load_int rfl ti3 rfl) rfl ?_
    refine kO (T_eq rfl rfl rfl) rfl ?_
    refine kE ?_
    refine JS_if rfl (fun c16 => ?_) (fun c16 => ?_)
    · refine JS_seq ?_
      -- region 5
      refine sR ?_
      refine kM rfl rfl ?_
      refine kA rfl rfl ?_
      refine kE ?_
      exact JS_ret (JE_inB_ret (JE_loop_ret (JE_inB_ret (JE_ret_one rfl rfl (.tmp rfl .nil) ((int_eq ((idxF_at (p := fun x => decide (v = x)) (by omega) (by rw [toNat_get] at c16; exact decide_eq_true c16) i2).symm)))))))
    · refine JS_skip ?_
      refine JS_end_inB ?_
      -- region 6
      refine sR ?_
      refine kO (T_add rfl rfl rfl (wrap_i64 (by omega) (by omega))) rfl ?_
      refine kM rfl rfl ?_
      refine kE ?_
      exact JS_round (i + 1) (⟨by omega, hit_step (p := fun x => decide (v = x)) (by omega) i2 (by rw [toNat_get] at c16; exact decide_eq_false c16)⟩) ((by omega)) rfl (EnvSub.consLe rfl (int_eq (rfl)) (EnvSub.pick1 rfl (EnvSub.pick1 rfl (EnvSub.pick1 rfl (EnvSub.nil _)))))
  · refine JS_exit (JE_loop_exit (JE_inB_here ?_))
    refine JS_seq ?_
    -- region 7
    refine sR ?_
    refine kA rfl rfl ?_
    refine kE ?_
    exact JS_ret (JE_ret_one rfl rfl (.tmp rfl .nil) ((int_eq ((idxF_none (p := fun x => decide (v = x)) (fun j hj => i2 j hj (by omega))).symm))))

theorem en65 : Enters Tryz.prog 65 := enters_fn Tryz.func65 (by kernel_rfl) rfl

theorem w40 {xs : List Int} {v : Int} : Spec CC 40 [Ty.of (Kd.slice (Kd.int .i64)) xs, Ty.val (.int .i64 v)] (Ty.val (.bool (xs.any (fun x => decide (v = x))))) := by
  refine spec_of_JS Tryz.func40 rfl (Nat.le_of_ble_eq_true rfl) (fun gh0 wd0 => ?_)
  refine JS_bound (s := 0) rfl (fun b0 => ?_)
  unfold maxLen at b0
  refine JS_seq ?_
  -- region 0
  refine sR ?_
  refine kA rfl rfl ?_
  refine kE ?_
  refine JS_seq ?_
  -- region 1
  refine sR ?_
  refine kM rfl rfl ?_
  refine kM rfl rfl ?_
  refine kO (T_callL rfl en65 (w65 ) (oa (ol rfl (Ty.le.refl _)) (oa (ol rfl (Ty.le.refl _)) oa0))) rfl ?_
  refine kO (T_ge rfl rfl rfl) rfl ?_
  refine kA rfl rfl ?_
  refine kE ?_
  exact JS_ret (JE_ret_one rfl rfl (.tmp rfl .nil) (bool_eq idx_decide))

def flatFrom (s : Nat) : List (List Ch) → List (Nat × Ch)
  | [] => []
  | l :: ls => l.map (fun c => (s, c)) ++ flatFrom (s + 1) ls
def offs (ls : List (List Ch)) (i : Nat) : Nat := ((ls.take i).map List.length).sum
theorem offs_zero (ls : List (List Ch)) : offs ls 0 = 0 := by simp [offs]
theorem offs_succ {ls : List (List Ch)} {i : Nat} (h : i < ls.length) : offs ls (i + 1) = offs ls i + ls[i].length := by
  unfold offs
  rw [List.take_succ_eq_append_getElem h, List.map_append, List.sum_append]
  simp only [List.map_cons, List.map_nil, List.sum_cons, List.sum_nil, Nat.add_zero]
theorem flat_len : ∀ (s : Nat) (ls : List (List Ch)), (flatFrom s ls).length = offs ls ls.length
  | s, [] => rfl
  | s, l :: ls => by
    rw [flatFrom, List.length_append, List.length_map, flat_len (s + 1) ls]
    simp [offs]
theorem flat_get : ∀ (s : Nat) (ls : List (List Ch)) (i j : Nat) (hi : i < ls.length) (hj : j < ls[i].length) (d : Nat × Ch), (flatFrom s ls).getD (offs ls i + j) d = (s + i, ls[i][j])
  | s, l :: ls, 0, j, hi, hj, d => by
    have hj' : j < l.length := by simpa using hj
    rw [offs_zero, Nat.zero_add, flatFrom, List.getD_eq_getElem?_getD, List.getElem?_append_left (by simpa using hj')]
    simp [hj']
  | s, l :: ls, i + 1, j, hi, hj, d => by
    have hi' : i < ls.length := by simpa using hi
    have ih := flat_get (s + 1) ls i j hi' (by simpa using hj) d
    have e : offs (l :: ls) (i + 1) = l.length + offs ls i := by simp [offs]
    rw [flatFrom, e, List.getD_eq_getElem?_getD, List.getElem?_append_right (by simp; omega)]
    rw [List.length_map, show l.length + offs ls i + j - l.length = offs ls i + j by omega, ← List.getD_eq_getElem?_getD, ih]
    simp; omega
theorem offs_lt {ls : List (List Ch)} {i j : Nat} (hi : i < ls.length) (hj : j < ls[i].length) : offs ls i + j < offs ls ls.length := by
  have mono : ∀ k, i + 1 + k ≤ ls.length → offs ls (i + 1) ≤ offs ls (i + 1 + k) := by
    intro k
    induction k with
    | zero => intro _; exact Nat.le_refl _
    | succ k ih => intro h; rw [show i + 1 + (k + 1) = (i + 1 + k) + 1 by omega, offs_succ (i := i + 1 + k) (by omega)]; have := ih (by omega); omega
  have h1 := offs_succ hi
  have h2 := mono (ls.length - (i + 1)) (by omega)
  rw [show i + 1 + (ls.length - (i + 1)) = ls.length by omega] at h2
  omega
def flat (m : Mo) : List (Nat × Ch) := flatFrom 0 m.choices
def dCh : Nat × Ch := (0, ⟨[], 0, []⟩)
theorem flat_at {m : Mo} {i j : Nat} (hi : i < m.choices.length) (hj : j < m.choices[i].length) : (flat m).getD (offs m.choices i + j) dCh = (i, m.choices[i][j]) := by
  have := flat_get 0 m.choices i j hi hj dCh
  rw [Nat.zero_add] at this; exact this
theorem flat_mem {s : Nat} : ∀ {ls : List (List Ch)} {k : Nat}, k < (flatFrom s ls).length → ∃ l ∈ ls, ((flatFrom s ls).getD k dCh).2 ∈ l
  | [], k, h => by simp [flatFrom] at h
  | l :: ls, k, h => by
    have hm : (flatFrom s (l :: ls)).getD k dCh ∈ flatFrom s (l :: ls) := by
      rw [List.getD_eq_getElem?_getD, List.getElem?_eq_getElem h]; exact List.getElem_mem h
    have key : ∀ (s : Nat) (ls : List (List Ch)) (x : Nat × Ch), x ∈ flatFrom s ls → ∃ l ∈ ls, x.2 ∈ l := by
      intro s ls
      induction ls generalizing s with
      | nil => intro x hx; simp [flatFrom] at hx
      | cons l ls ih =>
        intro x hx
        rw [flatFrom] at hx
        rcases List.mem_append.1 hx with h | h
        · obtain ⟨c, hc, rfl⟩ := List.mem_map.1 h
          exact ⟨l, by simp, hc⟩
        · obtain ⟨l', h1, h2⟩ := ih (s + 1) x h
          exact ⟨l', by simp [h1], h2⟩
    exact key s (l :: ls) _ hm

theorem fa30_1 : FieldAt Tryz.prog 30 1 1 := by unfold FieldAt; kernel_rfl

theorem ti28 : TI Tryz.prog 28 false 1 := ⟨by kernel_rfl, by kernel_rfl⟩

theorem ti60 : TI Tryz.prog 60 true 3 := ⟨by kernel_rfl, by kernel_rfl⟩

theorem h0_60 : ∀ m, (Seg.cat [Seg.of Kd.str [], Seg.of Kd.str [], Seg.of (Kd.slice Kd.br) []]).p m (Value.cells (.agg #[.string ⟨#[]⟩, .string ⟨#[]⟩, .slice none 0 0])).toList := fun m => ⟨_, _, rfl, (fun _ => rfl) m, ⟨_, _, rfl, (fun _ => rfl) m, ⟨_, _, rfl, (z_slice _) m, rfl⟩⟩⟩

theorem z60 : ZeroOf Tryz.prog 60 (.agg #[.string ⟨#[]⟩, .string ⟨#[]⟩, .slice none 0 0]) := by unfold ZeroOf; kernel_rfl

theorem sz60 : (Tryz.prog.info? 60).map (·.size) = some 3 := by kernel_rfl

theorem it119 {M : Mo} : ∀ (m : GH) (lb : Array Value), TyAll m [Ty.place (Seg.of Kd.mo M)] lb.toList → IterOk CC 119 lb ((flat M).length) (fun k => [Ty.val (.int .i64 (((flat M).getD k dCh).1 : Int)), Ty.of Kd.ch ((flat M).getD k dCh).2]) m := by
  refine iter_of_JS Tryz.func119 rfl (Nat.le_of_ble_eq_true rfl) (fun lp X ΔJ good bad x0 gh0 wd0 hY hg0 => ?_)
  refine JS_seq ?_
  -- region 0
  have hN : (flat M).length = offs M.choices M.choices.length := flat_len 0 M.choices
  refine sR ?_
  refine kO (T_fieldAddr rfl fa30_1 (st_sub (i := 1) rfl rfl) rfl) rfl ?_
  refine kO (T_ld rfl rfl ti28) rfl ?_
  refine kO (T_len_slice rfl rfl u28 rfl) rfl ?_
  refine kM rfl rfl ?_
  refine kE ?_
  refine JS_block ?_
  refine sLoopD2 (fun (i : Nat) (x : X) => [(10, Ty.val (.int .i64 (i : Int)))]) [0, 8, 9] (fun (i : Nat) (x : X) => ΔJ x) (fun (i : Nat) (x : X) => i ≤ M.choices.length ∧ good (offs M.choices i) x) (fun (i : Nat) (x : X) => M.choices.length - i) 0 x0 (⟨Nat.zero_le _, by rw [offs_zero]; exact hg0⟩) rfl (EnvSub.consLe rfl (int_eq (rfl)) (EnvSub.nil _)) (fun i x (hI : i ≤ M.choices.length ∧ good (offs M.choices i) x) => ?_)
  refine JS_seq ?_
  -- region 1
  refine JS_bound (s := 8) rfl (fun b8 => ?_)
  unfold maxLen at b8
  refine sR ?_
  refine kO (T_lt rfl rfl rfl) rfl ?_
  refine kE ?_
  refine JS_seq ?_
  refine JS_if rfl (fun c11 => ?_) (fun c11 => ?_)
  · refine JS_skip ?_
    refine JS_seq ?_
    refine JS_block ?_
    refine JS_seq ?_
    -- region 2
    refine sR ?_
    refine kM rfl rfl ?_
    refine kO (T_ix rfl rfl rfl u28 ti65 (by omega) (by omega) rfl) rfl ?_
    refine kO (T_ld rfl rfl ti65) rfl ?_
    refine kA rfl rfl ?_
    refine kA rfl rfl ?_
    refine kE ?_
    refine JS_seq ?_
    -- region 3
    obtain ⟨L, hL⟩ : ∃ L, L = M.choices[((i : Int)).toNat]'(by omega) := ⟨_, rfl⟩
    refine JS_re (s := 4) (T := Ty.of (Kd.slice Kd.ch) L) rfl (of_eq hL.symm) ?_
    rw [toNat_get] at hL
    refine JS_bound (s := 4) rfl (fun bL => ?_)
    unfold maxLen at bL
    have hos := offs_succ (ls := M.choices) (i := i) (by omega)
    rw [← hL] at hos
    refine sR ?_
    refine kM rfl rfl ?_
    refine kO (T_len_slice rfl rfl u65 rfl) rfl ?_
    refine kM rfl rfl ?_
    refine kE ?_
    refine JS_block ?_
    refine sLoopD2 (fun (j : Nat) (y : X) => [(17, Ty.val (.int .i64 (j : Int)))]) [0, 3, 8, 9, 10, 15, 16] (fun (j : Nat) (y : X) => ΔJ y) (fun (j : Nat) (y : X) => j ≤ L.length ∧ good (offs M.choices i + j) y) (fun (j : Nat) (y : X) => L.length - j) 0 x (⟨Nat.zero_le _, hI.2⟩) rfl (EnvSub.consLe rfl (int_eq (rfl)) (EnvSub.nil _)) (fun j y (hJ : j ≤ L.length ∧ good (offs M.choices i + j) y) => ?_)
    refine JS_seq ?_
    -- region 4
    refine sR ?_
    refine kO (T_lt rfl rfl rfl) rfl ?_
    refine kE ?_
    refine JS_seq ?_
    refine JS_if rfl (fun c18 => ?_) (fun c18 => ?_)
    · refine JS_skip ?_
      refine JS_seq ?_
      refine JS_block ?_
      refine JS_seq ?_
      -- region 5
      refine sR ?_
      refine kO (T_ix rfl rfl rfl u65 ti60 (by omega) (by omega) rfl) rfl ?_
      refine kO (T_ld rfl rfl ti60) rfl ?_
      refine kT ?_
      refine JT_alloc (S0 := Seg.cat [Seg.of Kd.str [], Seg.of Kd.str [], Seg.of (Kd.slice Kd.br) []]) rfl rfl rfl rfl z60 h0_60 (fun g6 => ?_)
      refine JT_store (i := 0) rfl rfl rfl rfl rfl (ol rfl (Ty.le.refl _)) (Upd.self _ _ rfl) sz60 ?_
      refine JT_done ?_
      refine JS_seq ?_
      -- region 6
      have hj1 : j < L.length := by omega
      have hi1 : i < M.choices.length := by omega
      have hf := flat_at (m := M) (i := i) (j := j) (by omega) (by rw [← hL]; exact hj1)
      have hlt := offs_lt (ls := M.choices) (i := i) (j := j) (by omega) (by rw [← hL]; exact hj1)
      have hLj : M.choices[i][j]'(by rw [← hL]; exact hj1) = L[j] := by simp [hL]
      rw [hLj] at hf
      refine sR ?_
      refine kM rfl rfl ?_
      refine kM rfl rfl ?_
      refine kO (T_load_own (i := 0) rfl rfl rfl (Sub.self _) ti60) rfl ?_
      refine kT ?_
      refine JT_yieldR [_] (offs M.choices i + j) y rfl rfl rfl rfl hY (by omega) (oa (ol rfl (int_eq (by rw [hf]))) (oa (ol rfl (of_eq (by rw [hf, toNat_get]))) oa0)) hJ.2 rfl (fun x1 hx1 => ?_) (fun x2 hx2 => ?_)
      · refine jO (T_not rfl rfl) rfl ?_
        refine JT_done ?_
        refine JS_cf rfl ?_
        refine JS_skip ?_
        refine JS_end_inB ?_
        -- region 7
        refine sR ?_
        refine kO (T_add rfl rfl rfl (wrap_i64 (by omega) (by omega))) rfl ?_
        refine kM rfl rfl ?_
        refine kE ?_
        refine JS_drop 0 ?_
        exact JS_round ((j + 1), x1) (by try dsimp only; exact (⟨by omega, hx1⟩)) (by try dsimp only; exact ((by omega))) rfl (EnvSub.consLe rfl (int_eq (rfl)) (EnvSub.pick1 rfl (EnvSub.pick1 rfl (EnvSub.pick1 rfl (EnvSub.pick1 rfl (EnvSub.pick1 rfl (EnvSub.pick1 rfl (EnvSub.pick1 rfl (EnvSub.nil _)))))))))
      · refine jO (T_not rfl rfl) rfl ?_
        refine JT_done ?_
        refine JS_ct rfl ?_
        refine JS_drop 0 ?_
        exact JS_ret (JE_inB_ret (JE_loop_ret (JE_inB_ret (JE_inB_ret (JE_loop_ret (JE_inB_ret (JE_iter x2 (.inr hx2) rfl rfl rfl rfl rfl)))))))
    · refine JS_exit (JE_loop_exit (JE_inB_here ?_))
      refine JS_end_inB ?_
      -- region 8
      refine sR ?_
      refine kO (T_add rfl rfl rfl (wrap_i64 (by omega) (by omega))) rfl ?_
      refine kM rfl rfl ?_
      refine kE ?_
      exact JS_round ((i + 1), y) (by try dsimp only; exact (⟨by omega, by rw [hos, show L.length = j by omega]; exact hJ.2⟩)) (by try dsimp only; exact ((by omega))) rfl (EnvSub.consLe rfl (int_eq (rfl)) (EnvSub.pick1 rfl (EnvSub.pick1 rfl (EnvSub.pick1 rfl (EnvSub.nil _)))))
  · refine JS_exit (JE_loop_exit (JE_inB_here ?_))
    exact JS_nil (JE_normal (JE_iter x (.inl (by rw [hN, ← show i = M.choices.length by omega]; exact hI.2)) rfl rfl rfl rfl rfl))

theorem en119 : Enters Tryz.prog 119 := enters_fn Tryz.func119 (by kernel_rfl) rfl

theorem w90 {M : Mo} : Spec CC 90 [Ty.of Kd.mo M] (Ty.iter CC (flat M).length (fun k => [Ty.val (.int .i64 (((flat M).getD k dCh).1 : Int)), Ty.of Kd.ch ((flat M).getD k dCh).2])) := by
  refine spec_of_JS Tryz.func90 rfl (Nat.le_of_ble_eq_true rfl) (fun gh0 wd0 => ?_)
  refine JS_seq ?_
  -- region 0
  refine sR ?_
  refine kO (T_box rfl (ol rfl (Ty.le.refl _))) rfl ?_
  refine kA rfl rfl ?_
  refine kE ?_
  refine JS_seq ?_
  -- region 1
  refine sR ?_
  refine kO (T_iter rfl en119 (it119 ) (oa (ol rfl (Ty.le.refl _)) oa0)) rfl ?_
  refine kA rfl rfl ?_
  refine kE ?_
  exact JS_ret (JE_ret_one rfl rfl (.tmp rfl .nil) (Ty.le.refl _))

end Go.Proofs.YtknflgfkhkdomaaGreatDoor.Mono

/-! WkR -/
set_option linter.unusedVariables false
set_option linter.unusedSimpArgs false
set_option maxRecDepth 4000
set_option maxHeartbeats 4000000
namespace Go.Proofs.YtknflgfkhkdomaaGreatDoor.Mono
open Go Go.RowKit

theorem any_false {α : Type} {p : α → Bool} {xs : List α} (h : ∀ x ∈ xs, p x = false) : xs.any p = false := by
  rw [Bool.eq_false_iff]; intro e
  obtain ⟨x, hx, hp⟩ := List.any_eq_true.1 e
  rw [h x hx] at hp; cases hp
theorem flat_cm {M : Mo} {P : Ch → Prop} (h : ∀ l ∈ M.choices, ∀ c ∈ l, P c) {k : Nat} (hk : k < (flat M).length) : P ((flat M).getD k dCh).2 := by
  obtain ⟨l, h1, h2⟩ := flat_mem (s := 0) (ls := M.choices) hk
  exact h l h1 _ h2
theorem lcm_meet (a d : Nat) : Nat.lcm a d = a / Nat.gcd a d * d := by
  rw [Nat.div_mul_right_comm (Nat.gcd_dvd_left a d)]; rfl
def lcmL (a : Nat) (ds : List Nat) : Nat := ds.foldl Nat.lcm a
theorem lcmL_ok {G : Nat} : ∀ (ds : List Nat) (a : Nat), (∀ d ∈ ds, 0 < d ∧ d ∣ G) → 1 ≤ a ∧ a ∣ G → 1 ≤ lcmL a ds ∧ lcmL a ds ∣ G
  | [], a, _, h => h
  | d :: ds, a, hd, h => by
    have h1 := hd d (by simp)
    exact lcmL_ok ds (Nat.lcm a d) (fun x hx => hd x (by simp [hx])) ⟨Nat.lcm_pos (by omega) h1.1, Nat.lcm_dvd h.2 h1.2⟩
theorem lcmL_snoc (a : Nat) (ds : List Nat) (d : Nat) : lcmL a (ds ++ [d]) = Nat.lcm (lcmL a ds) d := by unfold lcmL; rw [List.foldl_append]; rfl
theorem lcmL_dvd : ∀ (ds : List Nat) (a : Nat), a ∣ lcmL a ds ∧ ∀ d ∈ ds, d ∣ lcmL a ds
  | [], a => ⟨Nat.dvd_refl a, fun d hd => by cases hd⟩
  | d :: ds, a => by
    obtain ⟨h1, h2⟩ := lcmL_dvd ds (Nat.lcm a d)
    refine ⟨Nat.dvd_trans (Nat.dvd_lcm_left a d) h1, fun x hx => ?_⟩
    rcases List.mem_cons.1 hx with rfl | hx
    · exact Nat.dvd_trans (Nat.dvd_lcm_right a x) h1
    · exact h2 x hx
def gdens (M : Mo) : List Nat := (flat M).map (fun x => x.2.gain.den)
theorem gdens_get {M : Mo} {k : Nat} (hk : k < (flat M).length) : (gdens M).take (k + 1) = (gdens M).take k ++ [((flat M).getD k dCh).2.gain.den] := by
  have h2 : k < (gdens M).length := by simpa [gdens] using hk
  rw [List.take_succ_eq_append_getElem h2]
  congr 2
  simp [gdens, List.getD_eq_getElem?_getD, List.getElem?_eq_getElem hk]
theorem gdens_mem {M : Mo} {P : Nat → Prop} (h : ∀ l ∈ M.choices, ∀ c ∈ l, P c.gain.den) (k : Nat) : ∀ d ∈ (gdens M).take k, P d := fun d hd => by
  obtain ⟨x, hx, rfl⟩ := List.mem_map.1 (List.mem_of_mem_take hd)
  obtain ⟨i, hi, e⟩ := List.getElem_of_mem hx
  have := flat_cm (P := fun c => P c.gain.den) h hi
  rw [List.getD_eq_getElem?_getD, List.getElem?_eq_getElem hi, Option.getD_some, e] at this
  exact this

theorem fa119_0 : FieldAt Tryz.prog 119 0 0 := by unfold FieldAt; kernel_rfl

theorem fa30_0 : FieldAt Tryz.prog 30 0 0 := by unfold FieldAt; kernel_rfl

theorem ti27 : TI Tryz.prog 27 false 1 := ⟨by kernel_rfl, by kernel_rfl⟩

theorem en87 : Enters Tryz.prog 87 := enters_fn Tryz.func87 (by kernel_rfl) rfl

theorem en86 : Enters Tryz.prog 86 := enters_fn Tryz.func86 (by kernel_rfl) rfl

theorem m60 {M : Mo} {g : Nat} {p q : Int} (hM : GM M) : SpecM CC 60 [Ty.val (ptr g 0)] [Res.box g 119 (Seg.cat [Seg.of Kd.mo M, Seg.of (Kd.int .i64) p, Seg.of (Kd.int .i64) q])] (Y := Unit) (fun _ => Ty.val (.bool true)) (fun _ => [Res.box g 119 (Seg.cat [Seg.of Kd.mo M, Seg.of (Kd.int .i64) p, Seg.of (Kd.int .i64) q])]) := by
  refine specM_of_JS Tryz.func60 rfl (Nat.le_of_ble_eq_true rfl) (fun gh0 wd0 => ?_)
  have n0 := hM.n0
  have n1 := hM.n1
  have n2 := hM.same
  refine JS_seq ?_
  -- region 0
  refine sR ?_
  refine kA rfl rfl ?_
  refine kE ?_
  refine JS_seq ?_
  -- region 1
  refine sRD mixed ?_
  refine kM rfl rfl ?_
  refine kO (T_nilCheckO rfl rfl) rfl ?_
  refine kO (T_fieldAddr_ptr rfl fa119_0 rfl rfl) rfl ?_
  refine kO (T_fieldAddr_ptr rfl fa30_0 rfl rfl) rfl ?_
  refine kO (T_load_own (i := 0) rfl rfl rfl (Sub.in_ (sc (i := 0) rfl rfl) (st_sub (i := 0) rfl rfl)) ti27) rfl ?_
  refine kO (T_len_slice rfl rfl u27 rfl) rfl ?_
  refine kO (T_ge rfl rfl rfl) rfl ?_
  refine kM rfl rfl ?_
  refine tk_if (d := 10) rfl (fun g10 => ?_) (fun g10 => ?_)
  · refine kG (wTD g10 rfl rfl rfl) (T_move (.inl rfl) rfl) rfl ?_
    refine kG (wTD g10 rfl rfl rfl) (T_nilCheckO rfl rfl) rfl ?_
    refine kG (wTD g10 rfl rfl rfl) (T_fieldAddr_ptr rfl fa119_0 rfl rfl) rfl ?_
    refine kG (wTD g10 rfl rfl rfl) (T_fieldAddr_ptr rfl fa30_0 rfl rfl) rfl ?_
    refine kG (wTD g10 rfl rfl rfl) (T_load_own (i := 0) rfl rfl rfl (Sub.in_ (sc (i := 0) rfl rfl) (st_sub (i := 0) rfl rfl)) ti27) rfl ?_
    refine kG (wTD g10 rfl rfl rfl) (T_len_slice rfl rfl u27 rfl) rfl ?_
    refine kG (wTD g10 rfl rfl rfl) (T_le rfl rfl rfl) rfl ?_
    refine kO (T_pickD g10 rfl rfl rfl) rfl ?_
    refine kM rfl rfl ?_
    refine tk_if (d := 19) rfl (fun g19 => ?_) (fun g19 => ?_)
    · refine kG (wTD g19 rfl rfl rfl) (T_move (.inl rfl) rfl) rfl ?_
      refine kG (wTD g19 rfl rfl rfl) (T_nilCheckO rfl rfl) rfl ?_
      refine kG (wTD g19 rfl rfl rfl) (T_fieldAddr_ptr rfl fa119_0 rfl rfl) rfl ?_
      refine kG (wTD g19 rfl rfl rfl) (T_fieldAddr_ptr rfl fa30_1 rfl rfl) rfl ?_
      refine kG (wTD g19 rfl rfl rfl) (T_load_own (i := 0) rfl rfl rfl (Sub.in_ (sc (i := 0) rfl rfl) (st_sub (i := 1) rfl rfl)) ti28) rfl ?_
      refine kG (wTD g19 rfl rfl rfl) (T_len_slice rfl rfl u28 rfl) rfl ?_
      refine kG (wTD g19 rfl rfl rfl) (T_move (.inl rfl) rfl) rfl ?_
      refine kG (wTD g19 rfl rfl rfl) (T_nilCheckO rfl rfl) rfl ?_
      refine kG (wTD g19 rfl rfl rfl) (T_fieldAddr_ptr rfl fa119_0 rfl rfl) rfl ?_
      refine kG (wTD g19 rfl rfl rfl) (T_fieldAddr_ptr rfl fa30_0 rfl rfl) rfl ?_
      refine kG (wTD g19 rfl rfl rfl) (T_load_own (i := 0) rfl rfl rfl (Sub.in_ (sc (i := 0) rfl rfl) (st_sub (i := 0) rfl rfl)) ti27) rfl ?_
      refine kG (wTD g19 rfl rfl rfl) (T_len_slice rfl rfl u27 rfl) rfl ?_
      refine kG (wTD g19 rfl rfl rfl) (T_eq rfl rfl rfl) rfl ?_
      refine kO (T_pickD g19 rfl rfl rfl) rfl ?_
      refine kM rfl rfl ?_
      refine tk_if (d := 34) rfl (fun g34 => ?_) (fun g34 => ?_)
      · refine kG (wTD g34 rfl rfl rfl) (T_move (.inl rfl) rfl) rfl ?_
        refine kG (wTD g34 rfl rfl rfl) (T_nilCheckO rfl rfl) rfl ?_
        refine kG (wTD g34 rfl rfl rfl) (T_fieldAddr_ptr rfl fa119_0 rfl rfl) rfl ?_
        refine kG (wTD g34 rfl rfl rfl) (T_fieldAddr_ptr rfl fa30_1 rfl rfl) rfl ?_
        refine kG (wTD g34 rfl rfl rfl) (T_load_own (i := 0) rfl rfl rfl (Sub.in_ (sc (i := 0) rfl rfl) (st_sub (i := 1) rfl rfl)) ti28) rfl ?_
        refine kG (wTD g34 rfl rfl rfl) (T_callL rfl en86 (w86 (p := fun l => decide (¬ (1 ≤ l.length ∧ l.length ≤ 4)))) (oa (ol rfl (Ty.le.refl _)) (oa (ol rfl (T_fnval (Γ := []) (T := Ty.any) en87 (fun x => w87))) oa0))) rfl ?_
        refine kG (wTD g34 rfl rfl rfl) (T_not rfl rfl) rfl ?_
        refine kO (T_pickD g34 rfl rfl rfl) rfl ?_
        refine kA rfl rfl ?_
        refine kD (by decide) ?_
        exact JS_ret (JE_retM1 () rfl rfl (.tmp rfl .nil) (bool_eq (by rw [(any_false (fun x hx => decide_eq_false (fun h => h (hM.some_ x hx))))]; rfl)) rfl rfl rfl)
      · exact absurd (by omega) g34
    · exact absurd (by omega) g19
  · exact absurd (by omega) g10

theorem en89 : Enters Tryz.prog 89 := enters_fn Tryz.func89 (by kernel_rfl) rfl

theorem en88 : Enters Tryz.prog 88 := enters_fn Tryz.func88 (by kernel_rfl) rfl

theorem m61 {M : Mo} {g : Nat} {p q : Int} (hM : GM M) : SpecM CC 61 [Ty.val (ptr g 0)] [Res.box g 119 (Seg.cat [Seg.of Kd.mo M, Seg.of (Kd.int .i64) p, Seg.of (Kd.int .i64) q])] (Y := Unit) (fun _ => Ty.val (.bool true)) (fun _ => [Res.box g 119 (Seg.cat [Seg.of Kd.mo M, Seg.of (Kd.int .i64) p, Seg.of (Kd.int .i64) q])]) := by
  refine specM_of_JS Tryz.func61 rfl (Nat.le_of_ble_eq_true rfl) (fun gh0 wd0 => ?_)
  refine JS_seq ?_
  -- region 0
  refine sR ?_
  refine kA rfl rfl ?_
  refine kE ?_
  refine JS_seq ?_
  -- region 1
  refine sR ?_
  refine kM rfl rfl ?_
  refine kO (T_nilCheckO rfl rfl) rfl ?_
  refine kO (T_fieldAddr_ptr rfl fa119_0 rfl rfl) rfl ?_
  refine kO (T_fieldAddr_ptr rfl fa30_0 rfl rfl) rfl ?_
  refine kO (T_load_own (i := 0) rfl rfl rfl (Sub.in_ (sc (i := 0) rfl rfl) (st_sub (i := 0) rfl rfl)) ti27) rfl ?_
  refine kO (T_callL rfl en88 (w88 (p := fun o => decide (o ≠ 0 ∧ o ≠ 1))) (oa (ol rfl (Ty.le.refl _)) (oa (ol rfl (T_fnval (Γ := []) (T := Ty.any) en89 (fun x => w89))) oa0))) rfl ?_
  refine kO (T_not rfl rfl) rfl ?_
  refine kA rfl rfl ?_
  refine kE ?_
  exact JS_ret (JE_retM1 () rfl rfl (.tmp rfl .nil) (bool_eq (by rw [(any_false (fun x hx => decide_eq_false (fun h => h.1 (hM.own x hx))))]; rfl)) rfl rfl rfl)

theorem z4 : ZeroOf Tryz.prog 4 (.bool false) := by unfold ZeroOf; kernel_rfl

theorem ti30 : TI Tryz.prog 30 true 2 := ⟨by kernel_rfl, by kernel_rfl⟩

theorem en90 : Enters Tryz.prog 90 := enters_fn Tryz.func90 (by kernel_rfl) rfl

theorem fa60_0 : FieldAt Tryz.prog 60 0 0 := by unfold FieldAt; kernel_rfl

theorem ti9 : TI Tryz.prog 9 false 1 := ⟨by kernel_rfl, by kernel_rfl⟩

theorem en92 : Enters Tryz.prog 92 := enters_fn Tryz.func92 (by kernel_rfl) rfl

theorem en91 : Enters Tryz.prog 91 := enters_fn Tryz.func91 (by kernel_rfl) rfl

theorem sz4 : (Tryz.prog.info? 4).map (·.size) = some 1 := by kernel_rfl

theorem m62 {M : Mo} {g : Nat} {p q : Int} (hM : GM M) : SpecM CC 62 [Ty.val (ptr g 0)] [Res.box g 119 (Seg.cat [Seg.of Kd.mo M, Seg.of (Kd.int .i64) p, Seg.of (Kd.int .i64) q])] (Y := Unit) (fun _ => Ty.val (.bool true)) (fun _ => [Res.box g 119 (Seg.cat [Seg.of Kd.mo M, Seg.of (Kd.int .i64) p, Seg.of (Kd.int .i64) q])]) := by
  refine specM_of_JSM Tryz.func62 rfl (Nat.le_of_ble_eq_true rfl) (fun gh0 wd0 => ?_)
  obtain ⟨GG, HH, g1, g2, h1, h2, hC⟩ := hM.grain
  refine JS_seq ?_
  -- region 0
  refine sR ?_
  refine kT ?_
  refine JT_alloc (S0 := Seg.of Kd.bool false) rfl rfl rfl rfl z4 (fun _ => rfl) (fun g2 => ?_)
  refine JT_done ?_
  refine JS_seq ?_
  refine JS_seq ?_
  -- region 1
  refine sR ?_
  refine kM rfl rfl ?_
  refine kO (T_nilCheckO rfl rfl) rfl ?_
  refine kO (T_fieldAddr_ptr rfl fa119_0 rfl rfl) rfl ?_
  refine kO (T_load_own (i := 1) rfl rfl rfl (sc (i := 0) rfl rfl) ti30) rfl ?_
  refine kO (T_callL rfl en90 (w90 ) (oa (ol rfl (Ty.le.refl _)) oa0)) rfl ?_
  refine kE ?_
  refine JS_block ?_
  refine JS_rf1 (fun (j : Nat) => []) (fun (k : Nat) (j : Nat) => j = k) (fun (c : Code) (j : Nat) => False) 0 rfl rfl (fun _ => rfl) rfl (rfl) rfl (fun k j gh1 wd1 lq rq hk (hI : j = k) hrd hgh => ?_) (fun j mk hD => ?_) (fun c j mk hS => ?_)
  · obtain rfl := hI
    have hc := flat_cm (M := M) (k := j) hC hk
    have ha := hc.act.1
    -- region 2
    refine sR ?_
    refine kT ?_
    refine JT_alloc (S0 := Seg.cat [Seg.of Kd.str [], Seg.of Kd.str [], Seg.of (Kd.slice Kd.br) []]) rfl rfl rfl rfl z60 h0_60 (fun g4 => ?_)
    refine JT_store (i := 0) rfl rfl rfl rfl rfl (ol rfl (Ty.le.refl _)) (Upd.self _ _ rfl) sz60 ?_
    refine JT_done ?_
    refine JS_begin (i := 1) rfl hrd ?_
    refine JS_block ?_
    refine JS_seq ?_
    -- region 3
    refine sR ?_
    refine kO (T_fieldAddr_ptr rfl fa60_0 rfl rfl) rfl ?_
    refine kO (T_load_own (i := 0) rfl rfl rfl (st_sub (i := 0) rfl rfl) ti9) rfl ?_
    refine kO (T_len_str rfl rfl u9 rfl) rfl ?_
    refine kO (T_gt rfl rfl rfl) rfl ?_
    refine kM rfl rfl ?_
    refine tk_if (d := 16) rfl (fun g16 => ?_) (fun g16 => ?_)
    · exact absurd g16 (by omega)
    · refine kG (wFD g16 rfl rfl rfl) (T_fieldAddr_ptr rfl fa60_0 rfl rfl) rfl ?_
      refine kG (wFD g16 rfl rfl rfl) (T_load_own (i := 0) rfl rfl rfl (st_sub (i := 0) rfl rfl) ti9) rfl ?_
      refine kG (wFD g16 rfl rfl rfl) (T_str_bytes rfl u9 u131 u5 (ol rfl (Ty.le.refl _)) (by omega)) rfl ?_
      refine kG (wFD g16 rfl rfl rfl) (T_callL rfl en91 (w91 (p := fun b => decide (¬ (97 ≤ b.toNat ∧ b.toNat ≤ 122)))) (oa (ol rfl (Ty.le.refl _)) (oa (ol rfl (T_fnval (Γ := []) (T := Ty.any) en92 (fun x => w92))) oa0))) rfl ?_
      refine kO (T_pickN g16 rfl rfl rfl) rfl ?_
      refine kE ?_
      refine JS_cond rfl (fun c21 => ?_) (fun c21 => ?_)
      · rw [(any_false (fun x hx => decide_eq_false (fun h => h (hc.act.2 x hx))))] at c21
        exact absurd c21 (by decide)
      · refine JS_skip ?_
        refine JS_end_inB ?_
        refine JS_drop 0 ?_
        exact JS_roundEnd (j + 1) (rfl) rfl
  · skip
    refine JS_end_inBD ?_
    refine JS_seq ?_
    -- region 5
    refine sR ?_
    refine kT ?_
    refine JT_store (i := 1) rfl rfl rfl rfl rfl (ol rfl (val_bool _)) (Upd.self _ _ rfl) sz4 ?_
    refine JT_done ?_
    exact JS_ret (JE_unmark (i := 0) rfl (JE_unmarked (JE_retMx (j := 0) () rfl rfl (.cell (i := 0) rfl rfl ti4 .nil) (bool_val _) rfl rfl rfl)))
  · exact hS.elim

theorem ti98 : TI Tryz.prog 98 false 1 := ⟨by kernel_rfl, by kernel_rfl⟩

theorem fa119_2 : FieldAt Tryz.prog 119 2 3 := by unfold FieldAt; kernel_rfl

theorem fa60_1 : FieldAt Tryz.prog 60 1 1 := by unfold FieldAt; kernel_rfl

theorem en93 : Enters Tryz.prog 93 := enters_fn Tryz.func93 (by kernel_rfl) rfl

theorem en94 : Enters Tryz.prog 94 := enters_fn Tryz.func94 (by kernel_rfl) rfl

theorem m63 {M : Mo} {g : Nat} {p q : Int} (hM : GM M) : SpecM CC 63 [Ty.val (ptr g 0)] [Res.box g 119 (Seg.cat [Seg.of Kd.mo M, Seg.of (Kd.int .i64) p, Seg.of (Kd.int .i64) q])] (Y := Unit) (fun _ => Ty.val (.bool true)) (fun _ => [Res.box g 119 (Seg.cat [Seg.of Kd.mo M, Seg.of (Kd.int .i64) p, Seg.of (Kd.int .i64) ((lcmL 1 ((gdens M).take (flat M).length) : Nat) : Int)])]) := by
  refine specM_of_JSM Tryz.func63 rfl (Nat.le_of_ble_eq_true rfl) (fun gh0 wd0 => ?_)
  obtain ⟨GG, HH, g1, g2, h1, h2, hC⟩ := hM.grain
  have hd := fun k => lcmL_ok (G := HH) ((gdens M).take k) 1 (gdens_mem (P := fun d => 0 < d ∧ d ∣ HH) (fun l hl c hc => ⟨Nat.pos_of_ne_zero c.gain.den_nz, (hC l hl c hc).gain.2.2⟩) k) ⟨Nat.le_refl _, Nat.one_dvd _⟩
  have hle := fun k => Nat.le_of_dvd (by omega) (hd k).2
  refine JS_seq ?_
  -- region 0
  refine sR ?_
  refine kO (T_box rfl (ol rfl (to_kval rfl))) rfl ?_
  refine kT ?_
  refine JT_alloc (S0 := Seg.of Kd.bool false) rfl rfl rfl rfl z4 (fun _ => rfl) (fun g2 => ?_)
  refine JT_done ?_
  refine JS_seq ?_
  -- region 1
  refine sR ?_
  refine kO (T_sub (T_ld rfl rfl ti98) (of_kval _)) rfl ?_
  refine kO (T_nilCheckO rfl rfl) rfl ?_
  refine kO (T_fieldAddr_ptr rfl fa119_2 rfl rfl) rfl ?_
  refine kT ?_
  refine JT_store (i := 1) rfl rfl rfl rfl rfl (ol rfl (val_int _ _)) (uc (i := 2) rfl rfl rfl) sz3 ?_
  refine JT_done ?_
  refine JS_seq ?_
  refine JS_seq ?_
  -- region 2
  refine sR ?_
  refine kO (T_sub (T_ld rfl rfl ti98) (of_kval _)) rfl ?_
  refine kO (T_nilCheckO rfl rfl) rfl ?_
  refine kO (T_fieldAddr_ptr rfl fa119_0 rfl rfl) rfl ?_
  refine kO (T_load_own (i := 1) rfl rfl rfl (sc (i := 0) rfl rfl) ti30) rfl ?_
  refine kO (T_callL rfl en90 (w90 ) (oa (ol rfl (Ty.le.refl _)) oa0)) rfl ?_
  refine kE ?_
  refine JS_block ?_
  refine JS_rf1 (fun (j : Nat) => [(1, Res.box g 119 (Seg.cat [Seg.of Kd.mo M, Seg.of (Kd.int .i64) p, Seg.of (Kd.int .i64) ((lcmL 1 ((gdens M).take j) : Nat) : Int)]))]) (fun (k : Nat) (j : Nat) => j = k) (fun (c : Code) (j : Nat) => False) 0 rfl rfl (fun _ => rfl) rfl (rfl) rfl (fun k j gh1 wd1 lq rq hk (hI : j = k) hrd hgh => ?_) (fun j mk hD => ?_) (fun c j mk hS => ?_)
  · obtain rfl := hI
    have hc := flat_cm (M := M) (k := j) hC hk
    have ho := hc.gain.1
    have hs2 := digs_small ho.2
    have hp2 := ((flat M).getD j dCh).2.gain.den_nz
    have l1 := hle j
    have l2 := (hd j).1
    have l3 := hle (j + 1)
    -- region 3
    refine sR ?_
    refine kT ?_
    refine JT_alloc (S0 := Seg.cat [Seg.of Kd.str [], Seg.of Kd.str [], Seg.of (Kd.slice Kd.br) []]) rfl rfl rfl rfl z60 h0_60 (fun g4 => ?_)
    refine JT_store (i := 0) rfl rfl rfl rfl rfl (ol rfl (Ty.le.refl _)) (Upd.self _ _ rfl) sz60 ?_
    refine JT_done ?_
    refine JS_begin (i := 1) rfl hrd ?_
    refine JS_block ?_
    refine JS_seq ?_
    -- region 4
    refine sR ?_
    refine kO (T_fieldAddr_ptr rfl fa60_1 rfl rfl) rfl ?_
    refine kO (T_load_own (i := 0) rfl rfl rfl (st_sub (i := 1) rfl rfl) ti43) rfl ?_
    refine kO (T_callL rfl en93 (w93 ho) (oa (ol rfl (Ty.le.refl _)) oa0)) rfl ?_
    refine kM rfl rfl ?_
    refine kO (T_extract rfl rfl rfl) rfl ?_
    refine kO (T_extract rfl rfl rfl) rfl ?_
    refine kO (T_extract rfl rfl rfl) rfl ?_
    refine kA rfl rfl ?_
    refine kA rfl rfl ?_
    refine kA rfl rfl ?_
    refine kE ?_
    refine JS_seq ?_
    -- region 5
    refine sR ?_
    refine kM rfl rfl ?_
    refine kO (T_not rfl rfl) rfl ?_
    refine kM rfl rfl ?_
    refine tk_split (d := 27) rfl (fun g27 => ?_) (fun g27 => ?_)
    · exact absurd g27 (by decide)
    · refine kG (wT rfl rfl rfl g27) (T_move (.inl rfl) rfl) rfl ?_
      refine kG (wT rfl rfl rfl g27) (T_lt rfl rfl rfl) rfl ?_
      refine kO (T_pickF rfl rfl g27 rfl) rfl ?_
      refine kM rfl rfl ?_
      refine tk_if (d := 31) rfl (fun g31 => ?_) (fun g31 => ?_)
      · exact absurd g31 (by have := hc.gain.2.1; omega)
      · refine kG (wFD g31 rfl rfl rfl) (T_sub (T_ld rfl rfl ti98) (of_kval _)) rfl ?_
        refine kG (wFD g31 rfl rfl rfl) (T_nilCheckO rfl rfl) rfl ?_
        refine kG (wFD g31 rfl rfl rfl) (T_fieldAddr_ptr rfl fa119_2 rfl rfl) rfl ?_
        refine kG (wFD g31 rfl rfl rfl) (T_move (.inl rfl) rfl) rfl ?_
        refine kT ?_
        refine JT_callM1 (i := 3) rfl (wFD g31 rfl rfl rfl) rfl en94 rfl (m94 (a := lcmL 1 ((gdens M).take j)) (b := lcmL 1 ((gdens M).take (j + 1))) (sc (i := 2) rfl rfl) (uc (i := 2) rfl rfl rfl) (sc (i := 2) rfl rfl) ⟨by omega, by omega⟩ ⟨by omega, by omega⟩ (by rw [gdens_get hk, lcmL_snoc, lcm_meet])) (oa (ol rfl (Ty.le.refl _)) (oa (ol rfl (Ty.le.refl _)) oa0)) (fun y36 => ?_)
        refine jG (wFD g31 rfl rfl rfl) (T_notD rfl rfl) rfl ?_
        refine jO (T_pickN g31 rfl rfl rfl) rfl ?_
        refine JT_done ?_
        refine JS_if rfl (fun c38 => ?_) (fun c38 => ?_)
        · exact absurd (by omega) c38
        · refine JS_skip ?_
          refine JS_end_inB ?_
          refine JS_drop 1 ?_
          refine JS_perm (List.Perm.swap _ _ _) ?_
          refine JS_perm (List.Perm.cons _ (List.Perm.swap _ _ _)) ?_
          exact JS_roundEnd (j + 1) (rfl) rfl
  · skip
    obtain rfl : j = (flat M).length := hD
    refine JS_end_inBD ?_
    refine JS_seq ?_
    -- region 7
    refine sR ?_
    refine kT ?_
    refine JT_store (i := 1) rfl rfl rfl rfl rfl (ol rfl (val_bool _)) (Upd.self _ _ rfl) sz4 ?_
    refine JT_done ?_
    exact JS_ret (JE_unmark (i := 0) rfl (JE_unmarked (JE_retMx (j := 0) () rfl rfl (.cell (i := 0) rfl rfl ti4 .nil) (bool_val _) rfl rfl rfl)))
  · exact hS.elim

end Go.Proofs.YtknflgfkhkdomaaGreatDoor.Mono
