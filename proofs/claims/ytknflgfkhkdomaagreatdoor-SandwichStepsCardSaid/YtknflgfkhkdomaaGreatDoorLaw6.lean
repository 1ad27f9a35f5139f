/- croupierlaw22.SandwichSteps returns true for every input. (part 6 of 8.) Conditions: none beyond the given row. -/
import Derived.Test.YtknflgfkhkdomaaGreatDoorLaw5
/-! WkS -/
set_option linter.unusedVariables false
set_option linter.unusedSimpArgs false
set_option maxRecDepth 4000
set_option maxHeartbeats 4000000
namespace Go.Proofs.YtknflgfkhkdomaaGreatDoor.Mono
open Go Go.RowKit

def dBr : Br := ⟨0, 0⟩
def bdens (l : List Br) : List Nat := l.map (fun b => b.p.den)
def lastT (l : List Br) : Nat → Int
  | 0 => -1
  | i + 1 => ((l.map (·.to)).getD i 0 : Nat)
/-- The numerators at a common denominator. -/
def sumN (P : Nat) (l : List Br) : Int := l.foldl (fun a b => a + b.p.num * ((P / b.p.den : Nat) : Int)) 0
theorem sumN_snoc (P : Nat) (l : List Br) (b : Br) : sumN P (l ++ [b]) = sumN P l + b.p.num * ((P / b.p.den : Nat) : Int) := by unfold sumN; rw [List.foldl_append]; rfl
theorem bdens_snoc (l : List Br) (b : Br) : bdens (l ++ [b]) = bdens l ++ [b.p.den] := by unfold bdens; rw [List.map_append]; rfl
theorem sumQ_snoc (l : List Rat) (x : Rat) : sumQ (l ++ [x]) = sumQ l + x := by unfold sumQ; rw [List.foldl_append]; rfl
theorem ratOf {x : Rat} {P : Nat} (h : x.den ∣ P) : ((x.num * ((P / x.den : Nat) : Int) : Int) : Rat) = (P : Rat) * x := by
  obtain ⟨k, rfl⟩ := h
  have hd : 0 < x.den := Nat.pos_of_ne_zero x.den_nz
  rw [Nat.mul_div_cancel_left _ hd, Rat.intCast_mul]
  have h1 : ((x.num : Int) : Rat) = (x.den : Rat) * x := by
    have h2 := Rat.mul_inv_cancel (x.den : Rat) (fun e => x.den_nz (Rat.natCast_eq_zero_iff.1 e))
    have h3 : x = ((x.num : Int) : Rat) * ((x.den : Nat) : Rat)⁻¹ := by
      rw [← Rat.div_def]
      have := Rat.divInt_eq_div x.num (x.den : Int)
      rw [Rat.num_divInt_den] at this
      exact this
    refine Eq.trans ?_ (congrArg (fun t => (x.den : Rat) * t) h3).symm
    show _ = (x.den : Rat) * (((x.num : Int) : Rat) * ((x.den : Nat) : Rat)⁻¹)
    rw [Rat.mul_comm (x.den : Rat), Rat.mul_assoc, Rat.mul_comm _ (x.den : Rat), h2, Rat.mul_one]
  rw [h1, Rat.natCast_mul]
  rw [show (((k : Nat) : Int) : Rat) = (k : Rat) from Rat.intCast_natCast k]
  rw [Rat.mul_assoc, Rat.mul_assoc, Rat.mul_comm x (k : Rat)]
theorem sumN_rat {P : Nat} : ∀ (l : List Br), (∀ b ∈ l, b.p.den ∣ P) → ((sumN P l : Int) : Rat) = (P : Rat) * sumQ (l.map (·.p)) := by
  intro l
  have key : ∀ (l : List Br) (a : Int) (q : Rat), ((a : Int) : Rat) = (P : Rat) * q → (∀ b ∈ l, b.p.den ∣ P) → ((l.foldl (fun a b => a + b.p.num * ((P / b.p.den : Nat) : Int)) a : Int) : Rat) = (P : Rat) * (l.map (·.p)).foldl (· + ·) q := by
    intro l
    induction l with
    | nil => intro a q h _; exact h
    | cons b l ih =>
      intro a q h hd
      rw [List.foldl_cons, List.map_cons, List.foldl_cons]
      refine ih _ _ ?_ (fun x hx => hd x (by simp [hx]))
      rw [Rat.intCast_add, h, ratOf (hd b (by simp)), Rat.mul_add]
  exact key l 0 0 (by simp)
theorem sumN_full {P : Nat} {l : List Br} (h : ∀ b ∈ l, b.p.den ∣ P) (hs : sumQ (l.map (·.p)) = 1) : sumN P l = P := by
  have := sumN_rat l h
  rw [hs, Rat.mul_one] at this
  rw [show ((P : Nat) : Rat) = (((P : Nat) : Int) : Rat) from (Rat.intCast_natCast P).symm] at this
  exact Rat.intCast_inj.1 this
theorem sumN_bd {P : Nat} (hP : P ≤ 9999) : ∀ (l : List Br), (∀ b ∈ l, 0 ≤ b.p.num ∧ b.p.num ≤ 9999) → 0 ≤ sumN P l ∧ sumN P l ≤ l.length * 99980001 := by
  have key : ∀ (l : List Br) (a : Int), 0 ≤ a → (∀ b ∈ l, 0 ≤ b.p.num ∧ b.p.num ≤ 9999) → 0 ≤ l.foldl (fun a b => a + b.p.num * ((P / b.p.den : Nat) : Int)) a ∧ l.foldl (fun a b => a + b.p.num * ((P / b.p.den : Nat) : Int)) a ≤ a + l.length * 99980001 := by
    intro l
    induction l with
    | nil => intro a h _; simp; exact h
    | cons b l ih =>
      intro a h hd
      have h1 := hd b (by simp)
      have h2 : P / b.p.den ≤ P := Nat.div_le_self _ _
      have h3 : 0 ≤ b.p.num * ((P / b.p.den : Nat) : Int) := Int.mul_nonneg h1.1 (Int.natCast_nonneg _)
      have h4 : b.p.num * ((P / b.p.den : Nat) : Int) ≤ 9999 * 9999 := Int.mul_le_mul h1.2 (by omega) (Int.natCast_nonneg _) (by decide)
      rw [List.foldl_cons, List.length_cons]
      generalize b.p.num * ((P / b.p.den : Nat) : Int) = t at *
      obtain ⟨h5, h6⟩ := ih (a + t) (by omega) (fun x hx => hd x (by simp [hx]))
      exact ⟨h5, by omega⟩
  intro l h
  have := key l 0 (by decide) h
  unfold sumN
  omega
theorem lastT_lt {l : List Br} (hs : ∀ i, i + 1 < l.length → (l.map (·.to)).getD i 0 < (l.map (·.to)).getD (i + 1) 0) {i : Nat} (hi : i < l.length) : lastT l i < (l[i].to : Int) := by
  have e : (l.map (·.to)).getD i 0 = l[i].to := by simp [List.getD_eq_getElem?_getD, List.getElem?_eq_getElem hi]
  cases i with
  | zero => show (-1 : Int) < _; omega
  | succ i =>
    have := hs i hi
    rw [e] at this
    show (((l.map (·.to)).getD i 0 : Nat) : Int) < _
    omega
theorem lastT_succ {l : List Br} {i : Nat} (hi : i < l.length) : lastT l (i + 1) = (l[i].to : Int) := by
  show (((l.map (·.to)).getD i 0 : Nat) : Int) = _
  simp [List.getD_eq_getElem?_getD, List.getElem?_eq_getElem hi]
theorem num_pos {q : Rat} (h : 0 < q.num) (hd : Dz 4 q) : 0 ≤ q.num ∧ q.num ≤ 9999 := by have := digs_small hd.1; omega

theorem take_succ_b {l : List Br} {i : Nat} (h : i < l.length) : l.take (i + 1) = l.take i ++ [l[i]] := List.take_succ_eq_append_getElem h

theorem u58 : Tryz.prog.underlying 58 = some (.slice 62) := by kernel_rfl

theorem ti62 : TI Tryz.prog 62 true 2 := ⟨by kernel_rfl, by kernel_rfl⟩

theorem h0_62 : ∀ m, (Seg.cat [Seg.of (Kd.int .i64) 0, Seg.of Kd.str []]).p m (Value.cells (.agg #[.int .i64 (0), .string ⟨#[]⟩])).toList := fun m => ⟨_, _, rfl, (fun _ => rfl) m, ⟨_, _, rfl, (fun _ => rfl) m, rfl⟩⟩

theorem z62 : ZeroOf Tryz.prog 62 (.agg #[.int .i64 (0), .string ⟨#[]⟩]) := by unfold ZeroOf; kernel_rfl

theorem sz62 : (Tryz.prog.info? 62).map (·.size) = some 2 := by kernel_rfl

theorem fa62_1 : FieldAt Tryz.prog 62 1 1 := by unfold FieldAt; kernel_rfl

theorem fa62_0 : FieldAt Tryz.prog 62 0 0 := by unfold FieldAt; kernel_rfl

theorem fa119_1 : FieldAt Tryz.prog 119 1 2 := by unfold FieldAt; kernel_rfl

theorem m95 {M : Mo} {g a GG HH : Nat} {q : Int} {c : Ch} {l : List Br} (hc : CM M.owner.length GG HH c) (hcl : c.next = l) (hn : M.owner.length ≤ 12) (hG : 1 ≤ GG ∧ GG ≤ 9999) (ha : 1 ≤ a ∧ a ∣ GG) : SpecM CC 95 [Ty.val (ptr g 0), Ty.of (Kd.slice Kd.br) l] [Res.box g 119 (Seg.cat [Seg.of Kd.mo M, Seg.of (Kd.int .i64) (a : Int), Seg.of (Kd.int .i64) q])] (Y := Unit) (fun _ => Ty.val (.bool true)) (fun _ => [Res.box g 119 (Seg.cat [Seg.of Kd.mo M, Seg.of (Kd.int .i64) ((lcmL a (bdens l) : Nat) : Int), Seg.of (Kd.int .i64) q])]) := by
  refine specM_of_JS Tryz.func95 rfl (Nat.le_of_ble_eq_true rfl) (fun gh0 wd0 => ?_)
  refine JS_bound (s := 1) rfl (fun b1 => ?_)
  unfold maxLen at b1
  subst hcl
  have hl := hc.len
  have hnx : ∀ (i : Nat) (hi : i < c.next.length), c.next[i].to < M.owner.length ∧ Dz 4 c.next[i].p ∧ 0 < c.next[i].p.num ∧ c.next[i].p.den ∣ GG := fun i hi => hc.next _ (List.getElem_mem hi)
  have hd := fun k => lcmL_ok (G := GG) (bdens (c.next.take k)) a (fun d hd => by obtain ⟨b, hb, rfl⟩ := List.mem_map.1 hd; exact ⟨Nat.pos_of_ne_zero b.p.den_nz, (hc.next b (List.mem_of_mem_take hb)).2.2.2⟩) ha
  have hle := fun k => Nat.le_of_dvd (by omega) (hd k).2
  refine JS_seq ?_
  -- region 0
  refine sR ?_
  refine kA rfl rfl ?_
  refine kE ?_
  refine JS_seq ?_
  -- region 1
  refine sR ?_
  refine kA rfl rfl ?_
  refine kE ?_
  refine JS_seq ?_
  refine JS_seq ?_
  -- region 2
  refine sR ?_
  refine kM rfl rfl ?_
  refine kO (T_len_slice rfl rfl u58 rfl) rfl ?_
  refine kM rfl rfl ?_
  refine kE ?_
  refine JS_block ?_
  refine sLoop1 (fun (i : Nat) => [(19, Ty.val (.int .i64 (i : Int))), (5, Ty.val (.int .i64 (lastT c.next i)))]) [0, 1, 17, 18] (fun (i : Nat) => [(0, Res.box g 119 (Seg.cat [Seg.of Kd.mo M, Seg.of (Kd.int .i64) ((lcmL a (bdens (c.next.take i)) : Nat) : Int), Seg.of (Kd.int .i64) q]))]) (fun (i : Nat) => i ≤ c.next.length) (fun (i : Nat) => c.next.length - i) 0 (Nat.zero_le _) (by rfl) (EnvSub.consLe rfl (int_eq (rfl)) (EnvSub.consLe rfl (int_eq (rfl)) (EnvSub.nil _))) (fun i (hI : i ≤ c.next.length) => ?_)
  refine JS_seq ?_
  -- region 3
  refine sR ?_
  refine kO (T_lt rfl rfl rfl) rfl ?_
  refine kE ?_
  refine JS_seq ?_
  refine JS_if rfl (fun c20 => ?_) (fun c20 => ?_)
  · have hi1 : i < c.next.length := by omega
    obtain ⟨b1, b2, b3, b4⟩ := hnx i hi1
    have b5 := num_pos b3 b2
    have b6 := digs_small b2.2
    have b7 := c.next[i].p.den_nz
    have b8 := lastT_lt hc.sorted hi1
    have l1 := hle i
    have l2 := (hd i).1
    have l3 := hle (i + 1)
    have et := toNat_get (l := c.next) (i := i) (by omega)
    refine JS_skip ?_
    refine JS_seq ?_
    refine JS_block ?_
    refine JS_seq ?_
    -- region 4
    refine sR ?_
    refine kO (T_ix rfl rfl rfl u58 ti62 (by omega) (by omega) rfl) rfl ?_
    refine kO (T_ld rfl rfl ti62) rfl ?_
    refine kT ?_
    refine JT_alloc (S0 := Seg.cat [Seg.of (Kd.int .i64) 0, Seg.of Kd.str []]) rfl rfl rfl rfl z62 h0_62 (fun g7 => ?_)
    refine JT_store (i := 0) rfl rfl rfl rfl rfl (ol rfl (Ty.le.refl _)) (Upd.self _ _ rfl) sz62 ?_
    refine JT_done ?_
    refine JS_seq ?_
    -- region 5
    refine sR ?_
    refine kO (T_fieldAddr_ptr rfl fa62_1 rfl rfl) rfl ?_
    refine kO (T_load_own (i := 0) rfl rfl rfl (st_sub (i := 1) rfl rfl) ti43) rfl ?_
    refine kO (T_callL rfl en93 (w93 (by rw [et]; exact b2)) (oa (ol rfl (Ty.le.refl _)) oa0)) rfl ?_
    refine kM rfl rfl ?_
    refine kO (T_extract rfl rfl rfl) rfl ?_
    refine kO (T_extract rfl rfl rfl) rfl ?_
    refine kO (T_extract rfl rfl rfl) rfl ?_
    refine kA rfl rfl ?_
    refine kA rfl rfl ?_
    refine kA rfl rfl ?_
    refine kE ?_
    refine JS_seq ?_
    refine JS_seq ?_
    -- region 6
    refine sRD mixed ?_
    refine kO (T_fieldAddr_ptr rfl fa62_0 rfl rfl) rfl ?_
    refine kO (T_load_own_int (i := 0) rfl rfl rfl (st_sub (i := 0) rfl rfl) ti3) rfl ?_
    refine kM rfl rfl ?_
    refine kO (T_le rfl rfl rfl) rfl ?_
    refine kM rfl rfl ?_
    refine tk_if (d := 34) rfl (fun g34 => ?_) (fun g34 => ?_)
    · exact absurd g34 (by rw [et]; omega)
    · refine kG (wFD g34 rfl rfl rfl) (T_fieldAddr_ptr rfl fa62_0 rfl rfl) rfl ?_
      refine kG (wFD g34 rfl rfl rfl) (T_load_own_int (i := 0) rfl rfl rfl (st_sub (i := 0) rfl rfl) ti3) rfl ?_
      refine kG (wFD g34 rfl rfl rfl) (T_move (.inl rfl) rfl) rfl ?_
      refine kG (wFD g34 rfl rfl rfl) (T_nilCheckO rfl rfl) rfl ?_
      refine kG (wFD g34 rfl rfl rfl) (T_fieldAddr_ptr rfl fa119_0 rfl rfl) rfl ?_
      refine kG (wFD g34 rfl rfl rfl) (T_fieldAddr_ptr rfl fa30_0 rfl rfl) rfl ?_
      refine kG (wFD g34 rfl rfl rfl) (T_load_own (i := 1) rfl rfl rfl (Sub.in_ (sc (i := 0) rfl rfl) (st_sub (i := 0) rfl rfl)) ti27) rfl ?_
      refine kG (wFD g34 rfl rfl rfl) (T_len_slice rfl rfl u27 rfl) rfl ?_
      refine kG (wFD g34 rfl rfl rfl) (T_ge rfl rfl rfl) rfl ?_
      refine kO (T_pickN g34 rfl rfl rfl) rfl ?_
      refine kM rfl rfl ?_
      refine tk_if (d := 45) rfl (fun g45 => ?_) (fun g45 => ?_)
      · exact absurd g45 (by rw [et]; omega)
      · refine kG (wFD g45 rfl rfl rfl) (T_move (.inl rfl) rfl) rfl ?_
        refine kG (wFD g45 rfl rfl rfl) (T_not rfl rfl) rfl ?_
        refine kO (T_pickN g45 rfl rfl rfl) rfl ?_
        refine kM rfl rfl ?_
        refine tk_split (d := 49) rfl (fun g49 => ?_) (fun g49 => ?_)
        · exact absurd g49 (by decide)
        · refine kG (wT rfl rfl rfl g49) (T_move (.inl rfl) rfl) rfl ?_
          refine kG (wT rfl rfl rfl g49) (T_lt rfl rfl rfl) rfl ?_
          refine kO (T_pickF rfl rfl g49 rfl) rfl ?_
          refine kM rfl rfl ?_
          refine tk_if (d := 53) rfl (fun g53 => ?_) (fun g53 => ?_)
          · exact absurd g53 (by rw [et]; omega)
          · refine kG (wFD g53 rfl rfl rfl) (T_move (.inl rfl) rfl) rfl ?_
            refine kG (wFD g53 rfl rfl rfl) (T_nilCheckO rfl rfl) rfl ?_
            refine kG (wFD g53 rfl rfl rfl) (T_fieldAddr_ptr rfl fa119_1 rfl rfl) rfl ?_
            refine kG (wFD g53 rfl rfl rfl) (T_move (.inl rfl) rfl) rfl ?_
            refine kTD (by decide) ?_
            refine JT_callM1 (i := 1) rfl (wFD g53 rfl rfl rfl) rfl en94 rfl (m94 (a := lcmL a (bdens (c.next.take i))) (b := lcmL a (bdens (c.next.take (i + 1)))) (sc (i := 1) rfl rfl) (uc (i := 1) rfl rfl rfl) (sc (i := 1) rfl rfl) ⟨by omega, by omega⟩ ⟨by rw [et]; omega, by rw [et]; omega⟩ (by rw [take_succ_b hi1, bdens_snoc, lcmL_snoc, lcm_meet, et])) (oa (ol rfl (Ty.le.refl _)) (oa (ol rfl (Ty.le.refl _)) oa0)) (fun y58 => ?_)
            refine jG (wFD g53 rfl rfl rfl) (T_notD rfl rfl) rfl ?_
            refine jO (T_pickN g53 rfl rfl rfl) rfl ?_
            refine JT_done ?_
            refine JS_if rfl (fun c60 => ?_) (fun c60 => ?_)
            · exact absurd (by omega) c60
            · refine JS_skip ?_
              -- region 8
              refine sR ?_
              refine kO (T_fieldAddr_ptr rfl fa62_0 rfl rfl) rfl ?_
              refine kO (T_load_own_int (i := 1) rfl rfl rfl (st_sub (i := 0) rfl rfl) ti3) rfl ?_
              refine kA rfl rfl ?_
              refine kE ?_
              refine JS_end_inB ?_
              -- region 9
              refine sR ?_
              refine kO (T_add rfl rfl rfl (wrap_i64 (by omega) (by omega))) rfl ?_
              refine kM rfl rfl ?_
              refine kE ?_
              refine JS_drop 1 ?_
              exact JS_round (i + 1) (by omega) ((by omega)) (by rw [take_succ_b hi1]; rfl) (EnvSub.consLe rfl (int_eq (rfl)) (EnvSub.consLe rfl (int_eq (by rw [lastT_succ hi1, toNat_get])) (EnvSub.pick1 rfl (EnvSub.pick1 rfl (EnvSub.pick1 rfl (EnvSub.pick1 rfl (EnvSub.nil _)))))))
  · obtain rfl : i = c.next.length := by omega
    rw [List.take_length]
    have hPd := (lcmL_dvd (bdens c.next) a).2
    have hPl := hle c.next.length
    rw [List.take_length] at hPl
    refine JS_exit (JE_loop_exit (JE_inB_here ?_))
    refine JS_seq ?_
    -- region 10
    refine sR ?_
    refine kA rfl rfl ?_
    refine kE ?_
    refine JS_seq ?_
    refine JS_seq ?_
    -- region 11
    refine sR ?_
    refine kM rfl rfl ?_
    refine kO (T_len_slice rfl rfl u58 rfl) rfl ?_
    refine kM rfl rfl ?_
    refine kE ?_
    refine JS_block ?_
    refine sLoop1 (fun (i : Nat) => [(66, Ty.val (.int .i64 (i : Int))), (11, Ty.val (.int .i64 (sumN (lcmL a (bdens c.next)) (c.next.take i))))]) [0, 64, 65] (fun (i : Nat) => []) (fun (i : Nat) => i ≤ c.next.length) (fun (i : Nat) => c.next.length - i) 0 (Nat.zero_le _) rfl (EnvSub.consLe rfl (int_eq (rfl)) (EnvSub.consLe rfl (int_eq (by rfl)) (EnvSub.nil _))) (fun i (hI : i ≤ c.next.length) => ?_)
    refine JS_seq ?_
    -- region 12
    refine sR ?_
    refine kO (T_lt rfl rfl rfl) rfl ?_
    refine kE ?_
    refine JS_seq ?_
    refine JS_if rfl (fun c67 => ?_) (fun c67 => ?_)
    · have hi1 : i < c.next.length := by omega
      obtain ⟨b1, b2, b3, b4⟩ := hnx i hi1
      have b5 := num_pos b3 b2
      have b6 := digs_small b2.2
      have b7 := c.next[i].p.den_nz
      have et := toNat_get (l := c.next) (i := i) (by omega)
      have s1 := sumN_bd (P := lcmL a (bdens c.next)) (by omega) (c.next.take i) (fun b hb => num_pos (hc.next b (List.mem_of_mem_take hb)).2.2.1 (hc.next b (List.mem_of_mem_take hb)).2.1)
      have s2 : (c.next.take i).length = i := by rw [List.length_take]; omega
      rw [s2] at s1
      have q1 : lcmL a (bdens c.next) / c.next[i].p.den ≤ lcmL a (bdens c.next) := Nat.div_le_self _ _
      have q2 : 0 ≤ c.next[i].p.num * ((lcmL a (bdens c.next) / c.next[i].p.den : Nat) : Int) := Int.mul_nonneg b5.1 (Int.natCast_nonneg _)
      have q3 : c.next[i].p.num * ((lcmL a (bdens c.next) / c.next[i].p.den : Nat) : Int) ≤ 9999 * 9999 := Int.mul_le_mul b5.2 (by omega) (Int.natCast_nonneg _) (by decide)
      refine JS_skip ?_
      refine JS_seq ?_
      refine JS_block ?_
      refine JS_seq ?_
      -- region 13
      refine sR ?_
      refine kO (T_ix rfl rfl rfl u58 ti62 (by omega) (by omega) rfl) rfl ?_
      refine kO (T_ld rfl rfl ti62) rfl ?_
      refine kT ?_
      refine JT_alloc (S0 := Seg.cat [Seg.of (Kd.int .i64) 0, Seg.of Kd.str []]) rfl rfl rfl rfl z62 h0_62 (fun g13 => ?_)
      refine JT_store (i := 0) rfl rfl rfl rfl rfl (ol rfl (Ty.le.refl _)) (Upd.self _ _ rfl) sz62 ?_
      refine JT_done ?_
      refine JS_seq ?_
      -- region 14
      refine sR ?_
      refine kO (T_fieldAddr_ptr rfl fa62_1 rfl rfl) rfl ?_
      refine kO (T_load_own (i := 0) rfl rfl rfl (st_sub (i := 1) rfl rfl) ti43) rfl ?_
      refine kO (T_callL rfl en93 (w93 (by rw [et]; exact b2)) (oa (ol rfl (Ty.le.refl _)) oa0)) rfl ?_
      refine kM rfl rfl ?_
      refine kO (T_extract rfl rfl rfl) rfl ?_
      refine kO (T_extract rfl rfl rfl) rfl ?_
      refine kO (T_extract rfl rfl rfl) rfl ?_
      refine kA rfl rfl ?_
      refine kA rfl rfl ?_
      refine kA rfl rfl ?_
      refine kE ?_
      -- region 15
      refine sR ?_
      refine kM rfl rfl ?_
      refine kM rfl rfl ?_
      refine kM rfl rfl ?_
      refine kO (T_nilCheckO rfl rfl) rfl ?_
      refine kO (T_fieldAddr_ptr rfl fa119_1 rfl rfl) rfl ?_
      refine kO (T_load_own_int (i := 1) rfl rfl rfl (sc (i := 1) rfl rfl) ti3) rfl ?_
      refine kM rfl rfl ?_
      refine kO (T_quo rfl rfl rfl (by rw [et]; omega) ((quo_i64 (by omega) (by rw [et]; omega) (by omega)).trans (natdiv _ _))) rfl ?_
      refine kO (T_mul rfl rfl rfl (wrap_i64 (by rw [et]; omega) (by rw [et]; omega))) rfl ?_
      refine kO (T_add rfl rfl rfl (wrap_i64 (by rw [et]; omega) (by rw [et]; omega))) rfl ?_
      refine kA rfl rfl ?_
      refine kE ?_
      refine JS_end_inB ?_
      -- region 16
      refine sR ?_
      refine kO (T_add rfl rfl rfl (wrap_i64 (by omega) (by omega))) rfl ?_
      refine kM rfl rfl ?_
      refine kE ?_
      refine JS_drop 0 ?_
      exact JS_round (i + 1) (by omega) ((by omega)) rfl (EnvSub.consLe rfl (int_eq (rfl)) (EnvSub.consLe rfl (int_eq (by rw [take_succ_b hi1, sumN_snoc, toNat_get])) (EnvSub.pick1 rfl (EnvSub.pick1 rfl (EnvSub.pick1 rfl (EnvSub.nil _))))))
    · obtain rfl : i = c.next.length := by omega
      rw [List.take_length]
      have hfin := sumN_full (P := lcmL a (bdens c.next)) (fun b hb => hPd _ (List.mem_map.2 ⟨b, hb, rfl⟩)) hc.sum
      refine JS_exit (JE_loop_exit (JE_inB_here ?_))
      refine JS_seq ?_
      -- region 17
      refine sR ?_
      refine kM rfl rfl ?_
      refine kM rfl rfl ?_
      refine kO (T_nilCheckO rfl rfl) rfl ?_
      refine kO (T_fieldAddr_ptr rfl fa119_1 rfl rfl) rfl ?_
      refine kO (T_load_own_int (i := 0) rfl rfl rfl (sc (i := 1) rfl rfl) ti3) rfl ?_
      refine kO (T_eq rfl rfl rfl) rfl ?_
      refine kA rfl rfl ?_
      refine kE ?_
      exact JS_ret (JE_retM1 () rfl rfl (.tmp rfl .nil) (bool_eq (decide_eq_true hfin)) rfl rfl rfl)

end Go.Proofs.YtknflgfkhkdomaaGreatDoor.Mono

/-! WkT -/
set_option linter.unusedVariables false
set_option linter.unusedSimpArgs false
set_option maxRecDepth 4000
set_option maxHeartbeats 4000000
namespace Go.Proofs.YtknflgfkhkdomaaGreatDoor.Mono
open Go Go.RowKit

def pK (M : Mo) : Nat → Nat
  | 0 => 1
  | k + 1 => lcmL (pK M k) (bdens ((flat M).getD k dCh).2.next)
theorem pK_ok {M : Mo} {n GG HH : Nat} (hC : ∀ l ∈ M.choices, ∀ c ∈ l, CM n GG HH c) : ∀ k, k ≤ (flat M).length → 1 ≤ pK M k ∧ pK M k ∣ GG
  | 0, _ => ⟨Nat.le_refl _, Nat.one_dvd _⟩
  | k + 1, hk => lcmL_ok _ _ (fun d hd => by
      have hc := flat_cm (M := M) (k := k) hC (by omega)
      obtain ⟨b, hb, rfl⟩ := List.mem_map.1 hd
      exact ⟨Nat.pos_of_ne_zero b.p.den_nz, (hc.next b hb).2.2.2⟩) (pK_ok hC k (by omega))

theorem fa60_2 : FieldAt Tryz.prog 60 2 2 := by unfold FieldAt; kernel_rfl

theorem ti58 : TI Tryz.prog 58 false 1 := ⟨by kernel_rfl, by kernel_rfl⟩

theorem en95 : Enters Tryz.prog 95 := enters_fn Tryz.func95 (by kernel_rfl) rfl

theorem m64 {M : Mo} {g : Nat} {p q : Int} (hM : GM M) : SpecM CC 64 [Ty.val (ptr g 0)] [Res.box g 119 (Seg.cat [Seg.of Kd.mo M, Seg.of (Kd.int .i64) p, Seg.of (Kd.int .i64) q])] (Y := Unit) (fun _ => Ty.val (.bool true)) (fun _ => [Res.box g 119 (Seg.cat [Seg.of Kd.mo M, Seg.of (Kd.int .i64) ((pK M (flat M).length : Nat) : Int), Seg.of (Kd.int .i64) q])]) := by
  refine specM_of_JSM Tryz.func64 rfl (Nat.le_of_ble_eq_true rfl) (fun gh0 wd0 => ?_)
  obtain ⟨GG, HH, gg1, gg2, h1, h2, hC⟩ := hM.grain
  have n1 := hM.n1
  refine JS_seq ?_
  -- region 0
  refine sR ?_
  refine kO (T_box rfl (ol rfl (to_kval rfl))) rfl ?_
  refine kT ?_
  refine JT_alloc (S0 := Seg.of Kd.bool false) rfl rfl rfl rfl z4 (fun _ => rfl) (fun g2 => ?_)
  refine JT_done ?_
  refine JS_seq ?_
  -- region 1
  refine sR ?_
  refine kO (T_sub (T_ld rfl rfl ti98) (of_kval _)) rfl ?_
  refine kO (T_nilCheckO rfl rfl) rfl ?_
  refine kO (T_fieldAddr_ptr rfl fa119_1 rfl rfl) rfl ?_
  refine kT ?_
  refine JT_store (i := 1) rfl rfl rfl rfl rfl (ol rfl (val_int _ _)) (uc (i := 1) rfl rfl rfl) sz3 ?_
  refine JT_done ?_
  refine JS_seq ?_
  refine JS_seq ?_
  -- region 2
  refine sR ?_
  refine kO (T_sub (T_ld rfl rfl ti98) (of_kval _)) rfl ?_
  refine kO (T_nilCheckO rfl rfl) rfl ?_
  refine kO (T_fieldAddr_ptr rfl fa119_0 rfl rfl) rfl ?_
  refine kO (T_load_own (i := 1) rfl rfl rfl (sc (i := 0) rfl rfl) ti30) rfl ?_
  refine kO (T_callL rfl en90 (w90 ) (oa (ol rfl (Ty.le.refl _)) oa0)) rfl ?_
  refine kE ?_
  refine JS_block ?_
  refine JS_rf1 (fun (j : Nat) => [(1, Res.box g 119 (Seg.cat [Seg.of Kd.mo M, Seg.of (Kd.int .i64) ((pK M j : Nat) : Int), Seg.of (Kd.int .i64) q]))]) (fun (k : Nat) (j : Nat) => j = k) (fun (c : Code) (j : Nat) => False) 0 rfl rfl (fun _ => rfl) rfl (rfl) rfl (fun k j gh1 wd1 lq rq hk (hI : j = k) hrd hgh => ?_) (fun j mk hD => ?_) (fun c j mk hS => ?_)
  · obtain rfl := hI
    have hc := flat_cm (M := M) (k := j) hC hk
    have hp := pK_ok hC j (by omega)
    -- region 3
    refine sR ?_
    refine kT ?_
    refine JT_alloc (S0 := Seg.cat [Seg.of Kd.str [], Seg.of Kd.str [], Seg.of (Kd.slice Kd.br) []]) rfl rfl rfl rfl z60 h0_60 (fun g4 => ?_)
    refine JT_store (i := 0) rfl rfl rfl rfl rfl (ol rfl (Ty.le.refl _)) (Upd.self _ _ rfl) sz60 ?_
    refine JT_done ?_
    refine JS_begin (i := 1) rfl hrd ?_
    refine JS_block ?_
    refine JS_seq ?_
    -- region 4
    refine sR ?_
    refine kO (T_sub (T_ld rfl rfl ti98) (of_kval _)) rfl ?_
    refine kO (T_fieldAddr_ptr rfl fa60_2 rfl rfl) rfl ?_
    refine kO (T_load_own (i := 0) rfl rfl rfl (st_sub (i := 2) rfl rfl) ti58) rfl ?_
    refine kT ?_
    refine JT_callM1 (i := 3) rfl rfl rfl en95 rfl (m95 (c := ((flat M).getD j dCh).2) hc rfl (by omega) ⟨gg1, gg2⟩ hp) (oa (ol rfl (Ty.le.refl _)) (oa (ol rfl (Ty.le.refl _)) oa0)) (fun y18 => ?_)
    refine jO (T_not rfl rfl) rfl ?_
    refine JT_done ?_
    refine JS_cf rfl ?_
    refine JS_skip ?_
    refine JS_end_inB ?_
    refine JS_drop 1 ?_
    refine JS_perm (List.Perm.swap _ _ _) ?_
    refine JS_perm (List.Perm.cons _ (List.Perm.swap _ _ _)) ?_
    exact JS_roundEnd (j + 1) (rfl) rfl
  · skip
    obtain rfl : j = (flat M).length := hD
    refine JS_end_inBD ?_
    refine JS_seq ?_
    -- region 6
    refine sR ?_
    refine kT ?_
    refine JT_store (i := 1) rfl rfl rfl rfl rfl (ol rfl (val_bool _)) (Upd.self _ _ rfl) sz4 ?_
    refine JT_done ?_
    exact JS_ret (JE_unmark (i := 0) rfl (JE_unmarked (JE_retMx (j := 0) () rfl rfl (.cell (i := 0) rfl rfl ti4 .nil) (bool_val _) rfl rfl rfl)))
  · exact hS.elim

def chkP (M : Mo) (i : Nat) : Int := if i ≤ 4 then 0 else ((pK M (flat M).length : Nat) : Int)
def chkQ (M : Mo) (i : Nat) : Int := if i ≤ 3 then 0 else ((lcmL 1 ((gdens M).take (flat M).length) : Nat) : Int)
def fid (i : Nat) : Nat := [60, 61, 62, 63, 64].getD i 0
def fvs : List Value := [.func (.func 60) #[] #[], .func (.func 61) #[] #[], .func (.func 62) #[] #[], .func (.func 63) #[] #[], .func (.func 64) #[] #[]]
theorem fvs_at {i : Nat} (h : i < 5) : fvs[((i : Int)).toNat]? = some (.func (.func (fid i)) #[] #[]) := by
  match i, h with
  | 0, _ => rfl
  | 1, _ => rfl
  | 2, _ => rfl
  | 3, _ => rfl
  | 4, _ => rfl



theorem en60 : Enters Tryz.prog 60 := enters_fn Tryz.func60 (by kernel_rfl) rfl
theorem en61 : Enters Tryz.prog 61 := enters_fn Tryz.func61 (by kernel_rfl) rfl
theorem en62 : Enters Tryz.prog 62 := enters_fn Tryz.func62 (by kernel_rfl) rfl
theorem en63 : Enters Tryz.prog 63 := enters_fn Tryz.func63 (by kernel_rfl) rfl
theorem en64 : Enters Tryz.prog 64 := enters_fn Tryz.func64 (by kernel_rfl) rfl

theorem rules_en {i : Nat} (h : i < 5) : Enters CC.P (fid i) := by
  match i, h with
  | 0, _ => exact en60
  | 1, _ => exact en61
  | 2, _ => exact en62
  | 3, _ => exact en63
  | 4, _ => exact en64
theorem rules {M : Mo} (hM : GM M) {i g : Nat} (h : i < 5) : SpecM CC (fid i) [Ty.val (ptr g 0)] [Res.box g 119 (Seg.cat [Seg.of Kd.mo M, Seg.of (Kd.int .i64) (chkP M i), Seg.of (Kd.int .i64) (chkQ M i)])] (fun (_ : Unit) => Ty.val (.bool true)) (fun _ => [Res.box g 119 (Seg.cat [Seg.of Kd.mo M, Seg.of (Kd.int .i64) (chkP M (i + 1)), Seg.of (Kd.int .i64) (chkQ M (i + 1))])]) := by
  match i, h with
  | 0, _ => exact m60 hM
  | 1, _ => exact m61 hM
  | 2, _ => exact m62 hM
  | 3, _ => exact m63 hM
  | 4, _ => exact m64 hM

theorem h0_119mo_i64_i64 : ∀ m, (Seg.cat [Seg.of Kd.mo ⟨[], []⟩, Seg.of (Kd.int .i64) 0, Seg.of (Kd.int .i64) 0]).p m (Value.cells (.agg #[.slice none 0 0, .slice none 0 0, .int .i64 (0), .int .i64 (0)])).toList := fun m => ⟨[.slice none 0 0, .slice none 0 0], _, rfl, z_mo m, ⟨_, _, rfl, (fun _ => rfl) m, ⟨_, _, rfl, (fun _ => rfl) m, rfl⟩⟩⟩

theorem fk119 : FieldsKnown Tryz.prog 119 := by unfold FieldsKnown; kernel_rfl

theorem z119 : ZeroOf Tryz.prog 119 (.agg #[.slice none 0 0, .slice none 0 0, .int .i64 (0), .int .i64 (0)]) := by unfold ZeroOf; kernel_rfl

theorem h0_121 : ∀ m, (Seg.cat [Seg.of Kd.val .nilFunc, Seg.of Kd.val .nilFunc, Seg.of Kd.val .nilFunc, Seg.of Kd.val .nilFunc, Seg.of Kd.val .nilFunc]).p m (Value.cells (.agg #[.nilFunc, .nilFunc, .nilFunc, .nilFunc, .nilFunc])).toList := fun m => ⟨_, _, rfl, (fun _ => ⟨rfl, rfl⟩) m, ⟨_, _, rfl, (fun _ => ⟨rfl, rfl⟩) m, ⟨_, _, rfl, (fun _ => ⟨rfl, rfl⟩) m, ⟨_, _, rfl, (fun _ => ⟨rfl, rfl⟩) m, ⟨_, _, rfl, (fun _ => ⟨rfl, rfl⟩) m, rfl⟩⟩⟩⟩⟩

theorem u121 : Tryz.prog.underlying 121 = some (.array 5 120) := by kernel_rfl

theorem ti120 : TI Tryz.prog 120 false 1 := ⟨by kernel_rfl, by kernel_rfl⟩

theorem z121 : ZeroOf Tryz.prog 121 (.agg #[.nilFunc, .nilFunc, .nilFunc, .nilFunc, .nilFunc]) := by unfold ZeroOf; kernel_rfl

theorem w39 {M : Mo} (hM : GM M) : Spec CC 39 [Ty.of Kd.mo M] (Ty.tup [Ty.any, Ty.val (.bool true)]) := by
  refine spec_of_JS Tryz.func39 rfl (Nat.le_of_ble_eq_true rfl) (fun gh0 wd0 => ?_)
  refine JS_seq ?_
  -- region 0
  refine sR ?_
  refine kO (T_box rfl (ol rfl (Ty.le.refl _))) rfl ?_
  refine kA rfl rfl ?_
  refine kA rfl rfl ?_
  refine kE ?_
  refine JS_scopeS rfl ?_
  refine JS_seq ?_
  -- region 1
  refine sR ?_
  refine kO (T_ld rfl rfl ti30) rfl ?_
  refine kO (T_build (S0 := Seg.cat [Seg.of Kd.mo ⟨[], []⟩, Seg.of (Kd.int .i64) 0, Seg.of (Kd.int .i64) 0]) rfl fk119 z119 h0_119mo_i64_i64 (fc (ol rfl (Ty.le.refl _)) (uc (i := 0) rfl rfl rfl) rfl (Fill.nil _)) rfl) rfl ?_
  refine kT ?_
  refine JT_box rfl rfl rfl rfl (ol rfl (Ty.le.refl _)) (fun g10 => ?_)
  refine jA rfl rfl ?_
  refine JT_done ?_
  refine JS_seq ?_
  -- region 2
  refine sR ?_
  refine kA rfl rfl ?_
  refine kE ?_
  refine JS_seq ?_
  refine JS_label ?_
  refine JS_seq ?_
  refine JS_seq ?_
  -- region 3
  refine sR ?_
  refine kO (T_sub (T_buildArr (S0 := Seg.cat [Seg.of Kd.val .nilFunc, Seg.of Kd.val .nilFunc, Seg.of Kd.val .nilFunc, Seg.of Kd.val .nilFunc, Seg.of Kd.val .nilFunc]) rfl u121 ti120 z121 h0_121 (fc (ol rfl (to_kval rfl)) (uc (i := 0) rfl rfl rfl) rfl (fc (ol rfl (to_kval rfl)) (uc (i := 1) rfl rfl rfl) rfl (fc (ol rfl (to_kval rfl)) (uc (i := 2) rfl rfl rfl) rfl (fc (ol rfl (to_kval rfl)) (uc (i := 3) rfl rfl rfl) rfl (fc (ol rfl (to_kval rfl)) (uc (i := 4) rfl rfl rfl) rfl (Fill.nil _)))))) rfl) (arr_mk fvs rfl rfl)) rfl ?_
  refine kM rfl rfl ?_
  refine kE ?_
  refine JS_block ?_
  refine sLoop1 (fun (i : Nat) => [(12, Ty.val (.int .i64 (i : Int))), (5, Ty.val (.bool true))]) [4, 11] (fun (i : Nat) => [(0, Res.box g10 119 (Seg.cat [Seg.of Kd.mo M, Seg.of (Kd.int .i64) (chkP M i), Seg.of (Kd.int .i64) (chkQ M i)]))]) (fun (i : Nat) => i ≤ 5) (fun (i : Nat) => 5 - i) 0 (Nat.zero_le _) rfl (EnvSub.consLe rfl (int_eq (rfl)) (EnvSub.consLe rfl (bool_eq (rfl)) (EnvSub.nil _))) (fun i (hI : i ≤ 5) => ?_)
  refine JS_seq ?_
  -- region 4
  refine sR ?_
  refine kO (T_lt rfl rfl rfl) rfl ?_
  refine kE ?_
  refine JS_seq ?_
  refine JS_if rfl (fun c13 => ?_) (fun c13 => ?_)
  · refine JS_skip ?_
    refine JS_seq ?_
    refine JS_block ?_
    refine JS_seq ?_
    -- region 5
    refine sR ?_
    refine kO (T_index_arr rfl rfl rfl u121 ti120 (by omega) (by show ((i : Int)).toNat < 5; omega) (fvs_at (by omega))) rfl ?_
    refine kA rfl rfl ?_
    refine kE ?_
    refine JS_seq ?_
    -- region 6
    refine JS_re (s := 7) (T := Ty.val (.func (.func (fid i)) #[] #[])) rfl (of_kval _) ?_
    refine sR ?_
    refine kM rfl rfl ?_
    refine kM rfl rfl ?_
    refine kT ?_
    refine JT_callvM1 (i := 0) (cap := []) rfl rfl rfl rfl (rules_en (i := i) (by omega)) rfl (rules hM (by omega)) (oa (ol rfl (Ty.le.refl _)) oa0) (fun yv17 => ?_)
    refine jO (T_not rfl rfl) rfl ?_
    refine JT_done ?_
    refine JS_cf rfl ?_
    refine JS_skip ?_
    refine JS_end_inB ?_
    -- region 8
    refine sR ?_
    refine kO (T_add rfl rfl rfl (wrap_i64 (by omega) (by omega))) rfl ?_
    refine kM rfl rfl ?_
    refine kE ?_
    exact JS_round (i + 1) (by omega) ((by omega)) rfl (EnvSub.consLe rfl (int_eq (rfl)) (EnvSub.consLe rfl (bool_eq (rfl)) (EnvSub.pick1 rfl (EnvSub.pick1 rfl (EnvSub.nil _)))))
  · refine JS_exit (JE_loop_exit (JE_inB_here ?_))
    refine JS_seq ?_
    -- region 9
    refine sR ?_
    refine kM rfl rfl ?_
    refine kM rfl rfl ?_
    refine kA rfl rfl ?_
    refine kA rfl rfl ?_
    refine kE ?_
    exact JS_ret (JE_scope_ret (JE_ret_many rfl (by decide) (.le (.tmp rfl (.le (.tmp rfl .nil) (bool_eq (rfl)))) (Ty.le_any _))))

theorem en39 : Enters Tryz.prog 39 := enters_fn Tryz.func39 (by kernel_rfl) rfl

theorem w25 {M : Mo} (hM : GM M) : Spec CC 25 [Ty.of Kd.mo M] (Ty.val (.int .i64 0)) := by
  refine spec_of_JS Tryz.func25 rfl (Nat.le_of_ble_eq_true rfl) (fun gh0 wd0 => ?_)
  refine JS_seq ?_
  -- region 0
  refine sR ?_
  refine kO (T_box rfl (ol rfl (Ty.le.refl _))) rfl ?_
  refine kA rfl rfl ?_
  refine kE ?_
  refine JS_seq ?_
  refine JS_seq ?_
  -- region 1
  refine sR ?_
  refine kO (T_ld rfl rfl ti30) rfl ?_
  refine kO (T_callL rfl en39 (w39 hM) (oa (ol rfl (Ty.le.refl _)) oa0)) rfl ?_
  refine kM rfl rfl ?_
  refine kO (T_extract rfl rfl rfl) rfl ?_
  refine kO (T_extract rfl rfl rfl) rfl ?_
  refine kA rfl rfl ?_
  refine kA rfl rfl ?_
  refine kE ?_
  refine JS_seq ?_
  -- region 2
  refine sR ?_
  refine kM rfl rfl ?_
  refine kO (T_not rfl rfl) rfl ?_
  refine kE ?_
  refine JS_cf rfl ?_
  refine JS_skip ?_
  refine JS_seq ?_
  -- region 4
  refine sR ?_
  refine kA rfl rfl ?_
  refine kE ?_
  exact JS_ret (JE_ret_one rfl rfl (.tmp rfl .nil) (int_eq (rfl)))

theorem en25 : Enters Tryz.prog 25 := enters_fn Tryz.func25 (by kernel_rfl) rfl

theorem en40 : Enters Tryz.prog 40 := enters_fn Tryz.func40 (by kernel_rfl) rfl

theorem w26 {M : Mo} (hM : GM M) : Spec CC 26 [Ty.of Kd.mo M] (Ty.val (.bool true)) := by
  refine spec_of_JS Tryz.func26 rfl (Nat.le_of_ble_eq_true rfl) (fun gh0 wd0 => ?_)
  refine JS_seq ?_
  -- region 0
  refine sR ?_
  refine kO (T_box rfl (ol rfl (Ty.le.refl _))) rfl ?_
  refine kA rfl rfl ?_
  refine kE ?_
  refine JS_seq ?_
  -- region 1
  refine sR ?_
  refine kO (T_ld rfl rfl ti30) rfl ?_
  refine kO (T_callL rfl en25 (w25 hM) (oa (ol rfl (Ty.le.refl _)) oa0)) rfl ?_
  refine kO (T_eq rfl rfl rfl) rfl ?_
  refine kM rfl rfl ?_
  refine tk_if (d := 6) rfl (fun g6 => ?_) (fun g6 => ?_)
  · refine kG (wTD g6 rfl rfl rfl) (T_fieldAddr rfl fa30_0 (st_sub (i := 0) rfl rfl) rfl) rfl ?_
    refine kG (wTD g6 rfl rfl rfl) (T_ld rfl rfl ti27) rfl ?_
    refine kG (wTD g6 rfl rfl rfl) (T_callL rfl en40 (w40 ) (oa (ol rfl (Ty.le.refl _)) (oa (ol rfl (Ty.le.refl _)) oa0))) rfl ?_
    refine kG (wTD g6 rfl rfl rfl) (T_not rfl rfl) rfl ?_
    refine kO (T_pickD g6 rfl rfl rfl) rfl ?_
    refine kA rfl rfl ?_
    refine kE ?_
    exact JS_ret (JE_ret_one rfl rfl (.tmp rfl .nil) (bool_eq (by rw [any_false (fun x hx => decide_eq_false (fun h => by have := hM.own x hx; omega))]; rfl)))
  · exact absurd rfl g6

end Go.Proofs.YtknflgfkhkdomaaGreatDoor.Mono

/-! MonoS -/
set_option linter.unusedVariables false
set_option linter.unusedSimpArgs false
namespace Go.Proofs.YtknflgfkhkdomaaGreatDoor.Mono
open Go Go.RowKit

/-! ### Denominators -/
theorem den_dvd_of {x : Rat} {E : Nat} (hE : 0 < E) {a : Int} (h : x = Rat.divInt a E) : x.den ∣ E := by
  rw [h, Rat.den_divInt, if_neg (by omega), Int.natAbs_natCast]
  exact Nat.div_dvd_of_dvd (by have := Int.gcd_dvd_natAbs_left (E : Int) a; simpa using this)
theorem as_divInt {x : Rat} {E : Nat} (hE : 0 < E) (h : x.den ∣ E) : ∃ a : Int, x = Rat.divInt a E := by
  obtain ⟨k, rfl⟩ := h
  have hk : (k : Int) ≠ 0 := by intro e; have : k = 0 := by omega
                                subst this; omega
  refine ⟨x.num * k, ?_⟩
  rw [Int.natCast_mul, Rat.divInt_mul_right hk, Rat.num_divInt_den]
theorem den_add {x y : Rat} {E : Nat} (hE : 0 < E) (hx : x.den ∣ E) (hy : y.den ∣ E) : (x + y).den ∣ E := by
  obtain ⟨a, rfl⟩ := as_divInt hE hx
  obtain ⟨b, rfl⟩ := as_divInt hE hy
  refine den_dvd_of hE (a := a + b) ?_
  rw [Rat.divInt_add_divInt _ _ (by omega) (by omega), ← Int.add_mul, Rat.divInt_mul_right (by omega)]
theorem den_mul' {x y : Rat} {E F : Nat} (hE : 0 < E) (hF : 0 < F) (hx : x.den ∣ E) (hy : y.den ∣ F) : (x * y).den ∣ E * F := by
  obtain ⟨a, rfl⟩ := as_divInt hE hx
  obtain ⟨b, rfl⟩ := as_divInt hF hy
  refine den_dvd_of (Nat.mul_pos hE hF) (a := a * b) ?_
  rw [Rat.divInt_mul_divInt, Int.natCast_mul]
/-- From 0 to 1, the denominator a divisor of D. -/
def Bd (D : Nat) (x : Rat) : Prop := 0 ≤ x ∧ x ≤ 1 ∧ x.den ∣ D
theorem Bd.zero (D : Nat) : Bd D 0 := ⟨Rat.le_refl, by decide, Nat.one_dvd _⟩
theorem Bd.one (D : Nat) : Bd D 1 := ⟨by decide, Rat.le_refl, Nat.one_dvd _⟩
theorem Bd.up {D E : Nat} {x : Rat} (h : Bd D x) (hE : D ∣ E) : Bd E x := ⟨h.1, h.2.1, Nat.dvd_trans h.2.2 hE⟩
theorem Bd.num {D : Nat} {x : Rat} (h : Bd D x) (hD : 0 < D) : x.num.natAbs ≤ x.den ∧ x.den ≤ D := by
  refine ⟨?_, Nat.le_of_dvd hD h.2.2⟩
  have h1 : 0 ≤ x.num := Rat.num_nonneg.2 h.1
  have h2 := (Rat.le_iff x 1).1 h.2.1
  simp at h2
  omega
theorem Bd.nz {D : Nat} {x : Rat} (h : Bd D x) (hD : 0 < D) (hb : D < 10 ^ 252) : Nz 28 x := by
  obtain ⟨h1, h2⟩ := h.num hD
  have e : (10 : Nat) ^ 252 = 1000000000 ^ 28 := by decide
  exact ⟨lims_len_of_lt (by omega), lims_len_of_lt (by omega)⟩
theorem dec_len_lt {n k : Nat} (h : n < 10 ^ (k + 1)) : (dec n).length ≤ k + 1 := dec_le k n h
theorem Bd.dz {D : Nat} {x : Rat} (h : Bd D x) (hD : 0 < D) (hb : D < 10 ^ 252) : Dz 2000 x := by
  obtain ⟨h1, h2⟩ := h.num hD
  have a := dec_le 251 x.num.natAbs (by omega)
  have b := dec_le 251 x.den (by omega)
  exact ⟨by omega, by omega⟩

/-! ### Mixed values -/
def mixK (c : Ch) (l : List Rat) (i : Nat) : Rat := sumQ ((c.next.take i).map (fun b => b.p * l.getD b.to 0))
def mixQ (c : Ch) (l : List Rat) : Rat := mixK c l c.next.length
theorem mixK_zero (c : Ch) (l : List Rat) : mixK c l 0 = 0 := rfl
theorem mixK_succ {c : Ch} {l : List Rat} {i : Nat} (h : i < c.next.length) : mixK c l (i + 1) = mixK c l i + c.next[i].p * l.getD c.next[i].to 0 := by
  unfold mixK
  rw [List.take_succ_eq_append_getElem h, List.map_append]
  exact sumQ_snoc _ _
theorem CM.p_bd {n G H : Nat} {c : Ch} (h : CM n G H c) : ∀ b ∈ c.next, 0 ≤ b.p ∧ b.p.den ∣ G := fun b hb => by
  obtain ⟨_, _, h3, h4⟩ := h.next b hb
  exact ⟨Rat.num_nonneg.1 (by omega), h4⟩
theorem sumQ_nn : ∀ (l : List Rat), (∀ x ∈ l, 0 ≤ x) → ∀ a : Rat, 0 ≤ a → a ≤ l.foldl (· + ·) a
  | [], _, a, _ => Rat.le_refl
  | x :: l, h, a, ha => by
    have hx := h x (by simp)
    have h1 : a ≤ a + x := by
      have := (Rat.add_le_add_left (c := a)).2 hx
      rwa [Rat.add_zero] at this
    exact Rat.le_trans h1 (sumQ_nn l (fun y hy => h y (by simp [hy])) (a + x) (Rat.add_nonneg ha hx))
theorem sumQ_append (l k : List Rat) : sumQ (l ++ k) = k.foldl (· + ·) (sumQ l) := by unfold sumQ; rw [List.foldl_append]
theorem sumQ_take_le {l : List Rat} (h : ∀ x ∈ l, 0 ≤ x) (i : Nat) : 0 ≤ sumQ (l.take i) ∧ sumQ (l.take i) ≤ sumQ l := by
  have h0 : 0 ≤ sumQ (l.take i) := sumQ_nn (l.take i) (fun x hx => h x (List.mem_of_mem_take hx)) 0 Rat.le_refl
  refine ⟨h0, ?_⟩
  have e : sumQ l = (l.drop i).foldl (· + ·) (sumQ (l.take i)) := by rw [← sumQ_append, List.take_append_drop]
  rw [e]
  exact sumQ_nn (l.drop i) (fun x hx => h x (List.mem_of_mem_drop hx)) _ h0
theorem le_mul_one {p x : Rat} (hp : 0 ≤ p) (hx : x ≤ 1) : p * x ≤ p := by
  have := Rat.mul_le_mul_of_nonneg_left hx hp
  rwa [Rat.mul_one] at this
theorem add_le_add {a b c d : Rat} (h : a ≤ b) (h' : c ≤ d) : a + c ≤ b + d := Rat.le_trans ((Rat.add_le_add_right (c := c)).2 h) ((Rat.add_le_add_left (c := b)).2 h')
theorem getD_bd {D : Nat} {l : List Rat} (h : ∀ x ∈ l, Bd D x) (i : Nat) : Bd D (l.getD i 0) := by
  rw [List.getD_eq_getElem?_getD]
  by_cases hi : i < l.length
  · rw [List.getElem?_eq_getElem hi]; exact h _ (List.getElem_mem hi)
  · rw [List.getElem?_eq_none (by omega)]; exact Bd.zero D
theorem mixK_bd {n G H D : Nat} {c : Ch} {l : List Rat} (hc : CM n G H c) (hG : 0 < G) (hD : 0 < D) (hl : ∀ x ∈ l, Bd D x) : ∀ i, i ≤ c.next.length → 0 ≤ mixK c l i ∧ mixK c l i ≤ sumQ ((c.next.take i).map (·.p)) ∧ (mixK c l i).den ∣ G * D
  | 0, _ => ⟨Rat.le_refl, Rat.le_refl, Nat.one_dvd _⟩
  | i + 1, hi => by
    obtain ⟨h1, h2, h3⟩ := mixK_bd hc hG hD hl i (by omega)
    obtain ⟨p1, p2⟩ := hc.p_bd _ (List.getElem_mem (show i < c.next.length by omega))
    obtain ⟨x1, x2, x3⟩ := getD_bd hl c.next[i].to
    rw [mixK_succ (by omega)]
    refine ⟨Rat.add_nonneg h1 (Rat.mul_nonneg p1 x1), ?_, den_add (Nat.mul_pos hG hD) h3 (den_mul' hG hD p2 x3)⟩
    rw [List.take_succ_eq_append_getElem (by omega), List.map_append]
    show _ ≤ sumQ (_ ++ [_])
    rw [sumQ_snoc]
    exact add_le_add h2 (le_mul_one p1 x2)
theorem mixK_Bd {n G H D : Nat} {c : Ch} {l : List Rat} (hc : CM n G H c) (hG : 0 < G) (hD : 0 < D) (hl : ∀ x ∈ l, Bd D x) {i : Nat} (hi : i ≤ c.next.length) : Bd (G * D) (mixK c l i) := by
  obtain ⟨h1, h2, h3⟩ := mixK_bd hc hG hD hl i hi
  refine ⟨h1, Rat.le_trans h2 ?_, h3⟩
  rw [List.map_take, ← hc.sum]
  exact (sumQ_take_le (fun x hx => by obtain ⟨b, hb, rfl⟩ := List.mem_map.1 hx; exact (hc.p_bd b hb).1) i).2
theorem mixQ_Bd {n G H D : Nat} {c : Ch} {l : List Rat} (hc : CM n G H c) (hG : 0 < G) (hD : 0 < D) (hl : ∀ x ∈ l, Bd D x) : Bd (G * D) (mixQ c l) := mixK_Bd hc hG hD hl (Nat.le_refl _)
theorem prod_Bd {n G H D : Nat} {c : Ch} {l : List Rat} (hc : CM n G H c) (hG : 0 < G) (hD : 0 < D) (hl : ∀ x ∈ l, Bd D x) {i : Nat} (hi : i < c.next.length) : Bd (G * D) (c.next[i].p * l.getD c.next[i].to 0) := by
  obtain ⟨p1, p2⟩ := hc.p_bd _ (List.getElem_mem hi)
  obtain ⟨x1, x2, x3⟩ := getD_bd hl c.next[i].to
  refine ⟨Rat.mul_nonneg p1 x1, Rat.le_trans (le_mul_one p1 x2) ?_, den_mul' hG hD p2 x3⟩
  have h := mixK_bd (D := 1) (l := List.replicate 100000 (1 : Rat)) hc hG (by decide) (fun x hx => by rw [(List.mem_replicate.1 hx).2]; exact Bd.one 1) 
  have nn : ∀ x ∈ c.next.map (·.p), 0 ≤ x := fun x hx => by obtain ⟨b, hb, rfl⟩ := List.mem_map.1 hx; exact (hc.p_bd b hb).1
  have t1 := sumQ_take_le nn (i + 1)
  have t0 := sumQ_take_le nn i
  rw [List.take_succ_eq_append_getElem (by simpa using hi), sumQ_snoc, hc.sum] at t1
  have e : (c.next.map (·.p))[i]'(by simpa using hi) = c.next[i].p := by simp
  rw [e] at t1
  have : c.next[i].p ≤ sumQ ((c.next.map (·.p)).take i) + c.next[i].p := by
    have := (Rat.add_le_add_right (c := c.next[i].p)).2 t0.1
    rwa [Rat.zero_add] at this
  exact Rat.le_trans this t1.2

/-! ### Best values -/
def maxL (x : Rat) (l : List Rat) : Rat := l.foldl (fun a b => if a < b then b else a) x
theorem maxL_mem : ∀ (l : List Rat) (x : Rat), maxL x l = x ∨ maxL x l ∈ l
  | [], x => .inl rfl
  | y :: l, x => by
    have h := maxL_mem l (if x < y then y else x)
    show maxL (if x < y then y else x) l = x ∨ _
    rcases h with h | h
    · rw [h]
      by_cases hxy : x < y
      · right; rw [show maxL x (y :: l) = maxL (if x < y then y else x) l from rfl, h, if_pos hxy]; simp
      · left; rw [if_neg hxy]
    · right; rw [show maxL x (y :: l) = maxL (if x < y then y else x) l from rfl]; exact List.mem_cons_of_mem _ h
theorem maxL_P {P : Rat → Prop} {x : Rat} {l : List Rat} (hx : P x) (hl : ∀ y ∈ l, P y) : P (maxL x l) := by
  rcases maxL_mem l x with h | h
  · rw [h]; exact hx
  · exact hl _ h
theorem maxL_snoc (x : Rat) (l : List Rat) (y : Rat) : maxL x (l ++ [y]) = if maxL x l < y then y else maxL x l := by unfold maxL; rw [List.foldl_append]; rfl
def bestQ (l : List Rat) : Rat := match l with
  | [] => 0
  | x :: xs => maxL x xs
def bestS (M : Mo) (v : List Rat) (s : Nat) : Rat := bestQ ((M.choices.getD s []).map (fun c => mixQ c v))
def stepW (M : Mo) (T : Nat) (v : List Rat) : List Rat := (List.range M.owner.length).map (fun s => if T.testBit s then 1 else bestS M v s)
def beginW (M : Mo) (T : Nat) : List Rat := (List.range M.owner.length).map (fun s => if T.testBit s then 1 else 0)
def withinW (M : Mo) (T : Nat) : Nat → List Rat
  | 0 => beginW M T
  | k + 1 => stepW M T (withinW M T k)
theorem bestQ_P {P : Rat → Prop} (h0 : P 0) {l : List Rat} (hl : ∀ y ∈ l, P y) : P (bestQ l) := by
  cases l with
  | nil => exact h0
  | cons x xs => exact maxL_P (hl x (by simp)) (fun y hy => hl y (by simp [hy]))
theorem bestS_Bd {M : Mo} {G H D : Nat} (hC : ∀ l ∈ M.choices, ∀ c ∈ l, CM M.owner.length G H c) (hG : 0 < G) (hD : 0 < D) {v : List Rat} (hv : ∀ x ∈ v, Bd D x) (s : Nat) : Bd (G * D) (bestS M v s) := by
  refine bestQ_P (Bd.zero _) (fun y hy => ?_)
  obtain ⟨c, hc, rfl⟩ := List.mem_map.1 hy
  rw [List.getD_eq_getElem?_getD] at hc
  by_cases hs : s < M.choices.length
  · rw [List.getElem?_eq_getElem hs] at hc
    exact mixQ_Bd (hC _ (List.getElem_mem hs) c hc) hG hD hv
  · rw [List.getElem?_eq_none (by omega)] at hc; cases hc
theorem stepW_Bd {M : Mo} {G H D T : Nat} (hC : ∀ l ∈ M.choices, ∀ c ∈ l, CM M.owner.length G H c) (hG : 0 < G) (hD : 0 < D) {v : List Rat} (hv : ∀ x ∈ v, Bd D x) : ∀ x ∈ stepW M T v, Bd (G * D) x := fun x hx => by
  obtain ⟨s, hs, rfl⟩ := List.mem_map.1 hx
  split
  · exact Bd.one _
  · exact bestS_Bd hC hG hD hv s
theorem beginW_Bd (M : Mo) (T D : Nat) : ∀ x ∈ beginW M T, Bd D x := fun x hx => by
  obtain ⟨s, hs, rfl⟩ := List.mem_map.1 hx
  split
  · exact Bd.one _
  · exact Bd.zero _
theorem withinW_Bd {M : Mo} {G H T : Nat} (hC : ∀ l ∈ M.choices, ∀ c ∈ l, CM M.owner.length G H c) (hG : 0 < G) : ∀ k, ∀ x ∈ withinW M T k, Bd (G ^ k) x
  | 0 => beginW_Bd M T _
  | k + 1 => by
    have := stepW_Bd (T := T) hC hG (Nat.pow_pos hG) (withinW_Bd (T := T) hC hG k)
    rw [Nat.pow_succ, Nat.mul_comm]; exact this
theorem stepW_len (M : Mo) (T : Nat) (v : List Rat) : (stepW M T v).length = M.owner.length := by simp [stepW]
theorem beginW_len (M : Mo) (T : Nat) : (beginW M T).length = M.owner.length := by simp [beginW]
theorem withinW_len (M : Mo) (T : Nat) : ∀ k, (withinW M T k).length = M.owner.length
  | 0 => beginW_len M T
  | k + 1 => stepW_len M T _
theorem pow_lt {G k : Nat} (hG : G ≤ 9999) (hk : k ≤ 61) : G ^ k < 10 ^ 252 := by
  have h1 : G ^ k ≤ 9999 ^ k := Nat.pow_le_pow_left hG k
  have h2 : 9999 ^ k ≤ 9999 ^ 61 := Nat.pow_le_pow_right (by decide) hk
  have h3 : (9999 : Nat) ^ 61 < 10 ^ 252 := by decide
  omega
/-! ### Lists of numbers, some of them not set yet -/
theorem reps_some {m : GH} : ∀ {l : List Rat} {cs : List Value}, Reps m Kd.num0 (l.map some) cs → Reps m Kd.num l cs
  | [], _, h => h
  | x :: l, _, ⟨c, r, h1, h2, h3⟩ => ⟨c, r, h1, h2, reps_some h3⟩
theorem num0s_nums {l : List Rat} {k : List (Option Rat)} (h : k = l.map some) : Ty.le (Ty.of (Kd.slice Kd.num0) k) (Ty.of (Kd.slice Kd.num) l) := by
  subst h
  rintro m v ⟨cs, ⟨u, h1, base, cap, h2, h3, h4, h5⟩, hv⟩
  rw [List.length_map] at h2 h3
  refine ⟨cs, ⟨u, h1, base, cap, h2, h3, h4, ?_⟩, hv⟩
  rcases h5 with h5 | ⟨b, off, ds, g1, g2, g3⟩
  · left; simpa using h5
  · right; exact ⟨b, off, ds, g1, g2, reps_some g3⟩
end Go.Proofs.YtknflgfkhkdomaaGreatDoor.Mono

/-! WkU -/
set_option linter.unusedVariables false
set_option linter.unusedSimpArgs false
set_option maxRecDepth 4000
set_option maxHeartbeats 4000000
namespace Go.Proofs.YtknflgfkhkdomaaGreatDoor.Mono
open Go Go.RowKit

theorem get_getD {l : List Rat} {n : Int} {i : Nat} (h : n.toNat = i) (hlt : n.toNat < l.length) : l[n.toNat] = l.getD i 0 := by
  subst h
  rw [List.getD_eq_getElem?_getD, List.getElem?_eq_getElem hlt]; rfl

theorem en30 : Enters Tryz.prog 30 := enters_fn Tryz.func30 (by kernel_rfl) rfl

theorem en57 : Enters Tryz.prog 57 := enters_fn Tryz.func57 (by kernel_rfl) rfl

theorem en55 : Enters Tryz.prog 55 := enters_fn Tryz.func55 (by kernel_rfl) rfl

theorem w37 {c : Ch} {l : List Rat} {n G H D : Nat} (hc : CM n G H c) (hl : ∀ x ∈ l, Bd D x) (hn : l.length = n) (hG : 0 < G) (hD : 0 < D) (hGD : G * D < 10 ^ 252) : Spec CC 37 [Ty.of Kd.ch c, Ty.of (Kd.slice Kd.num) l] (Ty.of Kd.num (mixQ c l)) := by
  refine spec_of_JS Tryz.func37 rfl (Nat.le_of_ble_eq_true rfl) (fun gh0 wd0 => ?_)
  refine JS_bound (s := 1) rfl (fun b1 => ?_)
  unfold maxLen at b1
  have hlen := hc.len
  have hGD0 : 0 < G * D := Nat.mul_pos hG hD
  have hD2 : D < 10 ^ 252 := Nat.lt_of_le_of_lt (Nat.le_mul_of_pos_left D hG) hGD
  have e01 : Rat.divInt 0 1 = 0 := by decide
  have hbn : ∀ (i : Nat) (hi : i < c.next.length), c.next[i].to < n ∧ Dz 4 c.next[i].p := fun i hi => ⟨(hc.next _ (List.getElem_mem hi)).1, (hc.next _ (List.getElem_mem hi)).2.1⟩
  refine JS_seq ?_
  -- region 0
  refine sR ?_
  refine kO (T_box rfl (ol rfl (Ty.le.refl _))) rfl ?_
  refine kT ?_
  refine JT_alloc (S0 := Seg.of Kd.num0 none) rfl rfl rfl rfl z85 z_num0 (fun g4 => ?_)
  refine JT_done ?_
  refine JS_seq ?_
  -- region 1
  refine sR ?_
  refine kO (T_callL rfl en30 (w30 (by decide) (by decide) (by decide) (by decide) (by decide)) (oa (ol rfl (Ty.le.refl _)) (oa (ol rfl (Ty.le.refl _)) oa0))) rfl ?_
  refine kT ?_
  refine JT_alloc (S0 := Seg.of Kd.num0 none) rfl rfl rfl rfl z85 z_num0 (fun g5 => ?_)
  refine JT_store (i := 0) rfl rfl rfl rfl rfl (ol rfl (Ty.le.refl _)) (Upd.self _ _ rfl) sz85 ?_
  refine JT_done ?_
  refine JS_seq ?_
  refine JS_seq ?_
  -- region 2
  refine sR ?_
  refine kO (T_fieldAddr rfl fa60_2 (st_sub (i := 2) rfl rfl) rfl) rfl ?_
  refine kO (T_ld rfl rfl ti58) rfl ?_
  refine kO (T_len_slice rfl rfl u58 rfl) rfl ?_
  refine kM rfl rfl ?_
  refine kE ?_
  refine JS_block ?_
  refine sLoop1 (fun (i : Nat) => [(12, Ty.val (.int .i64 (i : Int)))]) [1, 4, 5, 10, 11] (fun (i : Nat) => [(0, Res.box g5 85 (Seg.of Kd.num (mixK c l i)))]) (fun (i : Nat) => i ≤ c.next.length) (fun (i : Nat) => c.next.length - i) 0 (Nat.zero_le _) (by rw [mixK_zero, ← e01]; rfl) (EnvSub.consLe rfl (int_eq (rfl)) (EnvSub.nil _)) (fun i (hI : i ≤ c.next.length) => ?_)
  refine JS_seq ?_
  -- region 3
  refine sR ?_
  refine kO (T_lt rfl rfl rfl) rfl ?_
  refine kE ?_
  refine JS_seq ?_
  refine JS_if rfl (fun c13 => ?_) (fun c13 => ?_)
  · have hi1 : i < c.next.length := by omega
    have et := toNat_get (l := c.next) (i := i) (by omega)
    obtain ⟨b1, b2⟩ := hbn i hi1
    have b3 := b2.1
    have b4 := b2.2
    have n1 : Nz 1 c.next[i].p := ⟨lims_digits (by omega), lims_digits (by omega)⟩
    have n2 := (getD_bd hl c.next[i].to).nz hD hD2
    have n3 := (mixK_Bd hc hG hD hl (i := i) (by omega)).nz hGD0 hGD
    have n4 := (prod_Bd hc hG hD hl hi1).nz hGD0 hGD
    refine JS_skip ?_
    refine JS_seq ?_
    refine JS_block ?_
    refine JS_seq ?_
    -- region 4
    refine sR ?_
    refine kO (T_ix rfl rfl rfl u58 ti62 (by omega) (by omega) rfl) rfl ?_
    refine kO (T_ld rfl rfl ti62) rfl ?_
    refine kT ?_
    refine JT_alloc (S0 := Seg.cat [Seg.of (Kd.int .i64) 0, Seg.of Kd.str []]) rfl rfl rfl rfl z62 h0_62 (fun g7 => ?_)
    refine JT_store (i := 0) rfl rfl rfl rfl rfl (ol rfl (Ty.le.refl _)) (Upd.self _ _ rfl) sz62 ?_
    refine JT_done ?_
    -- region 5
    refine sRD mixed ?_
    refine kO (T_load_own (i := 1) rfl rfl rfl (Sub.self _) ti85) rfl ?_
    refine kO (T_fieldAddr_ptr rfl fa62_1 rfl rfl) rfl ?_
    refine kO (T_load_own (i := 0) rfl rfl rfl (st_sub (i := 1) rfl rfl) ti43) rfl ?_
    refine kO (T_callL rfl en56 (w56 ⟨by rw [et]; omega, by rw [et]; omega⟩) (oa (ol rfl (Ty.le.refl _)) oa0)) rfl ?_
    refine kM rfl rfl ?_
    refine kO (T_fieldAddr_ptr rfl fa62_0 rfl rfl) rfl ?_
    refine kO (T_load_own_int (i := 0) rfl rfl rfl (st_sub (i := 0) rfl rfl) ti3) rfl ?_
    refine kO (T_ix rfl rfl rfl u49 ti85 (by rw [et]; omega) (by rw [et]; omega) (get_getD (i := c.next[i].to) (by rw [et]; omega) _)) rfl ?_
    refine kO (T_ld rfl rfl ti85) rfl ?_
    refine kO (T_callL rfl en57 (w57 (by rw [et]; exact n1.up (by decide)) (n2.up (by decide))) (oa (ol rfl (Ty.le.refl _)) (oa (ol rfl (Ty.le.refl _)) oa0))) rfl ?_
    refine kO (T_callL rfl en55 (w55 (n3.up (by decide)) (by rw [et]; exact n4.up (by decide))) (oa (ol rfl (Ty.le.refl _)) (oa (ol rfl (Ty.le.refl _)) oa0))) rfl ?_
    refine kTD (by decide) ?_
    refine JT_store (i := 1) rfl rfl rfl rfl rfl (ol rfl (Ty.le.refl _)) (Upd.self _ _ rfl) sz85 ?_
    refine JT_done ?_
    refine JS_end_inB ?_
    -- region 6
    refine sR ?_
    refine kO (T_add rfl rfl rfl (wrap_i64 (by omega) (by omega))) rfl ?_
    refine kM rfl rfl ?_
    refine kE ?_
    refine JS_drop 0 ?_
    exact JS_round (i + 1) (by omega) ((by omega)) (by rw [mixK_succ hi1, ← et]; rfl) (EnvSub.consLe rfl (int_eq (rfl)) (EnvSub.pick1 rfl (EnvSub.pick1 rfl (EnvSub.pick1 rfl (EnvSub.pick1 rfl (EnvSub.pick1 rfl (EnvSub.nil _)))))))
  · obtain rfl : i = c.next.length := by omega
    refine JS_exit (JE_loop_exit (JE_inB_here ?_))
    refine JS_seq ?_
    -- region 7
    refine sR ?_
    refine kO (T_load_own (i := 0) rfl rfl rfl (Sub.self _) ti85) rfl ?_
    refine kT ?_
    refine JT_store (i := 1) rfl rfl rfl rfl rfl (ol rfl (Ty.le.refl _)) (Upd.self _ _ rfl) sz85 ?_
    refine JT_done ?_
    exact JS_ret (JE_ret_one rfl rfl (.cell (i := 1) rfl rfl ti85 .nil) ((of_eq (rfl))))

theorem w71 {c : Ch} {l : List Rat} {n G H D : Nat} (hc : CM n G H c) (hl : ∀ x ∈ l, Bd D x) (hn : l.length = n) (hG : 0 < G) (hD : 0 < D) (hGD : G * D < 10 ^ 252) : Spec CC 71 [Ty.of Kd.ch c, Ty.of (Kd.slice Kd.num) l] (Ty.of Kd.num (mixQ c l)) := by
  refine spec_of_JS Tryz.func71 rfl (Nat.le_of_ble_eq_true rfl) (fun gh0 wd0 => ?_)
  refine JS_bound (s := 1) rfl (fun b1 => ?_)
  unfold maxLen at b1
  have hlen := hc.len
  have hGD0 : 0 < G * D := Nat.mul_pos hG hD
  have hD2 : D < 10 ^ 252 := Nat.lt_of_le_of_lt (Nat.le_mul_of_pos_left D hG) hGD
  have e01 : Rat.divInt 0 1 = 0 := by decide
  have hbn : ∀ (i : Nat) (hi : i < c.next.length), c.next[i].to < n ∧ Dz 4 c.next[i].p := fun i hi => ⟨(hc.next _ (List.getElem_mem hi)).1, (hc.next _ (List.getElem_mem hi)).2.1⟩
  refine JS_seq ?_
  -- region 0
  refine sR ?_
  refine kO (T_box rfl (ol rfl (Ty.le.refl _))) rfl ?_
  refine kT ?_
  refine JT_alloc (S0 := Seg.of Kd.num0 none) rfl rfl rfl rfl z85 z_num0 (fun g4 => ?_)
  refine JT_done ?_
  refine JS_seq ?_
  -- region 1
  refine sR ?_
  refine kO (T_callL rfl en30 (w30 (by decide) (by decide) (by decide) (by decide) (by decide)) (oa (ol rfl (Ty.le.refl _)) (oa (ol rfl (Ty.le.refl _)) oa0))) rfl ?_
  refine kT ?_
  refine JT_alloc (S0 := Seg.of Kd.num0 none) rfl rfl rfl rfl z85 z_num0 (fun g5 => ?_)
  refine JT_store (i := 0) rfl rfl rfl rfl rfl (ol rfl (Ty.le.refl _)) (Upd.self _ _ rfl) sz85 ?_
  refine JT_done ?_
  refine JS_seq ?_
  refine JS_seq ?_
  -- region 2
  refine sR ?_
  refine kO (T_fieldAddr rfl fa60_2 (st_sub (i := 2) rfl rfl) rfl) rfl ?_
  refine kO (T_ld rfl rfl ti58) rfl ?_
  refine kO (T_len_slice rfl rfl u58 rfl) rfl ?_
  refine kM rfl rfl ?_
  refine kE ?_
  refine JS_block ?_
  refine sLoop1 (fun (i : Nat) => [(12, Ty.val (.int .i64 (i : Int)))]) [1, 4, 5, 10, 11] (fun (i : Nat) => [(0, Res.box g5 85 (Seg.of Kd.num (mixK c l i)))]) (fun (i : Nat) => i ≤ c.next.length) (fun (i : Nat) => c.next.length - i) 0 (Nat.zero_le _) (by rw [mixK_zero, ← e01]; rfl) (EnvSub.consLe rfl (int_eq (rfl)) (EnvSub.nil _)) (fun i (hI : i ≤ c.next.length) => ?_)
  refine JS_seq ?_
  -- region 3
  refine sR ?_
  refine kO (T_lt rfl rfl rfl) rfl ?_
  refine kE ?_
  refine JS_seq ?_
  refine JS_if rfl (fun c13 => ?_) (fun c13 => ?_)
  · have hi1 : i < c.next.length := by omega
    have et := toNat_get (l := c.next) (i := i) (by omega)
    obtain ⟨b1, b2⟩ := hbn i hi1
    have b3 := b2.1
    have b4 := b2.2
    have n1 : Nz 1 c.next[i].p := ⟨lims_digits (by omega), lims_digits (by omega)⟩
    have n2 := (getD_bd hl c.next[i].to).nz hD hD2
    have n3 := (mixK_Bd hc hG hD hl (i := i) (by omega)).nz hGD0 hGD
    have n4 := (prod_Bd hc hG hD hl hi1).nz hGD0 hGD
    refine JS_skip ?_
    refine JS_seq ?_
    refine JS_block ?_
    refine JS_seq ?_
    -- region 4
    refine sR ?_
    refine kO (T_ix rfl rfl rfl u58 ti62 (by omega) (by omega) rfl) rfl ?_
    refine kO (T_ld rfl rfl ti62) rfl ?_
    refine kT ?_
    refine JT_alloc (S0 := Seg.cat [Seg.of (Kd.int .i64) 0, Seg.of Kd.str []]) rfl rfl rfl rfl z62 h0_62 (fun g7 => ?_)
    refine JT_store (i := 0) rfl rfl rfl rfl rfl (ol rfl (Ty.le.refl _)) (Upd.self _ _ rfl) sz62 ?_
    refine JT_done ?_
    -- region 5
    refine sRD mixed ?_
    refine kO (T_load_own (i := 1) rfl rfl rfl (Sub.self _) ti85) rfl ?_
    refine kO (T_fieldAddr_ptr rfl fa62_1 rfl rfl) rfl ?_
    refine kO (T_load_own (i := 0) rfl rfl rfl (st_sub (i := 1) rfl rfl) ti43) rfl ?_
    refine kO (T_callL rfl en56 (w56 ⟨by rw [et]; omega, by rw [et]; omega⟩) (oa (ol rfl (Ty.le.refl _)) oa0)) rfl ?_
    refine kM rfl rfl ?_
    refine kO (T_fieldAddr_ptr rfl fa62_0 rfl rfl) rfl ?_
    refine kO (T_load_own_int (i := 0) rfl rfl rfl (st_sub (i := 0) rfl rfl) ti3) rfl ?_
    refine kO (T_ix rfl rfl rfl u49 ti85 (by rw [et]; omega) (by rw [et]; omega) (get_getD (i := c.next[i].to) (by rw [et]; omega) _)) rfl ?_
    refine kO (T_ld rfl rfl ti85) rfl ?_
    refine kO (T_callL rfl en57 (w57 (by rw [et]; exact n1.up (by decide)) (n2.up (by decide))) (oa (ol rfl (Ty.le.refl _)) (oa (ol rfl (Ty.le.refl _)) oa0))) rfl ?_
    refine kO (T_callL rfl en55 (w55 (n3.up (by decide)) (by rw [et]; exact n4.up (by decide))) (oa (ol rfl (Ty.le.refl _)) (oa (ol rfl (Ty.le.refl _)) oa0))) rfl ?_
    refine kTD (by decide) ?_
    refine JT_store (i := 1) rfl rfl rfl rfl rfl (ol rfl (Ty.le.refl _)) (Upd.self _ _ rfl) sz85 ?_
    refine JT_done ?_
    refine JS_end_inB ?_
    -- region 6
    refine sR ?_
    refine kO (T_add rfl rfl rfl (wrap_i64 (by omega) (by omega))) rfl ?_
    refine kM rfl rfl ?_
    refine kE ?_
    refine JS_drop 0 ?_
    exact JS_round (i + 1) (by omega) ((by omega)) (by rw [mixK_succ hi1, ← et]; rfl) (EnvSub.consLe rfl (int_eq (rfl)) (EnvSub.pick1 rfl (EnvSub.pick1 rfl (EnvSub.pick1 rfl (EnvSub.pick1 rfl (EnvSub.pick1 rfl (EnvSub.nil _)))))))
  · obtain rfl : i = c.next.length := by omega
    refine JS_exit (JE_loop_exit (JE_inB_here ?_))
    refine JS_seq ?_
    -- region 7
    refine sR ?_
    refine kO (T_load_own (i := 0) rfl rfl rfl (Sub.self _) ti85) rfl ?_
    refine kT ?_
    refine JT_store (i := 1) rfl rfl rfl rfl rfl (ol rfl (Ty.le.refl _)) (Upd.self _ _ rfl) sz85 ?_
    refine JT_done ?_
    exact JS_ret (JE_ret_one rfl rfl (.cell (i := 1) rfl rfl ti85 .nil) ((of_eq (rfl))))

end Go.Proofs.YtknflgfkhkdomaaGreatDoor.Mono

/-! MonoC -/
set_option linter.unusedVariables false
set_option linter.unusedSimpArgs false
namespace Go.Proofs.YtknflgfkhkdomaaGreatDoor.Mono
open Go Go.RowKit
section joins
variable {F : Fr} {Q : Post} {Γ : Env} {Δ : List Res} {cs : List Code}
theorem JS_joinD {X : Type} (md : X → Env) (keep : List Nat) (ΔI : X → List Res) (good : X → Prop) {c : Code}
    (h1 : JS F (joinQ F (fun x => ⟨md x ++ pick Γ keep, ΔI x⟩) good Q) Γ Δ [c]) (h2 : ∀ x, good x → JS F Q (md x ++ pick Γ keep) (ΔI x) cs) : JS F Q Γ Δ (c :: cs) := fun m w a hs => by
  refine wpIn_mono (h1 m w a hs) ?_
  intro e a w hq
  cases e with
  | normal =>
    obtain ⟨x, hx, m', hst⟩ := hq
    exact h2 x hx m' w a hst
  | _ => exact hq
theorem JS_joinD2 {X Y : Type} (md : X → Y → Env) (keep : List Nat) (ΔI : X → Y → List Res) (good : X → Y → Prop) {c : Code}
    (h1 : JS F (joinQ F (fun (p : X × Y) => ⟨md p.1 p.2 ++ pick Γ keep, ΔI p.1 p.2⟩) (fun p => good p.1 p.2) Q) Γ Δ [c]) (h2 : ∀ x y, good x y → JS F Q (md x y ++ pick Γ keep) (ΔI x y) cs) : JS F Q Γ Δ (c :: cs) :=
  JS_joinD (X := X × Y) (fun p => md p.1 p.2) keep (fun p => ΔI p.1 p.2) (fun p => good p.1 p.2) h1 (fun p hp => h2 p.1 p.2 hp)
end joins
/-- A list of which the first i are set. -/
def fillL {α : Type} (L : List α) (z : α) (i : Nat) : List α := L.take i ++ List.replicate (L.length - i) z
theorem fillL_zero {α : Type} {L : List α} {z : α} {n : Nat} (h : n = L.length) : List.replicate n z = fillL L z 0 := by subst h; rfl
theorem fillL_len {α : Type} {L : List α} {z : α} {i : Nat} (h : i ≤ L.length) : (fillL L z i).length = L.length := by
  unfold fillL; rw [List.length_append, List.length_take, List.length_replicate]; omega
theorem fillL_set {α : Type} {L : List α} {z y : α} {i k : Nat} (hk : k = i) (h : i < L.length) (hy : y = L[i]) : (fillL L z i).set k y = fillL L z (i + 1) := by
  subst hk; subst hy
  unfold fillL
  rw [List.set_append_right _ _ (by rw [List.length_take]; omega), List.length_take, show k - min k L.length = 0 by omega]
  rw [show L.length - k = (L.length - (k + 1)) + 1 by omega, List.replicate_succ, List.set_cons_zero, List.take_succ_eq_append_getElem h, List.append_assoc]
  rfl
theorem fillL_full {α : Type} {L : List α} {z : α} {i : Nat} (h : i = L.length) : fillL L z i = L := by
  subst h; unfold fillL; rw [List.take_length, Nat.sub_self]; exact List.append_nil _
theorem cmpQ_pos {x y : Rat} : 0 < cmpQ x y ↔ y < x := by
  unfold cmpQ
  by_cases h1 : x < y
  · rw [if_pos h1]
    exact ⟨fun h => absurd h (by decide), fun h => absurd (Rat.le_of_lt h) (Rat.not_le.2 h1)⟩
  · rw [if_neg h1]
    by_cases h2 : y < x
    · rw [if_pos h2]; exact ⟨fun _ => h2, fun _ => by decide⟩
    · rw [if_neg h2]; exact ⟨fun h => absurd h (by decide), fun h => absurd h h2⟩
theorem cmpQ_neg {x y : Rat} : cmpQ x y < 0 ↔ x < y := by
  unfold cmpQ
  by_cases h1 : x < y
  · rw [if_pos h1]; exact ⟨fun _ => h1, fun _ => by decide⟩
  · rw [if_neg h1]
    by_cases h2 : y < x
    · rw [if_pos h2]; exact ⟨fun h => absurd h (by decide), fun h => absurd h h1⟩
    · rw [if_neg h2]; exact ⟨fun h => absurd h (by decide), fun h => absurd h h1⟩
theorem bestQ_eq {l : List Ch} {f : Ch → Rat} {k : Nat} (hl : 0 < l.length) (hk : k = (l.drop 1).length) : maxL (f l[0]) (((l.drop 1).take k).map f) = bestQ (l.map f) := by
  subst hk
  rw [List.take_length]
  match l, hl with
  | c :: cs, _ => rfl
theorem maxL_step {x : Rat} {l : List Ch} {f : Ch → Rat} {i : Nat} (h : i < l.length) : maxL x ((l.take (i + 1)).map f) = if maxL x ((l.take i).map f) < f l[i] then f l[i] else maxL x ((l.take i).map f) := by
  rw [List.take_succ_eq_append_getElem h, List.map_append]
  exact maxL_snoc _ _ _
theorem maxL_up {x : Rat} {l : List Ch} {f : Ch → Rat} {i : Nat} {y : Ch} (h : i < l.length) (hy : y = l[i]) (hc : 0 < cmpQ (f y) (maxL x ((l.take i).map f))) : f y = maxL x ((l.take (i + 1)).map f) := by
  subst hy; rw [maxL_step h, if_pos (cmpQ_pos.1 hc)]
theorem maxL_stay {x : Rat} {l : List Ch} {f : Ch → Rat} {i : Nat} {y : Ch} (h : i < l.length) (hy : y = l[i]) (hc : ¬ 0 < cmpQ (f y) (maxL x ((l.take i).map f))) : maxL x ((l.take i).map f) = maxL x ((l.take (i + 1)).map f) := by
  subst hy; rw [maxL_step h, if_neg (fun e => hc (cmpQ_pos.2 e))]
def argK (x : Rat) (l : List Ch) (f : Ch → Rat) : Nat → Int
  | 0 => 0
  | i + 1 => match l[i]? with
    | some c => if 0 < cmpQ (f c) (maxL x ((l.take i).map f)) then (i : Int) + 1 else argK x l f i
    | none => argK x l f i
theorem arg_up {x : Rat} {l : List Ch} {f : Ch → Rat} {i : Nat} {y : Ch} (h : i < l.length) (hy : y = l[i]) (hc : 0 < cmpQ (f y) (maxL x ((l.take i).map f))) : (i : Int) + 1 = argK x l f (i + 1) := by
  subst hy; rw [argK, List.getElem?_eq_getElem h]; exact (if_pos hc).symm
theorem arg_stay {x : Rat} {l : List Ch} {f : Ch → Rat} {i : Nat} {y : Ch} (h : i < l.length) (hy : y = l[i]) (hc : ¬ 0 < cmpQ (f y) (maxL x ((l.take i).map f))) : argK x l f i = argK x l f (i + 1) := by
  subst hy; rw [argK, List.getElem?_eq_getElem h]; exact (if_neg hc).symm
def argB (l : List Ch) (f : Ch → Rat) : Int := match l with
  | [] => 0
  | c :: cs => argK (f c) cs f cs.length
theorem argB_eq {l : List Ch} {f : Ch → Rat} {k : Nat} (hl : 0 < l.length) (hk : k = (l.drop 1).length) : argK (f l[0]) (l.drop 1) f k = argB l f := by
  subst hk
  match l, hl with
  | c :: cs, _ => rfl
theorem maxL_nz {k : Nat} {x : Rat} {l : List Ch} {f : Ch → Rat} (hx : Nz k x) (hl : ∀ c ∈ l, Nz k (f c)) : Nz k (maxL x (l.map f)) :=
  maxL_P hx (fun y hy => by obtain ⟨c, hc, rfl⟩ := List.mem_map.1 hy; exact hl c hc)
theorem one_eq_bit (b : Bool) : Rat.divInt ((if b then 1 else 0 : Nat) : Int) 1 = if b then 1 else 0 := by cases b <;> decide
theorem begin_at {M : Mo} {T i : Nat} (h : i < ((beginW M T).map some).length) : some (Rat.divInt ((T >>> ((i : Int)).toNat % 2 : Nat) : Int) 1) = ((beginW M T).map some)[i] := by
  rw [show ((i : Int)).toNat = i from rfl, bit_mod, one_eq_bit]
  simp [beginW]
theorem stepW_at {M : Mo} {T i : Nat} {v : List Rat} {x : Rat} (h : i < ((stepW M T v).map some).length) (hx : x = if T.testBit i then 1 else bestS M v i) : some x = ((stepW M T v).map some)[i] := by
  subst hx; simp [stepW]
theorem bestS_eq {M : Mo} {v : List Rat} {i : Nat} {l : List Ch} (h : i < M.choices.length) (hl : l = M.choices[i]) : bestQ (l.map (fun c => mixQ c v)) = bestS M v i := by
  subst hl; unfold bestS; rw [List.getD_eq_getElem?_getD, List.getElem?_eq_getElem h]; rfl
theorem minus_full {T n : Nat} (hT : T < 2 ^ n) (h : 2 ^ n ≤ 18446744073709551615) : minusB T (2 ^ n - 1) = 0 := by
  refine Nat.eq_of_testBit_eq (fun i => ?_)
  rw [minusB_bit (by omega) (by omega), Nat.testBit_two_pow_sub_one, Nat.zero_testBit]
  by_cases hi : i < n
  · simp [hi]
  · rw [Nat.testBit_lt_two_pow (Nat.lt_of_lt_of_le hT (Nat.pow_le_pow_right (by decide) (by omega)))]; rfl
end Go.Proofs.YtknflgfkhkdomaaGreatDoor.Mono

/-! WkV -/
set_option linter.unusedVariables false
set_option linter.unusedSimpArgs false
set_option maxRecDepth 4000
set_option maxHeartbeats 4000000
namespace Go.Proofs.YtknflgfkhkdomaaGreatDoor.Mono
open Go Go.RowKit

theorem en54 : Enters Tryz.prog 54 := enters_fn Tryz.func54 (by kernel_rfl) rfl

theorem w35 {l : List Ch} {f : Ch → Rat} (hl : 0 < l.length) (hz : ∀ x ∈ l, Nz 28 (f x)) : Spec CC 35 [Ty.val (.int .i64 0), Ty.of (Kd.slice Kd.ch) l, Ty.fn CC (fun (x : {x // x ∈ l}) => [Ty.of Kd.ch x.1]) (fun x => Ty.of Kd.num (f x.1))] (Ty.tup [Ty.of Kd.num (bestQ (l.map f)), Ty.val (.int .i64 (argB l f))]) := by
  refine spec_of_JS Tryz.func35 rfl (Nat.le_of_ble_eq_true rfl) (fun gh0 wd0 => ?_)
  refine JS_bound (s := 1) rfl (fun b1 => ?_)
  unfold maxLen at b1
  have hd1 : (l.drop (1 : Int).toNat).length ≤ l.length := by rw [List.length_drop]; omega
  refine JS_seq ?_
  -- region 0
  refine sR ?_
  refine kT ?_
  refine JT_alloc (S0 := Seg.of Kd.num0 none) rfl rfl rfl rfl z85 z_num0 (fun g6 => ?_)
  refine jA rfl rfl ?_
  refine JT_done ?_
  refine JS_seq ?_
  -- region 1
  refine sR ?_
  refine kM rfl rfl ?_
  refine kM rfl rfl ?_
  refine kO (T_ix rfl rfl rfl u65 ti60 (by omega) (by show 0 < l.length; exact hl) rfl) rfl ?_
  refine kO (T_ld rfl rfl ti60) rfl ?_
  refine kO (T_callvL ⟨(l[(0 : Int).toNat]'(by show 0 < l.length; exact hl)), List.getElem_mem _⟩ rfl rfl (oa (ol rfl (Ty.le.refl _)) oa0)) rfl ?_
  refine kT ?_
  refine JT_alloc (S0 := Seg.of Kd.num0 none) rfl rfl rfl rfl z85 z_num0 (fun g9 => ?_)
  refine jA rfl rfl ?_
  refine JT_store (i := 0) rfl rfl rfl rfl rfl (ol rfl (Ty.le.refl _)) (Upd.self _ _ rfl) sz85 ?_
  refine JT_done ?_
  refine JS_seq ?_
  refine JS_seq ?_
  -- region 2
  refine sR ?_
  refine kM rfl rfl ?_
  refine kO (T_sl_l rfl rfl rfl u65 ti60 (by decide) (by show 1 ≤ l.length; omega)) rfl ?_
  refine kO (T_len_slice rfl rfl u65 rfl) rfl ?_
  refine kM rfl rfl ?_
  refine kE ?_
  refine JS_block ?_
  refine sLoop1 (fun (i : Nat) => [(22, Ty.val (.int .i64 (i : Int))), (8, Ty.val (.int .i64 (argK (f (l[(0 : Int).toNat]'(by show 0 < l.length; exact hl))) (l.drop (1 : Int).toNat) f i)))]) [0, 2, 6, 9, 20, 21] (fun (i : Nat) => [(0, Res.box g9 85 (Seg.of Kd.num (maxL (f (l[(0 : Int).toNat]'(by show 0 < l.length; exact hl))) (((l.drop (1 : Int).toNat).take i).map f))))]) (fun (i : Nat) => i ≤ (l.drop (1 : Int).toNat).length) (fun (i : Nat) => (l.drop (1 : Int).toNat).length - i) 0 (Nat.zero_le _) (by rfl) (EnvSub.consLe rfl (int_eq (rfl)) (EnvSub.consLe rfl (int_eq (rfl)) (EnvSub.nil _))) (fun i (hI : i ≤ (l.drop (1 : Int).toNat).length) => ?_)
  refine JS_seq ?_
  -- region 3
  refine sR ?_
  refine kO (T_lt rfl rfl rfl) rfl ?_
  refine kE ?_
  refine JS_seq ?_
  refine JS_if rfl (fun c23 => ?_) (fun c23 => ?_)
  · have hi1 : i < (l.drop (1 : Int).toNat).length := by omega
    have hm : ((l.drop (1 : Int).toNat)[((i : Int)).toNat]'(by omega)) ∈ l := List.mem_of_mem_drop (List.getElem_mem _)
    have nm := hz _ hm
    have nb := maxL_nz (l := (l.drop (1 : Int).toNat).take i) (hz (l[(0 : Int).toNat]'(by show 0 < l.length; exact hl)) (List.getElem_mem _)) (fun c hc => hz c (List.mem_of_mem_drop (List.mem_of_mem_take hc)))
    refine JS_skip ?_
    refine JS_seq ?_
    refine JS_block ?_
    refine JS_seq ?_
    -- region 4
    refine sR ?_
    refine kM rfl rfl ?_
    refine kO (T_ix rfl rfl rfl u65 ti60 (by omega) (by omega) rfl) rfl ?_
    refine kO (T_ld rfl rfl ti60) rfl ?_
    refine kT ?_
    refine JT_alloc (S0 := Seg.cat [Seg.of Kd.str [], Seg.of Kd.str [], Seg.of (Kd.slice Kd.br) []]) rfl rfl rfl rfl z60 h0_60 (fun g11 => ?_)
    refine jA rfl rfl ?_
    refine JT_store (i := 0) rfl rfl rfl rfl rfl (ol rfl (Ty.le.refl _)) (Upd.self _ _ rfl) sz60 ?_
    refine JT_done ?_
    refine JS_seq ?_
    -- region 5
    refine sR ?_
    refine kM rfl rfl ?_
    refine kO (T_load_own (i := 0) rfl rfl rfl (Sub.self _) ti60) rfl ?_
    refine kO (T_callvL ⟨((l.drop (1 : Int).toNat)[((i : Int)).toNat]'(by omega)), hm⟩ rfl rfl (oa (ol rfl (Ty.le.refl _)) oa0)) rfl ?_
    refine kT ?_
    refine JT_alloc (S0 := Seg.of Kd.num0 none) rfl rfl rfl rfl z85 z_num0 (fun g12 => ?_)
    refine JT_store (i := 0) rfl rfl rfl rfl rfl (ol rfl (Ty.le.refl _)) (Upd.self _ _ rfl) sz85 ?_
    refine JT_done ?_
    refine JS_seq ?_
    -- region 6
    refine sR ?_
    refine kO (T_load_own (i := 0) rfl rfl rfl (Sub.self _) ti85) rfl ?_
    refine kO (T_load_own (i := 2) rfl rfl rfl (Sub.self _) ti85) rfl ?_
    refine kO (T_callL rfl en54 (w54 (nm.up (by decide)) (nb.up (by decide))) (oa (ol rfl (Ty.le.refl _)) (oa (ol rfl (Ty.le.refl _)) oa0))) rfl ?_
    refine kA rfl rfl ?_
    refine kE ?_
    refine JS_seq ?_
    -- region 7
    refine sR ?_
    refine kM rfl rfl ?_
    refine kO (T_eq rfl rfl rfl) rfl ?_
    refine kM rfl rfl ?_
    refine tk_if (d := 35) rfl (fun g35 => ?_) (fun g35 => ?_)
    · refine kG (wTD g35 rfl rfl rfl) (T_move (.inl rfl) rfl) rfl ?_
      refine kG (wTD g35 rfl rfl rfl) (T_gt rfl rfl rfl) rfl ?_
      refine kO (T_pickD g35 rfl rfl rfl) rfl ?_
      refine kM rfl rfl ?_
      refine tk_if (d := 39) rfl (fun g39 => ?_) (fun g39 => ?_)
      · refine kS (uTD g39 rfl rfl rfl) rfl ?_
        refine kS (uTD g39 rfl rfl rfl) rfl ?_
        refine kS (uTD g39 rfl rfl rfl) rfl ?_
        refine kS (wU rfl rfl rfl) rfl ?_
        refine kS (wU rfl rfl rfl) rfl ?_
        refine kS (uTD g39 rfl rfl rfl) rfl ?_
        refine kO (T_pickD g39 rfl rfl rfl) rfl ?_
        refine kE ?_
        refine JS_ct rfl ?_
        -- region 8
        refine sRD mixed ?_
        refine kM rfl rfl ?_
        refine kO (T_add rfl rfl rfl (wrap_i64 (by omega) (by omega))) rfl ?_
        refine kO (T_load_own (i := 0) rfl rfl rfl (Sub.self _) ti85) rfl ?_
        refine kA rfl rfl ?_
        refine kTD (by decide) ?_
        refine JT_store (i := 2) rfl rfl rfl rfl rfl (ol rfl (Ty.le.refl _)) (Upd.self _ _ rfl) sz85 ?_
        refine JT_done ?_
        refine JS_end_inB ?_
        -- region 9
        refine sR ?_
        refine kO (T_add rfl rfl rfl (wrap_i64 (by omega) (by omega))) rfl ?_
        refine kM rfl rfl ?_
        refine kE ?_
        refine JS_drop 0 ?_
        refine JS_drop 0 ?_
        exact JS_round (i + 1) (by omega) (by omega) (by rw [← maxL_up (x := f (l[(0 : Int).toNat]'(by show 0 < l.length; exact hl))) hi1 (toNat_get _) g39]; rfl) (EnvSub.consLe rfl (int_eq (rfl)) (EnvSub.consLe rfl (int_eq (arg_up hi1 (toNat_get _) g39)) (EnvSub.pick1 rfl (EnvSub.pick1 rfl (EnvSub.pick1 rfl (EnvSub.pick1 rfl (EnvSub.pick1 rfl (EnvSub.pick1 rfl (EnvSub.nil _)))))))))
      · refine kG (wFD g39 rfl rfl rfl) (T_move (.inl rfl) rfl) rfl ?_
        refine kG (wFD g39 rfl rfl rfl) (T_eq rfl rfl rfl) rfl ?_
        refine kG (wFD g39 rfl rfl rfl) (T_move (.inl rfl) rfl) rfl ?_
        refine tk_if (d := 42) rfl (fun g42 => ?_) (fun g42 => ?_)
        · exact absurd g42 (by decide)
        · refine kS (uFD g42 rfl rfl rfl) rfl ?_
          refine kS (uFD g42 rfl rfl rfl) rfl ?_
          refine kG (wFD g39 rfl rfl rfl) (T_pickN g42 rfl rfl rfl) rfl ?_
          refine kO (T_pickN g39 rfl rfl rfl) rfl ?_
          refine kE ?_
          refine JS_cf rfl ?_
          refine JS_skip ?_
          refine JS_end_inB ?_
          -- region 9
          refine sR ?_
          refine kO (T_add rfl rfl rfl (wrap_i64 (by omega) (by omega))) rfl ?_
          refine kM rfl rfl ?_
          refine kE ?_
          refine JS_drop 0 ?_
          refine JS_drop 0 ?_
          exact JS_round (i + 1) (by omega) (by omega) (by rw [← maxL_stay (x := f (l[(0 : Int).toNat]'(by show 0 < l.length; exact hl))) hi1 (toNat_get _) g39]; rfl) (EnvSub.consLe rfl (int_eq (rfl)) (EnvSub.consLe rfl (int_eq (arg_stay hi1 (toNat_get _) g39)) (EnvSub.pick1 rfl (EnvSub.pick1 rfl (EnvSub.pick1 rfl (EnvSub.pick1 rfl (EnvSub.pick1 rfl (EnvSub.pick1 rfl (EnvSub.nil _)))))))))
    · exact absurd rfl g35
  · refine JS_exit (JE_loop_exit (JE_inB_here ?_))
    refine JS_seq ?_
    -- region 10
    refine sR ?_
    refine kO (T_load_own (i := 0) rfl rfl rfl (Sub.self _) ti85) rfl ?_
    refine kM rfl rfl ?_
    refine kT ?_
    refine JT_store (i := 1) rfl rfl rfl rfl rfl (ol rfl (Ty.le.refl _)) (Upd.self _ _ rfl) sz85 ?_
    refine jA rfl rfl ?_
    refine JT_done ?_
    exact JS_ret (JE_ret_many rfl (by decide) (.le (.cell (i := 1) rfl rfl ti85 (.le (.tmp rfl .nil) (int_eq (argB_eq hl (by show i = (l.drop 1).length; have : (l.drop (1 : Int).toNat).length = (l.drop 1).length := rfl; omega))))) (of_eq (bestQ_eq hl (by show i = (l.drop 1).length; have : (l.drop (1 : Int).toNat).length = (l.drop 1).length := rfl; omega)))))

theorem ti49 : TI Tryz.prog 49 false 1 := ⟨by kernel_rfl, by kernel_rfl⟩

theorem en37 : Enters Tryz.prog 37 := enters_fn Tryz.func37 (by kernel_rfl) rfl

theorem w36 {c : Ch} {v : List Rat} {n G H D : Nat} (hc : CM n G H c) (hl : ∀ x ∈ v, Bd D x) (hn : v.length = n) (hG : 0 < G) (hD : 0 < D) (hGD : G * D < 10 ^ 252) : Spec CC 36 [Ty.of Kd.ch c, Ty.place (Seg.of (Kd.slice Kd.num) v)] (Ty.of Kd.num (mixQ c v)) := by
  refine spec_of_JS Tryz.func36 rfl (Nat.le_of_ble_eq_true rfl) (fun gh0 wd0 => ?_)
  refine JS_seq ?_
  -- region 0
  refine sR ?_
  refine kO (T_box rfl (ol rfl (Ty.le.refl _))) rfl ?_
  refine kT ?_
  refine JT_alloc (S0 := Seg.of Kd.num0 none) rfl rfl rfl rfl z85 z_num0 (fun g3 => ?_)
  refine JT_done ?_
  refine JS_seq ?_
  -- region 1
  refine sR ?_
  refine kO (T_ld rfl rfl ti60) rfl ?_
  refine kO (T_ld rfl rfl ti49) rfl ?_
  refine kO (T_callL rfl en37 (w37 hc hl hn hG hD hGD) (oa (ol rfl (Ty.le.refl _)) (oa (ol rfl (Ty.le.refl _)) oa0))) rfl ?_
  refine kT ?_
  refine JT_store (i := 0) rfl rfl rfl rfl rfl (ol rfl (Ty.le.refl _)) (Upd.self _ _ rfl) sz85 ?_
  refine JT_done ?_
  exact JS_ret (JE_ret_one rfl rfl (.cell (i := 0) rfl rfl ti85 .nil) (of_eq (rfl)))

theorem w17 {M : Mo} {T : Nat} {n : Nat} (hM : GM M) (hT : T < 2 ^ M.owner.length) (hn : n ≤ 60) : Spec CC 17 [Ty.of Kd.mo M, Ty.val (.int .u64 (T : Int)), Ty.val (.int .i64 (n : Int))] (Ty.val (.int .i64 0)) := by
  refine spec_of_JS Tryz.func17 rfl (Nat.le_of_ble_eq_true rfl) (fun gh0 wd0 => ?_)
  have n0 := hM.n0
  have n1 := hM.n1
  have hp : 2 ^ M.owner.length ≤ 2 ^ 12 := Nat.pow_le_pow_right (by decide) n1
  rw [show (2 : Nat) ^ 12 = 4096 by decide] at hp
  have e1 : (2 ^ ((M.owner.length : Int)).toNat : Nat) = 2 ^ M.owner.length := rfl
  have h1p : 1 ≤ 2 ^ M.owner.length := Nat.one_le_two_pow
  have e2 : minusB T (2 ^ M.owner.length - 1) = 0 := minus_full hT (by omega)
  refine JS_seq ?_
  -- region 0
  refine sR ?_
  refine kO (T_box rfl (ol rfl (Ty.le.refl _))) rfl ?_
  refine kA rfl rfl ?_
  refine kE ?_
  refine JS_seq ?_
  refine JS_seq ?_
  -- region 1
  refine sR ?_
  refine kO (T_ld rfl rfl ti30) rfl ?_
  refine kO (T_callL rfl en25 (w25 hM) (oa (ol rfl (Ty.le.refl _)) oa0)) rfl ?_
  refine kA rfl rfl ?_
  refine kE ?_
  refine JS_seq ?_
  -- region 2
  refine sR ?_
  refine kM rfl rfl ?_
  refine kO (T_ne rfl rfl rfl) rfl ?_
  refine kE ?_
  refine JS_if rfl (fun c11 => ?_) (fun c11 => ?_)
  · exact absurd rfl c11
  · refine JS_skip ?_
    refine JS_seq ?_
    refine JS_seq ?_
    -- region 4
    refine sR ?_
    refine kM rfl rfl ?_
    refine kO (T_fieldAddr rfl fa30_0 (st_sub (i := 0) rfl rfl) rfl) rfl ?_
    refine kO (T_ld rfl rfl ti27) rfl ?_
    refine kO (T_len_slice rfl rfl u27 rfl) rfl ?_
    refine kO (T_shl rfl rfl rfl (by omega) (shl1_u64 (by omega) (by omega))) rfl ?_
    refine kO (T_subI rfl rfl rfl ((wrap_u64 (by rw [e1]; omega) (by rw [e1]; omega)).trans (show _ = ((2 ^ M.owner.length - 1 : Nat) : Int) by rw [e1]; omega))) rfl ?_
    refine kO (T_bits rfl (.inr (.inr (.inr rfl))) rfl rfl ((andNot_u64 (by omega) (by omega)).trans (show _ = (0 : Int) by rw [e2]; rfl))) rfl ?_
    refine kO (T_ne rfl rfl rfl) rfl ?_
    refine kM rfl rfl ?_
    refine tk_if (d := 21) rfl (fun g21 => ?_) (fun g21 => ?_)
    · exact absurd rfl g21
    · refine kG (wFD g21 rfl rfl rfl) (T_move (.inl rfl) rfl) rfl ?_
      refine kG (wFD g21 rfl rfl rfl) (T_lt rfl rfl rfl) rfl ?_
      refine kO (T_pickN g21 rfl rfl rfl) rfl ?_
      refine kM rfl rfl ?_
      refine tk_if (d := 25) rfl (fun g25 => ?_) (fun g25 => ?_)
      · exact absurd g25 (by omega)
      · refine kG (wFD g25 rfl rfl rfl) (T_move (.inl rfl) rfl) rfl ?_
        refine kG (wFD g25 rfl rfl rfl) (T_gt rfl rfl rfl) rfl ?_
        refine kO (T_pickN g25 rfl rfl rfl) rfl ?_
        refine kE ?_
        refine JS_if rfl (fun c28 => ?_) (fun c28 => ?_)
        · exact absurd c28 (by omega)
        · refine JS_skip ?_
          refine JS_seq ?_
          -- region 6
          refine sR ?_
          refine kA rfl rfl ?_
          refine kE ?_
          exact JS_ret (JE_ret_one rfl rfl (.tmp rfl .nil) (int_eq (rfl)))

theorem sz43 : (Tryz.prog.info? 43).map (·.size) = some 1 := by kernel_rfl

theorem w20 {l : List Rat} (hl : ∀ x ∈ l, Dz 2000 x) (hn : l.length ≤ 1000) : Spec CC 20 [Ty.of (Kd.slice Kd.num) l] (Ty.of (Kd.slice Kd.str) (l.map qtext)) := by
  refine spec_of_JS Tryz.func20 rfl (Nat.le_of_ble_eq_true rfl) (fun gh0 wd0 => ?_)
  refine JS_bound (s := 0) rfl (fun b0 => ?_)
  unfold maxLen at b0
  refine JS_seq ?_
  -- region 0
  refine sR ?_
  refine kA rfl rfl ?_
  refine kE ?_
  refine JS_seq ?_
  -- region 1
  refine sR ?_
  refine kM rfl rfl ?_
  refine kO (T_len_slice rfl rfl u49 rfl) rfl ?_
  refine kT ?_
  refine JT_make (K := Kd.str) (z0 := []) rfl rfl rfl rfl u35 ei43 rfl (by decide) (fun _ => rfl) rfl rfl (by omega) (by omega) (by omega) (by omega) (fun v8 => ?_)
  refine jA rfl rfl ?_
  refine JT_done ?_
  refine JS_seq ?_
  refine JS_seq ?_
  -- region 2
  refine sR ?_
  refine kM rfl rfl ?_
  refine kO (T_len_slice rfl rfl u49 rfl) rfl ?_
  refine kM rfl rfl ?_
  refine kE ?_
  refine JS_block ?_
  refine sLoop1 (fun (i : Nat) => [(11, Ty.val (.int .i64 (i : Int)))]) [3, 9, 10] (fun (i : Nat) => [(0, Res.sl v8 43 Kd.str (fillL (l.map qtext) [] i))]) (fun (i : Nat) => i ≤ l.length) (fun (i : Nat) => l.length - i) 0 (Nat.zero_le _) (by rw [← fillL_zero (n := ((l.length : Int)).toNat) (by rw [List.length_map]; rfl)]; rfl) (EnvSub.consLe rfl (int_eq (rfl)) (EnvSub.nil _)) (fun i (hI : i ≤ l.length) => ?_)
  refine JS_seq ?_
  -- region 3
  refine sR ?_
  refine kO (T_lt rfl rfl rfl) rfl ?_
  refine kE ?_
  refine JS_seq ?_
  refine JS_if rfl (fun c12 => ?_) (fun c12 => ?_)
  · have hx := hl (l[((i : Int)).toNat]'(by omega)) (List.getElem_mem _)
    refine JS_skip ?_
    refine JS_seq ?_
    refine JS_block ?_
    refine JS_seq ?_
    -- region 4
    refine sR ?_
    refine kM rfl rfl ?_
    refine kO (T_ix rfl rfl rfl u49 ti85 (by omega) (by omega) rfl) rfl ?_
    refine kO (T_ld rfl rfl ti85) rfl ?_
    refine kT ?_
    refine JT_alloc (S0 := Seg.of Kd.num0 none) rfl rfl rfl rfl z85 z_num0 (fun g5 => ?_)
    refine jA rfl rfl ?_
    refine JT_store (i := 0) rfl rfl rfl rfl rfl (ol rfl (Ty.le.refl _)) (Upd.self _ _ rfl) sz85 ?_
    refine JT_done ?_
    -- region 5
    refine sR ?_
    refine kM rfl rfl ?_
    refine kM rfl rfl ?_
    refine kO (T_load_own (i := 0) rfl rfl rfl (Sub.self _) ti85) rfl ?_
    refine kO (T_callL rfl en33 (w33 (hx.nz.up (by decide))) (oa (ol rfl (Ty.le.refl _)) oa0)) rfl ?_
    refine kO (T_ixo (ix := 1) (d := Kd.str) rfl rfl rfl rfl u35 ti43 (by omega) (by rw [fillL_len (by rw [List.length_map]; omega), List.length_map]; omega)) rfl ?_
    refine kT ?_
    refine JT_store_elt (i := 1) rfl rfl rfl rfl rfl (by rw [fillL_len (by rw [List.length_map]; omega), List.length_map]; omega) (ol rfl (Ty.le.refl _)) sz43 ?_
    refine JT_done ?_
    refine JS_end_inB ?_
    -- region 6
    refine sR ?_
    refine kO (T_add rfl rfl rfl (wrap_i64 (by omega) (by omega))) rfl ?_
    refine kM rfl rfl ?_
    refine kE ?_
    refine JS_drop 0 ?_
    exact JS_round (i + 1) (by omega) ((by omega)) (by rw [← fillL_set (i := i) (k := ((i : Int)).toNat) (y := qtext (l[((i : Int)).toNat]'(by omega))) rfl (by rw [List.length_map]; omega) (by rw [List.getElem_map]; rfl)]; rfl) (EnvSub.consLe rfl (int_eq (rfl)) (EnvSub.pick1 rfl (EnvSub.pick1 rfl (EnvSub.pick1 rfl (EnvSub.nil _)))))
  · obtain rfl : i = l.length := by omega
    refine JS_exit (JE_loop_exit (JE_inB_here ?_))
    refine JS_seq ?_
    -- region 7
    refine sR ?_
    refine kM rfl rfl ?_
    refine kA rfl rfl ?_
    refine kE ?_
    refine JS_freeze_sl (i := 0) (s := 2) rfl rfl ?_
    exact JS_ret (JE_ret_one rfl rfl (.tmp rfl .nil) ((of_eq (fillL_full (by rw [List.length_map])))))

theorem ei85 : EI Tryz.prog 85 4 64 (.agg #[.bool false, .slice none 0 0, .bool false, .slice none 0 0]) := by unfold EI; kernel_rfl

theorem u33 : Tryz.prog.underlying 33 = some (.int .u64) := by kernel_rfl

theorem w18 {M : Mo} {T : Nat} (h12 : M.owner.length ≤ 12) (hT : T < 18446744073709551616) : Spec CC 18 [Ty.of Kd.mo M, Ty.val (.int .u64 (T : Int))] (Ty.of (Kd.slice Kd.num) (beginW M T)) := by
  refine spec_of_JS Tryz.func18 rfl (Nat.le_of_ble_eq_true rfl) (fun gh0 wd0 => ?_)
  have hbl : ((beginW M T).map some).length = M.owner.length := by rw [List.length_map, beginW_len]
  have hrl : (List.replicate ((M.owner.length : Int)).toNat (none : Option Rat)).length = M.owner.length := List.length_replicate ..
  refine JS_seq ?_
  -- region 0
  refine sR ?_
  refine kO (T_box rfl (ol rfl (Ty.le.refl _))) rfl ?_
  refine kA rfl rfl ?_
  refine kE ?_
  refine JS_seq ?_
  -- region 1
  refine sR ?_
  refine kO (T_fieldAddr rfl fa30_0 (st_sub (i := 0) rfl rfl) rfl) rfl ?_
  refine kO (T_ld rfl rfl ti27) rfl ?_
  refine kO (T_len_slice rfl rfl u27 rfl) rfl ?_
  refine kT ?_
  refine JT_make (K := Kd.num0) (z0 := none) rfl rfl rfl rfl u49 ei85 rfl (by decide) z_num0 rfl rfl (by omega) (by omega) (by omega) (by omega) (fun v10 => ?_)
  refine jA rfl rfl ?_
  refine JT_done ?_
  refine JS_seq ?_
  refine JS_seq ?_
  -- region 2
  refine sR ?_
  refine kM rfl rfl ?_
  refine kO (T_len_own (i := 0) rfl rfl u49 rfl rfl) rfl ?_
  refine kM rfl rfl ?_
  refine kE ?_
  refine JS_block ?_
  refine sLoop1 (fun (i : Nat) => [(13, Ty.val (.int .i64 (i : Int)))]) [1, 5, 12] (fun (i : Nat) => [(0, Res.sl v10 85 Kd.num0 (fillL ((beginW M T).map some) none i))]) (fun (i : Nat) => i ≤ M.owner.length) (fun (i : Nat) => M.owner.length - i) 0 (Nat.zero_le _) (by rw [← fillL_zero (n := ((M.owner.length : Int)).toNat) (by rw [hbl]; rfl)]; rfl) (EnvSub.consLe rfl (int_eq (rfl)) (EnvSub.nil _)) (fun i (hI : i ≤ M.owner.length) => ?_)
  refine JS_seq ?_
  -- region 3
  refine sR ?_
  refine kO (T_lt rfl rfl rfl) rfl ?_
  refine kE ?_
  refine JS_seq ?_
  refine JS_if rfl (fun c14 => ?_) (fun c14 => ?_)
  · have hi1 : i < M.owner.length := by omega
    have hs : T >>> ((i : Int)).toNat < 18446744073709551616 := Nat.lt_of_le_of_lt (Nat.shiftRight_le _ _) hT
    refine JS_skip ?_
    refine JS_seq ?_
    refine JS_block ?_
    refine JS_seq ?_
    -- region 4
    refine sR ?_
    refine kM rfl rfl ?_
    refine kA rfl rfl ?_
    refine kE ?_
    -- region 5
    refine sR ?_
    refine kM rfl rfl ?_
    refine kM rfl rfl ?_
    refine kM rfl rfl ?_
    refine kM rfl rfl ?_
    refine kO (T_shr rfl rfl rfl (by omega) (shr_u64 (by omega) (by omega))) rfl ?_
    refine kO (T_bits rfl (.inl rfl) rfl rfl (and1_u64 hs)) rfl ?_
    refine kO (T_conv rfl u33 u3 rfl (wrap_i64 (by omega) (by omega))) rfl ?_
    refine kO (T_callL rfl en30 (w30 (by omega) (by omega) (by decide) (by decide) (by decide)) (oa (ol rfl (Ty.le.refl _)) (oa (ol rfl (Ty.le.refl _)) oa0))) rfl ?_
    refine kO (T_ixo (ix := 0) (d := Kd.num0) rfl rfl rfl rfl u49 ti85 (by omega) (by rw [fillL_len (by omega)]; omega)) rfl ?_
    refine kT ?_
    refine JT_store_elt (i := 0) rfl rfl rfl rfl rfl (by rw [fillL_len (by omega)]; omega) (ol rfl (num_num0 _)) sz85 ?_
    refine JT_done ?_
    refine JS_end_inB ?_
    -- region 6
    refine sR ?_
    refine kO (T_add rfl rfl rfl (wrap_i64 (by omega) (by omega))) rfl ?_
    refine kM rfl rfl ?_
    refine kE ?_
    exact JS_round (i + 1) (by omega) ((by omega)) (by rw [← fillL_set (i := i) (k := ((i : Int)).toNat) (y := some (Rat.divInt ((T >>> ((i : Int)).toNat % 2 : Nat) : Int) 1)) rfl (by omega) (begin_at (by omega))]; rfl) (EnvSub.consLe rfl (int_eq (rfl)) (EnvSub.pick1 rfl (EnvSub.pick1 rfl (EnvSub.pick1 rfl (EnvSub.nil _)))))
  · obtain rfl : i = M.owner.length := by omega
    refine JS_exit (JE_loop_exit (JE_inB_here ?_))
    refine JS_seq ?_
    -- region 7
    refine sR ?_
    refine kM rfl rfl ?_
    refine kA rfl rfl ?_
    refine kE ?_
    refine JS_freeze_sl (i := 0) (s := 4) rfl rfl ?_
    exact JS_ret (JE_ret_one rfl rfl (.tmp rfl .nil) (num0s_nums (fillL_full hbl.symm)))

theorem ei3 : EI Tryz.prog 3 1 8 (.int .i64 (0)) := by unfold EI; kernel_rfl

theorem ti33 : TI Tryz.prog 33 false 1 := ⟨by kernel_rfl, by kernel_rfl⟩

theorem en36 : Enters Tryz.prog 36 := enters_fn Tryz.func36 (by kernel_rfl) rfl

theorem en35 : Enters Tryz.prog 35 := enters_fn Tryz.func35 (by kernel_rfl) rfl

theorem w34 {M : Mo} {T : Nat} {v : List Rat} {G H D : Nat} (hM : GM M) (hC : ∀ l ∈ M.choices, ∀ c ∈ l, CM M.owner.length G H c) (hT : T < 18446744073709551616) (hv : ∀ x ∈ v, Bd D x) (hn : v.length = M.owner.length) (hG : 0 < G) (hD : 0 < D) (hGD : G * D < 10 ^ 252) : Spec CC 34 [Ty.of (Kd.slice Kd.num) v, Ty.place (Seg.of Kd.mo M), Ty.place (Seg.of (Kd.int .u64) (T : Int))] (Ty.tup [Ty.of (Kd.slice Kd.num) (stepW M T v), Ty.any]) := by
  refine spec_of_JS Tryz.func34 rfl (Nat.le_of_ble_eq_true rfl) (fun gh0 wd0 => ?_)
  refine JS_bound (s := 0) rfl (fun b0 => ?_)
  unfold maxLen at b0
  have n1 := hM.n1
  have hsm := hM.same
  have hbl : ((stepW M T v).map some).length = M.owner.length := by rw [List.length_map, stepW_len]
  refine JS_seq ?_
  -- region 0
  refine sR ?_
  refine kO (T_box rfl (ol rfl (Ty.le.refl _))) rfl ?_
  refine kA rfl rfl ?_
  refine kA rfl rfl ?_
  refine kE ?_
  refine JS_seq ?_
  refine JS_joinD2 (fun (v12 : Value) (v15 : Value) => [(6, Ty.val (v12)), (7, Ty.val (v15))]) [1, 2, 3] (fun (v12 : Value) (v15 : Value) => [Res.sl v12 85 Kd.num0 (List.replicate ((v.length : Int)).toNat none), Res.sl v15 3 (Kd.int .i64) (List.replicate ((v.length : Int)).toNat 0)]) (fun (v12 : Value) (v15 : Value) => True) ?_ (fun v12 v15 (hJ : True) => ?_)
  · -- region 1
    refine JS_drawT [2, 5, 6, 7] (fun (Δ0 : List Res) (sd : List Nat) (Γd : Env) (Δ1 : List Res) => (sd = [] ∧ Γd = [] ∧ Δ1 = Δ0) ∨ (∃ (v12 : Value), sd = [2] ∧ Γd = [(12, Ty.val v12)] ∧ Δ1 = Res.sl v12 85 Kd.num0 (List.replicate ((v.length : Int)).toNat none) :: Δ0) ∨ (∃ (v15 : Value), sd = [5] ∧ Γd = [(15, Ty.val v15)] ∧ Δ1 = Res.sl v15 3 (Kd.int .i64) (List.replicate ((v.length : Int)).toNat 0) :: Δ0) ∨ (∃ (v12 : Value), ∃ (v15 : Value), sd = [5, 2] ∧ Γd = [(15, Ty.val v15), (12, Ty.val v12)] ∧ Δ1 = Res.sl v15 3 (Kd.int .i64) (List.replicate ((v.length : Int)).toNat 0) :: Res.sl v12 85 Kd.num0 (List.replicate ((v.length : Int)).toNat none) :: Δ0) ∨ (∃ (v12 : Value), sd = [6, 2] ∧ Γd = [(6, Ty.val v12), (12, Ty.val v12)] ∧ Δ1 = Res.sl v12 85 Kd.num0 (List.replicate ((v.length : Int)).toNat none) :: Δ0) ∨ (∃ (v12 : Value), ∃ (v15 : Value), sd = [2, 5] ∧ Γd = [(12, Ty.val v12), (15, Ty.val v15)] ∧ Δ1 = Res.sl v12 85 Kd.num0 (List.replicate ((v.length : Int)).toNat none) :: Res.sl v15 3 (Kd.int .i64) (List.replicate ((v.length : Int)).toNat 0) :: Δ0) ∨ (∃ (v12 : Value), ∃ (v15 : Value), sd = [6, 5, 2] ∧ Γd = [(6, Ty.val v12), (15, Ty.val v15), (12, Ty.val v12)] ∧ Δ1 = Res.sl v15 3 (Kd.int .i64) (List.replicate ((v.length : Int)).toNat 0) :: Res.sl v12 85 Kd.num0 (List.replicate ((v.length : Int)).toNat none) :: Δ0) ∨ (∃ (v12 : Value), ∃ (v15 : Value), sd = [5, 6, 2] ∧ Γd = [(15, Ty.val v15), (6, Ty.val v12), (12, Ty.val v12)] ∧ Δ1 = Res.sl v15 3 (Kd.int .i64) (List.replicate ((v.length : Int)).toNat 0) :: Res.sl v12 85 Kd.num0 (List.replicate ((v.length : Int)).toNat none) :: Δ0) ∨ (∃ (v12 : Value), ∃ (v15 : Value), sd = [6, 2, 5] ∧ Γd = [(6, Ty.val v12), (12, Ty.val v12), (15, Ty.val v15)] ∧ Δ1 = Res.sl v12 85 Kd.num0 (List.replicate ((v.length : Int)).toNat none) :: Res.sl v15 3 (Kd.int .i64) (List.replicate ((v.length : Int)).toNat 0) :: Δ0) ∨ (∃ (v12 : Value), ∃ (v15 : Value), sd = [7, 6, 5, 2] ∧ Γd = [(7, Ty.val v15), (6, Ty.val v12), (15, Ty.val v15), (12, Ty.val v12)] ∧ Δ1 = Res.sl v15 3 (Kd.int .i64) (List.replicate ((v.length : Int)).toNat 0) :: Res.sl v12 85 Kd.num0 (List.replicate ((v.length : Int)).toNat none) :: Δ0) ∨ (∃ (v12 : Value), ∃ (v15 : Value), sd = [7, 5, 6, 2] ∧ Γd = [(7, Ty.val v15), (15, Ty.val v15), (6, Ty.val v12), (12, Ty.val v12)] ∧ Δ1 = Res.sl v15 3 (Kd.int .i64) (List.replicate ((v.length : Int)).toNat 0) :: Res.sl v12 85 Kd.num0 (List.replicate ((v.length : Int)).toNat none) :: Δ0) ∨ (∃ (v12 : Value), ∃ (v15 : Value), sd = [7, 6, 2, 5] ∧ Γd = [(7, Ty.val v15), (6, Ty.val v12), (12, Ty.val v12), (15, Ty.val v15)] ∧ Δ1 = Res.sl v12 85 Kd.num0 (List.replicate ((v.length : Int)).toNat none) :: Res.sl v15 3 (Kd.int .i64) (List.replicate ((v.length : Int)).toNat 0) :: Δ0)) (fun i => if i = 2 then [11] else if i = 5 then [14] else if i = 6 then [] else if i = 7 then [] else []) mixed (by decide) (by decide) (.inl ⟨rfl, rfl, rfl⟩) (fun sd Γd Δ1 hs => by rcases hs with ⟨rfl, rfl, rfl⟩ | ⟨v12, rfl, rfl, rfl⟩ | ⟨v15, rfl, rfl, rfl⟩ | ⟨v12, v15, rfl, rfl, rfl⟩ | ⟨v12, rfl, rfl, rfl⟩ | ⟨v12, v15, rfl, rfl, rfl⟩ | ⟨v12, v15, rfl, rfl, rfl⟩ | ⟨v12, v15, rfl, rfl, rfl⟩ | ⟨v12, v15, rfl, rfl, rfl⟩ | ⟨v12, v15, rfl, rfl, rfl⟩ | ⟨v12, v15, rfl, rfl, rfl⟩ | ⟨v12, v15, rfl, rfl, rfl⟩ <;> rfl) ?_
    refine dOpA (fun _ => T_ld rfl rfl ti49) rfl rfl rfl ?_
    refine dOpA (fun _ => T_len_slice rfl rfl u49 rfl) rfl rfl rfl ?_
    refine dDyn rfl ?_
    refine dOpA (fun _ => T_ld rfl rfl ti49) rfl rfl rfl ?_
    refine dOpA (fun _ => T_len_slice rfl rfl u49 rfl) rfl rfl rfl ?_
    refine dDyn rfl ?_
    refine dDyn rfl ?_
    refine dDyn rfl ?_
    refine dEnd ⟨?_, ?_⟩
    · intro Q1 cs1 i o sd Γd Δ1 Γx hi ho hn hb hinv hk
      simp only [List.mem_cons, List.not_mem_nil, or_false] at hi
      rcases hi with rfl | rfl | rfl | rfl
      · obtain rfl := Option.some.inj ho
        rcases hinv with ⟨rfl, rfl, rfl⟩ | ⟨v12, rfl, rfl, rfl⟩ | ⟨v15, rfl, rfl, rfl⟩ | ⟨v12, v15, rfl, rfl, rfl⟩ | ⟨v12, rfl, rfl, rfl⟩ | ⟨v12, v15, rfl, rfl, rfl⟩ | ⟨v12, v15, rfl, rfl, rfl⟩ | ⟨v12, v15, rfl, rfl, rfl⟩ | ⟨v12, v15, rfl, rfl, rfl⟩ | ⟨v12, v15, rfl, rfl, rfl⟩ | ⟨v12, v15, rfl, rfl, rfl⟩ | ⟨v12, v15, rfl, rfl, rfl⟩
        · refine JT_make (K := Kd.num0) (z0 := none) rfl rfl rfl rfl u49 ei85 rfl (by decide) z_num0 rfl rfl (by omega) (by omega) (by omega) (by omega) (fun v12 => ?_)
          exact JT_done (hk [(12, _)] _ (.inr (.inl ⟨v12, rfl, rfl, rfl⟩)))
        · exact absurd (by simp) hn
        · refine JT_make (K := Kd.num0) (z0 := none) rfl rfl rfl rfl u49 ei85 rfl (by decide) z_num0 rfl rfl (by omega) (by omega) (by omega) (by omega) (fun v12 => ?_)
          exact JT_done (hk [(12, _), (15, _)] _ (.inr (.inr (.inr (.inr (.inr (.inl ⟨v12, v15, rfl, rfl, rfl⟩)))))))
        · exact absurd (by simp) hn
        · exact absurd (by simp) hn
        · exact absurd (by simp) hn
        · exact absurd (by simp) hn
        · exact absurd (by simp) hn
        · exact absurd (by simp) hn
        · exact absurd (by simp) hn
        · exact absurd (by simp) hn
        · exact absurd (by simp) hn
      · obtain rfl := Option.some.inj ho
        rcases hinv with ⟨rfl, rfl, rfl⟩ | ⟨v12, rfl, rfl, rfl⟩ | ⟨v15, rfl, rfl, rfl⟩ | ⟨v12, v15, rfl, rfl, rfl⟩ | ⟨v12, rfl, rfl, rfl⟩ | ⟨v12, v15, rfl, rfl, rfl⟩ | ⟨v12, v15, rfl, rfl, rfl⟩ | ⟨v12, v15, rfl, rfl, rfl⟩ | ⟨v12, v15, rfl, rfl, rfl⟩ | ⟨v12, v15, rfl, rfl, rfl⟩ | ⟨v12, v15, rfl, rfl, rfl⟩ | ⟨v12, v15, rfl, rfl, rfl⟩
        · refine JT_make (K := (Kd.int .i64)) (z0 := 0) rfl rfl rfl rfl u27 ei3 rfl (by decide) (fun _ => rfl) rfl rfl (by omega) (by omega) (by omega) (by omega) (fun v15 => ?_)
          exact JT_done (hk [(15, _)] _ (.inr (.inr (.inl ⟨v15, rfl, rfl, rfl⟩))))
        · refine JT_make (K := (Kd.int .i64)) (z0 := 0) rfl rfl rfl rfl u27 ei3 rfl (by decide) (fun _ => rfl) rfl rfl (by omega) (by omega) (by omega) (by omega) (fun v15 => ?_)
          exact JT_done (hk [(15, _), (12, _)] _ (.inr (.inr (.inr (.inl ⟨v12, v15, rfl, rfl, rfl⟩)))))
        · exact absurd (by simp) hn
        · exact absurd (by simp) hn
        · refine JT_make (K := (Kd.int .i64)) (z0 := 0) rfl rfl rfl rfl u27 ei3 rfl (by decide) (fun _ => rfl) rfl rfl (by omega) (by omega) (by omega) (by omega) (fun v15 => ?_)
          exact JT_done (hk [(15, _), (6, _), (12, _)] _ (.inr (.inr (.inr (.inr (.inr (.inr (.inr (.inl ⟨v12, v15, rfl, rfl, rfl⟩)))))))))
        · exact absurd (by simp) hn
        · exact absurd (by simp) hn
        · exact absurd (by simp) hn
        · exact absurd (by simp) hn
        · exact absurd (by simp) hn
        · exact absurd (by simp) hn
        · exact absurd (by simp) hn
      · obtain rfl := Option.some.inj ho
        rcases hinv with ⟨rfl, rfl, rfl⟩ | ⟨v12, rfl, rfl, rfl⟩ | ⟨v15, rfl, rfl, rfl⟩ | ⟨v12, v15, rfl, rfl, rfl⟩ | ⟨v12, rfl, rfl, rfl⟩ | ⟨v12, v15, rfl, rfl, rfl⟩ | ⟨v12, v15, rfl, rfl, rfl⟩ | ⟨v12, v15, rfl, rfl, rfl⟩ | ⟨v12, v15, rfl, rfl, rfl⟩ | ⟨v12, v15, rfl, rfl, rfl⟩ | ⟨v12, v15, rfl, rfl, rfl⟩ | ⟨v12, v15, rfl, rfl, rfl⟩
        · exact absurd (hb 2 rfl (by decide)) (by simp)
        · refine JT_op rfl rfl (T_move (.inr rfl) rfl) ?_
          exact JT_done (hk [(6, _), (12, _)] _ (.inr (.inr (.inr (.inr (.inl ⟨v12, rfl, rfl, rfl⟩))))))
        · exact absurd (hb 2 rfl (by decide)) (by simp)
        · refine JT_op rfl rfl (T_move (.inr rfl) rfl) ?_
          exact JT_done (hk [(6, _), (15, _), (12, _)] _ (.inr (.inr (.inr (.inr (.inr (.inr (.inl ⟨v12, v15, rfl, rfl, rfl⟩))))))))
        · exact absurd (by simp) hn
        · refine JT_op rfl rfl (T_move (.inr rfl) rfl) ?_
          exact JT_done (hk [(6, _), (12, _), (15, _)] _ (.inr (.inr (.inr (.inr (.inr (.inr (.inr (.inr (.inl ⟨v12, v15, rfl, rfl, rfl⟩))))))))))
        · exact absurd (by simp) hn
        · exact absurd (by simp) hn
        · exact absurd (by simp) hn
        · exact absurd (by simp) hn
        · exact absurd (by simp) hn
        · exact absurd (by simp) hn
      · obtain rfl := Option.some.inj ho
        rcases hinv with ⟨rfl, rfl, rfl⟩ | ⟨v12, rfl, rfl, rfl⟩ | ⟨v15, rfl, rfl, rfl⟩ | ⟨v12, v15, rfl, rfl, rfl⟩ | ⟨v12, rfl, rfl, rfl⟩ | ⟨v12, v15, rfl, rfl, rfl⟩ | ⟨v12, v15, rfl, rfl, rfl⟩ | ⟨v12, v15, rfl, rfl, rfl⟩ | ⟨v12, v15, rfl, rfl, rfl⟩ | ⟨v12, v15, rfl, rfl, rfl⟩ | ⟨v12, v15, rfl, rfl, rfl⟩ | ⟨v12, v15, rfl, rfl, rfl⟩
        · exact absurd (hb 2 rfl (by decide)) (by simp)
        · exact absurd (hb 5 rfl (by decide)) (by simp)
        · exact absurd (hb 2 rfl (by decide)) (by simp)
        · exact absurd (hb 6 rfl (by decide)) (by simp)
        · exact absurd (hb 5 rfl (by decide)) (by simp)
        · exact absurd (hb 6 rfl (by decide)) (by simp)
        · refine JT_op rfl rfl (T_move (.inr rfl) rfl) ?_
          exact JT_done (hk [(7, _), (6, _), (15, _), (12, _)] _ (.inr (.inr (.inr (.inr (.inr (.inr (.inr (.inr (.inr (.inl ⟨v12, v15, rfl, rfl, rfl⟩)))))))))))
        · refine JT_op rfl rfl (T_move (.inr rfl) rfl) ?_
          exact JT_done (hk [(7, _), (15, _), (6, _), (12, _)] _ (.inr (.inr (.inr (.inr (.inr (.inr (.inr (.inr (.inr (.inr (.inl ⟨v12, v15, rfl, rfl, rfl⟩))))))))))))
        · refine JT_op rfl rfl (T_move (.inr rfl) rfl) ?_
          exact JT_done (hk [(7, _), (6, _), (12, _), (15, _)] _ (.inr (.inr (.inr (.inr (.inr (.inr (.inr (.inr (.inr (.inr (.inr ⟨v12, v15, rfl, rfl, rfl⟩))))))))))))
        · exact absurd (by simp) hn
        · exact absurd (by simp) hn
        · exact absurd (by simp) hn
    · intro sd Γd Δ1 hinv hall
      rcases hinv with ⟨rfl, rfl, rfl⟩ | ⟨v12, rfl, rfl, rfl⟩ | ⟨v15, rfl, rfl, rfl⟩ | ⟨v12, v15, rfl, rfl, rfl⟩ | ⟨v12, rfl, rfl, rfl⟩ | ⟨v12, v15, rfl, rfl, rfl⟩ | ⟨v12, v15, rfl, rfl, rfl⟩ | ⟨v12, v15, rfl, rfl, rfl⟩ | ⟨v12, v15, rfl, rfl, rfl⟩ | ⟨v12, v15, rfl, rfl, rfl⟩ | ⟨v12, v15, rfl, rfl, rfl⟩ | ⟨v12, v15, rfl, rfl, rfl⟩
      · exact absurd (hall 2 (by decide) rfl) (by simp)
      · exact absurd (hall 5 (by decide) rfl) (by simp)
      · exact absurd (hall 2 (by decide) rfl) (by simp)
      · exact absurd (hall 6 (by decide) rfl) (by simp)
      · exact absurd (hall 5 (by decide) rfl) (by simp)
      · exact absurd (hall 6 (by decide) rfl) (by simp)
      · exact absurd (hall 7 (by decide) rfl) (by simp)
      · exact absurd (hall 7 (by decide) rfl) (by simp)
      · exact absurd (hall 7 (by decide) rfl) (by simp)
      · refine JS_perm (List.Perm.swap _ _ _) ?_
        exact JS_meet (v12, v15) (by trivial) rfl (EnvSub.consLe rfl (Ty.le.refl _) (EnvSub.consLe rfl (Ty.le.refl _) (EnvSub.pick1 rfl (EnvSub.pick1 rfl (EnvSub.pick1 rfl (EnvSub.nil _))))))
      · refine JS_perm (List.Perm.swap _ _ _) ?_
        exact JS_meet (v12, v15) (by trivial) rfl (EnvSub.consLe rfl (Ty.le.refl _) (EnvSub.consLe rfl (Ty.le.refl _) (EnvSub.pick1 rfl (EnvSub.pick1 rfl (EnvSub.pick1 rfl (EnvSub.nil _))))))
      · exact JS_meet (v12, v15) (by trivial) rfl (EnvSub.consLe rfl (Ty.le.refl _) (EnvSub.consLe rfl (Ty.le.refl _) (EnvSub.pick1 rfl (EnvSub.pick1 rfl (EnvSub.pick1 rfl (EnvSub.nil _))))))
  · refine JS_seq ?_
    refine JS_seq ?_
    -- region 2
    refine sR ?_
    refine kO (T_fieldAddr rfl fa30_1 (st_sub (i := 1) rfl rfl) rfl) rfl ?_
    refine kO (T_ld rfl rfl ti28) rfl ?_
    refine kO (T_len_slice rfl rfl u28 rfl) rfl ?_
    refine kM rfl rfl ?_
    refine kE ?_
    refine JS_block ?_
    refine sLoop2 (fun (i : Nat) (ks : List Int) => [(19, Ty.val (.int .i64 (i : Int)))]) [1, 2, 3, 6, 7, 17, 18] (fun (i : Nat) (ks : List Int) => [(0, Res.sl v12 85 Kd.num0 (fillL ((stepW M T v).map some) none i)), (1, Res.sl v15 3 (Kd.int .i64) ks)]) (fun (i : Nat) (ks : List Int) => i ≤ M.owner.length ∧ ks.length = v.length) (fun (i : Nat) (ks : List Int) => M.owner.length - i) 0 (List.replicate ((v.length : Int)).toNat 0) (⟨Nat.zero_le _, List.length_replicate ..⟩) (by rw [← fillL_zero (n := ((v.length : Int)).toNat) (by rw [hbl]; exact hn)]; rfl) (EnvSub.consLe rfl (int_eq (rfl)) (EnvSub.nil _)) (fun i ks (hI : i ≤ M.owner.length ∧ ks.length = v.length) => ?_)
    obtain ⟨hI1, hI2⟩ := hI
    refine JS_seq ?_
    -- region 3
    refine sR ?_
    refine kO (T_lt rfl rfl rfl) rfl ?_
    refine kE ?_
    refine JS_seq ?_
    refine JS_if rfl (fun c20 => ?_) (fun c20 => ?_)
    · have hi1 : i < M.owner.length := by omega
      have hi2 : i < M.choices.length := by omega
      have hs : T >>> ((i : Int)).toNat < 18446744073709551616 := Nat.lt_of_le_of_lt (Nat.shiftRight_le _ _) hT
      have hne := hM.some_ (M.choices[((i : Int)).toNat]'(by omega)) (List.getElem_mem _)
      have hz : ∀ x ∈ (M.choices[((i : Int)).toNat]'(by omega)), Nz 28 (mixQ x v) := fun x hx => (mixQ_Bd (hC _ (List.getElem_mem _) x hx) hG hD hv).nz (Nat.mul_pos hG hD) hGD
      refine JS_skip ?_
      refine JS_seq ?_
      refine JS_block ?_
      refine JS_seq ?_
      -- region 4
      refine sR ?_
      refine kM rfl rfl ?_
      refine kO (T_ix rfl rfl rfl u28 ti65 (by omega) (by omega) rfl) rfl ?_
      refine kO (T_ld rfl rfl ti65) rfl ?_
      refine kA rfl rfl ?_
      refine kA rfl rfl ?_
      refine kE ?_
      refine JS_seq ?_
      refine JS_seq ?_
      -- region 5
      refine sR ?_
      refine kO (T_load_int rfl ti33 rfl) rfl ?_
      refine kM rfl rfl ?_
      refine kO (T_shr rfl rfl rfl (by omega) (shr_u64 (by omega) (by omega))) rfl ?_
      refine kO (T_bits rfl (.inl rfl) rfl rfl (and1_u64 hs)) rfl ?_
      refine kO (T_eq rfl rfl rfl) rfl ?_
      refine kE ?_
      refine JS_if rfl (fun c28 => ?_) (fun c28 => ?_)
      · refine JS_seq ?_
        -- region 6
        refine sR ?_
        refine kM rfl rfl ?_
        refine kM rfl rfl ?_
        refine kO (T_callL rfl en30 (w30 (by decide) (by decide) (by decide) (by decide) (by decide)) (oa (ol rfl (Ty.le.refl _)) (oa (ol rfl (Ty.le.refl _)) oa0))) rfl ?_
        refine kO (T_ixo (ix := 0) (d := Kd.num0) rfl rfl rfl rfl u49 ti85 (by omega) (by rw [fillL_len (by omega)]; omega)) rfl ?_
        refine kT ?_
        refine JT_store_elt (i := 0) rfl rfl rfl rfl rfl (by rw [fillL_len (by omega)]; omega) (ol rfl (num_num0 _)) sz85 ?_
        refine JT_done ?_
        refine JS_exit (JE_inB_here ?_)
        -- region 8
        refine sR ?_
        refine kO (T_add rfl rfl rfl (wrap_i64 (by omega) (by omega))) rfl ?_
        refine kM rfl rfl ?_
        refine kE ?_
        exact JS_round ((i + 1), ks) (by try dsimp only; exact (⟨by omega, hI2⟩)) (by try dsimp only; exact (by omega)) (by rw [← fillL_set (i := i) (k := ((i : Int)).toNat) (y := some (Rat.divInt 1 1)) rfl (by omega) (stepW_at (by omega) (by rw [if_pos (bit_on (n := i) c28)]; decide))]; rfl) (EnvSub.consLe rfl (int_eq (rfl)) (EnvSub.pick1 rfl (EnvSub.pick1 rfl (EnvSub.pick1 rfl (EnvSub.pick1 rfl (EnvSub.pick1 rfl (EnvSub.pick1 rfl (EnvSub.pick1 rfl (EnvSub.nil _)))))))))
      · refine JS_skip ?_
        -- region 7
        refine sR ?_
        refine kM rfl rfl ?_
        refine kM rfl rfl ?_
        refine kM rfl rfl ?_
        refine kM rfl rfl ?_
        refine kO (T_fieldAddr rfl fa30_0 (st_sub (i := 0) rfl rfl) rfl) rfl ?_
        refine kO (T_ld rfl rfl ti27) rfl ?_
        refine kM rfl rfl ?_
        refine kO (T_ix rfl rfl rfl u27 ti3 (by omega) (by omega) (hM.own _ (List.getElem_mem _))) rfl ?_
        refine kO (T_load_int rfl ti3 rfl) rfl ?_
        refine kM rfl rfl ?_
        refine kO (T_mkfn (ins := (fun (x : {x // x ∈ (M.choices[((i : Int)).toNat]'(by omega))}) => [Ty.of Kd.ch x.1])) (out := (fun (x : {x // x ∈ (M.choices[((i : Int)).toNat]'(by omega))}) => Ty.of Kd.num (mixQ x.1 v))) rfl rfl en36 (fun x => w36 (hC _ (List.getElem_mem _) x.1 x.2) hv hn hG hD hGD) (oa (ol rfl (Ty.le.refl _)) oa0)) rfl ?_
        refine kO (T_callL rfl en35 (w35 (f := fun c => mixQ c v) (by omega) hz) (oa (ol rfl (Ty.le.refl _)) (oa (ol rfl (Ty.le.refl _)) (oa (ol rfl (Ty.le.refl _)) oa0)))) rfl ?_
        refine kM rfl rfl ?_
        refine kO (T_extract rfl rfl rfl) rfl ?_
        refine kO (T_extract rfl rfl rfl) rfl ?_
        refine kO (T_ixo (ix := 0) (d := Kd.num0) rfl rfl rfl rfl u49 ti85 (by omega) (by rw [fillL_len (by omega)]; omega)) rfl ?_
        refine kT ?_
        refine JT_store_elt (i := 0) rfl rfl rfl rfl rfl (by rw [fillL_len (by omega)]; omega) (ol rfl (num_num0 _)) sz85 ?_
        refine jO (T_ixo (ix := 1) (d := (Kd.int .i64)) rfl rfl rfl rfl u27 ti3 (by omega) (by omega)) rfl ?_
        refine JT_store_elt (i := 1) rfl rfl rfl rfl rfl (by omega) (ol rfl (val_int _ _)) sz3 ?_
        refine JT_done ?_
        refine JS_end_inB ?_
        -- region 8
        refine sR ?_
        refine kO (T_add rfl rfl rfl (wrap_i64 (by omega) (by omega))) rfl ?_
        refine kM rfl rfl ?_
        refine kE ?_
        exact JS_round ((i + 1), (ks.set ((i : Int)).toNat (argB (M.choices[((i : Int)).toNat]'(by omega)) (fun c => mixQ c v)))) (by try dsimp only; exact (⟨by omega, by rw [List.length_set]; exact hI2⟩)) (by try dsimp only; exact (by omega)) (by rw [← fillL_set (i := i) (k := ((i : Int)).toNat) (y := some (bestQ ((M.choices[((i : Int)).toNat]'(by omega)).map (fun c => mixQ c v)))) rfl (by omega) (stepW_at (by omega) (by rw [if_neg (by rw [bit_noff (n := i) c28]; decide), bestS_eq (i := i) (by omega) (toNat_get _)]))]; rfl) (EnvSub.consLe rfl (int_eq (rfl)) (EnvSub.pick1 rfl (EnvSub.pick1 rfl (EnvSub.pick1 rfl (EnvSub.pick1 rfl (EnvSub.pick1 rfl (EnvSub.pick1 rfl (EnvSub.pick1 rfl (EnvSub.nil _)))))))))
    · obtain rfl : i = M.owner.length := by omega
      refine JS_exit (JE_loop_exit (JE_inB_here ?_))
      refine JS_seq ?_
      -- region 9
      refine sR ?_
      refine kM rfl rfl ?_
      refine kM rfl rfl ?_
      refine kA rfl rfl ?_
      refine kA rfl rfl ?_
      refine kE ?_
      refine JS_freeze_sl (i := 0) (s := 4) rfl rfl ?_
      refine JS_freeze_sl (i := 0) (s := 5) rfl rfl ?_
      exact JS_ret (JE_ret_many rfl (by decide) (.le (.tmp rfl (.le (.tmp rfl .nil) (Ty.le_any _))) (num0s_nums (fillL_full hbl.symm))))

/-- What one step may be asked for. -/
def StepX (M : Mo) (G : Nat) : Type := {p : List Rat × Nat // (∀ x ∈ p.1, Bd p.2 x) ∧ p.1.length = M.owner.length ∧ 0 < p.2 ∧ G * p.2 < 10 ^ 252}
def stepIn (M : Mo) (G : Nat) (x : StepX M G) : List Ty := [Ty.of (Kd.slice Kd.num) x.1.1]
def stepOut (M : Mo) (T G : Nat) (x : StepX M G) : Ty := Ty.tup [Ty.of (Kd.slice Kd.num) (stepW M T x.1.1), Ty.any]
def StepX.within {M : Mo} {G H : Nat} (T : Nat) (hC : ∀ l ∈ M.choices, ∀ c ∈ l, CM M.owner.length G H c) (hG : 1 ≤ G ∧ G ≤ 9999) {i : Nat} (hi : i ≤ 60) : StepX M G :=
  ⟨(withinW M T i, G ^ i), withinW_Bd hC hG.1 i, withinW_len M T i, Nat.pow_pos hG.1, by show G * G ^ i < _; rw [Nat.mul_comm, ← Nat.pow_succ]; exact pow_lt hG.2 (by omega)⟩

theorem en34 : Enters Tryz.prog 34 := enters_fn Tryz.func34 (by kernel_rfl) rfl

theorem w19 {M : Mo} {T G H : Nat} (hM : GM M) (hC : ∀ l ∈ M.choices, ∀ c ∈ l, CM M.owner.length G H c) (hG : 0 < G) (hT : T < 18446744073709551616) : Spec CC 19 [Ty.of Kd.mo M, Ty.val (.int .u64 (T : Int))] (Ty.fn CC (stepIn M G) (stepOut M T G)) := by
  refine spec_of_JS Tryz.func19 rfl (Nat.le_of_ble_eq_true rfl) (fun gh0 wd0 => ?_)
  refine JS_seq ?_
  -- region 0
  refine sR ?_
  refine kO (T_box rfl (ol rfl (Ty.le.refl _))) rfl ?_
  refine kO (T_box rfl (ol rfl (val_int _ _))) rfl ?_
  refine kA rfl rfl ?_
  refine kE ?_
  refine JS_seq ?_
  -- region 1
  refine sR ?_
  refine kO (T_mkfn (ins := (stepIn M G)) (out := (stepOut M T G)) rfl rfl en34 (fun x => w34 hM hC (by omega) x.2.1 x.2.2.1 hG x.2.2.2.1 x.2.2.2.2) (oa (ol rfl (Ty.le.refl _)) (oa (ol rfl (Ty.le.refl _)) oa0))) rfl ?_
  refine kA rfl rfl ?_
  refine kE ?_
  exact JS_ret (JE_ret_one rfl rfl (.tmp rfl .nil) (Ty.le.refl _))

theorem en17 : Enters Tryz.prog 17 := enters_fn Tryz.func17 (by kernel_rfl) rfl

theorem en18 : Enters Tryz.prog 18 := enters_fn Tryz.func18 (by kernel_rfl) rfl

theorem en19 : Enters Tryz.prog 19 := enters_fn Tryz.func19 (by kernel_rfl) rfl

theorem en20 : Enters Tryz.prog 20 := enters_fn Tryz.func20 (by kernel_rfl) rfl

theorem w8 {M : Mo} {T n : Nat} (hM : GM M) (hT : T < 2 ^ M.owner.length) (hn : n ≤ 60) : Spec CC 8 [Ty.of Kd.mo M, Ty.val (.int .u64 (T : Int)), Ty.val (.int .i64 (n : Int))] (Ty.tup [Ty.of (Kd.slice Kd.str) ((withinW M T n).map qtext), Ty.val (.int .i64 0)]) := by
  refine spec_of_JS Tryz.func8 rfl (Nat.le_of_ble_eq_true rfl) (fun gh0 wd0 => ?_)
  obtain ⟨G, H, gr1, gr2, gr3, gr4, hC⟩ := hM.grain
  have n1 := hM.n1
  have hp : 2 ^ M.owner.length ≤ 2 ^ 12 := Nat.pow_le_pow_right (by decide) n1
  rw [show (2 : Nat) ^ 12 = 4096 by decide] at hp
  refine JS_seq ?_
  -- region 0
  refine sR ?_
  refine kO (T_box rfl (ol rfl (Ty.le.refl _))) rfl ?_
  refine kA rfl rfl ?_
  refine kA rfl rfl ?_
  refine kE ?_
  refine JS_seq ?_
  refine JS_seq ?_
  -- region 1
  refine sR ?_
  refine kO (T_ld rfl rfl ti30) rfl ?_
  refine kM rfl rfl ?_
  refine kM rfl rfl ?_
  refine kO (T_callL rfl en17 (w17 hM hT hn) (oa (ol rfl (Ty.le.refl _)) (oa (ol rfl (Ty.le.refl _)) (oa (ol rfl (Ty.le.refl _)) oa0)))) rfl ?_
  refine kA rfl rfl ?_
  refine kE ?_
  refine JS_seq ?_
  -- region 2
  refine sR ?_
  refine kM rfl rfl ?_
  refine kO (T_ne rfl rfl rfl) rfl ?_
  refine kE ?_
  refine JS_if rfl (fun c16 => ?_) (fun c16 => ?_)
  · exact absurd rfl c16
  · refine JS_skip ?_
    refine JS_seq ?_
    -- region 4
    refine sRD mixed ?_
    refine kO (T_ld rfl rfl ti30) rfl ?_
    refine kM rfl rfl ?_
    refine kO (T_callL rfl en18 (w18 n1 (by omega)) (oa (ol rfl (Ty.le.refl _)) (oa (ol rfl (Ty.le.refl _)) oa0))) rfl ?_
    refine kO (T_ld rfl rfl ti30) rfl ?_
    refine kM rfl rfl ?_
    refine kO (T_callL rfl en19 (w19 hM hC (by omega) (by omega)) (oa (ol rfl (Ty.le.refl _)) (oa (ol rfl (Ty.le.refl _)) oa0))) rfl ?_
    refine kA rfl rfl ?_
    refine kA rfl rfl ?_
    refine kD (by decide) ?_
    refine JS_seq ?_
    refine JS_seq ?_
    -- region 5
    refine sR ?_
    refine kM rfl rfl ?_
    refine kM rfl rfl ?_
    refine kE ?_
    refine JS_block ?_
    refine sLoop1 (fun (i : Nat) => [(25, Ty.val (.int .i64 (i : Int))), (9, Ty.of (Kd.slice Kd.num) (withinW M T i))]) [10, 24] (fun (i : Nat) => []) (fun (i : Nat) => i ≤ n) (fun (i : Nat) => n - i) 0 (Nat.zero_le _) rfl (EnvSub.consLe rfl (int_eq (rfl)) (EnvSub.consLe rfl (of_eq (rfl)) (EnvSub.nil _))) (fun i (hI : i ≤ n) => ?_)
    refine JS_seq ?_
    -- region 6
    refine sR ?_
    refine kO (T_lt rfl rfl rfl) rfl ?_
    refine kE ?_
    refine JS_seq ?_
    refine JS_if rfl (fun c26 => ?_) (fun c26 => ?_)
    · refine JS_skip ?_
      refine JS_seq ?_
      refine JS_block ?_
      -- region 7
      refine sR ?_
      refine kM rfl rfl ?_
      refine kM rfl rfl ?_
      refine kO (T_callvL (StepX.within T hC ⟨gr1, gr2⟩ (i := i) (by omega)) rfl rfl (oa (ol rfl (Ty.le.refl _)) oa0)) rfl ?_
      refine kM rfl rfl ?_
      refine kO (T_extract rfl rfl rfl) rfl ?_
      refine kO (T_extract rfl rfl rfl) rfl ?_
      refine kA rfl rfl ?_
      refine kE ?_
      refine JS_end_inB ?_
      -- region 8
      refine sR ?_
      refine kO (T_add rfl rfl rfl (wrap_i64 (by omega) (by omega))) rfl ?_
      refine kM rfl rfl ?_
      refine kE ?_
      exact JS_round (i + 1) (by omega) (by omega) rfl (EnvSub.consLe rfl (int_eq (rfl)) (EnvSub.consLe rfl (of_eq (rfl)) (EnvSub.pick1 rfl (EnvSub.pick1 rfl (EnvSub.nil _)))))
    · obtain rfl : n = i := by omega
      refine JS_exit (JE_loop_exit (JE_inB_here ?_))
      refine JS_seq ?_
      -- region 9
      refine sR ?_
      refine kM rfl rfl ?_
      refine kO (T_callL rfl en20 (w20 (fun x hx => (withinW_Bd (T := T) hC gr1 n x hx).dz (Nat.pow_pos gr1) (pow_lt gr2 (by omega))) (by rw [withinW_len]; omega)) (oa (ol rfl (Ty.le.refl _)) oa0)) rfl ?_
      refine kA rfl rfl ?_
      refine kA rfl rfl ?_
      refine kE ?_
      exact JS_ret (JE_ret_many rfl (by decide) (.le (.tmp rfl (.le (.tmp rfl .nil) (int_eq (rfl)))) (of_eq (rfl))))

end Go.Proofs.YtknflgfkhkdomaaGreatDoor.Mono

/-! MonoX -/
set_option linter.unusedVariables false
set_option linter.unusedSimpArgs false
namespace Go.Proofs.YtknflgfkhkdomaaGreatDoor.Mono
open Go Go.RowKit
/-- A function value that is handed the blocks Δin, and hands them back as they were. -/
def Ty.fnM (C : Ctx) {X : Type} (ins : X → List Ty) (Δin : List Res) (out : X → Ty) : Ty := ⟨fun m v => ∃ f first cap, v = .func (.func f) first cap ∧ Enters C.P f ∧
    ∀ (x : X) (m' : GH) (w' : World) (args : Array Value), GH.le m m' → Sat w' m' → C.G m' → TyAll m' (ins x) args.toList → OwnOk Δin m' w' →
      Calls C.P f (first ++ args ++ cap) w' fun e w2 => ∃ v m2, e = .returned v ∧ Ext (fps Δin) m' w' m2 w2 ∧ Sat w2 m2 ∧ (out x).p m2 v ∧ OwnOk Δin m2 w2,
  fun hm ⟨f, first, cap, h1, h2, h3⟩ => ⟨f, first, cap, h1, h2, fun x m' w' args hle => h3 x m' w' args (hm.trans hle)⟩⟩
/-- An iterator that never ends by itself: whoever uses it leaves before element N. -/
def IterOkI (C : Ctx) (gf : FuncId) (fst lb : Array Value) (N : Nat) (E : Nat → List Ty) (m0 : GH) : Prop :=
  ∀ (l : Nat) (X : Type) (ΔJ : X → List Res) (good : Nat → X → Prop) (bad : X → Prop) (hkN : ∀ k x, good k x → k < N) (x0 : X) (m : GH) (w : World), GH.le m0 m → Yld C N E l ΔJ good bad m → Sat w m → C.G m → good 0 x0 → OwnOk (ΔJ x0) m w →
    Calls C.P gf (fst ++ #[.func (.yield l) #[] #[]] ++ lb) w fun e w' => ∃ v m' x', e = .returned v ∧ Ext (fps (ΔJ x0)) m w m' w' ∧ Sat w' m' ∧ OwnOk (ΔJ x') m' w' ∧ (∀ j ∈ fps (ΔJ x'), w.heap.size ≤ j ∨ j ∈ fps (ΔJ x0)) ∧ bad x'
def Ty.iterI (C : Ctx) (N : Nat) (E : Nat → List Ty) : Ty := ⟨fun m v => ∃ gf fst lb, v = .func (.func gf) fst lb ∧ Enters C.P gf ∧ IterOkI C gf fst lb N E m,
  fun hm ⟨gf, fst, lb, h1, h2, h3⟩ => ⟨gf, fst, lb, h1, h2, fun l X ΔJ good bad hkN x0 m w hle => h3 l X ΔJ good bad hkN x0 m w (hm.trans hle)⟩⟩
theorem tyAll_len {m : GH} : ∀ {Ts : List Ty} {vs : List Value}, TyAll m Ts vs → vs.length = Ts.length
  | [], [], _ => rfl
  | _ :: _, _ :: _, h => by simp [tyAll_len h.2]
  | [], _ :: _, h => h.elim
  | _ :: _, [], h => h.elim
section rules
variable {F : Fr} {Q : Post} {Γ : Env} {Δ : List Res} {cs : List Code} {ops : Array Oper} {o : Oper} {l : List Oper} {C : Ctx}
theorem T_mkfnM {X : Type} {ins : X → List Ty} {out : X → Ty} {Δin : List Res} {caps : List Ty} {f : FuncId} {first cap : Array Operand} (ho : o.op = .makeFunc (.func f) first cap) (hfst : first = #[]) (he : Enters C.P f) (hf : ∀ x, SpecM C f (ins x ++ caps) Δin (fun (_ : Unit) => out x) (fun _ => Δin)) (hx : OpdAllLe Γ cap.toList caps) : TOp C Δ Γ o (Ty.fnM C ins Δin out) := by
  obtain ⟨Us, h1, h2, h3⟩ := hx.spec
  refine T_makeFunc ho (fun m w a hs hg _ htt => ⟨f, _, _, rfl, he, fun x m' w' args hle hs' hg' hargs hown => ?_⟩)
  subst hfst
  have hc := h1.p htt (fun y hy => by simp [ho, Op.operands, hy])
  have hc2 : TyAll m' caps (cap.toList.map a.eval) := (hc.le h2 h3).up hle
  refine (hf x m' w' _ hs' hg' ?_ hown).mono ?_
  · simp only [List.map_toArray, Array.toList_append, Array.toList_map]
    have := tyAll_append hargs hc2
    simpa using this
  · rintro e w2 ⟨v, m2, rfl, g1, g2, _, g3, g4, _⟩
    exact ⟨v, m2, rfl, g1, g2, g3, g4⟩
/-- A method that is bound to its receiver. -/
theorem T_mkfnB {X : Type} {ins : X → List Ty} {out : X → Ty} {fsts : List Ty} {f : FuncId} {first cap : Array Operand} (ho : o.op = .makeFunc (.func f) first cap) (hcap : cap = #[]) (he : Enters C.P f) (hf : ∀ x, Spec C f (fsts ++ ins x) (out x)) (hx : OpdAllLe Γ first.toList fsts) : TOp C Δ Γ o (Ty.fn C ins out) := by
  obtain ⟨Us, h1, h2, h3⟩ := hx.spec
  refine T_makeFunc ho (fun m w a hs hg _ htt => ⟨f, _, _, rfl, he, fun x m' w' args hle hs' hg' hargs => ?_⟩)
  subst hcap
  have hc := h1.p htt (fun y hy => by simp [ho, Op.operands, hy])
  have hc2 : TyAll m' fsts (first.toList.map a.eval) := (hc.le h2 h3).up hle
  refine hf x m' w' _ hs' hg' ?_
  have := tyAll_append hc2 hargs
  simpa using this
theorem JT_callvF {x : Operand} {xs : Array Operand} {ts : Array TypeId} {X : Type} {ins : X → List Ty} {out : X → Ty} {r : Res} {i : Nat} (y : X) (ho : o.op = .call { callee := .value x, args := xs, argTypes := ts }) (hw : Wanted Γ ops o true) (hd : dstOk F.N o.dst = true)
    (hf : Opd Γ x (Ty.fnM F.C ins [r] out)) (hi : Δ[i]? = some r) (hx : OpdAllLe Γ xs.toList (ins y)) (h : JT F Q cs ops (Env.put Γ o.dst (out y)) (r :: Δ.eraseIdx i) l) : JT F Q cs ops Γ Δ (o :: l) := by
  refine JT_perm (perm_front hi) ?_
  intro m w a hs
  simp only [runOps]
  rw [if_pos (hs.wanted hw)]
  refine ⟨fun f _ => FW_fn _ f, ?_⟩
  rw [Oper.semAt_plain _ _ _ (by simp [ho])]
  have hargs := hx.p (hs.typed xs.toList)
  obtain ⟨f, first, cap, k1, k2, k3⟩ := hf.p (hs.typed [x]) (by simp)
  have hr : (execOp a.eval o).run F.C.P w = .ok (.enter f (first ++ xs.map a.eval ++ cap)) w := by
    have := run_call (C := F.C) (ρ := a.eval) (c := { callee := .value x, args := xs, argTypes := ts }) (ty := o.type) (x := x) rfl k1 k2 w
    simpa [execOp, ho] using this
  rw [hr]
  have hs' : St F Γ ([r] ++ Δ.eraseIdx i) m w a := hs
  refine ⟨fun hd => by rw [FW_depth] at hd; simp at hd, FW_calls ((k3 y m w _ (GH.le.refl m) hs.sat hs.g (by simpa using hargs) hs'.ownIn).mono ?_)⟩
  rintro e w' ⟨v, m', rfl, h1, h2, h3, h4⟩
  exact h m' w' _ (hs'.call_step hd h3 h1 h2 h4 (fun k hk => .inr hk))
/-- An iterator's contract, out of its walk: the yield function comes behind the receiver. -/
theorem iterI_of_JS {gf : FuncId} {fn : Func} {b : Code} {fsts : List Ty} {N : Nat} {E : Nat → List Ty} (hf : C.P.funcs[gf]? = some fn) (hb : fn.body = some b) (hsz : fsts.length + 1 ≤ fn.ntmps)
    (h : ∀ (lp : Nat) (X : Type) (ΔJ : X → List Res) (good : Nat → X → Prop) (bad : X → Prop) (hkN : ∀ k x, good k x → k < N) (x0 : X) (m : GH) (w : World), Yld C N E lp ΔJ good bad m → good 0 x0 →
      JS { C, S := fps (ΔJ x0), m0 := m, w0 := w, N := fn.ntmps, D := [], r := none } (retQ { C, S := fps (ΔJ x0), m0 := m, w0 := w, N := fn.ntmps, D := [], r := none } fn (ownOut (Y := { x : X // bad x }) (fun _ => Ty.any) (fun y => ΔJ y.1) (fps (ΔJ x0)) w.heap.size))
        (entry 0 (fsts ++ [Ty.val (.func (.yield lp) #[] #[])])) (ΔJ x0) [b]) : ∀ (m : GH) (fst : Array Value), TyAll m fsts fst.toList → IterOkI C gf fst #[] N E m := by
  intro m0 fst ht lp X ΔJ good bad hkN x0 m w hle hY hs hg h0 ho
  have hlen : fst.size = fsts.length := by have := tyAll_len ht; simpa using this
  have hc := calls_of_JS (C := C) (args := fst ++ #[.func (.yield lp) #[] #[]] ++ #[]) (ins := fsts ++ [Ty.val (.func (.yield lp) #[] #[])]) hf hb (by simp; omega) hs hg (by
    have := tyAll_append (ht.up hle) (show TyAll m [Ty.val (.func (.yield lp) #[] #[])] [.func (.yield lp) #[] #[]] from ⟨rfl, trivial⟩)
    simpa using this) ho.own ho.apart ho.disj (fun r hr k hk => mem_fps.2 ⟨r, hr, hk⟩) (h lp X ΔJ good bad hkN x0 m w hY h0)
  refine hc.mono ?_
  rintro e w' ⟨v, m', rfl, h1, h2, ⟨y, h3, h4, h5⟩⟩
  exact ⟨v, m', y.1, rfl, h1, h2, h4, h5, y.2⟩
theorem T_iterI {gf : FuncId} {first : Array Operand} {fsts : List Ty} {N : Nat} {E : Nat → List Ty} (ho : o.op = .makeFunc (.func gf) first #[]) (he : Enters C.P gf) (hi : ∀ (m : GH) (fst : Array Value), TyAll m fsts fst.toList → IterOkI C gf fst #[] N E m) (hx : OpdAllLe Γ first.toList fsts) : TOp C Δ Γ o (Ty.iterI C N E) := by
  refine T_makeFunc ho (fun m w a hs hg hr ht => ⟨gf, first.map a.eval, #[], by simp, he, hi m _ ?_⟩)
  have := hx.p (m := m) (a := a) (fun s hs' U hU => ht s (by simpa [ho, Op.operands] using hs') U hU)
  simpa using this
theorem JS_rangeFuncI {g : Operand} {ps : Array Tmp} {assign body : Code} {N : Nat} {E : Nat → List Ty} {X : Type} (ΔI : X → List Res) (good : Nat → X → Prop) (Ix : Code → X → Prop) (x0 : X) (hkN : ∀ k x, good k x → k < N) (hr : F.r = none) (hg : Opd Γ g (Ty.iterI F.C N E)) (hps : ∀ k, ps.toList.length = (E k).length) (hpN : ∀ t ∈ ps.toList, t < F.N)
    (h0 : good 0 x0) (hΔ : Δ = ΔI x0)
    (hbody : ∀ (k : Nat) (x : X) (m : GH) (w : World) (lp : Nat) (r : Loop), k < N → good k x → r.state = .ready → GH.le F.m0 m →
      JS (F.round (lp :: fps (ΔI x)) m w lp) (beginQ (F.round (lp :: fps (ΔI x)) m w lp) lp body (roundQ (F.round (lp :: fps (ΔI x)) m w lp) lp (.loop { r with state := .busy }) ΔI (good (k + 1)) Ix)) (params ps.toList (E k) ++ Γ) (Res.obj lp (.loop r) :: ΔI x) [assign])
    (hstop : ∀ (c : Code) (x : X) (D0 : Nat), Ix c x → JS { F with D := markOf D0 :: F.D } Q Γ (Res.obj D0 (.deferred (some [])) :: ΔI x) (c :: cs)) : JS F Q Γ Δ (.rangeFunc g ps assign body :: cs) := by
  subst hΔ
  intro m w a hs
  show (Code.rangeFunc g ps assign body).wpIn (FW F.r) 1 F.C.P (Exit.then (stk F Q cs) Q) a w
  refine wpIn_rangeFunc ?_
  intro fn hfn
  rw [show (FW F.r).round = none by rw [FW_round, hr]]
  obtain ⟨gf, fst, lb, hgv, he, hok⟩ : (Ty.iterI F.C N E).p m (a.eval g) := hg.p (hs.typed [g]) (by simp)
  obtain ⟨rec, hrec⟩ : ∃ rec : LoopState → Option Code → Loop, rec = fun st pe => { state := st, pending := pe, fn, tmps := a.tmps, params := ps, assign, body, defers := w.heap.size } := ⟨_, rfl⟩
  obtain ⟨lp, hlp⟩ : ∃ lp, lp = (w.alloc (.deferred (some []))).heap.size := ⟨_, rfl⟩
  obtain ⟨ΔJ, hJ⟩ : ∃ ΔJ : X × Option Code → List Res, ΔJ = fun p => Res.obj lp (.loop (rec (if p.2.isNone then .ready else .done) p.2)) :: Res.obj w.heap.size (.deferred (some [])) :: ΔI p.1 := ⟨_, rfl⟩
  have hs1 : St F Γ (ΔJ (x0, none)) m ((w.alloc (.deferred (some []))).alloc (.loop (rec .ready none))) a := by
    rw [hJ, hlp]; exact (hs.alloc _).alloc _
  refine ⟨lp, [markOf w.heap.size], (w.alloc (.deferred (some []))).alloc (.loop (rec .ready none)), { target := .fn (.func gf) lb, args := fst ++ #[.func (.yield lp) #[] #[]] }, (w.alloc (.deferred (some []))).alloc (.loop (rec .ready none)), gf, fst ++ #[.func (.yield lp) #[] #[]] ++ lb, (w.alloc (.deferred (some []))).alloc (.loop (rec .ready none)), ?_, ?_, fun f' _ => FW_fn _ f', ?_, fun hd => by rw [FW_depth] at hd; simp at hd, ?_⟩
  · rw [hrec, hlp, run_enterLoop_outer]; simp
  · simp only [resolve, hgv]; simp [go_sem]
  · have := he (fst ++ #[.func (.yield lp) #[] #[]] ++ lb) ((w.alloc (.deferred (some []))).alloc (.loop (rec .ready none)))
    simpa [invoke, go_sem] using this
  · refine FW_calls ((hok lp (X × Option Code) ΔJ (fun k p => p.2 = none ∧ good k p.1) (fun p => ∃ c, p.2 = some c ∧ Ix c p.1) (fun k p h => hkN k p.1 h.2) (x0, none) m _ (GH.le.refl m) ⟨?_⟩ hs1.sat hs1.g ⟨rfl, h0⟩ ⟨hs1.own, hs1.apart, hs1.disj⟩).mono ?_)
    · -- one round
      rintro k ⟨x, p⟩ m1 W args hk ⟨hp, hgd⟩ hle hsat hG hargs hown
      dsimp only at hp; subst hp
      have hl : W.heap[lp]? = some (.loop (rec .ready none)) := hown.own (Res.obj lp (.loop (rec .ready none))) (by rw [hJ]; simp)
      have hdef : W.heap[w.heap.size]? = some (.deferred (some [])) := hown.own (Res.obj w.heap.size (.deferred (some []))) (by rw [hJ]; simp)
      have hlt : ∀ (Ts : List Ty) (vs : List Value), TyAll m1 Ts vs → vs.length = Ts.length := by
        intro Ts
        induction Ts with
        | nil => intro vs h; cases vs with
          | nil => rfl
          | cons _ _ => exact h.elim
        | cons T Ts ih => intro vs h; cases vs with
          | nil => exact h.elim
          | cons v vs => simp [ih vs h.2]
      have hsz : args.size = ps.size := by have := hlt _ _ hargs; have h2 := hps k; simp at this h2; omega
      have hy := run_yield (P := F.C.P) (args := args) hl (by rw [hrec]; exact hsz)
      rw [hrec] at hy
      refine ⟨fn, _, assign, body, hy, round0 (n := 1) (roundIn_of_wpIn trivial ?_)⟩
      obtain ⟨hq1, hq2⟩ := params_get (m := m1) (N := F.N) ps.toList (E k) args.toList a.tmps Γ hpN hs.size hargs (hps k) (fun s T hT => T.up hle (hs.ty s T hT))
      have hne : lp ≠ w.heap.size := by rw [hlp]; simp
      have sub : ∀ r ∈ Res.obj lp (.loop (rec .ready none)) :: ΔI x, r ∈ ΔJ (x, none) := fun r hr => by
        rw [hJ]
        rcases List.mem_cons.1 hr with rfl | hr
        · simp
        · simp [hr]
      have dj : ∀ (i j : Nat) (r s : Res), (Res.obj lp (.loop (rec .ready none)) :: ΔI x)[i]? = some r → (Res.obj lp (.loop (rec .ready none)) :: ΔI x)[j]? = some s → i ≠ j → ∀ k ∈ r.fp, k ∉ s.fp := by
        intro i j r s hi hj hij
        have conv : ∀ (i : Nat) (r : Res), (Res.obj lp (.loop (rec .ready none)) :: ΔI x)[i]? = some r → (ΔJ (x, none))[if i = 0 then 0 else i + 1]? = some r := fun i r h => by
          rw [hJ]
          cases i with
          | zero => simpa using h
          | succ i => simpa using h
        exact hown.disj _ _ r s (conv i r hi) (conv j s hj) (by split <;> split <;> omega)
      have hst0 : St (F.round (lp :: fps (ΔI x)) m1 W lp) (params ps.toList (E k) ++ Γ) (Res.obj lp (.loop (rec .ready none)) :: ΔI x) m1 W { tmps := (ps.toList.zip args.toList).foldl (fun t (p : Tmp × Value) => t.setIfInBounds p.1 p.2) a.tmps, defers := [] } :=
        ⟨hsat, hG, hq1, rfl, hq2, fun r hr => hown.own r (sub r hr), fun r hr => hown.apart r (sub r hr), dj, fun r hr k hk => .inr (by
          rcases List.mem_cons.1 hr with rfl | hr
          · rw [List.mem_singleton.1 hk]; simp
          · exact List.mem_cons_of_mem _ (mem_fps.2 ⟨r, hr, hk⟩)), Ext.refl _ _ _⟩
      have hw := hbody k x m1 W lp (rec .ready none) hk hgd (by rw [hrec]) (hs.ext.le.trans hle) m1 W _ hst0
      have etmps : (ps.zip args).foldl (fun tmps (t, a) => tmps.setIfInBounds t a) a.tmps = (ps.toList.zip args.toList).foldl (fun t (p : Tmp × Value) => t.setIfInBounds p.1 p.2) a.tmps := by
        rw [← Array.foldl_toList, Array.toList_zip]
      -- the end of a round
      have fin : ∀ (jump : Option Code) (x' : X) (m3 : GH) (W3 : World) (a3 : Act), St (F.round (lp :: fps (ΔI x)) m1 W lp) [] (Res.obj lp (.loop { rec .ready none with state := .busy }) :: ΔI x') m3 W3 a3 → (jump = none → good (k + 1) x') → (∀ c, jump = some c → Ix c x') →
          ∃ v w', (Instr.endRound lp jump).run F.C.P W3 = .ok v w' ∧ ∃ (b : Bool) (m' : GH) (x'' : X × Option Code), Ending.returned v = .returned (.bool b) ∧ Ext (fps (ΔJ (x, none))) m1 W m' w' ∧ Sat w' m' ∧ OwnOk (ΔJ x'') m' w' ∧ (∀ j ∈ fps (ΔJ x''), W.heap.size ≤ j ∨ j ∈ fps (ΔJ (x, none))) ∧ (b = true → x''.2 = none ∧ good (k + 1) x''.1) ∧ (b = false → ∃ c, x''.2 = some c ∧ Ix c x''.1) := by
        intro jump x' m3 W3 a3 h3 hj1 hj2
        have hl3 := h3.own (Res.obj lp (.loop { rec .ready none with state := .busy })) (by simp)
        have hrun := run_endRound (P := F.C.P) jump hl3
        have h4 := h3.put_res (i := 0) (ob' := .loop (rec (if jump.isNone then .ready else .done) jump)) rfl
        refine ⟨_, W3.putObj lp (.loop (rec (if jump.isNone then .ready else .done) jump)), by rw [hrun, hrec], jump.isNone, m3, (x', jump), rfl, ?_, h4.sat, ?_, ?_, ?_, ?_⟩
        · have hx := h4.ext
          refine ⟨hx.le, fun j hj hj' => ?_, hx.size, fun j hj hj' => hx.same j hj (fun hmem => hj' ?_), hx.os, hx.tape, hx.out⟩
          · refine (hx.new j hj hj').imp id (fun hmem => ?_)
            rw [hJ]; rcases List.mem_cons.1 hmem with rfl | hmem
            · simp [fps, Res.obj]
            · obtain ⟨r, hr, hkr⟩ := mem_fps.1 hmem; exact mem_fps.2 ⟨r, by simp [hr], hkr⟩
          · rw [hJ]; rcases List.mem_cons.1 hmem with rfl | hmem
            · simp [fps, Res.obj]
            · obtain ⟨r, hr, hkr⟩ := mem_fps.1 hmem; exact mem_fps.2 ⟨r, by simp [hr], hkr⟩
        · -- what is one's own, the block for deferred calls among it
          have hDout : ∀ r ∈ ΔI x', w.heap.size ∉ r.fp := fun r hr hmem => by
            rcases h4.mine r (by simp [hr]) _ hmem with h | h
            · have := (Array.getElem?_eq_some_iff.1 hdef).1
              have : W.heap.size ≤ w.heap.size := h
              omega
            · rcases List.mem_cons.1 h with h | h
              · exact hne h.symm
              · obtain ⟨s, hs', hks⟩ := mem_fps.1 h
                obtain ⟨i, hi⟩ := List.getElem?_of_mem hs'
                refine hown.disj 1 (i + 2) (Res.obj w.heap.size (.deferred (some []))) s (by rw [hJ]; rfl) (by rw [hJ]; simpa using hi) (by omega) w.heap.size (by simp [Res.obj]) hks
          have hD4 : (W3.putObj lp (.loop (rec (if jump.isNone then .ready else .done) jump))).heap[w.heap.size]? = some (.deferred (some [])) := by
            rw [h4.ext.same w.heap.size (Array.getElem?_eq_some_iff.1 hdef).1 (fun hmem => ?_)]
            · exact hdef
            · rcases List.mem_cons.1 hmem with h | h
              · exact hne h.symm
              · obtain ⟨s, hs', hks⟩ := mem_fps.1 h
                obtain ⟨i, hi⟩ := List.getElem?_of_mem hs'
                refine hown.disj 1 (i + 2) (Res.obj w.heap.size (.deferred (some []))) s (by rw [hJ]; rfl) (by rw [hJ]; simpa using hi) (by omega) w.heap.size (by simp [Res.obj]) hks
          have hDm : m3 w.heap.size = none := by
            cases e : m3 w.heap.size with
            | none => rfl
            | some ob =>
              have h1 : m1 w.heap.size = none := hown.apart (Res.obj w.heap.size (.deferred (some []))) (by rw [hJ]; simp) _ (by simp [Res.obj])
              rcases h4.ext.new w.heap.size (by rw [e]; simp) h1 with h | h
              · have := (Array.getElem?_eq_some_iff.1 hdef).1
                have : W.heap.size ≤ w.heap.size := h
                omega
              · rcases List.mem_cons.1 h with h | h
                · exact absurd h.symm hne
                · obtain ⟨s, hs', hks⟩ := mem_fps.1 h
                  obtain ⟨i, hi⟩ := List.getElem?_of_mem hs'
                  exact absurd hks (hown.disj 1 (i + 2) (Res.obj w.heap.size (.deferred (some []))) s (by rw [hJ]; rfl) (by rw [hJ]; simpa using hi) (by omega) w.heap.size (by simp [Res.obj]))
          have h5 : OwnOk (Res.obj lp (.loop (rec (if jump.isNone then .ready else .done) jump)) :: ΔI x') m3 (W3.putObj lp (.loop (rec (if jump.isNone then .ready else .done) jump))) := ⟨h4.own, h4.apart, h4.disj⟩
          rw [hJ]
          refine ⟨fun r hr => ?_, fun r hr k hk => ?_, fun i j r s hi hj hij k hk => ?_⟩
          · rcases List.mem_cons.1 hr with rfl | hr
            · exact h5.own _ (by simp)
            · rcases List.mem_cons.1 hr with rfl | hr
              · exact hD4
              · exact h5.own _ (by simp [hr])
          · rcases List.mem_cons.1 hr with rfl | hr
            · exact h5.apart _ (by simp) k hk
            · rcases List.mem_cons.1 hr with rfl | hr
              · rw [List.mem_singleton.1 hk]; exact hDm
              · exact h5.apart _ (by simp [hr]) k hk
          · match i, j with
            | 0, 0 => exact absurd rfl hij
            | 0, 1 =>
              simp only [List.getElem?_cons_zero, List.getElem?_cons_succ, Option.some.injEq] at hi hj
              subst hi; subst hj
              intro hk'; rw [List.mem_singleton.1 hk] at hk'; exact hne (List.mem_singleton.1 hk')
            | 1, 0 =>
              simp only [List.getElem?_cons_zero, List.getElem?_cons_succ, Option.some.injEq] at hi hj
              subst hi; subst hj
              intro hk'; rw [List.mem_singleton.1 hk] at hk'; exact hne (List.mem_singleton.1 hk').symm
            | 1, 1 => exact absurd rfl hij
            | 0, j + 2 => exact h5.disj 0 (j + 1) r s (by simpa using hi) (by simpa using hj) (by omega) k hk
            | i + 2, 0 => exact h5.disj (i + 1) 0 r s (by simpa using hi) (by simpa using hj) (by omega) k hk
            | 1, j + 2 =>
              simp only [List.getElem?_cons_zero, List.getElem?_cons_succ, Option.some.injEq] at hi hj
              subst hi
              rw [List.mem_singleton.1 hk]; exact hDout s (List.mem_of_getElem? hj)
            | i + 2, 1 =>
              simp only [List.getElem?_cons_zero, List.getElem?_cons_succ, Option.some.injEq] at hi hj
              subst hj
              intro hk'; rw [List.mem_singleton.1 hk'] at hk; exact hDout r (List.mem_of_getElem? hi) hk
            | i + 2, j + 2 => exact h5.disj (i + 1) (j + 1) r s (by simpa using hi) (by simpa using hj) (by omega) k hk
        · intro j hj
          rw [hJ] at hj
          obtain ⟨r, hr, hkr⟩ := mem_fps.1 hj
          rcases List.mem_cons.1 hr with rfl | hr
          · right; rw [List.mem_singleton.1 hkr, hJ]; simp [fps, Res.obj]
          · rcases List.mem_cons.1 hr with rfl | hr
            · right; rw [List.mem_singleton.1 hkr, hJ]; simp [fps, Res.obj]
            · rcases h4.mine r (by simp [hr]) j hkr with h | h
              · exact .inl h
              · right; rw [hJ]; rcases List.mem_cons.1 h with rfl | h
                · simp [fps, Res.obj]
                · obtain ⟨r', hr', hk'⟩ := mem_fps.1 h; exact mem_fps.2 ⟨r', by simp [hr'], hk'⟩
        · intro hb
          cases jump with
          | none => exact ⟨rfl, hj1 rfl⟩
          | some c => simp at hb
        · intro hb
          cases jump with
          | none => simp at hb
          | some c => exact ⟨c, rfl, hj2 c rfl⟩
      rw [etmps]
      refine wpIn_mono hw ?_
      intro e a1 W1 hq
      cases e with
      | normal =>
        obtain ⟨w2, hb1, hb2⟩ := hq
        refine ⟨w2, hb1, wpIn_mono hb2 ?_⟩
        intro e2 a2 W2 hq2
        cases e2 with
        | normal =>
          obtain ⟨x', m3, g1, g2⟩ := hq2
          exact fin none x' m3 W2 a2 g2 (fun _ => g1) (fun c hc => by cases hc)
        | ret =>
          obtain ⟨x', m3, g1, g2⟩ := hq2
          exact fin (some .ret) x' m3 W2 a2 g2 (fun h => by cases h) (fun c hc => by cases hc; exact g1)
        | exit i =>
          obtain ⟨x', m3, g1, g2⟩ := hq2
          exact fin (some (.exit i)) x' m3 W2 a2 g2 (fun h => by cases h) (fun c hc => by cases hc; exact g1)
        | goto i =>
          obtain ⟨x', m3, g1, g2⟩ := hq2
          exact fin (some (.goto i)) x' m3 W2 a2 g2 (fun h => by cases h) (fun c hc => by cases hc; exact g1)
        | panic c => exact hq2
        | outgrown => exact hq2
      | ret => exact hq
      | exit i => exact hq
      | goto i => exact hq
      | panic c => exact hq
      | outgrown => exact hq
    · -- behind the iterator
      rintro e W2 ⟨v, m2, ⟨x', p⟩, rfl, h1, h2, h3, h4, h5⟩
      have hs2 : St F Γ (ΔJ (x', p) ++ []) m2 W2 (a.put none undef) := St.call_step (Δr := []) (Δin := ΔJ (x0, none)) (dst := none) (T := Ty.any) (v := undef) (by rw [List.append_nil]; exact hs1) rfl trivial h1 h2 h3 h4
      rw [List.append_nil] at hs2
      have hs2 : St F Γ (ΔJ (x', p)) m2 W2 a := hs2
      rw [hJ] at hs2
      have hl := hs2.own (Res.obj lp (.loop (rec (if p.isNone then .ready else .done) p))) (by simp)
      have hend := run_endLoop (P := F.C.P) hl (by rw [hrec]; cases p <;> simp)
      have hs3 := (hs2.put_res (i := 0) (ob' := .loop { rec (if p.isNone then .ready else .done) p with state := .exhausted }) rfl)
      have hs4 := (hs3.drop (i := 0)).mark (markOf w.heap.size)
      refine ⟨p, W2.putObj lp (.loop { rec (if p.isNone then .ready else .done) p with state := .exhausted }), by rw [hend]; rw [hrec], ?_⟩
      cases p with
      | none =>
        obtain ⟨c, hc, _⟩ := h5
        cases hc
      | some c =>
        obtain ⟨c', hc, hix⟩ := h5
        cases hc
        · have := hstop c x' w.heap.size hix m2 _ _ hs4
          rw [stk_D] at this; exact this

theorem JS_rfI1 {g : Operand} {ps : Array Tmp} {assign body : Code} {N : Nat} {E : Nat → List Ty} {X : Type} (ch : X → List (Nat × Res)) (good : Nat → X → Prop) (Ix : Code → X → Prop) (x0 : X) (hkN : ∀ k x, good k x → k < N) (hg : Opd Γ g (Ty.iterI F.C N E)) (hr : F.r = none) (hps : ∀ k, ps.toList.length = (E k).length) (hpN : (ps.toList.all fun t => Nat.blt t F.N) = true)
    (h0 : good 0 x0) (hΔ : Δ = sets (ch x0) Δ)
    (hbody : ∀ (k : Nat) (x : X) (m : GH) (w : World) (lp : Nat) (r : Loop), k < N → good k x → r.state = .ready → GH.le F.m0 m →
      JS (F.round (lp :: fps (sets (ch x) Δ)) m w lp) (beginQ (F.round (lp :: fps (sets (ch x) Δ)) m w lp) lp body (roundQ (F.round (lp :: fps (sets (ch x) Δ)) m w lp) lp (.loop { r with state := .busy }) (fun x => sets (ch x) Δ) (good (k + 1)) Ix)) (params ps.toList (E k) ++ Γ) (Res.obj lp (.loop r) :: sets (ch x) Δ) [assign])
    (hstop : ∀ (c : Code) (x : X) (D0 : Nat), Ix c x → JS { F with D := markOf D0 :: F.D } Q Γ (Res.obj D0 (.deferred (some [])) :: sets (ch x) Δ) (c :: cs)) : JS F Q Γ Δ (.rangeFunc g ps assign body :: cs) :=
  JS_rangeFuncI (fun x => sets (ch x) Δ) good Ix x0 hkN hr hg hps (fun t ht => by have := List.all_eq_true.1 hpN t ht; simpa using this) h0 hΔ hbody hstop
theorem JE_iterI {fn : Func} {X : Type} {ΔJ : X → List Res} {bad : X → Prop} {S : List Nat} {n : Nat} (x : X) (hx : bad x) (hΔ : Δ = ΔJ x) (hS : F.S = S) (hn0 : F.w0.heap.size = n) (hD : F.D = []) (hr : fn.results.toList = []) :
    JE F (retQ F fn (ownOut (Y := { x : X // bad x }) (fun _ => Ty.any) (fun y => ΔJ y.1) S n)) Γ Δ .ret :=
  JE_retM (Ts := []) (⟨x, hx⟩ : { x : X // bad x }) hS hn0 hD hΔ.symm (by rw [hr]; exact .nil) (fun _ _ _ => trivial)
end rules
end Go.Proofs.YtknflgfkhkdomaaGreatDoor.Mono

/-! MonoCb -/
set_option linter.unusedVariables false
set_option linter.unusedSimpArgs false
namespace Go.Proofs.YtknflgfkhkdomaaGreatDoor.Mono
open Go Go.RowKit
def staysB (c : Ch) (x : Nat) : Bool := c.next.all (fun b => x.testBit b.to)
def stayN (M : Mo) (s x : Nat) : Nat := ((M.choices.getD s []).filter (fun c => staysB c x)).length
def firstBad (n : Nat) (keep : Nat → Nat → Bool) (x : Nat) : Option Nat := (List.range n).find? (fun s => x.testBit s && !keep s x)
def shrinkF (n : Nat) (keep : Nat → Nat → Bool) : Nat → Nat → Nat
  | 0, x => x
  | f + 1, x => match firstBad n keep x with
    | none => x
    | some s => shrinkF n keep f (minusB x (2 ^ s))
theorem minusB_le (x y : Nat) : minusB x y ≤ x := Nat.and_le_left
theorem minusB_lt {x s : Nat} (hx : x < 18446744073709551616) (h : x.testBit s = true) : minusB x (2 ^ s) < x := by
  refine Nat.lt_of_le_of_ne (minusB_le _ _) (fun e => ?_)
  have hs : 2 ^ s ≤ x := Nat.ge_two_pow_of_testBit h
  have := minusB_bit (Y := 2 ^ s) hx (by omega) s
  rw [e, h, Nat.testBit_two_pow_self] at this
  cases this
theorem shrinkF_le (n : Nat) (keep : Nat → Nat → Bool) : ∀ f x, shrinkF n keep f x ≤ x
  | 0, x => Nat.le_refl _
  | f + 1, x => by
    rw [shrinkF]
    split
    · exact Nat.le_refl _
    · exact Nat.le_trans (shrinkF_le n keep f _) (minusB_le _ _)
theorem firstBad_some {n i x : Nat} {keep : Nat → Nat → Bool} (hi : i < n) (h : (x.testBit i && !keep i x) = true) (hb : ∀ j, j < i → (x.testBit j && !keep j x) = false) : firstBad n keep x = some i := by
  unfold firstBad
  rw [List.find?_range_eq_some]
  exact ⟨h, by simpa using hi, fun j hj => by simp [hb j hj]⟩
theorem firstBad_none {n x : Nat} {keep : Nat → Nat → Bool} (hb : ∀ j, j < n → (x.testBit j && !keep j x) = false) : firstBad n keep x = none := by
  unfold firstBad
  rw [List.find?_eq_none]
  intro j hj
  rw [hb j (by simpa using hj)]; decide
/-- The state of the loop: what is left to be taken away. -/
def ShrinkTo (n : Nat) (keep : Nat → Nat → Bool) (R x : Nat) : Prop := x < 4096 ∧ ∃ f, x ≤ f ∧ R = shrinkF n keep f x
theorem ShrinkTo.step {n R x i : Nat} {keep : Nat → Nat → Bool} (h : ShrinkTo n keep R x) (hi : i < n) (h1 : (x.testBit i && !keep i x) = true) (hb : ∀ j, j < i → (x.testBit j && !keep j x) = false) : ShrinkTo n keep R (minusB x (2 ^ i)) ∧ minusB x (2 ^ i) < x := by
  obtain ⟨hx, f, hf, hR⟩ := h
  have hlt := minusB_lt (x := x) (s := i) (by omega) (by simp at h1; exact h1.1)
  match f, hf with
  | 0, hf => omega
  | f + 1, hf =>
    rw [shrinkF, firstBad_some hi h1 hb] at hR
    exact ⟨⟨by omega, f, by omega, hR⟩, hlt⟩
theorem ShrinkTo.stop {n R x : Nat} {keep : Nat → Nat → Bool} (h : ShrinkTo n keep R x) (hb : ∀ j, j < n → (x.testBit j && !keep j x) = false) : R = x := by
  obtain ⟨hx, f, hf, hR⟩ := h
  match f with
  | 0 => exact hR
  | f + 1 => rw [shrinkF, firstBad_none hb] at hR; exact hR
def zeroK (M : Mo) (most : Bool) (s x : Nat) : Bool := if most then decide ((stayN M s x : Int) = ((M.choices.getD s []).length : Int)) else decide (0 < (stayN M s x : Int))
def zerosF (M : Mo) (T : Nat) (most : Bool) : Nat := shrinkF M.owner.length (zeroK M most) 4096 (minusB (2 ^ M.owner.length - 1) T)
/-! What a state reaches -/
def rB (c : Ch) (x a : Nat) (l : List Br) : Nat := l.foldl (fun a b => if staysB c x then a ||| 2 ^ b.to else a) a
def rC (x a : Nat) (l : List Ch) : Nat := l.foldl (fun a c => rB c x a c.next) a
def rT (M : Mo) (x old k a : Nat) : Nat := (List.range k).foldl (fun a t => if old.testBit t then rC x a (M.choices.getD t []) else a) a
def reachF (M : Mo) (x : Nat) : Nat → Nat → Nat
  | 0, s => s
  | f + 1, s => if rT M x s M.owner.length s = s then s else reachF M x f (rT M x s M.owner.length s)
def reach (M : Mo) (s x : Nat) : Nat := reachF M x 4096 (2 ^ s)
theorem or_ge (a b : Nat) : a ≤ a ||| b := Nat.left_le_or
theorem or_lt {a i : Nat} (ha : a < 4096) (hi : i < 12) : a ||| 2 ^ i < 4096 := by
  have h2 : 2 ^ i < 2 ^ 12 := Nat.pow_lt_pow_right (by decide) hi
  exact Nat.or_lt_two_pow (n := 12) ha h2
/-- All branches lead to states below 12. -/
def Low (M : Mo) : Prop := ∀ l ∈ M.choices, ∀ c ∈ l, ∀ b ∈ c.next, b.to < 12
theorem rB_bd {c : Ch} {x : Nat} : ∀ (l : List Br) (a : Nat), (∀ b ∈ l, b.to < 12) → a < 4096 → a ≤ rB c x a l ∧ rB c x a l < 4096
  | [], a, _, ha => ⟨Nat.le_refl _, ha⟩
  | b :: l, a, h, ha => by
    have h1 : a ≤ (if staysB c x then a ||| 2 ^ b.to else a) ∧ (if staysB c x then a ||| 2 ^ b.to else a) < 4096 := by
      split
      · exact ⟨or_ge _ _, or_lt ha (h b (by simp))⟩
      · exact ⟨Nat.le_refl _, ha⟩
    have h2 := rB_bd (c := c) (x := x) l _ (fun y hy => h y (by simp [hy])) h1.2
    exact ⟨Nat.le_trans h1.1 h2.1, h2.2⟩
theorem rC_bd {x : Nat} : ∀ (l : List Ch) (a : Nat), (∀ c ∈ l, ∀ b ∈ c.next, b.to < 12) → a < 4096 → a ≤ rC x a l ∧ rC x a l < 4096
  | [], a, _, ha => ⟨Nat.le_refl _, ha⟩
  | c :: l, a, h, ha => by
    have h1 := rB_bd (c := c) (x := x) c.next a (h c (by simp)) ha
    have h2 := rC_bd (x := x) l _ (fun y hy => h y (by simp [hy])) h1.2
    exact ⟨Nat.le_trans h1.1 h2.1, h2.2⟩
theorem rT_succ (M : Mo) (x old k a : Nat) : rT M x old (k + 1) a = if old.testBit k then rC x (rT M x old k a) (M.choices.getD k []) else rT M x old k a := by
  unfold rT; rw [List.range_succ, List.foldl_append]; rfl
theorem rT_bd {M : Mo} (hM : Low M) {x old : Nat} : ∀ (k a : Nat), a < 4096 → a ≤ rT M x old k a ∧ rT M x old k a < 4096
  | 0, a, ha => ⟨Nat.le_refl _, ha⟩
  | k + 1, a, ha => by
    have h1 := rT_bd hM (x := x) (old := old) k a ha
    rw [rT_succ]
    split
    · have h2 := rC_bd (x := x) (M.choices.getD k []) (rT M x old k a) (fun c hc => by
        rw [List.getD_eq_getElem?_getD] at hc
        by_cases hk : k < M.choices.length
        · rw [List.getElem?_eq_getElem hk] at hc; exact hM _ (List.getElem_mem hk) c hc
        · rw [List.getElem?_eq_none (by omega)] at hc; cases hc) h1.2
      exact ⟨Nat.le_trans h1.1 h2.1, h2.2⟩
    · exact h1
def ReachTo (M : Mo) (x R old seen : Nat) : Prop := seen < 4096 ∧ old < 4096 ∧ ((old ≠ seen ∧ ∃ f, 4096 - seen ≤ f ∧ R = reachF M x f seen) ∨ (old = seen ∧ R = seen))
theorem ReachTo.step {M : Mo} {x R old seen : Nat} (hM : Low M) (h : ReachTo M x R old seen) (hne : old ≠ seen) : ReachTo M x R seen (rT M x seen M.owner.length seen) ∧ (if seen = rT M x seen M.owner.length seen then 0 else 4097 - rT M x seen M.owner.length seen) < (if old = seen then 0 else 4097 - seen) := by
  obtain ⟨hs, ho, h⟩ := h
  rcases h with ⟨_, f, hf, hR⟩ | ⟨e, _⟩
  · have hb := rT_bd hM (x := x) (old := seen) M.owner.length seen hs
    rw [if_neg hne]
    match f, hf with
    | 0, hf => omega
    | f + 1, hf =>
      rw [reachF] at hR
      by_cases he : rT M x seen M.owner.length seen = seen
      · rw [if_pos he] at hR
        rw [he, if_pos rfl]
        exact ⟨⟨hs, hs, .inr ⟨rfl, hR⟩⟩, by omega⟩
      · rw [if_neg he] at hR
        rw [if_neg (fun e => he e.symm)]
        exact ⟨⟨hb.2, hs, .inl ⟨fun e => he e.symm, f, by omega, hR⟩⟩, by omega⟩
  · exact absurd e hne
theorem ReachTo.stop {M : Mo} {x R old seen : Nat} (h : ReachTo M x R old seen) (he : ¬ old ≠ seen) : R = seen := by
  obtain ⟨_, _, h⟩ := h
  rcases h with ⟨h1, _⟩ | ⟨_, h2⟩
  · exact absurd h1 he
  · exact h2
theorem reach_bd {M : Mo} (hM : Low M) {x s : Nat} (hs : s < 12) : reach M s x < 4096 := by
  have key : ∀ f a, a < 4096 → reachF M x f a < 4096 := by
    intro f
    induction f with
    | zero => intro a ha; exact ha
    | succ f ih =>
      intro a ha
      rw [reachF]
      split
      · exact ha
      · exact ih _ (rT_bd hM _ _ ha).2
  have h2 : 2 ^ s < 2 ^ 12 := Nat.pow_lt_pow_right (by decide) hs
  exact key _ _ h2
/-! Components -/
def partF (M : Mo) (x s k : Nat) : Nat := (List.range k).foldl (fun p t => if x.testBit t && ((reach M s x).testBit t && (reach M t x).testBit s) then p ||| 2 ^ t else p) 0
theorem partF_succ (M : Mo) (x s k : Nat) : partF M x s (k + 1) = if x.testBit k && ((reach M s x).testBit k && (reach M k x).testBit s) then partF M x s k ||| 2 ^ k else partF M x s k := by
  unfold partF; rw [List.range_succ, List.foldl_append]; rfl
theorem partF_bit (M : Mo) (x s : Nat) : ∀ (k i : Nat), (partF M x s k).testBit i = true → x.testBit i = true
  | 0, i, h => by rw [partF] at h; simp at h
  | k + 1, i, h => by
    rw [partF_succ] at h
    split at h
    · rename_i hc
      rw [Nat.testBit_or] at h
      rcases Bool.or_eq_true_iff.1 h with h | h
      · exact partF_bit M x s k i h
      · by_cases e : k = i
        · subst e; simp only [Bool.and_eq_true] at hc; exact hc.1
        · rw [Nat.testBit_two_pow_of_ne e] at h; cases h
    · exact partF_bit M x s k i h
theorem partF_le (M : Mo) (x s k : Nat) : partF M x s k ≤ x := by
  have e : partF M x s k &&& x = partF M x s k := Nat.eq_of_testBit_eq (fun i => by
    rw [Nat.testBit_and]
    cases h : (partF M x s k).testBit i with
    | false => rfl
    | true => rw [partF_bit M x s k i h]; rfl)
  rw [← e]; exact Nat.and_le_right
def compGo (rec : Nat → List Nat) (M : Mo) (x : Nat) : List Nat → List Nat → List Nat
  | [], out => out
  | s :: l, out => if x.testBit s = false then compGo rec M x l out else
      if partF M x s M.owner.length = x then [x] else
      if out.any (fun b => b.testBit s) then compGo rec M x l out else
      if partF M x s M.owner.length &&& (2 ^ s - 1) = 0 then compGo rec M x l (out ++ rec (partF M x s M.owner.length)) else compGo rec M x l out
def compK (M : Mo) (s x : Nat) : Bool := decide (0 < (stayN M s x : Int))
def compF (M : Mo) : Nat → Nat → List Nat
  | 0, _ => []
  | f + 1, x => compGo (compF M f) M (shrinkF M.owner.length (compK M) 4096 x) (List.range M.owner.length) []
/-! How many components there can be -/
def cnt (p : Nat → Bool) : List Nat → Nat
  | [] => 0
  | i :: l => (if p i then 1 else 0) + cnt p l
theorem cnt_le {p q : Nat → Bool} : ∀ (l : List Nat), (∀ i ∈ l, p i = true → q i = true) → cnt p l ≤ cnt q l
  | [], _ => Nat.le_refl _
  | i :: l, h => by
    have h1 := cnt_le l (fun j hj => h j (by simp [hj]))
    have h2 := h i (by simp)
    simp only [cnt]
    by_cases hp : p i = true
    · rw [if_pos hp, if_pos (h2 hp)]; omega
    · rw [if_neg hp]; omega
theorem cnt_lt {p q : Nat → Bool} {k : Nat} : ∀ (l : List Nat), (∀ i ∈ l, p i = true → q i = true) → k ∈ l → p k = false → q k = true → cnt p l < cnt q l
  | i :: l, h, hk, hp, hq => by
    have h2 := h i (by simp)
    have hl := cnt_le l (fun j hj => h j (by simp [hj]))
    simp only [cnt]
    rcases List.mem_cons.1 hk with rfl | hk
    · rw [hp, hq]; simp; omega
    · have h1 := cnt_lt l (fun j hj => h j (by simp [hj])) hk hp hq
      by_cases hp : p i = true
      · rw [if_pos hp, if_pos (h2 hp)]; omega
      · rw [if_neg hp]; omega
theorem cnt_max (p : Nat → Bool) : ∀ (l : List Nat), cnt p l ≤ l.length
  | [] => Nat.le_refl _
  | i :: l => by
    have := cnt_max p l
    simp only [cnt, List.length_cons]
    split <;> omega
def pc (x : Nat) : Nat := cnt (fun i => x.testBit i) (List.range 12)
theorem pc_le (x : Nat) : pc x ≤ 12 := by unfold pc; have := cnt_max (fun i => x.testBit i) (List.range 12); simpa using this
theorem pc_lt {x y : Nat} (hy : y < 4096) (h : ∀ i, x.testBit i = true → y.testBit i = true) (hne : x ≠ y) : pc x < pc y := by
  have hx : x ≤ y := by
    have e : x &&& y = x := Nat.eq_of_testBit_eq (fun i => by
      rw [Nat.testBit_and]
      cases hh : x.testBit i with
      | false => rfl
      | true => rw [h i hh]; rfl)
    rw [← e]; exact Nat.and_le_right
  obtain ⟨k, h1, h2⟩ : ∃ k, x.testBit k = false ∧ y.testBit k = true := by
    refine Classical.byContradiction (fun hno => hne (Nat.eq_of_testBit_eq (fun i => ?_)))
    cases hh : x.testBit i with
    | true => exact (h i hh).symm
    | false =>
      cases hy2 : y.testBit i with
      | false => rfl
      | true => exact absurd ⟨i, hh, hy2⟩ hno
  have hk : k < 12 := by
    refine Classical.byContradiction (fun hk => ?_)
    have := Nat.testBit_lt_two_pow (x := y) (i := k) (Nat.lt_of_lt_of_le hy (show 4096 ≤ 2 ^ k from (show (4096 : Nat) = 2 ^ 12 by decide) ▸ Nat.pow_le_pow_right (by decide) (by omega)))
    rw [h2] at this; cases this
  exact cnt_lt (List.range 12) (fun i _ => h i) (by simpa using hk) h1 h2
theorem shrinkF_bit {n : Nat} {keep : Nat → Nat → Bool} : ∀ (f x : Nat), x < 4096 → ∀ i, (shrinkF n keep f x).testBit i = true → x.testBit i = true
  | 0, x, _, i, h => h
  | f + 1, x, hx, i, h => by
    rw [shrinkF] at h
    cases e : firstBad n keep x with
    | none => rw [e] at h; exact h
    | some s =>
      rw [e] at h
      have hs : x.testBit s = true := by
        unfold firstBad at e
        have := List.find?_some e
        simp at this; exact this.1
      have hp : 2 ^ s ≤ x := Nat.ge_two_pow_of_testBit hs
      have h1 := shrinkF_bit f (minusB x (2 ^ s)) (Nat.lt_of_le_of_lt (minusB_le _ _) hx) i h
      rw [minusB_bit (by omega) (by omega)] at h1
      simp at h1; exact h1.1
theorem compGo_len {rec : Nat → List Nat} {M : Mo} {y B : Nat} : ∀ (l out : List Nat), (∀ s ∈ l, y.testBit s = true → partF M y s M.owner.length ≠ y → (rec (partF M y s M.owner.length)).length ≤ B) → (compGo rec M y l out).length ≤ max 1 (out.length + l.length * B)
  | [], out, _ => by rw [compGo]; omega
  | s :: l, out, h => by
    have ih := fun out => compGo_len (rec := rec) (M := M) (y := y) (B := B) l out (fun t ht => h t (by simp [ht]))
    have e : (s :: l).length * B = l.length * B + B := by rw [List.length_cons, Nat.add_mul, Nat.one_mul]
    rw [compGo]
    by_cases h1 : y.testBit s = false
    · rw [if_pos h1]; have := ih out; omega
    · rw [if_neg h1]
      have h1' : y.testBit s = true := by simpa using h1
      by_cases h2 : partF M y s M.owner.length = y
      · rw [if_pos h2]; simp only [List.length_cons, List.length_nil]; omega
      · rw [if_neg h2]
        have h3 := h s (by simp) h1' h2
        split
        · have := ih out; omega
        · split
          · have := ih (out ++ rec (partF M y s M.owner.length)); rw [List.length_append] at this; omega
          · have := ih out; omega
theorem pc_mono {x y : Nat} (h : ∀ i, x.testBit i = true → y.testBit i = true) : pc x ≤ pc y := cnt_le _ (fun i _ => h i)
theorem pc_pos {y s : Nat} (hs : s < 12) (h : y.testBit s = true) : 1 ≤ pc y := by
  have := cnt_lt (p := fun _ => false) (q := fun i => y.testBit i) (k := s) (List.range 12) (fun i _ h => by cases h) (by simpa using hs) rfl h
  unfold pc; omega
theorem compF_len {M : Mo} (hn : M.owner.length ≤ 12) : ∀ f x, x < 4096 → (compF M f x).length ≤ 12 ^ pc x
  | 0, x, _ => by rw [compF]; simp
  | f + 1, x, hx => by
    rw [compF]
    generalize hy : shrinkF M.owner.length (compK M) 4096 x = y
    have hyx : y ≤ x := hy ▸ shrinkF_le _ _ _ _
    have hyb : pc y ≤ pc x := pc_mono (fun i => by rw [← hy]; exact shrinkF_bit _ _ hx i)
    have hpow : 12 ^ pc y ≤ 12 ^ pc x := Nat.pow_le_pow_right (by decide) hyb
    refine Nat.le_trans ?_ hpow
    by_cases h0 : pc y = 0
    · have := compGo_len (rec := compF M f) (M := M) (y := y) (B := 0) (List.range M.owner.length) [] (fun s hs hb _ => by
        have := pc_pos (by have := List.mem_range.1 hs; omega) hb; omega)
      rw [h0]; simp at this; simpa using this
    · have h1 := compGo_len (rec := compF M f) (M := M) (y := y) (B := 12 ^ (pc y - 1)) (List.range M.owner.length) [] (fun s hs hb hne => by
        have h2 := compF_len hn f (partF M y s M.owner.length) (Nat.lt_of_le_of_lt (partF_le _ _ _ _) (by omega))
        have h3 := pc_lt (y := y) (by omega) (partF_bit M y s M.owner.length) hne
        exact Nat.le_trans h2 (Nat.pow_le_pow_right (by decide) (by omega)))
      have h4 : 12 ^ pc y = 12 * 12 ^ (pc y - 1) := by rw [← Nat.pow_succ']; congr 1; omega
      have h5 : M.owner.length * 12 ^ (pc y - 1) ≤ 12 * 12 ^ (pc y - 1) := Nat.mul_le_mul_right _ hn
      have h6 : 1 ≤ 12 ^ (pc y - 1) := Nat.one_le_pow _ _ (by decide)
      rw [List.length_range, List.length_nil] at h1
      omega
theorem compGo_bd {rec : Nat → List Nat} {M : Mo} {y N : Nat} (hy : y < N) (hr : ∀ z, z ≤ y → ∀ b ∈ rec z, b < N) : ∀ (l out : List Nat), (∀ b ∈ out, b < N) → ∀ b ∈ compGo rec M y l out, b < N
  | [], out, h => by rw [compGo]; exact h
  | s :: l, out, h => by
    have ih := fun out => compGo_bd hy hr (M := M) l out
    rw [compGo]
    split
    · exact ih out h
    · split
      · intro b hb; rw [List.mem_singleton.1 hb]; exact hy
      · split
        · exact ih out h
        · split
          · refine ih _ (fun b hb => ?_)
            rcases List.mem_append.1 hb with hb | hb
            · exact h b hb
            · exact hr _ (partF_le _ _ _ _) b hb
          · exact ih out h
theorem compF_bd {M : Mo} : ∀ f x, x < 4096 → ∀ b ∈ compF M f x, b < 4096
  | 0, x, _, b, hb => by rw [compF] at hb; cases hb
  | f + 1, x, hx, b, hb => by
    rw [compF] at hb
    have hy := shrinkF_le M.owner.length (compK M) 4096 x
    exact compGo_bd (by omega) (fun z hz => compF_bd f z (by omega)) _ _ (fun b hb => by cases hb) b hb
theorem grow {a i B : Nat} (h : a ≤ i * B) : a ≤ (i + 1) * B := by rw [Nat.add_mul]; omega
theorem grow2 {a b i B : Nat} (h : a ≤ i * B) (hb : b ≤ B) : a + b ≤ (i + 1) * B := by rw [Nat.add_mul]; omega
theorem grow0 (B : Nat) : ([] : List Nat).length ≤ 0 * B := by simp
theorem app_bd {a b : List Nat} {N : Nat} (ha : ∀ x ∈ a, x < N) (hb : ∀ x ∈ b, x < N) : ∀ x ∈ a ++ b, x < N := fun x hx => (List.mem_append.1 hx).elim (ha x) (hb x)
/-! Steps of the walk through the states -/
section go
variable {rec : Nat → List Nat} {M : Mo} {y i : Nat} {out : List Nat}
def Lr (n i : Nat) : List Nat := (List.range n).drop i
theorem Lr_cons {n i : Nat} (h : i < n) : Lr n i = i :: Lr n (i + 1) := by
  unfold Lr
  rw [List.drop_eq_getElem_cons (by simpa using h)]
  simp
theorem Lr_end {n i : Nat} (h : n ≤ i) : Lr n i = [] := List.drop_eq_nil_of_le (by simpa using h)
theorem go_skip (hi : i < M.owner.length) (h : y.testBit i = false) : compGo rec M y (Lr M.owner.length i) out = compGo rec M y (Lr M.owner.length (i + 1)) out := by
  rw [Lr_cons hi, compGo, if_pos h]
theorem go_eq (hi : i < M.owner.length) (h : y.testBit i = true) (hp : partF M y i M.owner.length = y) : compGo rec M y (Lr M.owner.length i) out = [y] := by
  rw [Lr_cons hi, compGo, if_neg (by rw [h]; decide), if_pos hp]
theorem go_has (hi : i < M.owner.length) (h : y.testBit i = true) (hp : partF M y i M.owner.length ≠ y) (ha : out.any (fun b => b.testBit i) = true) : compGo rec M y (Lr M.owner.length i) out = compGo rec M y (Lr M.owner.length (i + 1)) out := by
  rw [Lr_cons hi, compGo, if_neg (by rw [h]; decide), if_neg hp, if_pos ha]
theorem go_add (hi : i < M.owner.length) (h : y.testBit i = true) (hp : partF M y i M.owner.length ≠ y) (ha : out.any (fun b => b.testBit i) = false) (h0 : partF M y i M.owner.length &&& (2 ^ i - 1) = 0) : compGo rec M y (Lr M.owner.length i) out = compGo rec M y (Lr M.owner.length (i + 1)) (out ++ rec (partF M y i M.owner.length)) := by
  rw [Lr_cons hi, compGo, if_neg (by rw [h]; decide), if_neg hp, if_neg (by rw [ha]; decide), if_pos h0]
theorem go_pass (hi : i < M.owner.length) (h : y.testBit i = true) (hp : partF M y i M.owner.length ≠ y) (ha : out.any (fun b => b.testBit i) = false) (h0 : ¬ partF M y i M.owner.length &&& (2 ^ i - 1) = 0) : compGo rec M y (Lr M.owner.length i) out = compGo rec M y (Lr M.owner.length (i + 1)) out := by
  rw [Lr_cons hi, compGo, if_neg (by rw [h]; decide), if_neg hp, if_neg (by rw [ha]; decide), if_neg h0]
end go
theorem part_on {M : Mo} {x s k : Nat} (h1 : x.testBit k = true) (h2 : (reach M s x).testBit k = true) (h3 : (reach M k x).testBit s = true) : partF M x s k ||| 2 ^ k = partF M x s (k + 1) := by
  rw [partF_succ, h1, h2, h3]; rfl
theorem part_off {M : Mo} {x s k : Nat} (h : ¬ (x.testBit k = true ∧ (reach M s x).testBit k = true ∧ (reach M k x).testBit s = true)) : partF M x s k = partF M x s (k + 1) := by
  rw [partF_succ, if_neg]
  simpa using h
theorem fb_step {P : Nat → Bool} {i : Nat} (h : ∀ j, j < i → P j = false) (hi : P i = false) : ∀ j, j < i + 1 → P j = false := fun j hj => by
  rcases Nat.lt_or_ge j i with h1 | h1
  · exact h j h1
  · obtain rfl : j = i := by omega
    exact hi
theorem getD_choices {M : Mo} {s : Nat} (h : s < M.choices.length) : M.choices.getD s [] = M.choices[s] := by
  rw [List.getD_eq_getElem?_getD, List.getElem?_eq_getElem h]; rfl
end Go.Proofs.YtknflgfkhkdomaaGreatDoor.Mono
