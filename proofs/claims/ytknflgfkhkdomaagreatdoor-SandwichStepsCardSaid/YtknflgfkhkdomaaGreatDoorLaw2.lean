/- croupierlaw22.SandwichSteps returns true for every input. (part 2 of 8.) Conditions: none beyond the given row. -/
import Derived.Test.YtknflgfkhkdomaaGreatDoorLaw1
import Derived.Laws.Small
import Derived.Test.YtknflgfkhkdomaaGreatDoorProg
/-! MonoZ -/
set_option linter.unusedVariables false
set_option linter.unusedSimpArgs false
namespace Go.Proofs.YtknflgfkhkdomaaGreatDoor.Mono
open Go Go.RowKit

/-! Wraps -/
theorem wrap_i64 {n : Int} (h1 : -9223372036854775808 ≤ n) (h2 : n ≤ 9223372036854775807) : IntKind.i64.wrap n = n := by rw [IntKind.wrap_i64]; omega
theorem wrap_u64 {n : Int} (h1 : 0 ≤ n) (h2 : n ≤ 18446744073709551615) : IntKind.u64.wrap n = n := by
  simp only [IntKind.wrap, IntKind.signed, IntKind.bits, Bool.false_and, Bool.false_eq_true, if_false]; omega
theorem wrap_u32 {n : Int} (h1 : 0 ≤ n) (h2 : n ≤ 4294967295) : IntKind.u32.wrap n = n := by
  simp only [IntKind.wrap, IntKind.signed, IntKind.bits, Bool.false_and, Bool.false_eq_true, if_false]; omega
theorem wrap_u16 {n : Int} (h1 : 0 ≤ n) (h2 : n ≤ 65535) : IntKind.u16.wrap n = n := by
  simp only [IntKind.wrap, IntKind.signed, IntKind.bits, Bool.false_and, Bool.false_eq_true, if_false]; omega
theorem wrap_u8 {n : Int} (h1 : 0 ≤ n) (h2 : n ≤ 255) : IntKind.u8.wrap n = n := by
  simp only [IntKind.wrap, IntKind.signed, IntKind.bits, Bool.false_and, Bool.false_eq_true, if_false]; omega
theorem quo_i64 {a b : Int} (h0 : 0 ≤ a) (hb : 0 < b) (h : a ≤ 9223372036854775807) : IntKind.i64.wrap (a.tdiv b) = a / b := by
  rw [Int.tdiv_eq_ediv_of_nonneg h0]
  exact wrap_i64 (by have := Int.ediv_nonneg h0 (Int.le_of_lt hb); omega) (by have := Int.ediv_le_self b h0; omega)
theorem quo_u64 {a b : Int} (h0 : 0 ≤ a) (hb : 0 < b) (h : a ≤ 18446744073709551615) : IntKind.u64.wrap (a.tdiv b) = a / b := by
  rw [Int.tdiv_eq_ediv_of_nonneg h0]
  exact wrap_u64 (Int.ediv_nonneg h0 (Int.le_of_lt hb)) (by have := Int.ediv_le_self b h0; omega)
theorem quo_u32 {a b : Int} (h0 : 0 ≤ a) (hb : 0 < b) (h : a ≤ 4294967295) : IntKind.u32.wrap (a.tdiv b) = a / b := by
  rw [Int.tdiv_eq_ediv_of_nonneg h0]
  exact wrap_u32 (Int.ediv_nonneg h0 (Int.le_of_lt hb)) (by have := Int.ediv_le_self b h0; omega)
theorem quo_u8 {a b : Int} (h0 : 0 ≤ a) (hb : 0 < b) (h : a ≤ 255) : IntKind.u8.wrap (a.tdiv b) = a / b := by
  rw [Int.tdiv_eq_ediv_of_nonneg h0]
  exact wrap_u8 (Int.ediv_nonneg h0 (Int.le_of_lt hb)) (by have := Int.ediv_le_self b h0; omega)
theorem rem_nn {a b : Int} (h0 : 0 ≤ a) : a.tmod b = a % b := Int.tmod_eq_emod_of_nonneg h0

section rules
variable {F : Fr} {Q : Post} {Γ : Env} {Δ : List Res} {cs : List Code} {ops : Array Oper} {draw : Bool} {l : List Oper} {dst : Option Tmp} {ty : TypeId} {pos : String} {after : Array Edge}

theorem kM {x : Operand} {T : Ty} (hx : Opd Γ x T) (hd : dstOk F.N dst = true) (h : TK F Q cs ops draw Δ (Env.put Γ dst T) l) : TK F Q cs ops draw Δ Γ (⟨dst, .move x, ty, pos, after, none⟩ :: l) := TK_op rfl hd (T_move (.inl rfl) hx) h
theorem kA {x : Operand} {T : Ty} (hx : Opd Γ x T) (hd : dstOk F.N dst = true) (h : TK F Q cs ops draw Δ (Env.put Γ dst T) l) : TK F Q cs ops draw Δ Γ (⟨dst, .assign x, ty, pos, after, none⟩ :: l) := TK_op rfl hd (T_move (.inr rfl) hx) h
theorem kO {op : Op} {T : Ty} (ht : TOp F.C Δ Γ ⟨dst, op, ty, pos, after, none⟩ T) (hd : dstOk F.N dst = true) (h : TK F Q cs ops draw Δ (Env.put Γ dst T) l) : TK F Q cs ops draw Δ Γ (⟨dst, op, ty, pos, after, none⟩ :: l) := TK_op rfl hd ht h
theorem kG {op : Op} {T : Ty} {j : Nat} {w : Bool} (hw : Wanted Γ ops ⟨dst, op, ty, pos, after, some (j, w)⟩ true) (ht : TOp F.C Δ Γ ⟨dst, op, ty, pos, after, some (j, w)⟩ T) (hd : dstOk F.N dst = true) (h : TK F Q cs ops draw Δ (Env.put Γ dst T) l) : TK F Q cs ops draw Δ Γ (⟨dst, op, ty, pos, after, some (j, w)⟩ :: l) := TK_op hw hd ht h
theorem jM {x : Operand} {T : Ty} (hx : Opd Γ x T) (hd : dstOk F.N dst = true) (h : JT F Q cs ops (Env.put Γ dst T) Δ l) : JT F Q cs ops Γ Δ (⟨dst, .move x, ty, pos, after, none⟩ :: l) := JT_op rfl hd (T_move (.inl rfl) hx) h
theorem jA {x : Operand} {T : Ty} (hx : Opd Γ x T) (hd : dstOk F.N dst = true) (h : JT F Q cs ops (Env.put Γ dst T) Δ l) : JT F Q cs ops Γ Δ (⟨dst, .assign x, ty, pos, after, none⟩ :: l) := JT_op rfl hd (T_move (.inr rfl) hx) h
theorem jO {op : Op} {T : Ty} (ht : TOp F.C Δ Γ ⟨dst, op, ty, pos, after, none⟩ T) (hd : dstOk F.N dst = true) (h : JT F Q cs ops (Env.put Γ dst T) Δ l) : JT F Q cs ops Γ Δ (⟨dst, op, ty, pos, after, none⟩ :: l) := JT_op rfl hd ht h
theorem jG {op : Op} {T : Ty} {j : Nat} {w : Bool} (hw : Wanted Γ ops ⟨dst, op, ty, pos, after, some (j, w)⟩ true) (ht : TOp F.C Δ Γ ⟨dst, op, ty, pos, after, some (j, w)⟩ T) (hd : dstOk F.N dst = true) (h : JT F Q cs ops (Env.put Γ dst T) Δ l) : JT F Q cs ops Γ Δ (⟨dst, op, ty, pos, after, some (j, w)⟩ :: l) := JT_op hw hd ht h
/-- The end of a region without a draw, with one. -/
theorem kE (h : JS F Q Γ Δ cs) : TK F Q cs ops false Δ Γ [] := TK_done (fun h => by cases h) h
theorem kD (hd : okDraw ops.toList ops.size = true) (h : JS F Q Γ Δ cs) : TK F Q cs ops true Δ Γ [] := TK_done (fun _ => hd) h
theorem kT (h : JT F Q cs ops Γ Δ l) : TK F Q cs ops false Δ Γ l := TK_tail (fun h => by cases h) h
theorem kTD (hd : okDraw ops.toList (ops.size - l.length) = true) (h : JT F Q cs ops Γ Δ l) : TK F Q cs ops true Δ Γ l := TK_tail (fun _ => hd) h
theorem sR {id : Nat} (h : TK F Q cs ops false Δ Γ ops.toList) : JS F Q Γ Δ (.region id ops false :: cs) := JS_region (fun h => by cases h) h
theorem sRD {id : Nat} (hm : F.C.P.follows .mixedOrders = true) (h : TK F Q cs ops true Δ Γ ops.toList) : JS F Q Γ Δ (.region id ops true :: cs) := JS_region (fun _ => hm) h

/-- A slot's type said anew, within a region. -/
theorem TL.weak {C : Ctx} {N : Nat} {ops : Array Oper} {Δ : List Res} {Γ Γ0 : Env} {s : Nat} {T : Ty} (h : Env.get Γ0 s = some T) {l : List Oper} {Γ' : Env} (hl : TL C N ops Δ Γ l Γ') : TL C N ops Δ Γ l Γ' := hl
theorem tk_split {d : Nat} {t : Bool} (hg : Env.get Γ d = some (Ty.val (.bool t))) (ht : t = true → TK F Q cs ops draw Δ Γ l) (hf : t = false → TK F Q cs ops draw Δ Γ l) : TK F Q cs ops draw Δ Γ l := by
  cases t
  · exact hf rfl
  · exact ht rfl
theorem jt_split {d : Nat} {t : Bool} (hg : Env.get Γ d = some (Ty.val (.bool t))) (ht : t = true → JT F Q cs ops Γ Δ l) (hf : t = false → JT F Q cs ops Γ Δ l) : JT F Q cs ops Γ Δ l := by
  cases t
  · exact hf rfl
  · exact ht rfl
theorem wT {o : Oper} {j : Nat} {want : Bool} {d : Tmp} {t : Bool} (ho : o.guard = some (j, want)) (hj : (ops[j]?).bind (·.dst) = some d) (hg : Env.get Γ d = some (Ty.val (.bool t))) (ht : t = want) : Wanted Γ ops o true := by
  unfold Wanted; simp only [ho]; exact ⟨d, _, hj, hg, by subst ht; simp [yb]⟩
theorem wF {o : Oper} {j : Nat} {want : Bool} {d : Tmp} {t : Bool} (ho : o.guard = some (j, want)) (hj : (ops[j]?).bind (·.dst) = some d) (hg : Env.get Γ d = some (Ty.val (.bool t))) (ht : t ≠ want) : Wanted Γ ops o false := by
  unfold Wanted; simp only [ho]; exact ⟨d, _, hj, hg, by simpa [yb] using ht⟩
theorem wU {o : Oper} {j : Nat} {want : Bool} {d : Tmp} (ho : o.guard = some (j, want)) (hj : (ops[j]?).bind (·.dst) = some d) (hg : Env.get Γ d = some (Ty.val undef)) : Wanted Γ ops o false := by
  unfold Wanted; simp only [ho]; exact ⟨d, _, hj, hg, rfl⟩
variable {C : Ctx} {o : Oper}
theorem T_pickT {c x y : Operand} {T : Ty} {t : Bool} (ho : o.op = .pick c x y) (hc : Opd Γ c (Ty.val (.bool t))) (ht : t = true) (hx : Opd Γ x T) : TOp C Δ Γ o T := by subst ht; exact T_pick_true ho hc hx
theorem T_pickF {c x y : Operand} {T : Ty} {t : Bool} (ho : o.op = .pick c x y) (hc : Opd Γ c (Ty.val (.bool t))) (ht : t = false) (hx : Opd Γ y T) : TOp C Δ Γ o T := by subst ht; exact T_pick_false ho hc hx
/-- Both arms of a choice are known. -/
theorem T_pickB {c x y : Operand} {T : Ty} {t p q : Bool} (ho : o.op = .pick c x y) (hc : Opd Γ c (Ty.val (.bool t))) (hx : Opd Γ x (Ty.val (.bool p))) (hy : Opd Γ y (Ty.val (.bool q))) : TOp C Δ Γ o (Ty.val (.bool (if t then p else q))) := by
  cases t
  · exact T_pick_false ho hc hy
  · exact T_pick_true ho hc hx
theorem T_bool_eq {t yt : TypeId} {x y : Operand} {a b : Bool} (ho : o.op = .binOp .eql t x y yt) (hu : C.P.underlying t = some .bool) (hx : Opd Γ x (Ty.val (.bool a))) (hy : Opd Γ y (Ty.val (.bool b))) : TOp C Δ Γ o (Ty.val (.bool (a == b))) := by
  intro m w ac hs _ _ _ htt
  have h1 : ac.eval x = .bool a := hx.p htt (by simp [ho, Op.operands])
  have h2 : ac.eval y = .bool b := hy.p htt (by simp [ho, Op.operands])
  exact Gives.value (by simp [ho]) (by simp [execOp, ho, h1, h2, eqGuard_bool, run_eql_bool _ _ _ _ hu]) hs rfl
theorem T_bool_ne {t yt : TypeId} {x y : Operand} {a b : Bool} (ho : o.op = .binOp .neq t x y yt) (hu : C.P.underlying t = some .bool) (hx : Opd Γ x (Ty.val (.bool a))) (hy : Opd Γ y (Ty.val (.bool b))) : TOp C Δ Γ o (Ty.val (.bool (a != b))) := by
  intro m w ac hs _ _ _ htt
  have h1 : ac.eval x = .bool a := hx.p htt (by simp [ho, Op.operands])
  have h2 : ac.eval y = .bool b := hy.p htt (by simp [ho, Op.operands])
  exact Gives.value (v := .bool (a != b)) (by simp [ho]) (by simp [execOp, ho, h1, h2, eqGuard_bool, run_neq_bool _ _ _ _ hu]; cases a <;> cases b <;> rfl) hs rfl

/-! Natural numbers as cells -/
def Kd.nat (k : IntKind) : Kd Nat := Kd.scalar (fun n => Value.int k n) (fun _ => rfl)
theorem nat_val (k : IntKind) (n : Nat) : Ty.le (Ty.of (Kd.nat k) n) (Ty.val (.int k n)) := fun m v ⟨cs, h1, h2⟩ => by rw [show cs = _ from h1] at h2; exact h2
theorem val_nat (k : IntKind) {n : Nat} {z : Int} (h : z = n) : Ty.le (Ty.val (.int k z)) (Ty.of (Kd.nat k) n) := fun m v hv => by subst h; exact ⟨[v], by rw [show v = _ from hv]; rfl, rfl⟩
theorem val_bool (b : Bool) : Ty.le (Ty.val (.bool b)) (Ty.of Kd.bool b) := fun m v hv => ⟨[v], by rw [show v = _ from hv]; rfl, rfl⟩
theorem bool_val (b : Bool) : Ty.le (Ty.of Kd.bool b) (Ty.val (.bool b)) := fun m v ⟨cs, h1, h2⟩ => by rw [show cs = _ from h1] at h2; exact h2
theorem int_val (k : IntKind) (n : Int) : Ty.le (Ty.of (Kd.int k) n) (Ty.val (.int k n)) := fun m v ⟨cs, h1, h2⟩ => by rw [show cs = _ from h1] at h2; exact h2
theorem val_int (k : IntKind) (n : Int) : Ty.le (Ty.val (.int k n)) (Ty.of (Kd.int k) n) := fun m v hv => ⟨[v], by rw [show v = _ from hv]; rfl, rfl⟩
theorem val_str (l : List UInt8) : Ty.le (Ty.val (.string (Kd.bs l))) (Ty.of Kd.str l) := fun m v hv => ⟨[v], by rw [show v = _ from hv]; rfl, rfl⟩
/-- A load whose value is known as a number. -/
theorem T_load_nat {t : TypeId} {x : Operand} {k : IntKind} {n : Nat} (ho : o.op = .load t x) (hti : TI C.P t false 1) (hx : Opd Γ x (Ty.place (Seg.of (Kd.nat k) n))) : TOp C Δ Γ o (Ty.val (.int k n)) := T_sub (T_load ho hti hx) (nat_val k n)
theorem T_load_int {t : TypeId} {x : Operand} {k : IntKind} {n : Int} (ho : o.op = .load t x) (hti : TI C.P t false 1) (hx : Opd Γ x (Ty.place (Seg.of (Kd.int k) n))) : TOp C Δ Γ o (Ty.val (.int k n)) := T_sub (T_load ho hti hx) (int_val k n)
theorem T_load_bool {t : TypeId} {x : Operand} {b : Bool} (ho : o.op = .load t x) (hti : TI C.P t false 1) (hx : Opd Γ x (Ty.place (Seg.of Kd.bool b))) : TOp C Δ Γ o (Ty.val (.bool b)) := T_sub (T_load ho hti hx) (bool_val b)
theorem T_load_own_nat {t t' : TypeId} {x : Operand} {g off i : Nat} {S : Seg} {k : IntKind} {n : Nat} (ho : o.op = .load t x) (hx : Opd Γ x (Ty.val (ptr g off))) (hi : Δ[i]? = some (Res.box g t' S)) (hsub : Sub S off (Seg.of (Kd.nat k) n)) (hti : TI C.P t false 1) : TOp C Δ Γ o (Ty.val (.int k n)) := T_sub (T_load_own ho hx hi hsub hti) (nat_val k n)
theorem T_load_own_int {t t' : TypeId} {x : Operand} {g off i : Nat} {S : Seg} {k : IntKind} {n : Int} (ho : o.op = .load t x) (hx : Opd Γ x (Ty.val (ptr g off))) (hi : Δ[i]? = some (Res.box g t' S)) (hsub : Sub S off (Seg.of (Kd.int k) n)) (hti : TI C.P t false 1) : TOp C Δ Γ o (Ty.val (.int k n)) := T_sub (T_load_own ho hx hi hsub hti) (int_val k n)
theorem T_load_own_bool {t t' : TypeId} {x : Operand} {g off i : Nat} {S : Seg} {b : Bool} (ho : o.op = .load t x) (hx : Opd Γ x (Ty.val (ptr g off))) (hi : Δ[i]? = some (Res.box g t' S)) (hsub : Sub S off (Seg.of Kd.bool b)) (hti : TI C.P t false 1) : TOp C Δ Γ o (Ty.val (.bool b)) := T_sub (T_load_own ho hx hi hsub hti) (bool_val b)
theorem T_load_elt_nat {t e : TypeId} {x : Operand} {k : IntKind} {xs : List Nat} {v : Value} {n i : Nat} (ho : o.op = .load t x) (hx : Opd Γ x (Ty.val (eltPtr v 1 n))) (hi : Δ[i]? = some (Res.sl v e (Kd.nat k) xs)) (hlt : n < xs.length) (hti : TI C.P t false 1) : TOp C Δ Γ o (Ty.val (.int k xs[n])) := T_sub (T_load_elt (d := Kd.nat k) ho hx hi hlt hti) (nat_val k _)
theorem T_load_elt_int {t e : TypeId} {x : Operand} {k : IntKind} {xs : List Int} {v : Value} {n i : Nat} (ho : o.op = .load t x) (hx : Opd Γ x (Ty.val (eltPtr v 1 n))) (hi : Δ[i]? = some (Res.sl v e (Kd.int k) xs)) (hlt : n < xs.length) (hti : TI C.P t false 1) : TOp C Δ Γ o (Ty.val (.int k xs[n])) := T_sub (T_load_elt (d := Kd.int k) ho hx hi hlt hti) (int_val k _)
def OpdAllLe (Γ : Env) : List Operand → List Ty → Prop
  | [], [] => True
  | x :: xs, T :: Ts => OpdLe Γ x T ∧ OpdAllLe Γ xs Ts
  | _, _ => False
theorem OpdAllLe.spec {Γ : Env} : ∀ {xs : List Operand} {Ts : List Ty}, OpdAllLe Γ xs Ts → ∃ Us, OpdAll Γ xs Us ∧ Us.length = Ts.length ∧ ∀ (i : Nat) (U T : Ty), Us[i]? = some U → Ts[i]? = some T → Ty.le U T
  | [], [], _ => ⟨[], trivial, rfl, fun i U T h => by simp at h⟩
  | x :: xs, T :: Ts, h => by
    obtain ⟨⟨U, h1, h2⟩, h3⟩ := h
    obtain ⟨Us, h4, h5, h6⟩ := OpdAllLe.spec h3
    refine ⟨U :: Us, ⟨h1, h4⟩, by simp [h5], fun i V T' hV hT' => ?_⟩
    cases i with
    | zero => simp at hV hT'; subst hV; subst hT'; exact h2
    | succ i => exact h6 i V T' (by simpa using hV) (by simpa using hT')
  | [], _ :: _, h => h.elim
  | _ :: _, [], h => h.elim
theorem Spec.arg {f : FuncId} {ins Us : List Ty} {out : Ty} (h : Spec C f ins out) (hl : Us.length = ins.length) (hle : ∀ (i : Nat) (U T : Ty), Us[i]? = some U → ins[i]? = some T → Ty.le U T) : Spec C f Us out := fun m w args h1 h2 h3 => h m w args h1 h2 (h3.le hl hle)
theorem T_callL {f : FuncId} {xs : Array Operand} {ts : Array TypeId} {ins : List Ty} {T : Ty} (ho : o.op = .call { callee := .value (.func f), args := xs, argTypes := ts }) (he : Enters C.P f) (hf : Spec C f ins T) (hx : OpdAllLe Γ xs.toList ins) : TOp C Δ Γ o T := by
  obtain ⟨Us, h1, h2, h3⟩ := hx.spec
  exact T_call ho he (hf.arg h2 h3) h1
theorem SpecM.arg {f : FuncId} {ins Us : List Ty} {Δin : List Res} {Y : Type} {out : Y → Ty} {Δout : Y → List Res} (h : SpecM C f ins Δin out Δout) (hl : Us.length = ins.length) (hle : ∀ (i : Nat) (U T : Ty), Us[i]? = some U → ins[i]? = some T → Ty.le U T) : SpecM C f Us Δin out Δout := fun m w args h1 h2 h3 h4 => h m w args h1 h2 (h3.le hl hle) h4

/-- A literal of elements. -/
def litParts : Nat → List Operand → List (Nat × Operand)
  | _, [] => []
  | i, x :: xs => (i, x) :: litParts (i + 1) xs
theorem fill_lit {α : Type} {d : Kd α} (z : Seg) (hz : z.sz = d.sz) : ∀ (ys : List α) (xs : List Operand) (pre : List α), OpdAllLe Γ xs (ys.map (fun y => Ty.of d y)) →
    Fill Γ (fun i => some (i * d.sz, d.sz)) (Seg.cat (pre.map (Seg.of d) ++ List.replicate ys.length z)) (litParts pre.length xs) (Seg.cat ((pre ++ ys).map (Seg.of d)))
  | [], [], pre, _ => by simp only [List.length_nil, List.replicate_zero, List.append_nil, litParts]; exact Fill.nil _
  | y :: ys, x :: xs, pre, h => by
    have ih := fill_lit z hz ys xs (pre ++ [y]) h.2
    simp only [litParts]
    refine Fill.cons (T := Seg.of d y) (off := pre.length * d.sz) rfl h.1 (Upd.cat (S := z) pre.length ?_ ?_ hz) ?_
    · rw [List.getElem?_append_right (by simp)]; simp [List.length_map, List.replicate_succ]
    · rw [List.take_append_of_le_length (by simp), List.take_of_length_le (by simp)]
      clear ih h
      induction pre with
      | nil => simp [sizes]
      | cons p pre ih => simp only [List.map_cons, sizes, ih, List.length_cons, Nat.succ_mul]; show d.sz + _ = _; omega
    · have e : (pre.map (Seg.of d) ++ List.replicate (y :: ys).length z).set pre.length (Seg.of d y) = (pre ++ [y]).map (Seg.of d) ++ List.replicate ys.length z := by
        rw [List.set_append_right _ _ (by simp)]
        simp [List.replicate_succ]
      rw [e]
      simpa using ih
  | [], _ :: _, _, h => h.elim
  | _ :: _, [], _, h => h.elim
theorem catP_repl {m : GH} {z : Seg} {zs : List Value} (h : z.p m zs) : ∀ n, CatP m (List.replicate n z) (List.replicate n zs).flatten
  | 0 => rfl
  | n + 1 => ⟨zs, _, by simp [List.replicate_succ], h, catP_repl h n⟩
theorem T_lits {t e : TypeId} {n : Nat} {parts : Array (Nat × Operand)} {α : Type} {d : Kd α} {xs : List Operand} (ys : List α) {z : Value} (ho : o.op = .buildSlice t n parts) (hp : parts.toList = litParts 0 xs) (hu : C.P.underlying t = some (.slice e)) (hti : TI C.P e d.agg d.sz)
    (hz : ZeroOf C.P e z) (hzl : z.cells.toList.length = d.sz) (hone : (z.cells.toList.all fun u => u.oneCell') = true) (hpos : n * d.sz ≠ 0) (hbig : n * d.sz ≤ 2 ^ 24) (hx : OpdAllLe Γ xs (ys.map (fun y => Ty.of d y))) (hn : ys.length = n) : TOp C Δ Γ o (Ty.of (Kd.slice d) ys) := by
  have hne : z.cells.toList ≠ [] := by
    intro e; rw [e] at hzl; simp at hzl; rw [← hzl] at hpos; simp at hpos
  refine T_buildSlice (S0 := Seg.cat (List.replicate ys.length (Seg.lit z.cells.toList (oneAll_of hone)))) ho hu hti hz hpos hbig (fun m => ?_) ?_ hn
  · have := made_flatten z.cells.toList hne n
    rw [← hzl]
    simp only [Array.toArray_toList] at this
    rw [this, ← hn]
    exact catP_repl rfl _
  · rw [hp]
    have := fill_lit (Γ := Γ) (d := d) (Seg.lit z.cells.toList (oneAll_of hone)) hzl ys xs [] hx
    simpa using this

/-! Slices of slices, by which bounds are given -/
theorem T_slice_h {t e : TypeId} {x y : Operand} {k : IntKind} {h : Int} {α : Type} {d : Kd α} {xs : List α} (ho : o.op = .slice t x none (some y) none) (hu : C.P.underlying t = some (.slice e)) (hti : TI C.P e d.agg d.sz)
    (hx : Opd Γ x (Ty.of (Kd.slice d) xs)) (hy : Opd Γ y (Ty.val (.int k h))) (h0 : 0 ≤ h) (h1 : h.toNat ≤ xs.length) : TOp C Δ Γ o (Ty.of (Kd.slice d) (xs.take h.toNat)) := by
  have := T_slice (C := C) (Δ := Δ) (o := o) (l := none) (h := some h) (k := k) (k' := k) ho hu hti hx trivial hy ⟨(fun l hl => by cases hl), (fun h' hh => by cases hh; exact h0), by simp [loOf], h1⟩
  simpa [loOf, hiOf] using this
theorem T_slice_l {t e : TypeId} {x y : Operand} {k : IntKind} {l : Int} {α : Type} {d : Kd α} {xs : List α} (ho : o.op = .slice t x (some y) none none) (hu : C.P.underlying t = some (.slice e)) (hti : TI C.P e d.agg d.sz)
    (hx : Opd Γ x (Ty.of (Kd.slice d) xs)) (hy : Opd Γ y (Ty.val (.int k l))) (h0 : 0 ≤ l) (h1 : l.toNat ≤ xs.length) : TOp C Δ Γ o (Ty.of (Kd.slice d) (xs.drop l.toNat)) := by
  have := T_slice (C := C) (Δ := Δ) (o := o) (l := some l) (h := none) (k := k) (k' := k) ho hu hti hx hy trivial ⟨(fun l' hl => by cases hl; exact h0), (fun h' hh => by cases hh), by simpa [loOf, hiOf] using h1, Nat.le_refl _⟩
  simp only [loOf, hiOf] at this
  rwa [List.take_of_length_le (by simp)] at this
theorem T_slice_lh {t e : TypeId} {x y z : Operand} {k k' : IntKind} {l h : Int} {α : Type} {d : Kd α} {xs : List α} (ho : o.op = .slice t x (some y) (some z) none) (hu : C.P.underlying t = some (.slice e)) (hti : TI C.P e d.agg d.sz)
    (hx : Opd Γ x (Ty.of (Kd.slice d) xs)) (hy : Opd Γ y (Ty.val (.int k l))) (hz : Opd Γ z (Ty.val (.int k' h))) (h0 : 0 ≤ l) (h1 : l ≤ h) (h2 : h.toNat ≤ xs.length) : TOp C Δ Γ o (Ty.of (Kd.slice d) ((xs.drop l.toNat).take (h.toNat - l.toNat))) :=
  T_slice (C := C) (Δ := Δ) (o := o) (l := some l) (h := some h) (k := k) (k' := k') ho hu hti hx hy hz ⟨(fun l' hl => by cases hl; exact h0), (fun h' hh => by cases hh; omega), by simp only [loOf, hiOf]; omega, h2⟩
theorem T_sstr_h {t : TypeId} {x y : Operand} {k : IntKind} {h : Int} {s : List UInt8} (ho : o.op = .slice t x none (some y) none) (hu : C.P.underlying t = some .string)
    (hx : Opd Γ x (Ty.of Kd.str s)) (hy : Opd Γ y (Ty.val (.int k h))) (h0 : 0 ≤ h) (h1 : h.toNat ≤ s.length) : TOp C Δ Γ o (Ty.of Kd.str (s.take h.toNat)) := by
  have := T_slice_str (C := C) (Δ := Δ) (o := o) (l := none) (h := some h) (k := k) (k' := k) ho hu hx trivial hy ⟨(fun l hl => by cases hl), (fun h' hh => by cases hh; exact h0), by simp [loOf], h1⟩
  simpa [loOf, hiOf] using this
theorem T_sstr_l {t : TypeId} {x y : Operand} {k : IntKind} {l : Int} {s : List UInt8} (ho : o.op = .slice t x (some y) none none) (hu : C.P.underlying t = some .string)
    (hx : Opd Γ x (Ty.of Kd.str s)) (hy : Opd Γ y (Ty.val (.int k l))) (h0 : 0 ≤ l) (h1 : l.toNat ≤ s.length) : TOp C Δ Γ o (Ty.of Kd.str (s.drop l.toNat)) := by
  have := T_slice_str (C := C) (Δ := Δ) (o := o) (l := some l) (h := none) (k := k) (k' := k) ho hu hx hy trivial ⟨(fun l' hl => by cases hl; exact h0), (fun h' hh => by cases hh), by simpa [loOf, hiOf] using h1, Nat.le_refl _⟩
  simp only [loOf, hiOf] at this
  rwa [List.take_of_length_le (by simp)] at this
theorem T_sstr_lh {t : TypeId} {x y z : Operand} {k k' : IntKind} {l h : Int} {s : List UInt8} (ho : o.op = .slice t x (some y) (some z) none) (hu : C.P.underlying t = some .string)
    (hx : Opd Γ x (Ty.of Kd.str s)) (hy : Opd Γ y (Ty.val (.int k l))) (hz : Opd Γ z (Ty.val (.int k' h))) (h0 : 0 ≤ l) (h1 : l ≤ h) (h2 : h.toNat ≤ s.length) : TOp C Δ Γ o (Ty.of Kd.str ((s.drop l.toNat).take (h.toNat - l.toNat))) :=
  T_slice_str (C := C) (Δ := Δ) (o := o) (l := some l) (h := some h) (k := k) (k' := k') ho hu hx hy hz ⟨(fun l' hl => by cases hl; exact h0), (fun h' hh => by cases hh; omega), by simp only [loOf, hiOf]; omega, h2⟩

/-! Loops, what is kept named by slots -/
def pick (Γ : Env) : List Nat → Env
  | [] => []
  | s :: ss => match Env.get Γ s with
    | some T => (s, T) :: pick Γ ss
    | none => pick Γ ss
theorem pick_sub (Γ : Env) : ∀ (ss : List Nat), EnvSub Γ (pick Γ ss)
  | [] => EnvSub.nil Γ
  | s :: ss => by
    unfold pick
    cases h : Env.get Γ s with
    | none => exact pick_sub Γ ss
    | some T => exact EnvSub.cons h (pick_sub Γ ss)
theorem get_append (A B : Env) (s : Nat) : Env.get (A ++ B) s = (Env.get A s).or (Env.get B s) := by
  induction A with
  | nil => rfl
  | cons x A ih =>
    obtain ⟨k, T⟩ := x
    rw [List.cons_append, Env.get_cons, Env.get_cons, ih]
    by_cases e : k = s
    · rw [if_pos e, if_pos e]; rfl
    · rw [if_neg e, if_neg e]
theorem EnvSub.append {Γ A B : Env} (hA : EnvSub Γ A) (hB : EnvSub Γ B) : EnvSub Γ (A ++ B) := fun s T h => by
  rw [get_append] at h
  cases hs : Env.get A s with
  | none => rw [hs] at h; exact hB s T h
  | some U => rw [hs] at h; cases h; exact hA s _ hs
theorem sLoop {X : Type} (md : X → Env) (keep : List Nat) (ΔI : X → List Res) (good : X → Prop) (μ : X → Nat) (x0 : X) (h0 : good x0) (hΔ : Δ = ΔI x0) (hΓ : EnvSub Γ (md x0)) {b : Code}
    (h : ∀ x, good x → JS F (loopQ F (fun x => ⟨md x ++ pick Γ keep, ΔI x⟩) good μ (μ x) Q) (md x ++ pick Γ keep) (ΔI x) [b]) : JS F Q Γ Δ (.loop b :: cs) :=
  JS_loop (fun x => ⟨md x ++ pick Γ keep, ΔI x⟩) good μ x0 h0 hΔ (hΓ.append (pick_sub Γ keep)) h
end rules

end Go.Proofs.YtknflgfkhkdomaaGreatDoor.Mono

/-! MonoY -/
set_option linter.unusedVariables false
set_option linter.unusedSimpArgs false
namespace Go.Proofs.YtknflgfkhkdomaaGreatDoor.Mono
open Go Go.RowKit

theorem ol {Γ : Env} {x : Operand} {T0 T : Ty} (h : Opd Γ x T0) (h' : Ty.le T0 T) : OpdLe Γ x T := ⟨T0, h, h'⟩
theorem oa0 {Γ : Env} : OpdAllLe Γ [] [] := trivial
theorem oa {Γ : Env} {x : Operand} {xs : List Operand} {T : Ty} {Ts : List Ty} (h : OpdLe Γ x T) (h' : OpdAllLe Γ xs Ts) : OpdAllLe Γ (x :: xs) (T :: Ts) := ⟨h, h'⟩
theorem Ty.le.trans {T U V : Ty} (h : Ty.le T U) (h' : Ty.le U V) : Ty.le T V := fun m v hv => h' m v (h m v hv)
theorem Ty.le_any (T : Ty) : Ty.le T Ty.any := fun _ _ _ => trivial
theorem of_eq {α : Type} {d : Kd α} {x y : α} (h : x = y) : Ty.le (Ty.of d x) (Ty.of d y) := by rw [h]; exact Ty.le.refl _
theorem int_eq {k : IntKind} {x y : Int} (h : x = y) : Ty.le (Ty.val (.int k x)) (Ty.val (.int k y)) := by rw [h]; exact Ty.le.refl _
theorem bool_eq {x y : Bool} (h : x = y) : Ty.le (Ty.val (.bool x)) (Ty.val (.bool y)) := by rw [h]; exact Ty.le.refl _
theorem dec_eq {p q : Prop} [Decidable p] [Decidable q] (h : p ↔ q) : Ty.le (Ty.val (.bool (decide p))) (Ty.val (.bool (decide q))) := by rw [show decide p = decide q from decide_eq_decide.2 h]; exact Ty.le.refl _
theorem getD_at {xs : List Int} {n : Int} (i : Nat) (hn : n = i) (h : n.toNat < xs.length) : xs[n.toNat] = xs.getD i 0 := by
  subst hn; rw [List.getD_eq_getElem?_getD]; simp only [Int.toNat_natCast] at h ⊢; rw [List.getElem?_eq_getElem h]; rfl
theorem getD_in {xs : List Int} {n : Nat} (i : Nat) (hn : n = i) (h : n < xs.length) : xs[n] = xs.getD i 0 := by
  subst hn; rw [List.getD_eq_getElem?_getD, List.getElem?_eq_getElem h]; rfl
theorem fc {Γ : Env} {place : Nat → Option (Nat × Nat)} {S S' S'' T : Seg} {i off : Nat} {x : Operand} {rest : List (Nat × Operand)} (hx : OpdLe Γ x (Ty.seg T)) (hu : Upd S off T S') (hp : place i = some (off, T.sz)) (h : Fill Γ place S' rest S'') : Fill Γ place S ((i, x) :: rest) S'' := Fill.cons hp hx hu h
theorem uc {Ss : List Seg} {S T : Seg} {off i : Nat} (hi : Ss[i]? = some S) (ho : sizes (Ss.take i) = off) (hsz : S.sz = T.sz) : Upd (Seg.cat Ss) off T (Seg.cat (Ss.set i T)) := Upd.cat i hi ho hsz
theorem sc {Ss : List Seg} {S : Seg} {off i : Nat} (hi : Ss[i]? = some S) (ho : sizes (Ss.take i) = off) : Sub (Seg.cat Ss) off S := Sub.cat i hi ho
def Kd.val : Kd Value := ⟨1, false, fun _ v cs => cs = [v] ∧ v.oneCell' = true, fun _ h => h, fun h => by rw [h.1]; rfl, fun h u hu => by rw [h.1] at hu; rw [List.mem_singleton.1 hu]; exact h.2, fun _ => rfl⟩
theorem to_kval {v : Value} (h : v.oneCell' = true) : Ty.le (Ty.val v) (Ty.of Kd.val v) := fun m u hu => ⟨[v], ⟨rfl, h⟩, hu⟩
theorem of_kval (v : Value) : Ty.le (Ty.of Kd.val v) (Ty.val v) := fun m u ⟨cs, h1, h2⟩ => by rw [show cs = [v] from h1.1] at h2; exact h2
theorem z_slice {α : Type} (d : Kd α) : ∀ m, (Seg.of (Kd.slice d) []).p m [.slice none 0 0] := fun m => ⟨_, rfl, none, 0, rfl, Nat.le_refl _, by unfold maxLen; omega, .inl rfl⟩
/-- A function with a body is entered. -/
theorem enters_fn {P : Program} {f : FuncId} {fn : Func} (h : P.funcs[f]? = some fn) (hn : (fn.name == "runtime.NumGoroutine") = false) (hb : fn.body.isNone = false) : Enters P f := fun args w => by
  simp only [callFunc, Sem.run_bind, run_program, Result.andThen_ok, h, hn, hb, Bool.false_eq_true, if_false, Sem.run_pure]
theorem str_opdL {Γ : Env} {x : Operand} {l : List UInt8} {m : GH} {ac : Act} {all : List Operand} (hx : OpdLe Γ x (Ty.of Kd.str l)) (htt : Typed Γ m ac all) (hm : x ∈ all) : ac.eval x = .string (Kd.bs l) := by
  obtain ⟨cs, h1, h2⟩ := hx.p htt hm
  rw [h2, show cs = _ from h1]; rfl

section rules
variable {F : Fr} {Q : Post} {Γ : Env} {Δ : List Res} {cs : List Code} {ops : Array Oper} {draw : Bool} {l : List Oper} {dst : Option Tmp} {ty : TypeId} {pos : String} {after : Array Edge} {C : Ctx} {o : Oper}

theorem T_lt {t yt : TypeId} {x y : Operand} {k : IntKind} {a b : Int} (ho : o.op = .binOp .lss t x y yt) (hx : Opd Γ x (Ty.val (.int k a))) (hy : Opd Γ y (Ty.val (.int k b))) : TOp C Δ Γ o (Ty.val (.bool (decide (a < b)))) := T_cmp ho rfl hx hy
theorem T_le {t yt : TypeId} {x y : Operand} {k : IntKind} {a b : Int} (ho : o.op = .binOp .leq t x y yt) (hx : Opd Γ x (Ty.val (.int k a))) (hy : Opd Γ y (Ty.val (.int k b))) : TOp C Δ Γ o (Ty.val (.bool (decide (a ≤ b)))) := T_cmp ho rfl hx hy
theorem T_gt {t yt : TypeId} {x y : Operand} {k : IntKind} {a b : Int} (ho : o.op = .binOp .gtr t x y yt) (hx : Opd Γ x (Ty.val (.int k a))) (hy : Opd Γ y (Ty.val (.int k b))) : TOp C Δ Γ o (Ty.val (.bool (decide (b < a)))) := T_cmp ho rfl hx hy
theorem T_ge {t yt : TypeId} {x y : Operand} {k : IntKind} {a b : Int} (ho : o.op = .binOp .geq t x y yt) (hx : Opd Γ x (Ty.val (.int k a))) (hy : Opd Γ y (Ty.val (.int k b))) : TOp C Δ Γ o (Ty.val (.bool (decide (b ≤ a)))) := T_cmp ho rfl hx hy
theorem T_eq {t yt : TypeId} {x y : Operand} {k : IntKind} {a b : Int} (ho : o.op = .binOp .eql t x y yt) (hx : Opd Γ x (Ty.val (.int k a))) (hy : Opd Γ y (Ty.val (.int k b))) : TOp C Δ Γ o (Ty.val (.bool (decide (a = b)))) := T_cmp ho rfl hx hy
theorem T_ne {t yt : TypeId} {x y : Operand} {k : IntKind} {a b : Int} (ho : o.op = .binOp .neq t x y yt) (hx : Opd Γ x (Ty.val (.int k a))) (hy : Opd Γ y (Ty.val (.int k b))) : TOp C Δ Γ o (Ty.val (.bool (decide (a ≠ b)))) := T_cmp ho rfl hx hy
theorem T_seq {t yt : TypeId} {x y : Operand} {k l : List UInt8} (ho : o.op = .binOp .eql t x y yt) (hx : OpdLe Γ x (Ty.of Kd.str k)) (hy : OpdLe Γ y (Ty.of Kd.str l)) : TOp C Δ Γ o (Ty.val (.bool (decide (k = l)))) := by
  intro m w a hs _ _ _ htt
  have h1 : a.eval x = .string (Kd.bs k) := str_opdL hx htt (by simp [ho, Op.operands])
  have h2 : a.eval y = .string (Kd.bs l) := str_opdL hy htt (by simp [ho, Op.operands])
  refine Gives.value (v := .bool (decide (k = l))) (by simp [ho]) ?_ hs rfl
  have e1 := bs_toList k; have e2 := bs_toList l
  generalize Kd.bs k = b at h1 e1; generalize Kd.bs l = c at h2 e2
  simp [execOp, ho, h1, h2, eqGuard_str, binOp, Op.stringOp, e1, e2]
  by_cases e : k = l <;> simp [e]
theorem T_sne {t yt : TypeId} {x y : Operand} {k l : List UInt8} (ho : o.op = .binOp .neq t x y yt) (hx : OpdLe Γ x (Ty.of Kd.str k)) (hy : OpdLe Γ y (Ty.of Kd.str l)) : TOp C Δ Γ o (Ty.val (.bool (decide (k ≠ l)))) := by
  intro m w a hs _ _ _ htt
  have h1 : a.eval x = .string (Kd.bs k) := str_opdL hx htt (by simp [ho, Op.operands])
  have h2 : a.eval y = .string (Kd.bs l) := str_opdL hy htt (by simp [ho, Op.operands])
  refine Gives.value (v := .bool (decide (k ≠ l))) (by simp [ho]) ?_ hs rfl
  have e1 := bs_toList k; have e2 := bs_toList l
  generalize Kd.bs k = b at h1 e1; generalize Kd.bs l = c at h2 e2
  simp [execOp, ho, h1, h2, eqGuard_str, binOp, Op.stringOp, e1, e2]
  by_cases e : k = l <;> simp [e]
theorem T_sadd {t yt : TypeId} {x y : Operand} {k l : List UInt8} (ho : o.op = .binOp .add t x y yt) (hx : OpdLe Γ x (Ty.of Kd.str k)) (hy : OpdLe Γ y (Ty.of Kd.str l)) (hlen : k.length + l.length ≤ maxLen) : TOp C Δ Γ o (Ty.of Kd.str (k ++ l)) := by
  intro m w a hs _ _ _ htt
  have h1 : a.eval x = .string (Kd.bs k) := str_opdL hx htt (by simp [ho, Op.operands])
  have h2 : a.eval y = .string (Kd.bs l) := str_opdL hy htt (by simp [ho, Op.operands])
  refine Gives.value (v := .string (Kd.bs (k ++ l))) (by simp [ho]) ?_ hs ⟨[.string (Kd.bs (k ++ l))], rfl, rfl⟩
  have e1 := Kd.size_bs k; have e2 := Kd.size_bs l; have e3 := bs_append k l
  generalize Kd.bs k = b at *; generalize Kd.bs l = c at *; generalize Kd.bs (k ++ l) = d at *
  have hn : ¬ (IntKind.i64.max < (b.size : Int) + (c.size : Int)) := by
    rw [e1, e2]; unfold maxLen at hlen
    have : IntKind.i64.max = 9223372036854775807 := by decide
    rw [this]; omega
  have hn2 : (b.size : Int) + (c.size : Int) ≤ 9223372036854775807 := by unfold maxLen at hlen; omega
  simp [execOp, ho, h1, h2, eqGuard_str, binOp, Op.stringOp, e3, hn, hn2]
theorem T_notD {t : TypeId} {x : Operand} {p : Prop} [Decidable p] (ho : o.op = .unOp .not t x) (hx : Opd Γ x (Ty.val (.bool (decide p)))) : TOp C Δ Γ o (Ty.val (.bool (decide (¬ p)))) := by
  have := T_not (C := C) (Δ := Δ) ho hx
  rwa [show (!decide p) = decide (¬ p) by simp] at this
/-! The same rules, the operands ahead of the types' facts (for the sake of unification) -/
theorem T_ld {t : TypeId} {x : Operand} {S : Seg} (ho : o.op = .load t x) (hx : Opd Γ x (Ty.place S)) (hti : TI C.P t S.agg S.sz) : TOp C Δ Γ o (Ty.seg S) := T_load ho hti hx
theorem T_ix {t e : TypeId} {x i : Operand} {k : IntKind} {n : Int} {α : Type} {d : Kd α} {xs : List α} {y : α} (ho : o.op = .indexAddr t x i) (hx : Opd Γ x (Ty.of (Kd.slice d) xs)) (hi : Opd Γ i (Ty.val (.int k n))) (hu : C.P.underlying t = some (.slice e)) (hti : TI C.P e d.agg d.sz) (h0 : 0 ≤ n) (hlt : n.toNat < xs.length) (hy : xs[n.toNat] = y) : TOp C Δ Γ o (Ty.place (Seg.of d y)) := by subst hy; exact T_indexAddr ho hu hti hx hi h0 hlt
theorem T_ixo {t e e' : TypeId} {x i : Operand} {k : IntKind} {n : Int} {α : Type} {d : Kd α} {xs : List α} {v : Value} {ix : Nat} (ho : o.op = .indexAddr t x i) (hx : Opd Γ x (Ty.val v)) (hix : Δ[ix]? = some (Res.sl v e' d xs)) (hi : Opd Γ i (Ty.val (.int k n))) (hu : C.P.underlying t = some (.slice e)) (hti : TI C.P e d.agg d.sz) (h0 : 0 ≤ n) (hlt : n.toNat < xs.length) : TOp C Δ Γ o (Ty.val (eltPtr v d.sz n.toNat)) := T_indexAddr_own ho hu hti hx hix hi h0 hlt
theorem T_sl_h {t e : TypeId} {x y : Operand} {k : IntKind} {h : Int} {α : Type} {d : Kd α} {xs : List α} (ho : o.op = .slice t x none (some y) none) (hx : Opd Γ x (Ty.of (Kd.slice d) xs)) (hy : Opd Γ y (Ty.val (.int k h))) (hu : C.P.underlying t = some (.slice e)) (hti : TI C.P e d.agg d.sz) (h0 : 0 ≤ h) (h1 : h.toNat ≤ xs.length) : TOp C Δ Γ o (Ty.of (Kd.slice d) (xs.take h.toNat)) := T_slice_h ho hu hti hx hy h0 h1
theorem T_sl_l {t e : TypeId} {x y : Operand} {k : IntKind} {l : Int} {α : Type} {d : Kd α} {xs : List α} (ho : o.op = .slice t x (some y) none none) (hx : Opd Γ x (Ty.of (Kd.slice d) xs)) (hy : Opd Γ y (Ty.val (.int k l))) (hu : C.P.underlying t = some (.slice e)) (hti : TI C.P e d.agg d.sz) (h0 : 0 ≤ l) (h1 : l.toNat ≤ xs.length) : TOp C Δ Γ o (Ty.of (Kd.slice d) (xs.drop l.toNat)) := T_slice_l ho hu hti hx hy h0 h1
theorem T_sl_lh {t e : TypeId} {x y z : Operand} {k k' : IntKind} {l h : Int} {α : Type} {d : Kd α} {xs : List α} (ho : o.op = .slice t x (some y) (some z) none) (hx : Opd Γ x (Ty.of (Kd.slice d) xs)) (hy : Opd Γ y (Ty.val (.int k l))) (hz : Opd Γ z (Ty.val (.int k' h))) (hu : C.P.underlying t = some (.slice e)) (hti : TI C.P e d.agg d.sz) (h0 : 0 ≤ l) (h1 : l ≤ h) (h2 : h.toNat ≤ xs.length) : TOp C Δ Γ o (Ty.of (Kd.slice d) ((xs.drop l.toNat).take (h.toNat - l.toNat))) := T_slice_lh ho hu hti hx hy hz h0 h1 h2
theorem T_lde_int {t e : TypeId} {x : Operand} {k : IntKind} {xs : List Int} {v : Value} {n i : Nat} {y : Int} (ho : o.op = .load t x) (hx : Opd Γ x (Ty.val (eltPtr v 1 n))) (hi : Δ[i]? = some (Res.sl v e (Kd.int k) xs)) (hti : TI C.P t false 1) (hlt : n < xs.length) (hy : xs[n] = y) : TOp C Δ Γ o (Ty.val (.int k y)) := by subst hy; exact T_load_elt_int ho hx hi hlt hti
theorem T_lde {t e : TypeId} {x : Operand} {α : Type} {d : Kd α} {xs : List α} {v : Value} {n i : Nat} {y : α} (ho : o.op = .load t x) (hx : Opd Γ x (Ty.val (eltPtr v d.sz n))) (hi : Δ[i]? = some (Res.sl v e d xs)) (hti : TI C.P t d.agg d.sz) (hlt : n < xs.length) (hy : xs[n] = y) : TOp C Δ Γ o (Ty.of d y) := by subst hy; exact T_load_elt ho hx hi hlt hti
theorem T_ixs {t : TypeId} {x i : Operand} {k : IntKind} {n : Int} {l : List UInt8} {y : UInt8} (ho : o.op = .index t x i) (hx : Opd Γ x (Ty.of Kd.str l)) (hi : Opd Γ i (Ty.val (.int k n))) (hu : C.P.underlying t = some .string) (h0 : 0 ≤ n) (hlt : n.toNat < l.length) (hy : l[n.toNat] = y) : TOp C Δ Γ o (Ty.val (.int .u8 y.toNat)) := by subst hy; exact T_index_str ho hu hx hi h0 hlt
/-- A slice that is known is not too long. -/
theorem JS_bound {α : Type} {d : Kd α} {xs : List α} {s : Nat} (hg : Env.get Γ s = some (Ty.of (Kd.slice d) xs)) (h : xs.length ≤ maxLen → JS F Q Γ Δ cs) : JS F Q Γ Δ cs := fun m w a hs => by
  obtain ⟨_, ⟨v, _, base, cap, _, h1, h2, _⟩, _⟩ := hs.ty s _ hg
  exact h (Nat.le_trans h1 h2) m w a hs
theorem JS_bound_pl {α : Type} {d : Kd α} {xs : List α} {s : Nat} (hg : Env.get Γ s = some (Ty.place (Seg.of (Kd.slice d) xs))) (h : xs.length ≤ maxLen → JS F Q Γ Δ cs) : JS F Q Γ Δ cs := fun m w a hs => by
  obtain ⟨_, _, _, _, _, ⟨v, _, base, cap, _, h1, h2, _⟩⟩ := hs.ty s _ hg
  exact h (Nat.le_trans h1 h2) m w a hs
theorem JS_bound_own {α : Type} {d : Kd α} {xs : List α} {i : Nat} {v : Value} {e : TypeId} (hi : Δ[i]? = some (Res.sl v e d xs)) (h : xs.length ≤ maxLen → JS F Q Γ Δ cs) : JS F Q Γ Δ cs := fun m w a hs => by
  obtain ⟨_, cap, _, h1, h2⟩ := sl_form (hs.own _ (List.mem_of_getElem? hi))
  exact h (Nat.le_trans h1 h2) m w a hs
/-- A slice of one's own fills one cell. -/
theorem JS_one {α : Type} {d : Kd α} {xs : List α} {i : Nat} {v : Value} {e : TypeId} (hi : Δ[i]? = some (Res.sl v e d xs)) (h : v.oneCell' = true → JS F Q Γ Δ cs) : JS F Q Γ Δ cs := fun m w a hs => by
  obtain ⟨a', cap, hv, h1, h2⟩ := sl_form (hs.own _ (List.mem_of_getElem? hi))
  exact h (by rw [hv]; rfl) m w a hs
theorem JT_one {α : Type} {d : Kd α} {xs : List α} {i : Nat} {v : Value} {e : TypeId} (hi : Δ[i]? = some (Res.sl v e d xs)) (h : v.oneCell' = true → JT F Q cs ops Γ Δ l) : JT F Q cs ops Γ Δ l := fun m w a hs => by
  obtain ⟨a', cap, hv, h1, h2⟩ := sl_form (hs.own _ (List.mem_of_getElem? hi))
  exact h (by rw [hv]; rfl) m w a hs
theorem T_load_own_val {t t' : TypeId} {x : Operand} {g off i : Nat} {S : Seg} {v : Value} (ho : o.op = .load t x) (hx : Opd Γ x (Ty.val (ptr g off))) (hi : Δ[i]? = some (Res.box g t' S)) (hsub : Sub S off (Seg.of Kd.val v)) (hti : TI C.P t false 1) : TOp C Δ Γ o (Ty.val v) := T_sub (T_load_own ho hx hi hsub hti) (of_kval v)
theorem JS_ct {c : Operand} {x y : Code} (hc : Opd Γ c (Ty.val (.bool true))) (h : JS F Q Γ Δ (x :: cs)) : JS F Q Γ Δ (.cond c x y :: cs) := JS_cond hc (fun _ => h) (fun e => by cases e)
theorem JS_cf {c : Operand} {x y : Code} (hc : Opd Γ c (Ty.val (.bool false))) (h : JS F Q Γ Δ (y :: cs)) : JS F Q Γ Δ (.cond c x y :: cs) := JS_cond hc (fun e => by cases e) (fun _ => h)
theorem tk_if {d : Nat} {p : Prop} [Decidable p] (hg : Env.get Γ d = some (Ty.val (.bool (decide p)))) (ht : p → TK F Q cs ops draw Δ Γ l) (hf : ¬ p → TK F Q cs ops draw Δ Γ l) : TK F Q cs ops draw Δ Γ l :=
  tk_split hg (fun e => ht (of_decide_eq_true e)) (fun e => hf (of_decide_eq_false e))
theorem jt_if {d : Nat} {p : Prop} [Decidable p] (hg : Env.get Γ d = some (Ty.val (.bool (decide p)))) (ht : p → JT F Q cs ops Γ Δ l) (hf : ¬ p → JT F Q cs ops Γ Δ l) : JT F Q cs ops Γ Δ l :=
  jt_split hg (fun e => ht (of_decide_eq_true e)) (fun e => hf (of_decide_eq_false e))
theorem wTD {o : Oper} {j : Nat} {d : Tmp} {p : Prop} [Decidable p] (hp : p) (ho : o.guard = some (j, true)) (hj : (ops[j]?).bind (·.dst) = some d) (hg : Env.get Γ d = some (Ty.val (.bool (decide p)))) : Wanted Γ ops o true := wT ho hj hg (decide_eq_true hp)
theorem wFD {o : Oper} {j : Nat} {d : Tmp} {p : Prop} [Decidable p] (hp : ¬ p) (ho : o.guard = some (j, false)) (hj : (ops[j]?).bind (·.dst) = some d) (hg : Env.get Γ d = some (Ty.val (.bool (decide p)))) : Wanted Γ ops o true := wT ho hj hg (decide_eq_false hp)
theorem uTD {o : Oper} {j : Nat} {d : Tmp} {p : Prop} [Decidable p] (hp : p) (ho : o.guard = some (j, false)) (hj : (ops[j]?).bind (·.dst) = some d) (hg : Env.get Γ d = some (Ty.val (.bool (decide p)))) : Wanted Γ ops o false := wF ho hj hg (by rw [decide_eq_true hp]; simp)
theorem uFD {o : Oper} {j : Nat} {d : Tmp} {p : Prop} [Decidable p] (hp : ¬ p) (ho : o.guard = some (j, true)) (hj : (ops[j]?).bind (·.dst) = some d) (hg : Env.get Γ d = some (Ty.val (.bool (decide p)))) : Wanted Γ ops o false := wF ho hj hg (by rw [decide_eq_false hp]; simp)
theorem T_pickD {c x y : Operand} {T : Ty} {p : Prop} [Decidable p] (hp : p) (ho : o.op = .pick c x y) (hc : Opd Γ c (Ty.val (.bool (decide p)))) (hx : Opd Γ x T) : TOp C Δ Γ o T := T_pickT ho hc (decide_eq_true hp) hx
theorem T_pickN {c x y : Operand} {T : Ty} {p : Prop} [Decidable p] (hp : ¬ p) (ho : o.op = .pick c x y) (hc : Opd Γ c (Ty.val (.bool (decide p)))) (hx : Opd Γ y T) : TOp C Δ Γ o T := T_pickF ho hc (decide_eq_false hp) hx
theorem kS {op : Op} {j : Nat} {w : Bool} (hw : Wanted Γ ops ⟨dst, op, ty, pos, after, some (j, w)⟩ false) (hd : dstOk F.N dst = true) (h : TK F Q cs ops draw Δ (Env.put Γ dst (Ty.val undef)) l) : TK F Q cs ops draw Δ Γ (⟨dst, op, ty, pos, after, some (j, w)⟩ :: l) := TK_skip hw hd h
theorem jS {op : Op} {j : Nat} {w : Bool} (hw : Wanted Γ ops ⟨dst, op, ty, pos, after, some (j, w)⟩ false) (hd : dstOk F.N dst = true) (h : JT F Q cs ops (Env.put Γ dst (Ty.val undef)) Δ l) : JT F Q cs ops Γ Δ (⟨dst, op, ty, pos, after, some (j, w)⟩ :: l) := JT_skip hw hd h

theorem EnvSub.pick1 {Γ' : Env} {s : Nat} {ss : List Nat} (h : Env.get Γ s = Env.get Γ' s) (h' : EnvSub Γ (pick Γ' ss)) : EnvSub Γ (pick Γ' (s :: ss)) := by
  unfold pick
  cases e : Env.get Γ' s with
  | none => exact h'
  | some T => exact EnvSub.cons (h.trans e) h'
/-- Own blocks said anew, by their places in the list. -/
def sets : List (Nat × Res) → List Res → List Res
  | [], Δ => Δ
  | (i, r) :: rs, Δ => sets rs (Δ.set i r)
theorem sLoop0 (keep : List Nat) (good : Prop) (h0 : good) {b : Code}
    (h : good → JS F (loopQ F (fun (_ : Unit) => ⟨pick Γ keep, Δ⟩) (fun _ => good) (fun _ => 0) 0 Q) (pick Γ keep) Δ [b]) : JS F Q Γ Δ (.loop b :: cs) :=
  JS_loop (fun (_ : Unit) => ⟨pick Γ keep, Δ⟩) (fun _ => good) (fun _ => 0) () h0 rfl (pick_sub Γ keep) (fun _ hx => h hx)
theorem sLoop1 {X : Type} (md : X → Env) (keep : List Nat) (ch : X → List (Nat × Res)) (good : X → Prop) (μ : X → Nat) (x0 : X) (h0 : good x0) (hΔ : Δ = sets (ch x0) Δ) (hΓ : EnvSub Γ (md x0)) {b : Code}
    (h : ∀ x, good x → JS F (loopQ F (fun x => ⟨md x ++ pick Γ keep, sets (ch x) Δ⟩) good μ (μ x) Q) (md x ++ pick Γ keep) (sets (ch x) Δ) [b]) : JS F Q Γ Δ (.loop b :: cs) :=
  sLoop md keep (fun x => sets (ch x) Δ) good μ x0 h0 hΔ hΓ h
theorem sLoopD {X : Type} (md : X → Env) (keep : List Nat) (ΔI : X → List Res) (good : X → Prop) (μ : X → Nat) (x0 : X) (h0 : good x0) (hΔ : Δ = ΔI x0) (hΓ : EnvSub Γ (md x0)) {b : Code}
    (h : ∀ x, good x → JS F (loopQ F (fun x => ⟨md x ++ pick Γ keep, ΔI x⟩) good μ (μ x) Q) (md x ++ pick Γ keep) (ΔI x) [b]) : JS F Q Γ Δ (.loop b :: cs) :=
  sLoop md keep ΔI good μ x0 h0 hΔ hΓ h
theorem sLoopD2 {X Y : Type} (md : X → Y → Env) (keep : List Nat) (ΔI : X → Y → List Res) (good : X → Y → Prop) (μ : X → Y → Nat) (x0 : X) (y0 : Y) (h0 : good x0 y0) (hΔ : Δ = ΔI x0 y0) (hΓ : EnvSub Γ (md x0 y0)) {b : Code}
    (h : ∀ x y, good x y → JS F (loopQ F (fun (p : X × Y) => ⟨md p.1 p.2 ++ pick Γ keep, ΔI p.1 p.2⟩) (fun p => good p.1 p.2) (fun p => μ p.1 p.2) (μ x y) Q) (md x y ++ pick Γ keep) (ΔI x y) [b]) : JS F Q Γ Δ (.loop b :: cs) :=
  sLoopD (X := X × Y) (fun p => md p.1 p.2) keep (fun p => ΔI p.1 p.2) (fun p => good p.1 p.2) (fun p => μ p.1 p.2) (x0, y0) h0 hΔ hΓ (fun p hp => h p.1 p.2 hp)
theorem sLoop2 {X Y : Type} (md : X → Y → Env) (keep : List Nat) (ch : X → Y → List (Nat × Res)) (good : X → Y → Prop) (μ : X → Y → Nat) (x0 : X) (y0 : Y) (h0 : good x0 y0) (hΔ : Δ = sets (ch x0 y0) Δ) (hΓ : EnvSub Γ (md x0 y0)) {b : Code}
    (h : ∀ x y, good x y → JS F (loopQ F (fun (p : X × Y) => ⟨md p.1 p.2 ++ pick Γ keep, sets (ch p.1 p.2) Δ⟩) (fun p => good p.1 p.2) (fun p => μ p.1 p.2) (μ x y) Q) (md x y ++ pick Γ keep) (sets (ch x y) Δ) [b]) : JS F Q Γ Δ (.loop b :: cs) :=
  sLoop1 (X := X × Y) (fun p => md p.1 p.2) keep (fun p => ch p.1 p.2) (fun p => good p.1 p.2) (fun p => μ p.1 p.2) (x0, y0) h0 hΔ hΓ (fun p hp => h p.1 p.2 hp)
theorem sLoop3 {X Y Z : Type} (md : X → Y → Z → Env) (keep : List Nat) (ch : X → Y → Z → List (Nat × Res)) (good : X → Y → Z → Prop) (μ : X → Y → Z → Nat) (x0 : X) (y0 : Y) (z0 : Z) (h0 : good x0 y0 z0) (hΔ : Δ = sets (ch x0 y0 z0) Δ) (hΓ : EnvSub Γ (md x0 y0 z0)) {b : Code}
    (h : ∀ x y z, good x y z → JS F (loopQ F (fun (p : X × Y × Z) => ⟨md p.1 p.2.1 p.2.2 ++ pick Γ keep, sets (ch p.1 p.2.1 p.2.2) Δ⟩) (fun p => good p.1 p.2.1 p.2.2) (fun p => μ p.1 p.2.1 p.2.2) (μ x y z) Q) (md x y z ++ pick Γ keep) (sets (ch x y z) Δ) [b]) : JS F Q Γ Δ (.loop b :: cs) :=
  sLoop1 (X := X × Y × Z) (fun p => md p.1 p.2.1 p.2.2) keep (fun p => ch p.1 p.2.1 p.2.2) (fun p => good p.1 p.2.1 p.2.2) (fun p => μ p.1 p.2.1 p.2.2) (x0, y0, z0) h0 hΔ hΓ (fun p hp => h p.1 p.2.1 p.2.2 hp)
theorem sLoop4 {X Y Z W : Type} (md : X → Y → Z → W → Env) (keep : List Nat) (ch : X → Y → Z → W → List (Nat × Res)) (good : X → Y → Z → W → Prop) (μ : X → Y → Z → W → Nat) (x0 : X) (y0 : Y) (z0 : Z) (w0 : W) (h0 : good x0 y0 z0 w0) (hΔ : Δ = sets (ch x0 y0 z0 w0) Δ) (hΓ : EnvSub Γ (md x0 y0 z0 w0)) {b : Code}
    (h : ∀ x y z w, good x y z w → JS F (loopQ F (fun (p : X × Y × Z × W) => ⟨md p.1 p.2.1 p.2.2.1 p.2.2.2 ++ pick Γ keep, sets (ch p.1 p.2.1 p.2.2.1 p.2.2.2) Δ⟩) (fun p => good p.1 p.2.1 p.2.2.1 p.2.2.2) (fun p => μ p.1 p.2.1 p.2.2.1 p.2.2.2) (μ x y z w) Q) (md x y z w ++ pick Γ keep) (sets (ch x y z w) Δ) [b]) : JS F Q Γ Δ (.loop b :: cs) :=
  sLoop1 (X := X × Y × Z × W) (fun p => md p.1 p.2.1 p.2.2.1 p.2.2.2) keep (fun p => ch p.1 p.2.1 p.2.2.1 p.2.2.2) (fun p => good p.1 p.2.1 p.2.2.1 p.2.2.2) (fun p => μ p.1 p.2.1 p.2.2.1 p.2.2.2) (x0, y0, z0, w0) h0 hΔ hΓ (fun p hp => h p.1 p.2.1 p.2.2.1 p.2.2.2 hp)

/-- Two ways that meet again: what follows is proved once. -/
def joinQ (F : Fr) {X : Type} (inv : X → Inv) (good : X → Prop) (Q : Post) : Post
  | .normal, a, w => ∃ x, good x ∧ ∃ m, St F (inv x).Γ (inv x).Δ m w a
  | e, a, w => Q e a w
theorem JS_join1 {X : Type} (md : X → Env) (keep : List Nat) (ch : X → List (Nat × Res)) (good : X → Prop) {c : Code}
    (h1 : JS F (joinQ F (fun x => ⟨md x ++ pick Γ keep, sets (ch x) Δ⟩) good Q) Γ Δ [c]) (h2 : ∀ x, good x → JS F Q (md x ++ pick Γ keep) (sets (ch x) Δ) cs) : JS F Q Γ Δ (c :: cs) := fun m w a hs => by
  refine wpIn_mono (h1 m w a hs) ?_
  intro e a w hq
  cases e with
  | normal =>
    obtain ⟨x, hx, m', hst⟩ := hq
    exact h2 x hx m' w a hst
  | exit i => exact hq
  | goto l => exact hq
  | ret => exact hq
  | panic c => exact hq
  | outgrown => exact hq
theorem JS_join0 (keep : List Nat) (good : Prop) {c : Code}
    (h1 : JS F (joinQ F (fun (_ : Unit) => ⟨pick Γ keep, Δ⟩) (fun _ => good) Q) Γ Δ [c]) (h2 : good → JS F Q (pick Γ keep) Δ cs) : JS F Q Γ Δ (c :: cs) :=
  JS_join1 (X := Unit) (fun _ => []) keep (fun _ => []) (fun _ => good) h1 (fun _ hx => h2 hx)
theorem JS_join2 {X Y : Type} (md : X → Y → Env) (keep : List Nat) (ch : X → Y → List (Nat × Res)) (good : X → Y → Prop) {c : Code}
    (h1 : JS F (joinQ F (fun (p : X × Y) => ⟨md p.1 p.2 ++ pick Γ keep, sets (ch p.1 p.2) Δ⟩) (fun p => good p.1 p.2) Q) Γ Δ [c]) (h2 : ∀ x y, good x y → JS F Q (md x y ++ pick Γ keep) (sets (ch x y) Δ) cs) : JS F Q Γ Δ (c :: cs) :=
  JS_join1 (X := X × Y) (fun p => md p.1 p.2) keep (fun p => ch p.1 p.2) (fun p => good p.1 p.2) h1 (fun p hp => h2 p.1 p.2 hp)
theorem JS_join3 {X Y Z : Type} (md : X → Y → Z → Env) (keep : List Nat) (ch : X → Y → Z → List (Nat × Res)) (good : X → Y → Z → Prop) {c : Code}
    (h1 : JS F (joinQ F (fun (p : X × Y × Z) => ⟨md p.1 p.2.1 p.2.2 ++ pick Γ keep, sets (ch p.1 p.2.1 p.2.2) Δ⟩) (fun p => good p.1 p.2.1 p.2.2) Q) Γ Δ [c]) (h2 : ∀ x y z, good x y z → JS F Q (md x y z ++ pick Γ keep) (sets (ch x y z) Δ) cs) : JS F Q Γ Δ (c :: cs) :=
  JS_join1 (X := X × Y × Z) (fun p => md p.1 p.2.1 p.2.2) keep (fun p => ch p.1 p.2.1 p.2.2) (fun p => good p.1 p.2.1 p.2.2) h1 (fun p hp => h2 p.1 p.2.1 p.2.2 hp)
theorem JS_meet {X : Type} {inv : X → Inv} {good : X → Prop} (x : X) (hg : good x) (hΔ : Δ = (inv x).Δ) (hΓ : EnvSub Γ (inv x).Γ) : JS F (joinQ F inv good Q) Γ Δ [] := fun m w a hs => ⟨x, hg, m, by rw [← hΔ]; exact hs.sub hΓ⟩
theorem JE_join_exit {X : Type} {inv : X → Inv} {good : X → Prop} {i : Nat} (h : JE F Q Γ Δ (.exit i)) : JE F (joinQ F inv good Q) Γ Δ (.exit i) := fun m w a hs => h m w a hs
theorem JE_join_ret {X : Type} {inv : X → Inv} {good : X → Prop} (h : JE F Q Γ Δ .ret) : JE F (joinQ F inv good Q) Γ Δ .ret := fun m w a hs => h m w a hs
theorem JE_join_goto {X : Type} {inv : X → Inv} {good : X → Prop} {l : Nat} (h : JE F Q Γ Δ (.goto l)) : JE F (joinQ F inv good Q) Γ Δ (.goto l) := fun m w a hs => h m w a hs
/-- The end of a region whose guards split it: what follows is proved once. -/
theorem kEJ {Γ' : Env} (hk : JS F Q Γ' Δ cs) (hs : EnvSub Γ Γ') : TK F Q cs ops false Δ Γ [] := kE (JS_sub hs hk)
theorem kDJ {Γ' : Env} (hd : okDraw ops.toList ops.size = true) (hk : JS F Q Γ' Δ cs) (hs : EnvSub Γ Γ') : TK F Q cs ops true Δ Γ [] := kD hd (JS_sub hs hk)
end rules

end Go.Proofs.YtknflgfkhkdomaaGreatDoor.Mono

/-! MonoW -/
set_option linter.unusedVariables false
set_option linter.unusedSimpArgs false
namespace Go.Proofs.YtknflgfkhkdomaaGreatDoor.Mono
open Go Go.RowKit

/-- What the globals hold: a length, the powers of ten. -/
def glob0 (o : Obj) : Prop := ∃ (n : Int) (t : TypeId) (fr : Nat × Nat), o = .cells #[.int .i64 n] t fr
def glob1 (o : Obj) : Prop := ∃ (t : TypeId) (fr : Nat × Nat), o = .cells (((List.range 20).map fun i => ((10 ^ i : Nat) : Int)).map fun z => Value.int .u64 z).toArray t fr
noncomputable def CC : Ctx := ⟨Tryz.prog, fun m => (∃ o, m 0 = some o ∧ glob0 o) ∧ ∃ o, m 1 = some o ∧ glob1 o, fun hm ⟨⟨o, h1, h2⟩, p, h3, h4⟩ => ⟨⟨o, hm _ _ h1, h2⟩, p, hm _ _ h3, h4⟩⟩

/-! Natural numbers by limbs of nine digits -/
def lims (n : Nat) : List Int := if n = 0 then [] else ((n % 1000000000 : Nat) : Int) :: lims (n / 1000000000)
termination_by n
decreasing_by omega
/-- The value of limbs. -/
def lval : List Int → Nat
  | [] => 0
  | x :: l => x.toNat + 1000000000 * lval l
def LOk (l : List Int) : Prop := ∀ x ∈ l, 0 ≤ x ∧ x < 1000000000
theorem lims_zero : lims 0 = [] := by rw [lims]; simp
theorem lims_pos {n : Nat} (h : n ≠ 0) : lims n = ((n % 1000000000 : Nat) : Int) :: lims (n / 1000000000) := by rw [lims, if_neg h]
theorem lims_ok (n : Nat) : LOk (lims n) := by
  induction n using Nat.strongRecOn with
  | _ n ih =>
    by_cases h : n = 0
    · subst h; rw [lims_zero]; intro x hx; cases hx
    · rw [lims_pos h]
      intro x hx
      rcases List.mem_cons.1 hx with rfl | hx
      · omega
      · exact ih (n / 1000000000) (by omega) x hx
theorem lval_lims (n : Nat) : lval (lims n) = n := by
  induction n using Nat.strongRecOn with
  | _ n ih =>
    by_cases h : n = 0
    · subst h; rw [lims_zero]; rfl
    · rw [lims_pos h]
      simp only [lval, ih (n / 1000000000) (by omega)]
      omega
theorem lims_nil {n : Nat} : lims n = [] ↔ n = 0 := by
  constructor
  · intro h
    by_cases h0 : n = 0
    · exact h0
    · rw [lims_pos h0] at h; cases h
  · rintro rfl; exact lims_zero
theorem lims_len (n : Nat) : (lims n).length = 0 ↔ n = 0 := by rw [List.length_eq_zero_iff, lims_nil]
/-- No zero at the end. -/
def LTop (l : List Int) : Prop := ∀ x, l.getLast? = some x → x ≠ 0
theorem LTop.tail {x : Int} {l : List Int} (h : LTop (x :: l)) : LTop l := fun y hy => by
  cases l with
  | nil => simp at hy
  | cons z l => exact h y (by rw [List.getLast?_cons_cons]; exact hy)
theorem lval_pos {l : List Int} (hok : LOk l) (ht : LTop l) (hne : l ≠ []) : 0 < lval l := by
  induction l with
  | nil => exact absurd rfl hne
  | cons x l ih =>
    have hx := hok x (by simp)
    cases l with
    | nil =>
      have := ht x (by simp)
      simp only [lval]; omega
    | cons y l =>
      have := ih (fun z hz => hok z (List.mem_cons_of_mem _ hz)) ht.tail (by simp)
      simp only [lval] at this ⊢
      omega
/-- Limbs without a zero at the end are those of their value. -/
theorem lims_lval {l : List Int} (hok : LOk l) (ht : LTop l) : lims (lval l) = l := by
  induction l with
  | nil => exact lims_zero
  | cons x l ih =>
    have hp := lval_pos hok ht (by simp)
    have hx := hok x (by simp)
    have ih := ih (fun z hz => hok z (List.mem_cons_of_mem _ hz)) ht.tail
    rw [lims_pos (by omega)]
    have e1 : lval (x :: l) % 1000000000 = x.toNat := by simp only [lval]; rw [Nat.add_mul_mod_self_left]; exact Nat.mod_eq_of_lt (by omega)
    have e2 : lval (x :: l) / 1000000000 = lval l := by
      simp only [lval]; rw [Nat.add_mul_div_left _ _ (by decide)]
      rw [Nat.div_eq_of_lt (by omega)]; omega
    rw [e1, e2, ih]
    congr 1; omega
theorem lims_top (n : Nat) : LTop (lims n) := by
  induction n using Nat.strongRecOn with
  | _ n ih =>
    by_cases h : n = 0
    · subst h; rw [lims_zero]; intro x hx; simp at hx
    · rw [lims_pos h]
      intro x hx
      cases e : lims (n / 1000000000) with
      | nil =>
        rw [e] at hx; simp at hx
        have := lims_nil.1 e
        omega
      | cons y l =>
        have := ih (n / 1000000000) (by omega)
        rw [e] at hx this
        rw [List.getLast?_cons_cons] at hx
        exact this x hx
theorem lval_append (l k : List Int) : lval (l ++ k) = lval l + 1000000000 ^ l.length * lval k := by
  induction l with
  | nil => simp [lval]
  | cons x l ih =>
    simp only [List.cons_append, lval, ih, List.length_cons, Nat.pow_succ]
    rw [Nat.mul_add, Nat.mul_comm (1000000000 ^ l.length) 1000000000, Nat.mul_assoc]; omega
theorem lval_lt {l : List Int} (hok : LOk l) : lval l < 1000000000 ^ l.length := by
  induction l with
  | nil => simp [lval]
  | cons x l ih =>
    have := ih (fun z hz => hok z (List.mem_cons_of_mem _ hz))
    have hx := hok x (by simp)
    simp only [lval, List.length_cons, Nat.pow_succ]
    have h2 : 1000000000 * (lval l + 1) ≤ 1000000000 * 1000000000 ^ l.length := Nat.mul_le_mul_left _ this
    rw [Nat.mul_comm (1000000000 ^ l.length)]; omega

/-! Integers -/
def Kd.whole : Kd Int := Kd.pair Kd.bool (Kd.slice (Kd.int .u32)) (fun z => decide (z < 0)) (fun z => lims z.natAbs)
theorem whole_neg (z : Int) : Sub (Seg.of Kd.whole z) 0 (Seg.of Kd.bool (decide (z < 0))) := Sub.fst _ _ _ _ z
theorem whole_mag (z : Int) : Sub (Seg.of Kd.whole z) 1 (Seg.of (Kd.slice (Kd.int .u32)) (lims z.natAbs)) := Sub.snd _ _ _ _ z rfl
theorem pair_le {α β γ : Type} {a : Kd α} {b : Kd β} {f : γ → α} {g : γ → β} (z : γ) : Ty.le (Ty.seg (Seg.cat [Seg.of a (f z), Seg.of b (g z)])) (Ty.of (Kd.pair a b f g) z) := fun m v ⟨cs, ⟨c1, r1, h1, h2, ⟨c2, r2, h3, h4, h5⟩⟩, hv⟩ =>
  ⟨cs, ⟨c1, c2, by rw [h1, h3, show r2 = [] from h5, List.append_nil], h2, h4⟩, hv⟩
theorem mk_whole {b : Bool} {l : List Int} {z : Int} (hb : b = decide (z < 0)) (hl : l = lims z.natAbs) : Ty.le (Ty.seg (Seg.cat [Seg.of Kd.bool b, Seg.of (Kd.slice (Kd.int .u32)) l])) (Ty.of Kd.whole z) := by
  subst hb; subst hl; exact pair_le (f := fun z : Int => decide (z < 0)) (g := fun z : Int => lims z.natAbs) z
/-- Integers by sign and magnitude, as they are computed. -/
def Kd.wraw : Kd (Bool × List Int) := Kd.pair Kd.bool (Kd.slice (Kd.int .u32)) (·.1) (·.2)
theorem mk_wraw (b : Bool) (l : List Int) : Ty.le (Ty.seg (Seg.cat [Seg.of Kd.bool b, Seg.of (Kd.slice (Kd.int .u32)) l])) (Ty.of Kd.wraw (b, l)) := pair_le (f := fun x : Bool × List Int => x.1) (g := fun x : Bool × List Int => x.2) (b, l)
end Go.Proofs.YtknflgfkhkdomaaGreatDoor.Mono

/-! MonoV -/
set_option linter.unusedVariables false
set_option linter.unusedSimpArgs false
namespace Go.Proofs.YtknflgfkhkdomaaGreatDoor.Mono
open Go Go.RowKit

/-- -1, 0 or 1. -/
def cmp3 (a b : Int) : Int := if a < b then -1 else if b < a then 1 else 0
/-- Limbs compared from a place down. -/
def cmpDown (m o : List Int) : Nat → Int
  | 0 => 0
  | i + 1 => if cmp3 (m.getD i 0) (o.getD i 0) ≠ 0 then cmp3 (m.getD i 0) (o.getD i 0) else cmpDown m o i
def cmpL (m o : List Int) : Int := if cmp3 m.length o.length ≠ 0 then cmp3 m.length o.length else cmpDown m o m.length
theorem getD_nat (m : List Int) (i : Nat) (h : i < m.length) : m.getD i 0 = m[i] := by rw [List.getD_eq_getElem?_getD, List.getElem?_eq_getElem h]; rfl
theorem getD_out (m : List Int) (i : Nat) (h : m.length ≤ i) : m.getD i 0 = 0 := by rw [List.getD_eq_getElem?_getD, List.getElem?_eq_none h]; rfl
theorem cmp3_zero {a b : Int} (h : ¬ cmp3 a b ≠ 0) : a = b := by unfold cmp3 at h; repeat (split at h <;> try omega)
theorem sign_lims {z : Int} (h : ¬ ((lims z.natAbs).length : Int) = 0) : z ≠ 0 := by
  rintro rfl; exact h (by simp [lims_zero])

theorem LOk.get {l : List Int} (h : LOk l) (i : Nat) : 0 ≤ l.getD i 0 ∧ l.getD i 0 < 1000000000 := by
  rcases Nat.lt_or_ge i l.length with hi | hi
  · rw [getD_nat l i hi]; exact h _ (List.getElem_mem hi)
  · rw [getD_out l i hi]; omega
theorem LOk.take {l : List Int} (h : LOk l) (i : Nat) : LOk (l.take i) := fun x hx => h x (List.mem_of_mem_take hx)
theorem LOk.drop {l : List Int} (h : LOk l) (i : Nat) : LOk (l.drop i) := fun x hx => h x (List.mem_of_mem_drop hx)
theorem LOk.snoc {l : List Int} {x : Int} (h : LOk l) (h0 : 0 ≤ x) (h1 : x < 1000000000) : LOk (l ++ [x]) := fun y hy => by
  rcases List.mem_append.1 hy with hy | hy
  · exact h y hy
  · rw [List.mem_singleton.1 hy]; exact ⟨h0, h1⟩
theorem lval_snoc (l : List Int) (x : Int) : lval (l ++ [x]) = lval l + 1000000000 ^ l.length * x.toNat := by rw [lval_append]; simp [lval]
theorem lval_take_succ (l : List Int) (i : Nat) : lval (l.take (i + 1)) = lval (l.take i) + 1000000000 ^ i * (l.getD i 0).toNat := by
  rcases Nat.lt_or_ge i l.length with hi | hi
  · rw [List.take_succ_eq_append_getElem hi, lval_snoc, List.length_take, Nat.min_eq_left (by omega), getD_nat l i hi]
  · rw [List.take_of_length_le (by omega), List.take_of_length_le hi, getD_out l i hi]; simp
theorem lval_take (l : List Int) {i : Nat} (h : l.length ≤ i) : lval (l.take i) = lval l := by rw [List.take_of_length_le h]
theorem pow9_pos (i : Nat) : 0 < 1000000000 ^ i := Nat.pow_pos (by decide)
theorem lval_ge {l : List Int} (hok : LOk l) (ht : LTop l) (hne : l ≠ []) : 1000000000 ^ (l.length - 1) ≤ lval l := by
  induction l with
  | nil => exact absurd rfl hne
  | cons x l ih =>
    have hx := hok x (by simp)
    cases l with
    | nil =>
      have := ht x (by simp)
      simp only [lval, List.length_cons, List.length_nil]; omega
    | cons y l =>
      have := ih (fun z hz => hok z (List.mem_cons_of_mem _ hz)) ht.tail (by simp)
      simp only [lval, List.length_cons, Nat.add_sub_cancel, Nat.pow_succ] at this ⊢
      rw [Nat.mul_comm (1000000000 ^ l.length)]
      have h2 := Nat.mul_le_mul_left 1000000000 this
      omega
theorem top_of_ge {l : List Int} (hok : LOk l) (h : l ≠ [] → 1000000000 ^ (l.length - 1) ≤ lval l) : LTop l := by
  intro x hx hx0
  subst hx0
  have hne : l ≠ [] := by rintro rfl; simp at hx
  obtain ⟨k, rfl⟩ : ∃ k, l = k ++ [0] := by
    refine ⟨l.dropLast, ?_⟩
    have hx' : l.getLast hne = 0 := by
      rw [List.getLast?_eq_some_getLast hne] at hx
      exact Option.some.inj hx
    conv => lhs; rw [← List.dropLast_concat_getLast hne, hx']
  have h1 := h hne
  have h2 := lval_lt (fun x hx => hok x (List.mem_append.2 (.inl hx)) : LOk k)
  rw [lval_snoc] at h1
  simp at h1
  omega

theorem cmpDown_law {m o : List Int} (hm : LOk m) (ho : LOk o) (i : Nat) : cmpDown m o i = cmp3 (lval (m.take i)) (lval (o.take i)) := by
  induction i with
  | zero => simp [cmpDown, cmp3, lval]
  | succ i ih =>
    have h1 := hm.get i; have h2 := ho.get i
    have b1 := lval_lt (hm.take i); have b2 := lval_lt (ho.take i)
    have c1 : lval (m.take i) < 1000000000 ^ i := Nat.lt_of_lt_of_le b1 (Nat.pow_le_pow_right (by decide) (by simp; omega))
    have c2 : lval (o.take i) < 1000000000 ^ i := Nat.lt_of_lt_of_le b2 (Nat.pow_le_pow_right (by decide) (by simp; omega))
    rw [cmpDown, ih, lval_take_succ, lval_take_succ]
    generalize m.getD i 0 = x at *
    generalize o.getD i 0 = y at *
    obtain ⟨a, rfl⟩ := Int.eq_ofNat_of_zero_le h1.1
    obtain ⟨b, rfl⟩ := Int.eq_ofNat_of_zero_le h2.1
    simp only [Int.ofNat_eq_natCast, Int.toNat_natCast] at *
    generalize 1000000000 ^ i = p at *
    rcases Nat.lt_trichotomy a b with hlt | heq | hgt
    · have := Nat.mul_le_mul_left p (show a + 1 ≤ b from hlt)
      rw [Nat.mul_add] at this
      unfold cmp3
      rw [if_pos (by rw [if_pos (by omega)]; decide), if_pos (by omega), if_pos (by omega)]
    · subst heq
      have e : cmp3 (a : Int) a = 0 := by unfold cmp3; simp
      rw [if_neg (by rw [e]; simp)]
      unfold cmp3
      by_cases h3 : lval (m.take i) < lval (o.take i)
      · rw [if_pos (by omega), if_pos (by omega)]
      · by_cases h4 : lval (o.take i) < lval (m.take i)
        · rw [if_neg (by omega), if_pos (by omega), if_neg (by omega), if_pos (by omega)]
        · rw [if_neg (by omega), if_neg (by omega), if_neg (by omega), if_neg (by omega)]
    · have := Nat.mul_le_mul_left p (show b + 1 ≤ a from hgt)
      rw [Nat.mul_add] at this
      unfold cmp3
      rw [if_pos (by rw [if_neg (by omega), if_pos (by omega)]; decide), if_neg (by omega), if_pos (by omega), if_neg (by omega), if_pos (by omega)]
theorem lims_len_lt {a b : Nat} (h : (lims a).length < (lims b).length) : a < b := by
  have h1 := lval_lt (lims_ok a)
  have h2 := lval_ge (lims_ok b) (lims_top b) (by intro e; rw [e] at h; simp at h)
  rw [lval_lims] at h1 h2
  have h3 : 1000000000 ^ (lims a).length ≤ 1000000000 ^ ((lims b).length - 1) := Nat.pow_le_pow_right (by decide) (by omega)
  omega
theorem lims_len_le {a b : Nat} (h : a ≤ b) : (lims a).length ≤ (lims b).length := by
  rcases Nat.lt_or_ge (lims b).length (lims a).length with h1 | h1
  · have := lims_len_lt h1; omega
  · exact h1
theorem cmpL_lims (a b : Nat) : cmpL (lims a) (lims b) = cmp3 a b := by
  unfold cmpL
  by_cases h : cmp3 (lims a).length (lims b).length ≠ 0
  · rw [if_pos h]
    unfold cmp3 at h ⊢
    by_cases h1 : (lims a).length < (lims b).length
    · have := lims_len_lt h1
      rw [if_pos (by omega), if_pos (by omega)]
    · by_cases h2 : (lims b).length < (lims a).length
      · have := lims_len_lt h2
        rw [if_neg (by omega), if_pos (by omega), if_neg (by omega), if_pos (by omega)]
      · exfalso; apply h; rw [if_neg (by omega), if_neg (by omega)]
  · rw [if_neg h, cmpDown_law (lims_ok a) (lims_ok b)]
    have := cmp3_zero h
    rw [List.take_length, lval_take _ (by omega), lval_lims, lval_lims]

/-! Sums -/
def addK (m o : List Int) : Nat → List Int × Int
  | 0 => ([], 0)
  | i + 1 => ((addK m o i).1 ++ [(m.getD i 0 + (addK m o i).2 + o.getD i 0) % 1000000000], (m.getD i 0 + (addK m o i).2 + o.getD i 0) / 1000000000)
theorem addK_law {m o : List Int} (hm : LOk m) (ho : LOk o) (i : Nat) : LOk (addK m o i).1 ∧ (addK m o i).1.length = i ∧ 0 ≤ (addK m o i).2 ∧ (addK m o i).2 ≤ 1 ∧ lval (addK m o i).1 + 1000000000 ^ i * (addK m o i).2.toNat = lval (m.take i) + lval (o.take i) := by
  induction i with
  | zero => exact ⟨by intro x hx; simp [addK] at hx, rfl, by simp [addK], by simp [addK], by simp [addK, lval]⟩
  | succ i ih =>
    obtain ⟨h1, h2, h3, h4, h5⟩ := ih
    have g1 := hm.get i; have g2 := ho.get i
    rw [lval_take_succ, lval_take_succ]
    simp only [addK]
    generalize m.getD i 0 = x at *
    generalize o.getD i 0 = y at *
    generalize (addK m o i).2 = c at *
    generalize (addK m o i).1 = l at *
    refine ⟨h1.snoc (by omega) (by omega), by simp [h2], by omega, by omega, ?_⟩
    rw [lval_snoc, h2, Nat.pow_succ]
    obtain ⟨a, rfl⟩ := Int.eq_ofNat_of_zero_le g1.1
    obtain ⟨b, rfl⟩ := Int.eq_ofNat_of_zero_le g2.1
    obtain ⟨d, rfl⟩ := Int.eq_ofNat_of_zero_le h3
    simp only [Int.ofNat_eq_natCast, Int.toNat_natCast] at *
    have e1 : (((a : Int) + d + b) % 1000000000).toNat = (a + d + b) % 1000000000 := by omega
    have e2 : (((a : Int) + d + b) / 1000000000).toNat = (a + d + b) / 1000000000 := by omega
    rw [e1, e2]
    have e3 : 1000000000 ^ i * ((a + d + b) % 1000000000) + 1000000000 ^ i * 1000000000 * ((a + d + b) / 1000000000) = 1000000000 ^ i * (a + d + b) := by
      rw [Nat.mul_assoc, ← Nat.mul_add]; congr 1; omega
    rw [Nat.mul_add, Nat.mul_add] at e3
    omega
theorem add_lims {a b : Nat} (h : (lims b).length ≤ (lims a).length) {c : Int} {l : List Int} (hl : l = (addK (lims a) (lims b) (lims a).length).1) (hc : c = (addK (lims a) (lims b) (lims a).length).2) :
    (0 < c → l ++ [c] = lims (a + b)) ∧ (¬ 0 < c → l = lims (a + b)) := by
  obtain ⟨h1, h2, h3, h4, h5⟩ := addK_law (lims_ok a) (lims_ok b) (lims a).length
  rw [← hl, ← hc] at h5
  rw [← hl] at h1 h2
  rw [← hc] at h3 h4
  rw [lval_take _ (Nat.le_refl _), lval_take _ h, lval_lims, lval_lims] at h5
  constructor
  · intro h0
    have e : lval (l ++ [c]) = a + b := by rw [lval_snoc, h2]; exact h5
    rw [← e]
    refine (lims_lval (h1.snoc h3 (by omega)) (fun x hx => ?_)).symm
    rw [List.getLast?_concat] at hx
    cases hx; omega
  · intro h0
    have e : lval l = a + b := by rw [← h5, show c = 0 by omega]; simp
    rw [← e]
    refine (lims_lval h1 (top_of_ge h1 (fun hne => ?_))).symm
    rw [h2, e]
    have hla : lims a ≠ [] := by intro e0; rw [e0] at h2; exact hne (List.length_eq_zero_iff.1 h2)
    have := lval_ge (lims_ok a) (lims_top a) hla
    rw [lval_lims] at this; omega

/-! Differences -/
def subK (m o : List Int) : Nat → List Int × Int
  | 0 => ([], 0)
  | i + 1 => ((subK m o i).1 ++ [(m.getD i 0 - (subK m o i).2 - o.getD i 0) % 1000000000], if m.getD i 0 - (subK m o i).2 - o.getD i 0 < 0 then 1 else 0)
theorem subK_law {m o : List Int} (hm : LOk m) (ho : LOk o) (i : Nat) : LOk (subK m o i).1 ∧ (subK m o i).1.length = i ∧ 0 ≤ (subK m o i).2 ∧ (subK m o i).2 ≤ 1 ∧ lval (subK m o i).1 + lval (o.take i) = lval (m.take i) + 1000000000 ^ i * (subK m o i).2.toNat := by
  induction i with
  | zero => exact ⟨by intro x hx; simp [subK] at hx, rfl, by simp [subK], by simp [subK], by simp [subK, lval]⟩
  | succ i ih =>
    obtain ⟨h1, h2, h3, h4, h5⟩ := ih
    have g1 := hm.get i; have g2 := ho.get i
    rw [lval_take_succ, lval_take_succ]
    simp only [subK]
    generalize m.getD i 0 = x at *
    generalize o.getD i 0 = y at *
    generalize (subK m o i).2 = c at *
    generalize (subK m o i).1 = l at *
    refine ⟨h1.snoc (by omega) (by omega), by simp [h2], by split <;> omega, by split <;> omega, ?_⟩
    rw [lval_snoc, h2, Nat.pow_succ]
    obtain ⟨a, rfl⟩ := Int.eq_ofNat_of_zero_le g1.1
    obtain ⟨b, rfl⟩ := Int.eq_ofNat_of_zero_le g2.1
    obtain ⟨d, rfl⟩ := Int.eq_ofNat_of_zero_le h3
    simp only [Int.ofNat_eq_natCast, Int.toNat_natCast] at *
    by_cases h0 : (a : Int) - d - b < 0
    · rw [if_pos h0]
      have e1 : (((a : Int) - d - b) % 1000000000).toNat = a + 1000000000 - d - b := by omega
      rw [e1, Int.toNat_one, Nat.mul_one]
      have e3 : 1000000000 ^ i * (a + 1000000000 - d - b) + 1000000000 ^ i * d + 1000000000 ^ i * b = 1000000000 ^ i * a + 1000000000 ^ i * 1000000000 := by
        rw [← Nat.mul_add, ← Nat.mul_add, ← Nat.mul_add]; congr 1; omega
      omega
    · rw [if_neg h0]
      have e1 : (((a : Int) - d - b) % 1000000000).toNat = a - d - b := by omega
      rw [e1, Int.toNat_zero, Nat.mul_zero]
      have e3 : 1000000000 ^ i * (a - d - b) + 1000000000 ^ i * d + 1000000000 ^ i * b = 1000000000 ^ i * a := by
        rw [← Nat.mul_add, ← Nat.mul_add]; congr 1; omega
      omega
/-- The limbs of a difference, as they are computed. -/
def subL (a b : Nat) : List Int := (subK (lims a) (lims b) (lims a).length).1
theorem subL_law {a b : Nat} (h : b ≤ a) : LOk (subL a b) ∧ (subL a b).length = (lims a).length ∧ lval (subL a b) = a - b := by
  obtain ⟨h1, h2, h3, h4, h5⟩ := subK_law (lims_ok a) (lims_ok b) (lims a).length
  refine ⟨h1, h2, ?_⟩
  unfold subL
  rw [lval_take _ (Nat.le_refl _), lval_take _ (lims_len_le h), lval_lims, lval_lims] at h5
  have hlt := lval_lt h1
  rw [h2] at hlt
  have hc : (subK (lims a) (lims b) (lims a).length).2.toNat = 0 := by
    rcases Nat.eq_zero_or_pos (subK (lims a) (lims b) (lims a).length).2.toNat with h0 | h0
    · exact h0
    · have := Nat.mul_le_mul_left (1000000000 ^ (lims a).length) h0
      omega
  rw [hc] at h5; omega

/-! Signs -/
def sgn (b : Bool) (n : Nat) : Int := if b then -(n : Int) else n
theorem sgn_abs (b : Bool) (n : Nat) : (sgn b n).natAbs = n := by unfold sgn; split <;> omega
theorem sgn_neg (b : Bool) (n : Nat) : decide (sgn b n < 0) = (b && decide (0 < n)) := by
  unfold sgn; cases b <;> simp <;> omega
theorem sgn_of (z : Int) : sgn (decide (z < 0)) z.natAbs = z := by unfold sgn; by_cases h : z < 0 <;> simp [h] <;> omega
/-- Zeros taken off the end. -/
theorem trim_step {l : List Int} {n : Nat} (hok : LOk l) (hv : lval l = n) (hlen : 0 < l.length) (h : l[l.length - 1] = 0) : LOk (l.take (l.length - 1)) ∧ lval (l.take (l.length - 1)) = n := by
  refine ⟨hok.take _, ?_⟩
  have e := lval_take_succ l (l.length - 1)
  rw [show l.length - 1 + 1 = l.length by omega, List.take_length, getD_nat l _ (by omega), h] at e
  simp at e; omega
theorem trim_last {l : List Int} (hlen : 0 < l.length) (h : ¬ l[l.length - 1] = 0) : LTop l := by
  intro x hx
  rw [List.getLast?_eq_getElem?, List.getElem?_eq_getElem (by omega)] at hx
  cases hx; exact h
theorem trim_nil {l : List Int} (h : ¬ 0 < l.length) : LTop l := by
  have : l = [] := List.length_eq_zero_iff.1 (by omega)
  subst this; intro x hx; simp at hx
theorem trim_fin {l : List Int} {n : Nat} (hok : LOk l) (hv : lval l = n) (ht : LTop l) (b : Bool) : l = lims (sgn b n).natAbs ∧ (b && decide (0 < l.length)) = decide (sgn b n < 0) := by
  have e := lims_lval hok ht
  rw [hv] at e
  rw [sgn_abs, sgn_neg]
  refine ⟨e.symm, ?_⟩
  congr 1
  have := lims_len n
  rw [e] at this
  by_cases h : n = 0
  · rw [h] at this ⊢; simp at this ⊢; exact this
  · have h2 : l.length ≠ 0 := fun h' => h (this.1 h')
    simp; omega
end Go.Proofs.YtknflgfkhkdomaaGreatDoor.Mono

/-! WkA -/
set_option linter.unusedVariables false
set_option linter.unusedSimpArgs false
set_option maxRecDepth 4000
set_option maxHeartbeats 4000000
namespace Go.Proofs.YtknflgfkhkdomaaGreatDoor.Mono
open Go Go.RowKit

theorem mixed : CC.P.follows .mixedOrders = true := by kernel_rfl

theorem w132 {x : Int} : Spec CC 132 [Ty.val (.int .i64 x)] (Ty.val (.bool false)) := by
  refine spec_of_JS Tryz.func132 rfl (Nat.le_of_ble_eq_true rfl) (fun gh0 wd0 => ?_)
  refine JS_seq ?_
  -- region 0
  refine sR ?_
  refine kA rfl rfl ?_
  refine kE ?_
  refine JS_seq ?_
  -- region 1
  refine sR ?_
  refine kM rfl rfl ?_
  refine kM rfl rfl ?_
  refine kO (T_ne rfl rfl rfl) rfl ?_
  refine kA rfl rfl ?_
  refine kE ?_
  exact JS_ret (JE_ret_one rfl rfl (.tmp rfl .nil) (bool_eq (by simp)))

theorem w151 {x : Int} : Spec CC 151 [Ty.val (.int .u32 x)] (Ty.val (.bool false)) := by
  refine spec_of_JS Tryz.func151 rfl (Nat.le_of_ble_eq_true rfl) (fun gh0 wd0 => ?_)
  refine JS_seq ?_
  -- region 0
  refine sR ?_
  refine kA rfl rfl ?_
  refine kE ?_
  refine JS_seq ?_
  -- region 1
  refine sR ?_
  refine kM rfl rfl ?_
  refine kM rfl rfl ?_
  refine kO (T_ne rfl rfl rfl) rfl ?_
  refine kA rfl rfl ?_
  refine kE ?_
  exact JS_ret (JE_ret_one rfl rfl (.tmp rfl .nil) (bool_eq (by simp)))

theorem en132 : Enters Tryz.prog 132 := enters_fn Tryz.func132 (by kernel_rfl) rfl

theorem w103 {a b : Int} : Spec CC 103 [Ty.val (.int .i64 a), Ty.val (.int .i64 b)] (Ty.val (.int .i64 (cmp3 a b))) := by
  refine spec_of_JS Tryz.func103 rfl (Nat.le_of_ble_eq_true rfl) (fun gh0 wd0 => ?_)
  refine JS_seq ?_
  -- region 0
  refine sR ?_
  refine kA rfl rfl ?_
  refine kE ?_
  refine JS_seq ?_
  -- region 1
  refine sR ?_
  refine kM rfl rfl ?_
  refine kO (T_callL rfl en132 (w132 ) (oa (ol rfl (Ty.le.refl _)) oa0)) rfl ?_
  refine kA rfl rfl ?_
  refine kE ?_
  refine JS_seq ?_
  -- region 2
  refine sR ?_
  refine kM rfl rfl ?_
  refine kO (T_callL rfl en132 (w132 ) (oa (ol rfl (Ty.le.refl _)) oa0)) rfl ?_
  refine kA rfl rfl ?_
  refine kE ?_
  refine JS_seq ?_
  refine JS_seq ?_
  -- region 3
  refine sR ?_
  refine kM rfl rfl ?_
  refine kE ?_
  refine JS_cf rfl ?_
  refine JS_skip ?_
  refine JS_seq ?_
  refine JS_seq ?_
  -- region 7
  refine sR ?_
  refine kM rfl rfl ?_
  refine kE ?_
  refine JS_cf rfl ?_
  refine JS_skip ?_
  refine JS_seq ?_
  refine JS_seq ?_
  -- region 9
  refine sR ?_
  refine kM rfl rfl ?_
  refine kM rfl rfl ?_
  refine kO (T_lt rfl rfl rfl) rfl ?_
  refine kE ?_
  refine JS_if rfl (fun c16 => ?_) (fun c16 => ?_)
  · refine JS_seq ?_
    -- region 10
    refine sR ?_
    refine kA rfl rfl ?_
    refine kE ?_
    exact JS_ret (JE_ret_one rfl rfl (.tmp rfl .nil) ((int_eq (by unfold cmp3; repeat (split <;> try omega)))))
  · refine JS_skip ?_
    refine JS_seq ?_
    refine JS_seq ?_
    -- region 11
    refine sR ?_
    refine kM rfl rfl ?_
    refine kM rfl rfl ?_
    refine kO (T_gt rfl rfl rfl) rfl ?_
    refine kE ?_
    refine JS_if rfl (fun c19 => ?_) (fun c19 => ?_)
    · refine JS_seq ?_
      -- region 12
      refine sR ?_
      refine kA rfl rfl ?_
      refine kE ?_
      exact JS_ret (JE_ret_one rfl rfl (.tmp rfl .nil) ((int_eq (by unfold cmp3; repeat (split <;> try omega)))))
    · refine JS_skip ?_
      refine JS_seq ?_
      -- region 13
      refine sR ?_
      refine kA rfl rfl ?_
      refine kE ?_
      exact JS_ret (JE_ret_one rfl rfl (.tmp rfl .nil) ((int_eq (by unfold cmp3; repeat (split <;> try omega)))))

theorem en151 : Enters Tryz.prog 151 := enters_fn Tryz.func151 (by kernel_rfl) rfl

theorem w133 {a b : Int} : Spec CC 133 [Ty.val (.int .u32 a), Ty.val (.int .u32 b)] (Ty.val (.int .i64 (cmp3 a b))) := by
  refine spec_of_JS Tryz.func133 rfl (Nat.le_of_ble_eq_true rfl) (fun gh0 wd0 => ?_)
  refine JS_seq ?_
  -- region 0
  refine sR ?_
  refine kA rfl rfl ?_
  refine kE ?_
  refine JS_seq ?_
  -- region 1
  refine sR ?_
  refine kM rfl rfl ?_
  refine kO (T_callL rfl en151 (w151 ) (oa (ol rfl (Ty.le.refl _)) oa0)) rfl ?_
  refine kA rfl rfl ?_
  refine kE ?_
  refine JS_seq ?_
  -- region 2
  refine sR ?_
  refine kM rfl rfl ?_
  refine kO (T_callL rfl en151 (w151 ) (oa (ol rfl (Ty.le.refl _)) oa0)) rfl ?_
  refine kA rfl rfl ?_
  refine kE ?_
  refine JS_seq ?_
  refine JS_seq ?_
  -- region 3
  refine sR ?_
  refine kM rfl rfl ?_
  refine kE ?_
  refine JS_cf rfl ?_
  refine JS_skip ?_
  refine JS_seq ?_
  refine JS_seq ?_
  -- region 7
  refine sR ?_
  refine kM rfl rfl ?_
  refine kE ?_
  refine JS_cf rfl ?_
  refine JS_skip ?_
  refine JS_seq ?_
  refine JS_seq ?_
  -- region 9
  refine sR ?_
  refine kM rfl rfl ?_
  refine kM rfl rfl ?_
  refine kO (T_lt rfl rfl rfl) rfl ?_
  refine kE ?_
  refine JS_if rfl (fun c16 => ?_) (fun c16 => ?_)
  · refine JS_seq ?_
    -- region 10
    refine sR ?_
    refine kA rfl rfl ?_
    refine kE ?_
    exact JS_ret (JE_ret_one rfl rfl (.tmp rfl .nil) ((int_eq (by unfold cmp3; repeat (split <;> try omega)))))
  · refine JS_skip ?_
    refine JS_seq ?_
    refine JS_seq ?_
    -- region 11
    refine sR ?_
    refine kM rfl rfl ?_
    refine kM rfl rfl ?_
    refine kO (T_gt rfl rfl rfl) rfl ?_
    refine kE ?_
    refine JS_if rfl (fun c19 => ?_) (fun c19 => ?_)
    · refine JS_seq ?_
      -- region 12
      refine sR ?_
      refine kA rfl rfl ?_
      refine kE ?_
      exact JS_ret (JE_ret_one rfl rfl (.tmp rfl .nil) ((int_eq (by unfold cmp3; repeat (split <;> try omega)))))
    · refine JS_skip ?_
      refine JS_seq ?_
      -- region 13
      refine sR ?_
      refine kA rfl rfl ?_
      refine kE ?_
      exact JS_ret (JE_ret_one rfl rfl (.tmp rfl .nil) ((int_eq (by unfold cmp3; repeat (split <;> try omega)))))

theorem u81 : Tryz.prog.underlying 81 = some (.slice 126) := by kernel_rfl

theorem en103 : Enters Tryz.prog 103 := enters_fn Tryz.func103 (by kernel_rfl) rfl

theorem ti126 : TI Tryz.prog 126 false 1 := ⟨by kernel_rfl, by kernel_rfl⟩

theorem en133 : Enters Tryz.prog 133 := enters_fn Tryz.func133 (by kernel_rfl) rfl

theorem w104 {m o : List Int} : Spec CC 104 [Ty.of (Kd.slice (Kd.int .u32)) m, Ty.of (Kd.slice (Kd.int .u32)) o] (Ty.val (.int .i64 (cmpL m o))) := by
  refine spec_of_JS Tryz.func104 rfl (Nat.le_of_ble_eq_true rfl) (fun gh0 wd0 => ?_)
  refine JS_bound (s := 0) rfl (fun b0 => ?_)
  refine JS_bound (s := 1) rfl (fun b1 => ?_)
  unfold maxLen at b0 b1
  refine JS_seq ?_
  -- region 0
  refine sR ?_
  refine kA rfl rfl ?_
  refine kE ?_
  refine JS_seq ?_
  refine JS_seq ?_
  -- region 1
  refine sR ?_
  refine kM rfl rfl ?_
  refine kO (T_len_slice rfl rfl u81 rfl) rfl ?_
  refine kM rfl rfl ?_
  refine kO (T_len_slice rfl rfl u81 rfl) rfl ?_
  refine kO (T_callL rfl en103 (w103 ) (oa (ol rfl (Ty.le.refl _)) (oa (ol rfl (Ty.le.refl _)) oa0))) rfl ?_
  refine kA rfl rfl ?_
  refine kE ?_
  refine JS_seq ?_
  -- region 2
  refine sR ?_
  refine kM rfl rfl ?_
  refine kO (T_ne rfl rfl rfl) rfl ?_
  refine kE ?_
  refine JS_if rfl (fun c14 => ?_) (fun c14 => ?_)
  · refine JS_seq ?_
    -- region 3
    refine sR ?_
    refine kM rfl rfl ?_
    refine kA rfl rfl ?_
    refine kE ?_
    exact JS_ret (JE_ret_one rfl rfl (.tmp rfl .nil) ((int_eq (by unfold cmpL; rw [if_pos c14]))))
  · refine JS_skip ?_
    refine JS_seq ?_
    refine JS_seq ?_
    -- region 4
    refine sR ?_
    refine kM rfl rfl ?_
    refine kO (T_len_slice rfl rfl u81 rfl) rfl ?_
    refine kO (T_subI rfl rfl rfl (wrap_i64 (by omega) (by omega))) rfl ?_
    refine kA rfl rfl ?_
    refine kE ?_
    refine JS_block ?_
    refine sLoop1 (fun (i : Nat) => [(6, Ty.val (.int .i64 ((i : Int) - 1)))]) [0, 1] (fun (i : Nat) => []) (fun (i : Nat) => i ≤ m.length ∧ cmpL m o = cmpDown m o i) (fun (i : Nat) => i) m.length (⟨Nat.le_refl _, by unfold cmpL; rw [if_neg c14]⟩) rfl (EnvSub.consLe rfl (int_eq (rfl)) (EnvSub.nil _)) (fun i (hI : i ≤ m.length ∧ cmpL m o = cmpDown m o i) => ?_)
    refine JS_seq ?_
    refine JS_seq ?_
    -- region 5
    refine sR ?_
    refine kM rfl rfl ?_
    refine kO (T_ge rfl rfl rfl) rfl ?_
    refine kE ?_
    refine JS_if rfl (fun c20 => ?_) (fun c20 => ?_)
    · have hl := cmp3_zero c14
      obtain ⟨j, rfl⟩ : ∃ j, i = j + 1 := ⟨i - 1, by omega⟩
      have ej : ((j + 1 : Nat) : Int) - 1 = j := by omega
      refine JS_skip ?_
      refine JS_seq ?_
      refine JS_block ?_
      refine JS_seq ?_
      -- region 7
      refine sRD mixed ?_
      refine kM rfl rfl ?_
      refine kM rfl rfl ?_
      refine kO (T_ix rfl rfl rfl u81 ti126 (by omega) (by omega) rfl) rfl ?_
      refine kO (T_load_int rfl ti126 rfl) rfl ?_
      refine kM rfl rfl ?_
      refine kM rfl rfl ?_
      refine kO (T_ix rfl rfl rfl u81 ti126 (by omega) (by omega) rfl) rfl ?_
      refine kO (T_load_int rfl ti126 rfl) rfl ?_
      refine kO (T_callL rfl en133 (w133 ) (oa (ol rfl (Ty.le.refl _)) (oa (ol rfl (Ty.le.refl _)) oa0))) rfl ?_
      refine kA rfl rfl ?_
      refine kD (by decide) ?_
      refine JS_seq ?_
      -- region 8
      refine sR ?_
      refine kM rfl rfl ?_
      refine kO (T_ne rfl rfl rfl) rfl ?_
      refine kE ?_
      refine JS_if rfl (fun c33 => ?_) (fun c33 => ?_)
      · simp only [ej, Int.toNat_natCast] at c33
        refine JS_seq ?_
        -- region 9
        refine sR ?_
        refine kM rfl rfl ?_
        refine kA rfl rfl ?_
        refine kE ?_
        exact JS_ret (JE_inB_ret (JE_loop_ret (JE_inB_ret (JE_ret_one rfl rfl (.tmp rfl .nil) ((int_eq (by simp only [ej, Int.toNat_natCast]; rw [hI.2, cmpDown, getD_nat _ _ (by omega), getD_nat _ _ (by omega), if_pos c33])))))))
      · simp only [ej, Int.toNat_natCast] at c33
        refine JS_skip ?_
        refine JS_end_inB ?_
        -- region 6
        refine sR ?_
        refine kM rfl rfl ?_
        refine kO (T_subI rfl rfl rfl (wrap_i64 (by omega) (by omega))) rfl ?_
        refine kA rfl rfl ?_
        refine kE ?_
        exact JS_round j (⟨by omega, by rw [hI.2, cmpDown, getD_nat _ _ (by omega), getD_nat _ _ (by omega), if_neg c33]⟩) (by omega) rfl (EnvSub.consLe rfl (int_eq (by omega)) (EnvSub.pick1 rfl (EnvSub.pick1 rfl (EnvSub.nil _))))
    · refine JS_exit (JE_loop_exit (JE_inB_here ?_))
      refine JS_seq ?_
      -- region 10
      refine sR ?_
      refine kA rfl rfl ?_
      refine kE ?_
      exact JS_ret (JE_ret_one rfl rfl (.tmp rfl .nil) ((int_eq (by obtain rfl : i = 0 := (by omega); rw [hI.2]; rfl))))

theorem fa83_1 : FieldAt Tryz.prog 83 1 1 := by unfold FieldAt; kernel_rfl

theorem ti81 : TI Tryz.prog 81 false 1 := ⟨by kernel_rfl, by kernel_rfl⟩

theorem fa83_0 : FieldAt Tryz.prog 83 0 0 := by unfold FieldAt; kernel_rfl

theorem ti4 : TI Tryz.prog 4 false 1 := ⟨by kernel_rfl, by kernel_rfl⟩

theorem w99 {z : Int} : Spec CC 99 [Ty.of Kd.whole z] (Ty.val (.int .i64 z.sign)) := by
  refine spec_of_JS Tryz.func99 rfl (Nat.le_of_ble_eq_true rfl) (fun gh0 wd0 => ?_)
  refine JS_seq ?_
  -- region 0
  refine sR ?_
  refine kO (T_box rfl (ol rfl (Ty.le.refl _))) rfl ?_
  refine kA rfl rfl ?_
  refine kE ?_
  refine JS_seq ?_
  refine JS_block ?_
  refine JS_seq ?_
  -- region 1
  refine sR ?_
  refine kO (T_fieldAddr rfl fa83_1 (whole_mag _) rfl) rfl ?_
  refine kO (T_ld rfl rfl ti81) rfl ?_
  refine kO (T_len_slice rfl rfl u81 rfl) rfl ?_
  refine kO (T_eq rfl rfl rfl) rfl ?_
  refine kA rfl rfl ?_
  refine kE ?_
  refine JS_if rfl (fun c3 => ?_) (fun c3 => ?_)
  · refine JS_seq ?_
    -- region 2
    refine sR ?_
    refine kA rfl rfl ?_
    refine kE ?_
    exact JS_ret (JE_inB_ret (JE_ret_one rfl rfl (.tmp rfl .nil) ((int_eq (by have := (lims_len z.natAbs).1 (by omega); rw [show z = 0 by omega]; rfl)))))
  · refine JS_seq ?_
    -- region 3
    refine sR ?_
    refine kO (T_fieldAddr rfl fa83_0 (whole_neg _) rfl) rfl ?_
    refine kO (T_load_bool rfl ti4 rfl) rfl ?_
    refine kA rfl rfl ?_
    refine kE ?_
    refine JS_if rfl (fun c8 => ?_) (fun c8 => ?_)
    · refine JS_seq ?_
      -- region 4
      refine sR ?_
      refine kA rfl rfl ?_
      refine kE ?_
      exact JS_ret (JE_inB_ret (JE_ret_one rfl rfl (.tmp rfl .nil) ((int_eq (by rw [Int.sign_eq_neg_one_of_neg c8])))))
    · refine JS_skip ?_
      refine JS_end_inB ?_
      refine JS_seq ?_
      -- region 5
      refine sR ?_
      refine kA rfl rfl ?_
      refine kE ?_
      exact JS_ret (JE_ret_one rfl rfl (.tmp rfl .nil) ((int_eq (by have := sign_lims c3; rw [Int.sign_eq_one_of_pos (by omega)]))))

end Go.Proofs.YtknflgfkhkdomaaGreatDoor.Mono

/-! WkB -/
set_option linter.unusedVariables false
set_option linter.unusedSimpArgs false
set_option maxRecDepth 4000
set_option maxHeartbeats 4000000
namespace Go.Proofs.YtknflgfkhkdomaaGreatDoor.Mono
open Go Go.RowKit

theorem h0_83 : ∀ m, (Seg.cat [Seg.of Kd.bool false, Seg.of (Kd.slice (Kd.int .u32)) []]).p m (Value.cells (.agg #[.bool false, .slice none 0 0])).toList := fun m => ⟨_, _, rfl, (fun _ => rfl) m, ⟨_, _, rfl, (z_slice _) m, rfl⟩⟩

theorem z83 : ZeroOf Tryz.prog 83 (.agg #[.bool false, .slice none 0 0]) := by unfold ZeroOf; kernel_rfl

theorem fk83 : FieldsKnown Tryz.prog 83 := by unfold FieldsKnown; kernel_rfl

theorem sz83 : (Tryz.prog.info? 83).map (·.size) = some 2 := by kernel_rfl

theorem ti83 : TI Tryz.prog 83 true 2 := ⟨by kernel_rfl, by kernel_rfl⟩

theorem w97 {b : Bool} {l : List Int} {n : Nat} (hok : LOk l) (hv : lval l = n) : Spec CC 97 [Ty.val (.bool b), Ty.of (Kd.slice (Kd.int .u32)) l] (Ty.of Kd.whole (sgn b n)) := by
  refine spec_of_JS Tryz.func97 rfl (Nat.le_of_ble_eq_true rfl) (fun gh0 wd0 => ?_)
  refine JS_bound (s := 1) rfl (fun b1 => ?_)
  unfold maxLen at b1
  refine JS_seq ?_
  -- region 0
  refine sR ?_
  refine kT ?_
  refine JT_alloc (S0 := Seg.cat [Seg.of Kd.bool false, Seg.of (Kd.slice (Kd.int .u32)) []]) rfl rfl rfl rfl z83 h0_83 (fun g4 => ?_)
  refine JT_done ?_
  refine JS_seq ?_
  refine JS_block ?_
  refine sLoop1 (fun (l : List Int) => [(1, Ty.of (Kd.slice (Kd.int .u32)) l)]) [0, 4] (fun (l : List Int) => []) (fun (l : List Int) => LOk l ∧ lval l = n) (fun (l : List Int) => l.length) l (⟨hok, hv⟩) rfl (EnvSub.consLe rfl (of_eq (rfl)) (EnvSub.nil _)) (fun l (hI : LOk l ∧ lval l = n) => ?_)
  refine JS_bound (s := 1) rfl (fun bl => ?_)
  unfold maxLen at bl
  refine JS_seq ?_
  refine JS_seq ?_
  -- region 1
  refine sR ?_
  refine kM rfl rfl ?_
  refine kO (T_len_slice rfl rfl u81 rfl) rfl ?_
  refine kO (T_gt rfl rfl rfl) rfl ?_
  refine kM rfl rfl ?_
  refine tk_if (d := 8) rfl (fun g8 => ?_) (fun g8 => ?_)
  · refine kG (wTD g8 rfl rfl rfl) (T_move (.inl rfl) rfl) rfl ?_
    refine kG (wTD g8 rfl rfl rfl) (T_move (.inl rfl) rfl) rfl ?_
    refine kG (wTD g8 rfl rfl rfl) (T_len_slice rfl rfl u81 rfl) rfl ?_
    refine kG (wTD g8 rfl rfl rfl) (T_subI rfl rfl rfl (wrap_i64 (by omega) (by omega))) rfl ?_
    refine kG (wTD g8 rfl rfl rfl) (T_ix rfl rfl rfl u81 ti126 (by omega) (by omega) (show l[((l.length : Int) - 1).toNat] = l[l.length - 1]'(by omega) from by congr 1; omega)) rfl ?_
    refine kG (wTD g8 rfl rfl rfl) (T_load_int rfl ti126 rfl) rfl ?_
    refine kG (wTD g8 rfl rfl rfl) (T_eq rfl rfl rfl) rfl ?_
    refine kO (T_pickD g8 rfl rfl rfl) rfl ?_
    refine kE ?_
    refine JS_if rfl (fun c16 => ?_) (fun c16 => ?_)
    · refine JS_skip ?_
      refine JS_block ?_
      -- region 2
      refine sR ?_
      refine kM rfl rfl ?_
      refine kM rfl rfl ?_
      refine kO (T_len_slice rfl rfl u81 rfl) rfl ?_
      refine kO (T_subI rfl rfl rfl (wrap_i64 (by omega) (by omega))) rfl ?_
      refine kO (T_sl_h rfl rfl rfl u81 ti126 (by omega) (by omega)) rfl ?_
      refine kA rfl rfl ?_
      refine kE ?_
      refine JS_end_inB ?_
      exact JS_round (l.take (l.length - 1)) (trim_step hI.1 hI.2 (by omega) c16) (by simp only [List.length_take]; omega) rfl (EnvSub.consLe rfl (of_eq (by congr 1; omega)) (EnvSub.pick1 rfl (EnvSub.pick1 rfl (EnvSub.nil _))))
    · have ht := trim_last (l := l) (by omega) c16
      refine JS_exit (JE_loop_exit (JE_inB_here ?_))
      refine JS_seq ?_
      -- region 3
      refine sR ?_
      refine kM rfl rfl ?_
      refine kM rfl rfl ?_
      refine tk_split (d := 23) rfl (fun g23 => ?_) (fun g23 => ?_)
      · refine kG (wT rfl rfl rfl g23) (T_move (.inl rfl) rfl) rfl ?_
        refine kG (wT rfl rfl rfl g23) (T_len_slice rfl rfl u81 rfl) rfl ?_
        refine kG (wT rfl rfl rfl g23) (T_gt rfl rfl rfl) rfl ?_
        refine kO (T_pickT rfl rfl g23 rfl) rfl ?_
        refine kM rfl rfl ?_
        refine kO (T_sub (T_build (S0 := Seg.cat [Seg.of Kd.bool false, Seg.of (Kd.slice (Kd.int .u32)) []]) rfl fk83 z83 h0_83 (fc (ol rfl (val_bool _)) (uc (i := 0) rfl rfl rfl) rfl (fc (ol rfl (Ty.le.refl _)) (uc (i := 1) rfl rfl rfl) rfl (Fill.nil _))) rfl) (mk_whole (z := sgn b n) (by have h2 := (trim_fin hI.1 hI.2 ht b).2; rw [← h2, g23]; simp) (trim_fin hI.1 hI.2 ht b).1)) rfl ?_
        refine kT ?_
        refine JT_store (i := 0) rfl rfl rfl rfl rfl (ol rfl (Ty.le.refl _)) (Upd.self _ _ rfl) sz83 ?_
        refine JT_done ?_
        exact JS_ret (JE_ret_one rfl rfl (.cell (i := 0) rfl rfl ti83 .nil) (of_eq (rfl)))
      · refine kS (wF rfl rfl rfl (by rw [g23]; decide)) rfl ?_
        refine kS (wF rfl rfl rfl (by rw [g23]; decide)) rfl ?_
        refine kS (wF rfl rfl rfl (by rw [g23]; decide)) rfl ?_
        refine kO (T_pickF rfl rfl g23 rfl) rfl ?_
        refine kM rfl rfl ?_
        refine kO (T_sub (T_build (S0 := Seg.cat [Seg.of Kd.bool false, Seg.of (Kd.slice (Kd.int .u32)) []]) rfl fk83 z83 h0_83 (fc (ol rfl (val_bool _)) (uc (i := 0) rfl rfl rfl) rfl (fc (ol rfl (Ty.le.refl _)) (uc (i := 1) rfl rfl rfl) rfl (Fill.nil _))) rfl) (mk_whole (z := sgn b n) (by have h2 := (trim_fin hI.1 hI.2 ht b).2; rw [← h2, g23]; simp) (trim_fin hI.1 hI.2 ht b).1)) rfl ?_
        refine kT ?_
        refine JT_store (i := 0) rfl rfl rfl rfl rfl (ol rfl (Ty.le.refl _)) (Upd.self _ _ rfl) sz83 ?_
        refine JT_done ?_
        exact JS_ret (JE_ret_one rfl rfl (.cell (i := 0) rfl rfl ti83 .nil) (of_eq (rfl)))
  · have ht := trim_nil (l := l) (by omega)
    refine kS (uFD g8 rfl rfl rfl) rfl ?_
    refine kS (uFD g8 rfl rfl rfl) rfl ?_
    refine kS (uFD g8 rfl rfl rfl) rfl ?_
    refine kS (uFD g8 rfl rfl rfl) rfl ?_
    refine kS (uFD g8 rfl rfl rfl) rfl ?_
    refine kS (uFD g8 rfl rfl rfl) rfl ?_
    refine kS (uFD g8 rfl rfl rfl) rfl ?_
    refine kO (T_pickN g8 rfl rfl rfl) rfl ?_
    refine kE ?_
    refine JS_cf rfl ?_
    refine JS_exit (JE_loop_exit (JE_inB_here ?_))
    refine JS_seq ?_
    -- region 3
    refine sR ?_
    refine kM rfl rfl ?_
    refine kM rfl rfl ?_
    refine tk_split (d := 23) rfl (fun g23 => ?_) (fun g23 => ?_)
    · refine kG (wT rfl rfl rfl g23) (T_move (.inl rfl) rfl) rfl ?_
      refine kG (wT rfl rfl rfl g23) (T_len_slice rfl rfl u81 rfl) rfl ?_
      refine kG (wT rfl rfl rfl g23) (T_gt rfl rfl rfl) rfl ?_
      refine kO (T_pickT rfl rfl g23 rfl) rfl ?_
      refine kM rfl rfl ?_
      refine kO (T_sub (T_build (S0 := Seg.cat [Seg.of Kd.bool false, Seg.of (Kd.slice (Kd.int .u32)) []]) rfl fk83 z83 h0_83 (fc (ol rfl (val_bool _)) (uc (i := 0) rfl rfl rfl) rfl (fc (ol rfl (Ty.le.refl _)) (uc (i := 1) rfl rfl rfl) rfl (Fill.nil _))) rfl) (mk_whole (z := sgn b n) (by have h2 := (trim_fin hI.1 hI.2 ht b).2; rw [← h2, g23]; simp) (trim_fin hI.1 hI.2 ht b).1)) rfl ?_
      refine kT ?_
      refine JT_store (i := 0) rfl rfl rfl rfl rfl (ol rfl (Ty.le.refl _)) (Upd.self _ _ rfl) sz83 ?_
      refine JT_done ?_
      exact JS_ret (JE_ret_one rfl rfl (.cell (i := 0) rfl rfl ti83 .nil) (of_eq (rfl)))
    · refine kS (wF rfl rfl rfl (by rw [g23]; decide)) rfl ?_
      refine kS (wF rfl rfl rfl (by rw [g23]; decide)) rfl ?_
      refine kS (wF rfl rfl rfl (by rw [g23]; decide)) rfl ?_
      refine kO (T_pickF rfl rfl g23 rfl) rfl ?_
      refine kM rfl rfl ?_
      refine kO (T_sub (T_build (S0 := Seg.cat [Seg.of Kd.bool false, Seg.of (Kd.slice (Kd.int .u32)) []]) rfl fk83 z83 h0_83 (fc (ol rfl (val_bool _)) (uc (i := 0) rfl rfl rfl) rfl (fc (ol rfl (Ty.le.refl _)) (uc (i := 1) rfl rfl rfl) rfl (Fill.nil _))) rfl) (mk_whole (z := sgn b n) (by have h2 := (trim_fin hI.1 hI.2 ht b).2; rw [← h2, g23]; simp) (trim_fin hI.1 hI.2 ht b).1)) rfl ?_
      refine kT ?_
      refine JT_store (i := 0) rfl rfl rfl rfl rfl (ol rfl (Ty.le.refl _)) (Upd.self _ _ rfl) sz83 ?_
      refine JT_done ?_
      exact JS_ret (JE_ret_one rfl rfl (.cell (i := 0) rfl rfl ti83 .nil) (of_eq (rfl)))

theorem en97 : Enters Tryz.prog 97 := enters_fn Tryz.func97 (by kernel_rfl) rfl

theorem w68 {z : Int} : Spec CC 68 [Ty.of Kd.whole z] (Ty.of Kd.whole (-z)) := by
  refine spec_of_JS Tryz.func68 rfl (Nat.le_of_ble_eq_true rfl) (fun gh0 wd0 => ?_)
  refine JS_seq ?_
  -- region 0
  refine sR ?_
  refine kO (T_box rfl (ol rfl (Ty.le.refl _))) rfl ?_
  refine kT ?_
  refine JT_alloc (S0 := Seg.cat [Seg.of Kd.bool false, Seg.of (Kd.slice (Kd.int .u32)) []]) rfl rfl rfl rfl z83 h0_83 (fun g2 => ?_)
  refine JT_done ?_
  refine JS_seq ?_
  -- region 1
  refine sR ?_
  refine kO (T_fieldAddr rfl fa83_0 (whole_neg _) rfl) rfl ?_
  refine kO (T_load_bool rfl ti4 rfl) rfl ?_
  refine kO (T_notD rfl rfl) rfl ?_
  refine kO (T_fieldAddr rfl fa83_1 (whole_mag _) rfl) rfl ?_
  refine kO (T_ld rfl rfl ti81) rfl ?_
  refine kO (T_callL rfl en97 (w97 (lims_ok _) (lval_lims _)) (oa (ol rfl (Ty.le.refl _)) (oa (ol rfl (Ty.le.refl _)) oa0))) rfl ?_
  refine kT ?_
  refine JT_store (i := 0) rfl rfl rfl rfl rfl (ol rfl (Ty.le.refl _)) (Upd.self _ _ rfl) sz83 ?_
  refine JT_done ?_
  exact JS_ret (JE_ret_one rfl rfl (.cell (i := 0) rfl rfl ti83 .nil) ((of_eq (by unfold sgn; by_cases h : z < 0 <;> simp [h] <;> omega))))

theorem cmp_pos {w o : Int} (hw : ¬ w < 0) (ho : ¬ cmp3 w.sign o.sign ≠ 0) : cmp3 (w.natAbs : Int) o.natAbs = cmp3 w o := by
  have h := cmp3_zero ho
  have h1 : 0 ≤ o := by
    by_cases h2 : o < 0
    · rw [Int.sign_eq_neg_one_of_neg h2] at h
      have := Int.sign_eq_neg_one_iff_neg.1 h; omega
    · omega
  rw [show (w.natAbs : Int) = w by omega, show (o.natAbs : Int) = o by omega]
theorem cmp_neg {w o : Int} (hw : w < 0) (ho : ¬ cmp3 w.sign o.sign ≠ 0) : cmp3 (o.natAbs : Int) w.natAbs = cmp3 w o := by
  have h := cmp3_zero ho
  rw [Int.sign_eq_neg_one_of_neg hw] at h
  have h1 : o < 0 := Int.sign_eq_neg_one_iff_neg.1 h.symm
  unfold cmp3
  repeat (split <;> try omega)
theorem cmp_sign {w o : Int} (ho : cmp3 w.sign o.sign ≠ 0) : cmp3 w.sign o.sign = cmp3 w o := by
  rcases Int.lt_trichotomy w 0 with h1 | h1 | h1 <;> rcases Int.lt_trichotomy o 0 with h2 | h2 | h2
  all_goals first | (rw [Int.sign_eq_neg_one_of_neg h1] at *) | (rw [Int.sign_eq_one_of_pos h1] at *) | (subst h1)
  all_goals first | (rw [Int.sign_eq_neg_one_of_neg h2] at *) | (rw [Int.sign_eq_one_of_pos h2] at *) | (subst h2)
  all_goals (unfold cmp3 at *; simp at *)
  all_goals (repeat (split <;> try omega))
theorem cmp_zero {w o : Int} (hw : w = 0) (ho : ¬ cmp3 w.sign o.sign ≠ 0) : cmp3 w.sign o.sign = cmp3 w o := by
  subst hw
  have h := cmp3_zero ho
  have : o = 0 := by
    rcases Int.lt_trichotomy o 0 with h2 | h2 | h2
    · rw [Int.sign_eq_neg_one_of_neg h2] at h; simp at h
    · exact h2
    · rw [Int.sign_eq_one_of_pos h2] at h; simp at h
  subst this; rfl

theorem en99 : Enters Tryz.prog 99 := enters_fn Tryz.func99 (by kernel_rfl) rfl

theorem en104 : Enters Tryz.prog 104 := enters_fn Tryz.func104 (by kernel_rfl) rfl

theorem w78 {w o : Int} : Spec CC 78 [Ty.of Kd.whole w, Ty.of Kd.whole o] (Ty.val (.int .i64 (cmp3 w o))) := by
  refine spec_of_JS Tryz.func78 rfl (Nat.le_of_ble_eq_true rfl) (fun gh0 wd0 => ?_)
  refine JS_seq ?_
  -- region 0
  refine sR ?_
  refine kO (T_box rfl (ol rfl (Ty.le.refl _))) rfl ?_
  refine kO (T_box rfl (ol rfl (Ty.le.refl _))) rfl ?_
  refine kA rfl rfl ?_
  refine kE ?_
  refine JS_seq ?_
  refine JS_seq ?_
  -- region 1
  refine sRD mixed ?_
  refine kO (T_ld rfl rfl ti83) rfl ?_
  refine kO (T_callL rfl en99 (w99 ) (oa (ol rfl (Ty.le.refl _)) oa0)) rfl ?_
  refine kO (T_ld rfl rfl ti83) rfl ?_
  refine kO (T_callL rfl en99 (w99 ) (oa (ol rfl (Ty.le.refl _)) oa0)) rfl ?_
  refine kO (T_callL rfl en103 (w103 ) (oa (ol rfl (Ty.le.refl _)) (oa (ol rfl (Ty.le.refl _)) oa0))) rfl ?_
  refine kA rfl rfl ?_
  refine kD (by decide) ?_
  refine JS_seq ?_
  -- region 2
  refine sR ?_
  refine kM rfl rfl ?_
  refine kO (T_ne rfl rfl rfl) rfl ?_
  refine kM rfl rfl ?_
  refine tk_if (d := 13) rfl (fun g13 => ?_) (fun g13 => ?_)
  · refine kS (uTD g13 rfl rfl rfl) rfl ?_
    refine kS (uTD g13 rfl rfl rfl) rfl ?_
    refine kS (uTD g13 rfl rfl rfl) rfl ?_
    refine kS (uTD g13 rfl rfl rfl) rfl ?_
    refine kO (T_pickD g13 rfl rfl rfl) rfl ?_
    refine kE ?_
    refine JS_ct rfl ?_
    refine JS_seq ?_
    -- region 3
    refine sR ?_
    refine kM rfl rfl ?_
    refine kA rfl rfl ?_
    refine kE ?_
    exact JS_ret (JE_ret_one rfl rfl (.tmp rfl .nil) ((int_eq (cmp_sign g13))))
  · refine kG (wFD g13 rfl rfl rfl) (T_fieldAddr rfl fa83_1 (whole_mag _) rfl) rfl ?_
    refine kG (wFD g13 rfl rfl rfl) (T_ld rfl rfl ti81) rfl ?_
    refine kG (wFD g13 rfl rfl rfl) (T_len_slice rfl rfl u81 rfl) rfl ?_
    refine kG (wFD g13 rfl rfl rfl) (T_eq rfl rfl rfl) rfl ?_
    refine kO (T_pickN g13 rfl rfl rfl) rfl ?_
    refine kE ?_
    refine JS_if rfl (fun c18 => ?_) (fun c18 => ?_)
    · refine JS_seq ?_
      -- region 3
      refine sR ?_
      refine kM rfl rfl ?_
      refine kA rfl rfl ?_
      refine kE ?_
      exact JS_ret (JE_ret_one rfl rfl (.tmp rfl .nil) ((int_eq (cmp_zero (by have := (lims_len w.natAbs).1 (by omega); omega) g13))))
    · refine JS_skip ?_
      refine JS_seq ?_
      refine JS_seq ?_
      -- region 4
      refine sR ?_
      refine kO (T_fieldAddr rfl fa83_0 (whole_neg _) rfl) rfl ?_
      refine kO (T_load_bool rfl ti4 rfl) rfl ?_
      refine kE ?_
      refine JS_if rfl (fun c21 => ?_) (fun c21 => ?_)
      · refine JS_seq ?_
        -- region 5
        refine sR ?_
        refine kO (T_fieldAddr rfl fa83_1 (whole_mag _) rfl) rfl ?_
        refine kO (T_ld rfl rfl ti81) rfl ?_
        refine kO (T_fieldAddr rfl fa83_1 (whole_mag _) rfl) rfl ?_
        refine kO (T_ld rfl rfl ti81) rfl ?_
        refine kO (T_callL rfl en104 (w104 ) (oa (ol rfl (Ty.le.refl _)) (oa (ol rfl (Ty.le.refl _)) oa0))) rfl ?_
        refine kA rfl rfl ?_
        refine kE ?_
        exact JS_ret (JE_ret_one rfl rfl (.tmp rfl .nil) ((int_eq (by rw [cmpL_lims]; exact cmp_neg c21 g13))))
      · refine JS_skip ?_
        refine JS_seq ?_
        -- region 6
        refine sR ?_
        refine kO (T_fieldAddr rfl fa83_1 (whole_mag _) rfl) rfl ?_
        refine kO (T_ld rfl rfl ti81) rfl ?_
        refine kO (T_fieldAddr rfl fa83_1 (whole_mag _) rfl) rfl ?_
        refine kO (T_ld rfl rfl ti81) rfl ?_
        refine kO (T_callL rfl en104 (w104 ) (oa (ol rfl (Ty.le.refl _)) (oa (ol rfl (Ty.le.refl _)) oa0))) rfl ?_
        refine kA rfl rfl ?_
        refine kE ?_
        exact JS_ret (JE_ret_one rfl rfl (.tmp rfl .nil) ((int_eq (by rw [cmpL_lims]; exact cmp_pos c21 g13))))

theorem ei126 : EI Tryz.prog 126 1 4 (.int .u32 (0)) := by unfold EI; kernel_rfl

theorem z126 : ZeroOf Tryz.prog 126 (.int .u32 (0)) := by unfold ZeroOf; kernel_rfl

theorem w105 {a b : Nat} (ha : (lims a).length ≤ 4000000) (hb : (lims b).length ≤ 4000000) : Spec CC 105 [Ty.of (Kd.slice (Kd.int .u32)) (lims a), Ty.of (Kd.slice (Kd.int .u32)) (lims b)] (Ty.of (Kd.slice (Kd.int .u32)) (lims (a + b))) := by
  refine spec_of_JS Tryz.func105 rfl (Nat.le_of_ble_eq_true rfl) (fun gh0 wd0 => ?_)
  refine JS_bound (s := 0) rfl (fun b0 => ?_)
  refine JS_bound (s := 1) rfl (fun b1 => ?_)
  unfold maxLen at b0 b1
  refine JS_seq ?_
  -- region 0
  refine sR ?_
  refine kA rfl rfl ?_
  refine kE ?_
  refine JS_seq ?_
  refine JS_seq ?_
  -- region 1
  refine sR ?_
  refine kM rfl rfl ?_
  refine kO (T_len_slice rfl rfl u81 rfl) rfl ?_
  refine kM rfl rfl ?_
  refine kO (T_len_slice rfl rfl u81 rfl) rfl ?_
  refine kO (T_lt rfl rfl rfl) rfl ?_
  refine kE ?_
  refine JS_join2 (fun (x : Nat) (y : Nat) => [(0, Ty.of (Kd.slice (Kd.int .u32)) (lims x)), (1, Ty.of (Kd.slice (Kd.int .u32)) (lims y))]) [] (fun (x : Nat) (y : Nat) => []) (fun (x : Nat) (y : Nat) => (lims y).length ≤ (lims x).length ∧ x + y = a + b ∧ (lims x).length ≤ 4000000) ?_ (fun x y (hJ : (lims y).length ≤ (lims x).length ∧ x + y = a + b ∧ (lims x).length ≤ 4000000) => ?_)
  · refine JS_if rfl (fun c14 => ?_) (fun c14 => ?_)
    · -- region 2
      refine sR ?_
      refine kM rfl rfl ?_
      refine kM rfl rfl ?_
      refine kA rfl rfl ?_
      refine kA rfl rfl ?_
      refine kE ?_
      exact JS_meet (b, a) (by try dsimp only; exact (⟨by omega, by omega, by omega⟩)) rfl (EnvSub.consLe rfl (of_eq (rfl)) (EnvSub.consLe rfl (of_eq (rfl)) (EnvSub.nil _)))
    · refine JS_skip ?_
      exact JS_meet (a, b) (by try dsimp only; exact (⟨by omega, by omega, by omega⟩)) rfl (EnvSub.consLe rfl (of_eq (rfl)) (EnvSub.consLe rfl (of_eq (rfl)) (EnvSub.nil _)))
  · refine JS_seq ?_
    -- region 3
    refine sR ?_
    refine kM rfl rfl ?_
    refine kO (T_len_slice rfl rfl u81 rfl) rfl ?_
    refine kO (T_add rfl rfl rfl (wrap_i64 (by omega) (by omega))) rfl ?_
    refine kT ?_
    refine JT_make (K := (Kd.int .u32)) (z0 := 0) rfl rfl rfl rfl u81 ei126 rfl (by decide) (fun _ => rfl) rfl rfl (by omega) (by omega) (by omega) (by omega) (fun v20 => ?_)
    refine jA rfl rfl ?_
    refine JT_done ?_
    refine JS_seq ?_
    -- region 4
    refine sR ?_
    refine kA rfl rfl ?_
    refine kE ?_
    refine JS_seq ?_
    refine JS_seq ?_
    -- region 5
    refine sR ?_
    refine kM rfl rfl ?_
    refine kO (T_len_slice rfl rfl u81 rfl) rfl ?_
    refine kM rfl rfl ?_
    refine kE ?_
    refine JS_block ?_
    refine sLoop2 (fun (i : Nat) (v : Value) => [(23, Ty.val (.int .i64 i)), (6, Ty.val (.int .u32 ((addK (lims x) (lims y) i).2))), (5, Ty.val (v))]) [1, 21, 22] (fun (i : Nat) (v : Value) => [(0, Res.sl v 126 (Kd.int .u32) (addK (lims x) (lims y) i).1)]) (fun (i : Nat) (v : Value) => i ≤ (lims x).length) (fun (i : Nat) (v : Value) => (lims x).length - i) 0 v20 (Nat.zero_le _) rfl (EnvSub.consLe rfl (int_eq (rfl)) (EnvSub.consLe rfl (int_eq (rfl)) (EnvSub.consLe rfl (Ty.le.refl _) (EnvSub.nil _)))) (fun i v (hI : i ≤ (lims x).length) => ?_)
    obtain ⟨h1, h2, h3, h4, h5⟩ := addK_law (lims_ok x) (lims_ok y) i
    have g1 := (lims_ok x).get i
    have g2 := (lims_ok y).get i
    refine JS_seq ?_
    -- region 6
    refine sR ?_
    refine kO (T_lt rfl rfl rfl) rfl ?_
    refine kE ?_
    refine JS_seq ?_
    refine JS_if rfl (fun c24 => ?_) (fun c24 => ?_)
    · refine JS_skip ?_
      refine JS_seq ?_
      refine JS_block ?_
      refine JS_seq ?_
      -- region 7
      refine sR ?_
      refine kM rfl rfl ?_
      refine kO (T_ix rfl rfl rfl u81 ti126 (by omega) (by omega) (getD_at (i) (by omega) _)) rfl ?_
      refine kO (T_load_int rfl ti126 rfl) rfl ?_
      refine kA rfl rfl ?_
      refine kA rfl rfl ?_
      refine kE ?_
      refine JS_seq ?_
      -- region 8
      refine sR ?_
      refine kM rfl rfl ?_
      refine kM rfl rfl ?_
      refine kO (T_add rfl rfl rfl (wrap_u32 (by omega) (by omega))) rfl ?_
      refine kA rfl rfl ?_
      refine kE ?_
      refine JS_seq ?_
      refine JS_seq ?_
      -- region 9
      refine sR ?_
      refine kM rfl rfl ?_
      refine kM rfl rfl ?_
      refine kO (T_len_slice rfl rfl u81 rfl) rfl ?_
      refine kO (T_lt rfl rfl rfl) rfl ?_
      refine kE ?_
      refine JS_join1 (fun (n : Int) => [(9, Ty.val (.int .u32 n))]) [1, 5, 21, 22, 23] (fun (n : Int) => []) (fun (n : Int) => n = (lims x).getD i 0 + (addK (lims x) (lims y) i).2 + (lims y).getD i 0) ?_ (fun n (hN : n = (lims x).getD i 0 + (addK (lims x) (lims y) i).2 + (lims y).getD i 0) => ?_)
      · refine JS_if rfl (fun c34 => ?_) (fun c34 => ?_)
        · -- region 10
          refine sR ?_
          refine kM rfl rfl ?_
          refine kM rfl rfl ?_
          refine kM rfl rfl ?_
          refine kO (T_ix rfl rfl rfl u81 ti126 (by omega) (by omega) (getD_at (i) (by omega) _)) rfl ?_
          refine kO (T_load_int rfl ti126 rfl) rfl ?_
          refine kO (T_add rfl rfl rfl (wrap_u32 (by omega) (by omega))) rfl ?_
          refine kA rfl rfl ?_
          refine kE ?_
          exact JS_meet _ (rfl) rfl (EnvSub.consLe rfl (int_eq (rfl)) (EnvSub.pick1 rfl (EnvSub.pick1 rfl (EnvSub.pick1 rfl (EnvSub.pick1 rfl (EnvSub.pick1 rfl (EnvSub.nil _)))))))
        · refine JS_skip ?_
          exact JS_meet _ (by rw [getD_out (lims y) i (by omega)]; omega) rfl (EnvSub.consLe rfl (int_eq (rfl)) (EnvSub.pick1 rfl (EnvSub.pick1 rfl (EnvSub.pick1 rfl (EnvSub.pick1 rfl (EnvSub.pick1 rfl (EnvSub.nil _)))))))
      · subst hN
        refine JS_seq ?_
        -- region 11
        refine sR ?_
        refine kM rfl rfl ?_
        refine kO (T_quo rfl rfl rfl (by omega) (quo_u32 (by omega) (by omega) (by omega))) rfl ?_
        refine kA rfl rfl ?_
        refine kE ?_
        -- region 12
        refine sR ?_
        refine kM rfl rfl ?_
        refine kM rfl rfl ?_
        refine kO (T_rem rfl rfl rfl (by omega) (rem_nn (by omega))) rfl ?_
        refine kO (T_lits (xs := [.tmp 45]) (d := (Kd.int .u32)) [_] rfl rfl u81 ti126 z126 rfl rfl (by decide) (by decide) (oa (ol rfl (val_int _ _)) oa0) rfl) rfl ?_
        refine kT ?_
        refine JT_append (i := 0) rfl rfl rfl rfl u81 ei126 rfl rfl (by decide) rfl rfl (ol rfl (Ty.le.refl _)) (by have := h2; simp only [maxLen, List.length_cons, List.length_nil, this]; omega) (by have := h2; simp only [List.length_cons, List.length_nil, this]; omega) (fun v47 => ?_)
        refine jA rfl rfl ?_
        refine JT_done ?_
        refine JS_end_inB ?_
        -- region 13
        refine sR ?_
        refine kO (T_add rfl rfl rfl (wrap_i64 (by omega) (by omega))) rfl ?_
        refine kM rfl rfl ?_
        refine kE ?_
        exact JS_round ((i + 1), v47) (by try dsimp only; exact ((by omega))) (by try dsimp only; exact ((by omega))) rfl (EnvSub.consLe rfl (int_eq (rfl)) (EnvSub.consLe rfl (int_eq (rfl)) (EnvSub.consLe rfl (Ty.le.refl _) (EnvSub.pick1 rfl (EnvSub.pick1 rfl (EnvSub.pick1 rfl (EnvSub.nil _)))))))
    · have hi : i = (lims x).length := by omega
      subst hi
      have hA := add_lims hJ.1 rfl rfl
      refine JS_exit (JE_loop_exit (JE_inB_here ?_))
      refine JS_seq ?_
      refine JS_seq ?_
      -- region 14
      refine sR ?_
      refine kM rfl rfl ?_
      refine kO (T_gt rfl rfl rfl) rfl ?_
      refine kE ?_
      refine JS_if rfl (fun c50 => ?_) (fun c50 => ?_)
      · -- region 15
        refine sR ?_
        refine kM rfl rfl ?_
        refine kM rfl rfl ?_
        refine kO (T_lits (xs := [.tmp 52]) (d := (Kd.int .u32)) [_] rfl rfl u81 ti126 z126 rfl rfl (by decide) (by decide) (oa (ol rfl (val_int _ _)) oa0) rfl) rfl ?_
        refine kT ?_
        refine JT_append (i := 0) rfl rfl rfl rfl u81 ei126 rfl rfl (by decide) rfl rfl (ol rfl (Ty.le.refl _)) (by have := h2; simp only [maxLen, List.length_cons, List.length_nil, this]; omega) (by have := h2; simp only [List.length_cons, List.length_nil, this]; omega) (fun v54 => ?_)
        refine jA rfl rfl ?_
        refine JT_done ?_
        refine JS_seq ?_
        -- region 16
        refine sR ?_
        refine kM rfl rfl ?_
        refine kA rfl rfl ?_
        refine kE ?_
        refine JS_freeze_sl (i := 0) (s := 4) rfl rfl ?_
        exact JS_ret (JE_ret_one rfl rfl (.tmp rfl .nil) ((of_eq ((hA.1 c50).trans (by rw [hJ.2.1])))))
      · refine JS_skip ?_
        refine JS_seq ?_
        -- region 16
        refine sR ?_
        refine kM rfl rfl ?_
        refine kA rfl rfl ?_
        refine kE ?_
        refine JS_freeze_sl (i := 0) (s := 4) rfl rfl ?_
        exact JS_ret (JE_ret_one rfl rfl (.tmp rfl .nil) ((of_eq ((hA.2 c50).trans (by rw [hJ.2.1])))))

theorem u126 : Tryz.prog.underlying 126 = some (.int .u32) := by kernel_rfl

theorem u2 : Tryz.prog.underlying 2 = some (.int .i64) := by kernel_rfl

theorem w106 {a b : Nat} (ha : (lims a).length ≤ 4000000) (hb : b ≤ a) : Spec CC 106 [Ty.of (Kd.slice (Kd.int .u32)) (lims a), Ty.of (Kd.slice (Kd.int .u32)) (lims b)] (Ty.of (Kd.slice (Kd.int .u32)) (subL a b)) := by
  refine spec_of_JS Tryz.func106 rfl (Nat.le_of_ble_eq_true rfl) (fun gh0 wd0 => ?_)
  refine JS_bound (s := 0) rfl (fun b0 => ?_)
  refine JS_bound (s := 1) rfl (fun b1 => ?_)
  unfold maxLen at b0 b1
  refine JS_seq ?_
  -- region 0
  refine sR ?_
  refine kA rfl rfl ?_
  refine kE ?_
  refine JS_seq ?_
  -- region 1
  refine sR ?_
  refine kM rfl rfl ?_
  refine kO (T_len_slice rfl rfl u81 rfl) rfl ?_
  refine kT ?_
  refine JT_make (K := (Kd.int .u32)) (z0 := 0) rfl rfl rfl rfl u81 ei126 rfl (by decide) (fun _ => rfl) rfl rfl (by omega) (by omega) (by omega) (by omega) (fun v12 => ?_)
  refine jA rfl rfl ?_
  refine JT_done ?_
  refine JS_seq ?_
  -- region 2
  refine sR ?_
  refine kA rfl rfl ?_
  refine kE ?_
  refine JS_seq ?_
  refine JS_seq ?_
  -- region 3
  refine sR ?_
  refine kM rfl rfl ?_
  refine kO (T_len_slice rfl rfl u81 rfl) rfl ?_
  refine kM rfl rfl ?_
  refine kE ?_
  refine JS_block ?_
  refine sLoop2 (fun (i : Nat) (v : Value) => [(15, Ty.val (.int .i64 i)), (6, Ty.val (.int .i64 ((subK (lims a) (lims b) i).2))), (5, Ty.val (v))]) [1, 13, 14] (fun (i : Nat) (v : Value) => [(0, Res.sl v 126 (Kd.int .u32) (subK (lims a) (lims b) i).1)]) (fun (i : Nat) (v : Value) => i ≤ (lims a).length) (fun (i : Nat) (v : Value) => (lims a).length - i) 0 v12 (Nat.zero_le _) rfl (EnvSub.consLe rfl (int_eq (rfl)) (EnvSub.consLe rfl (int_eq (rfl)) (EnvSub.consLe rfl (Ty.le.refl _) (EnvSub.nil _)))) (fun i v (hI : i ≤ (lims a).length) => ?_)
  obtain ⟨h1, h2, h3, h4, h5⟩ := subK_law (lims_ok a) (lims_ok b) i
  have g1 := (lims_ok a).get i
  have g2 := (lims_ok b).get i
  refine JS_seq ?_
  -- region 4
  refine sR ?_
  refine kO (T_lt rfl rfl rfl) rfl ?_
  refine kE ?_
  refine JS_seq ?_
  refine JS_if rfl (fun c16 => ?_) (fun c16 => ?_)
  · refine JS_skip ?_
    refine JS_seq ?_
    refine JS_block ?_
    refine JS_seq ?_
    -- region 5
    refine sR ?_
    refine kM rfl rfl ?_
    refine kO (T_ix rfl rfl rfl u81 ti126 (by omega) (by omega) (getD_at (i) (by omega) _)) rfl ?_
    refine kO (T_load_int rfl ti126 rfl) rfl ?_
    refine kA rfl rfl ?_
    refine kA rfl rfl ?_
    refine kE ?_
    refine JS_seq ?_
    -- region 6
    refine sR ?_
    refine kM rfl rfl ?_
    refine kO (T_conv rfl u126 u2 rfl (wrap_i64 (by omega) (by omega))) rfl ?_
    refine kM rfl rfl ?_
    refine kO (T_subI rfl rfl rfl (wrap_i64 (by omega) (by omega))) rfl ?_
    refine kA rfl rfl ?_
    refine kE ?_
    refine JS_seq ?_
    refine JS_seq ?_
    -- region 7
    refine sR ?_
    refine kM rfl rfl ?_
    refine kM rfl rfl ?_
    refine kO (T_len_slice rfl rfl u81 rfl) rfl ?_
    refine kO (T_lt rfl rfl rfl) rfl ?_
    refine kE ?_
    refine JS_join1 (fun (n : Int) => [(9, Ty.val (.int .i64 n))]) [1, 5, 13, 14, 15] (fun (n : Int) => []) (fun (n : Int) => n = (lims a).getD i 0 - (subK (lims a) (lims b) i).2 - (lims b).getD i 0) ?_ (fun n (hN : n = (lims a).getD i 0 - (subK (lims a) (lims b) i).2 - (lims b).getD i 0) => ?_)
    · refine JS_if rfl (fun c27 => ?_) (fun c27 => ?_)
      · -- region 8
        refine sR ?_
        refine kM rfl rfl ?_
        refine kM rfl rfl ?_
        refine kM rfl rfl ?_
        refine kO (T_ix rfl rfl rfl u81 ti126 (by omega) (by omega) (getD_at (i) (by omega) _)) rfl ?_
        refine kO (T_load_int rfl ti126 rfl) rfl ?_
        refine kO (T_conv rfl u126 u2 rfl (wrap_i64 (by omega) (by omega))) rfl ?_
        refine kO (T_subI rfl rfl rfl (wrap_i64 (by omega) (by omega))) rfl ?_
        refine kA rfl rfl ?_
        refine kE ?_
        exact JS_meet _ (rfl) rfl (EnvSub.consLe rfl (int_eq (rfl)) (EnvSub.pick1 rfl (EnvSub.pick1 rfl (EnvSub.pick1 rfl (EnvSub.pick1 rfl (EnvSub.pick1 rfl (EnvSub.nil _)))))))
      · refine JS_skip ?_
        exact JS_meet _ (by rw [getD_out (lims b) i (by omega)]; omega) rfl (EnvSub.consLe rfl (int_eq (rfl)) (EnvSub.pick1 rfl (EnvSub.pick1 rfl (EnvSub.pick1 rfl (EnvSub.pick1 rfl (EnvSub.pick1 rfl (EnvSub.nil _)))))))
    · refine JS_seq ?_
      -- region 9
      refine sR ?_
      refine kA rfl rfl ?_
      refine kE ?_
      refine JS_seq ?_
      refine JS_seq ?_
      -- region 10
      refine sR ?_
      refine kM rfl rfl ?_
      refine kO (T_lt rfl rfl rfl) rfl ?_
      refine kE ?_
      refine JS_join2 (fun (p : Int) (q : Int) => [(9, Ty.val (.int .i64 p)), (6, Ty.val (.int .i64 q))]) [1, 5, 13, 14, 15] (fun (p : Int) (q : Int) => []) (fun (p : Int) (q : Int) => p = n % 1000000000 ∧ q = if n < 0 then 1 else 0) ?_ (fun p q (hP : p = n % 1000000000 ∧ q = if n < 0 then 1 else 0) => ?_)
      · refine JS_if rfl (fun c36 => ?_) (fun c36 => ?_)
        · -- region 11
          refine sR ?_
          refine kM rfl rfl ?_
          refine kO (T_add rfl rfl rfl (wrap_i64 (by omega) (by omega))) rfl ?_
          refine kA rfl rfl ?_
          refine kA rfl rfl ?_
          refine kE ?_
          exact JS_meet ((n + 1000000000), 1) (by try dsimp only; exact (⟨by omega, by rw [if_pos c36]⟩)) rfl (EnvSub.consLe rfl (int_eq (rfl)) (EnvSub.consLe rfl (int_eq (rfl)) (EnvSub.pick1 rfl (EnvSub.pick1 rfl (EnvSub.pick1 rfl (EnvSub.pick1 rfl (EnvSub.pick1 rfl (EnvSub.nil _))))))))
        · refine JS_skip ?_
          exact JS_meet (n, 0) (by try dsimp only; exact (⟨by omega, by rw [if_neg c36]⟩)) rfl (EnvSub.consLe rfl (int_eq (rfl)) (EnvSub.consLe rfl (int_eq (rfl)) (EnvSub.pick1 rfl (EnvSub.pick1 rfl (EnvSub.pick1 rfl (EnvSub.pick1 rfl (EnvSub.pick1 rfl (EnvSub.nil _))))))))
      · obtain ⟨rfl, rfl⟩ := hP
        -- region 12
        refine sR ?_
        refine kM rfl rfl ?_
        refine kM rfl rfl ?_
        refine kO (T_conv rfl u2 u126 rfl (wrap_u32 (by omega) (by omega))) rfl ?_
        refine kO (T_lits (xs := [.tmp 41]) (d := (Kd.int .u32)) [_] rfl rfl u81 ti126 z126 rfl rfl (by decide) (by decide) (oa (ol rfl (val_int _ _)) oa0) rfl) rfl ?_
        refine kT ?_
        refine JT_append (i := 0) rfl rfl rfl rfl u81 ei126 rfl rfl (by decide) rfl rfl (ol rfl (Ty.le.refl _)) (by have := h2; simp only [maxLen, List.length_cons, List.length_nil, this]; omega) (by have := h2; simp only [List.length_cons, List.length_nil, this]; omega) (fun v43 => ?_)
        refine jA rfl rfl ?_
        refine JT_done ?_
        refine JS_end_inB ?_
        -- region 13
        refine sR ?_
        refine kO (T_add rfl rfl rfl (wrap_i64 (by omega) (by omega))) rfl ?_
        refine kM rfl rfl ?_
        refine kE ?_
        exact JS_round ((i + 1), v43) (by try dsimp only; exact ((by omega))) (by try dsimp only; exact ((by omega))) (by subst hN; rfl) (EnvSub.consLe rfl (int_eq (rfl)) (EnvSub.consLe rfl (int_eq (by subst hN; rfl)) (EnvSub.consLe rfl (Ty.le.refl _) (EnvSub.pick1 rfl (EnvSub.pick1 rfl (EnvSub.pick1 rfl (EnvSub.nil _)))))))
  · have hi : i = (lims a).length := by omega
    subst hi
    refine JS_exit (JE_loop_exit (JE_inB_here ?_))
    refine JS_seq ?_
    -- region 14
    refine sR ?_
    refine kM rfl rfl ?_
    refine kA rfl rfl ?_
    refine kE ?_
    refine JS_freeze_sl (i := 0) (s := 4) rfl rfl ?_
    exact JS_ret (JE_ret_one rfl rfl (.tmp rfl .nil) (of_eq (rfl)))

theorem cmpL_lt {a b : Nat} (h : cmpL (lims a) (lims b) < 0) : a < b := by rw [cmpL_lims] at h; unfold cmp3 at h; repeat (split at h <;> try omega)
theorem cmpL_ge {a b : Nat} (h : ¬ cmpL (lims a) (lims b) < 0) : b ≤ a := by rw [cmpL_lims] at h; unfold cmp3 at h; repeat (split at h <;> try omega)
theorem add_same {w o : Int} (h : (decide (w < 0) == decide (o < 0)) = true) : sgn (decide (w < 0)) (w.natAbs + o.natAbs) = w + o := by
  unfold sgn; by_cases h1 : w < 0 <;> by_cases h2 : o < 0 <;> simp [h1, h2] at h ⊢ <;> omega
theorem add_less {w o : Int} (h : (decide (w < 0) == decide (o < 0)) = false) (h' : w.natAbs < o.natAbs) : sgn (decide (o < 0)) (o.natAbs - w.natAbs) = w + o := by
  unfold sgn; by_cases h1 : w < 0 <;> by_cases h2 : o < 0 <;> simp [h1, h2] at h ⊢ <;> omega
theorem add_more {w o : Int} (h : (decide (w < 0) == decide (o < 0)) = false) (h' : o.natAbs ≤ w.natAbs) : sgn (decide (w < 0)) (w.natAbs - o.natAbs) = w + o := by
  unfold sgn; by_cases h1 : w < 0 <;> by_cases h2 : o < 0 <;> simp [h1, h2] at h ⊢ <;> omega

theorem u4 : Tryz.prog.underlying 4 = some (.bool) := by kernel_rfl

theorem en105 : Enters Tryz.prog 105 := enters_fn Tryz.func105 (by kernel_rfl) rfl

theorem en106 : Enters Tryz.prog 106 := enters_fn Tryz.func106 (by kernel_rfl) rfl

theorem w79 {w o : Int} (hw : (lims w.natAbs).length ≤ 4000000) (ho : (lims o.natAbs).length ≤ 4000000) : Spec CC 79 [Ty.of Kd.whole w, Ty.of Kd.whole o] (Ty.of Kd.whole (w + o)) := by
  refine spec_of_JS Tryz.func79 rfl (Nat.le_of_ble_eq_true rfl) (fun gh0 wd0 => ?_)
  refine JS_seq ?_
  -- region 0
  refine sR ?_
  refine kO (T_box rfl (ol rfl (Ty.le.refl _))) rfl ?_
  refine kO (T_box rfl (ol rfl (Ty.le.refl _))) rfl ?_
  refine kT ?_
  refine JT_alloc (S0 := Seg.cat [Seg.of Kd.bool false, Seg.of (Kd.slice (Kd.int .u32)) []]) rfl rfl rfl rfl z83 h0_83 (fun g4 => ?_)
  refine JT_done ?_
  refine JS_seq ?_
  refine JS_block ?_
  refine JS_seq ?_
  -- region 1
  refine sR ?_
  refine kO (T_fieldAddr rfl fa83_0 (whole_neg _) rfl) rfl ?_
  refine kO (T_load_bool rfl ti4 rfl) rfl ?_
  refine kO (T_fieldAddr rfl fa83_0 (whole_neg _) rfl) rfl ?_
  refine kO (T_load_bool rfl ti4 rfl) rfl ?_
  refine kO (T_bool_eq rfl u4 rfl rfl) rfl ?_
  refine kA rfl rfl ?_
  refine kE ?_
  refine JS_cond rfl (fun c5 => ?_) (fun c5 => ?_)
  · refine JS_seq ?_
    -- region 2
    refine sRD mixed ?_
    refine kO (T_fieldAddr rfl fa83_0 (whole_neg _) rfl) rfl ?_
    refine kO (T_load_bool rfl ti4 rfl) rfl ?_
    refine kO (T_fieldAddr rfl fa83_1 (whole_mag _) rfl) rfl ?_
    refine kO (T_ld rfl rfl ti81) rfl ?_
    refine kO (T_fieldAddr rfl fa83_1 (whole_mag _) rfl) rfl ?_
    refine kO (T_ld rfl rfl ti81) rfl ?_
    refine kO (T_callL rfl en105 (w105 (by omega) (by omega)) (oa (ol rfl (Ty.le.refl _)) (oa (ol rfl (Ty.le.refl _)) oa0))) rfl ?_
    refine kO (T_callL rfl en97 (w97 (lims_ok _) (lval_lims _)) (oa (ol rfl (Ty.le.refl _)) (oa (ol rfl (Ty.le.refl _)) oa0))) rfl ?_
    refine kTD (by decide) ?_
    refine JT_store (i := 0) rfl rfl rfl rfl rfl (ol rfl (Ty.le.refl _)) (Upd.self _ _ rfl) sz83 ?_
    refine JT_done ?_
    exact JS_ret (JE_inB_ret (JE_ret_one rfl rfl (.cell (i := 0) rfl rfl ti83 .nil) ((of_eq (add_same c5)))))
  · refine JS_seq ?_
    -- region 3
    refine sR ?_
    refine kO (T_fieldAddr rfl fa83_1 (whole_mag _) rfl) rfl ?_
    refine kO (T_ld rfl rfl ti81) rfl ?_
    refine kO (T_fieldAddr rfl fa83_1 (whole_mag _) rfl) rfl ?_
    refine kO (T_ld rfl rfl ti81) rfl ?_
    refine kO (T_callL rfl en104 (w104 ) (oa (ol rfl (Ty.le.refl _)) (oa (ol rfl (Ty.le.refl _)) oa0))) rfl ?_
    refine kO (T_lt rfl rfl rfl) rfl ?_
    refine kA rfl rfl ?_
    refine kE ?_
    refine JS_if rfl (fun c19 => ?_) (fun c19 => ?_)
    · have hc := cmpL_lt c19
      have hS := subL_law (Nat.le_of_lt hc)
      refine JS_seq ?_
      -- region 4
      refine sRD mixed ?_
      refine kO (T_fieldAddr rfl fa83_0 (whole_neg _) rfl) rfl ?_
      refine kO (T_load_bool rfl ti4 rfl) rfl ?_
      refine kO (T_fieldAddr rfl fa83_1 (whole_mag _) rfl) rfl ?_
      refine kO (T_ld rfl rfl ti81) rfl ?_
      refine kO (T_fieldAddr rfl fa83_1 (whole_mag _) rfl) rfl ?_
      refine kO (T_ld rfl rfl ti81) rfl ?_
      refine kO (T_callL rfl en106 (w106 (by omega) (by omega)) (oa (ol rfl (Ty.le.refl _)) (oa (ol rfl (Ty.le.refl _)) oa0))) rfl ?_
      refine kO (T_callL rfl en97 (w97 hS.1 hS.2.2) (oa (ol rfl (Ty.le.refl _)) (oa (ol rfl (Ty.le.refl _)) oa0))) rfl ?_
      refine kTD (by decide) ?_
      refine JT_store (i := 0) rfl rfl rfl rfl rfl (ol rfl (Ty.le.refl _)) (Upd.self _ _ rfl) sz83 ?_
      refine JT_done ?_
      exact JS_ret (JE_inB_ret (JE_ret_one rfl rfl (.cell (i := 0) rfl rfl ti83 .nil) ((of_eq (add_less c5 hc)))))
    · have hc := cmpL_ge c19
      have hS := subL_law hc
      refine JS_skip ?_
      refine JS_end_inB ?_
      refine JS_seq ?_
      -- region 5
      refine sRD mixed ?_
      refine kO (T_fieldAddr rfl fa83_0 (whole_neg _) rfl) rfl ?_
      refine kO (T_load_bool rfl ti4 rfl) rfl ?_
      refine kO (T_fieldAddr rfl fa83_1 (whole_mag _) rfl) rfl ?_
      refine kO (T_ld rfl rfl ti81) rfl ?_
      refine kO (T_fieldAddr rfl fa83_1 (whole_mag _) rfl) rfl ?_
      refine kO (T_ld rfl rfl ti81) rfl ?_
      refine kO (T_callL rfl en106 (w106 (by omega) (by omega)) (oa (ol rfl (Ty.le.refl _)) (oa (ol rfl (Ty.le.refl _)) oa0))) rfl ?_
      refine kO (T_callL rfl en97 (w97 hS.1 hS.2.2) (oa (ol rfl (Ty.le.refl _)) (oa (ol rfl (Ty.le.refl _)) oa0))) rfl ?_
      refine kTD (by decide) ?_
      refine JT_store (i := 0) rfl rfl rfl rfl rfl (ol rfl (Ty.le.refl _)) (Upd.self _ _ rfl) sz83 ?_
      refine JT_done ?_
      exact JS_ret (JE_ret_one rfl rfl (.cell (i := 0) rfl rfl ti83 .nil) ((of_eq (add_more c5 hc))))

theorem en68 : Enters Tryz.prog 68 := enters_fn Tryz.func68 (by kernel_rfl) rfl

theorem en79 : Enters Tryz.prog 79 := enters_fn Tryz.func79 (by kernel_rfl) rfl

theorem w100 {w o : Int} (hw : (lims w.natAbs).length ≤ 4000000) (ho : (lims o.natAbs).length ≤ 4000000) : Spec CC 100 [Ty.of Kd.whole w, Ty.of Kd.whole o] (Ty.of Kd.whole (w - o)) := by
  refine spec_of_JS Tryz.func100 rfl (Nat.le_of_ble_eq_true rfl) (fun gh0 wd0 => ?_)
  refine JS_seq ?_
  -- region 0
  refine sR ?_
  refine kO (T_box rfl (ol rfl (Ty.le.refl _))) rfl ?_
  refine kO (T_box rfl (ol rfl (Ty.le.refl _))) rfl ?_
  refine kT ?_
  refine JT_alloc (S0 := Seg.cat [Seg.of Kd.bool false, Seg.of (Kd.slice (Kd.int .u32)) []]) rfl rfl rfl rfl z83 h0_83 (fun g4 => ?_)
  refine JT_done ?_
  refine JS_seq ?_
  -- region 1
  refine sRD mixed ?_
  refine kO (T_ld rfl rfl ti83) rfl ?_
  refine kO (T_ld rfl rfl ti83) rfl ?_
  refine kO (T_callL rfl en68 (w68 ) (oa (ol rfl (Ty.le.refl _)) oa0)) rfl ?_
  refine kO (T_callL rfl en79 (w79 (by omega) (by rw [Int.natAbs_neg]; omega)) (oa (ol rfl (Ty.le.refl _)) (oa (ol rfl (Ty.le.refl _)) oa0))) rfl ?_
  refine kTD (by decide) ?_
  refine JT_store (i := 0) rfl rfl rfl rfl rfl (ol rfl (Ty.le.refl _)) (Upd.self _ _ rfl) sz83 ?_
  refine JT_done ?_
  exact JS_ret (JE_ret_one rfl rfl (.cell (i := 0) rfl rfl ti83 .nil) ((of_eq (by omega))))

end Go.Proofs.YtknflgfkhkdomaaGreatDoor.Mono

/-! MonoU -/
set_option linter.unusedVariables false
set_option linter.unusedSimpArgs false
namespace Go.Proofs.YtknflgfkhkdomaaGreatDoor.Mono
open Go Go.RowKit

theorem lgetD_set (l : List Int) (i j : Nat) (y : Int) : (l.set i y).getD j 0 = if i = j ∧ j < l.length then y else l.getD j 0 := by
  simp only [List.getD_eq_getElem?_getD, List.getElem?_set]
  by_cases h : i = j
  · subst h
    by_cases h2 : i < l.length
    · simp [h2]
    · simp [h2, List.getElem?_eq_none (Nat.le_of_not_lt h2)]
  · simp [h]
theorem lval_set (l : List Int) (i : Nat) (y : Int) (h : i < l.length) : lval (l.set i y) + 1000000000 ^ i * (l.getD i 0).toNat = lval l + 1000000000 ^ i * y.toNat := by
  induction l generalizing i with
  | nil => simp at h
  | cons x l ih =>
    cases i with
    | zero => simp [lval]; omega
    | succ i =>
      have ih := ih i (by simpa using h)
      simp only [List.set_cons_succ, lval, List.getD_cons_succ, Nat.pow_succ]
      have e1 : 1000000000 ^ i * 1000000000 * (l.getD i 0).toNat = 1000000000 * (1000000000 ^ i * (l.getD i 0).toNat) := by rw [Nat.mul_comm (1000000000 ^ i), Nat.mul_assoc]
      have e2 : 1000000000 ^ i * 1000000000 * y.toNat = 1000000000 * (1000000000 ^ i * y.toNat) := by rw [Nat.mul_comm (1000000000 ^ i), Nat.mul_assoc]
      rw [e1, e2]
      omega
theorem LOk.set {l : List Int} (h : LOk l) (i : Nat) {y : Int} (h0 : 0 ≤ y) (h1 : y < 1000000000) : LOk (l.set i y) := fun x hx => by
  rcases List.mem_or_eq_of_mem_set hx with hx | rfl
  · exact h x hx
  · exact ⟨h0, h1⟩
theorem mul_bd {x y : Int} (hx : 0 ≤ x ∧ x < 1000000000) (hy : 0 ≤ y ∧ y < 1000000000) : 0 ≤ x * y ∧ x * y ≤ 999999998000000001 := by
  obtain ⟨a, rfl⟩ := Int.eq_ofNat_of_zero_le hx.1
  obtain ⟨b, rfl⟩ := Int.eq_ofNat_of_zero_le hy.1
  have : a * b ≤ 999999999 * 999999999 := Nat.mul_le_mul (by omega) (by omega)
  constructor
  · exact Int.mul_nonneg (Int.natCast_nonneg a) (Int.natCast_nonneg b)
  · have q : ((a : Int) * (b : Int)) = ((a * b : Nat) : Int) := by push_cast; rfl
    show ((a : Int) * (b : Int)) ≤ _; rw [q]; omega

/-- A row of a product: the list and the carry. -/
def mulK (x : Int) (o out : List Int) (i : Nat) : Nat → List Int × Int
  | 0 => (out, 0)
  | k + 1 => ((mulK x o out i k).1.set (i + k) ((x * o.getD k 0 + (mulK x o out i k).1.getD (i + k) 0 + (mulK x o out i k).2) % 1000000000), (x * o.getD k 0 + (mulK x o out i k).1.getD (i + k) 0 + (mulK x o out i k).2) / 1000000000)
theorem mulK_len (x : Int) (o out : List Int) (i k : Nat) : (mulK x o out i k).1.length = out.length := by
  induction k with
  | zero => rfl
  | succ k ih => simp [mulK, ih]
theorem mulK_law {x : Int} {o out : List Int} (hx : 0 ≤ x ∧ x < 1000000000) (ho : LOk o) (hout : LOk out) (i : Nat) (hlen : i + o.length ≤ out.length) (k : Nat) (hk : k ≤ o.length) :
    LOk (mulK x o out i k).1 ∧ 0 ≤ (mulK x o out i k).2 ∧ (mulK x o out i k).2 < 1000000000 ∧ (∀ j, i + k ≤ j → (mulK x o out i k).1.getD j 0 = out.getD j 0) ∧
    lval (mulK x o out i k).1 + 1000000000 ^ (i + k) * (mulK x o out i k).2.toNat = lval out + 1000000000 ^ i * (x.toNat * lval (o.take k)) := by
  induction k with
  | zero => exact ⟨hout, by simp [mulK], by simp [mulK], fun j _ => rfl, by simp [mulK, lval]⟩
  | succ k ih =>
    obtain ⟨h1, h2, h3, h4, h5⟩ := ih (by omega)
    have g1 := ho.get k
    have g2 := h1.get (i + k)
    have g3 := mul_bd hx g1
    have hl := mulK_len x o out i k
    have hs := lval_set (mulK x o out i k).1 (i + k) ((x * o.getD k 0 + (mulK x o out i k).1.getD (i + k) 0 + (mulK x o out i k).2) % 1000000000) (by omega)
    rw [lval_take_succ]
    refine ⟨?_, ?_, ?_, ?_, ?_⟩
    · simp only [mulK]; exact h1.set _ (by omega) (by omega)
    · simp only [mulK]; omega
    · simp only [mulK]; omega
    · intro j hj
      simp only [mulK]
      rw [lgetD_set, if_neg (by omega)]
      exact h4 j (by omega)
    · simp only [mulK]
      generalize (mulK x o out i k).1.set (i + k) _ = l' at *
      generalize (mulK x o out i k).1 = l at *
      generalize (mulK x o out i k).2 = c at *
      generalize o.getD k 0 = y at *
      generalize l.getD (i + k) 0 = z at *
      obtain ⟨a, rfl⟩ := Int.eq_ofNat_of_zero_le hx.1
      obtain ⟨b, rfl⟩ := Int.eq_ofNat_of_zero_le g1.1
      obtain ⟨d, rfl⟩ := Int.eq_ofNat_of_zero_le g2.1
      obtain ⟨e, rfl⟩ := Int.eq_ofNat_of_zero_le h2
      have q : ((a : Int) * (b : Int)) = ((a * b : Nat) : Int) := by push_cast; rfl
      simp only [Int.ofNat_eq_natCast, Int.toNat_natCast, q] at *
      have e1 : (((a * b : Nat) + (d : Int) + e) % 1000000000).toNat = (a * b + d + e) % 1000000000 := by omega
      have e2 : (((a * b : Nat) + (d : Int) + e) / 1000000000).toNat = (a * b + d + e) / 1000000000 := by omega
      rw [e1] at hs
      rw [e2, ← Nat.add_assoc, Nat.pow_succ]
      have e3 : 1000000000 ^ (i + k) * ((a * b + d + e) % 1000000000) + 1000000000 ^ (i + k) * 1000000000 * ((a * b + d + e) / 1000000000) = 1000000000 ^ (i + k) * (a * b) + 1000000000 ^ (i + k) * d + 1000000000 ^ (i + k) * e := by
        rw [Nat.mul_assoc, ← Nat.mul_add, ← Nat.mul_add, ← Nat.mul_add]; congr 1; omega
      have e4 : 1000000000 ^ i * (a * (lval (o.take k) + 1000000000 ^ k * b)) = 1000000000 ^ i * (a * lval (o.take k)) + 1000000000 ^ (i + k) * (a * b) := by
        rw [Nat.mul_add, Nat.mul_add, Nat.pow_add]
        congr 1
        rw [Nat.mul_left_comm a, Nat.mul_assoc]
      rw [e4]
      omega
/-- A product, after some rows. -/
def mulR (m o : List Int) : Nat → List Int
  | 0 => List.replicate (m.length + o.length) 0
  | i + 1 => (mulK (m.getD i 0) o (mulR m o i) i o.length).1.set (i + o.length) (mulK (m.getD i 0) o (mulR m o i) i o.length).2
theorem mulR_len (m o : List Int) (i : Nat) : (mulR m o i).length = m.length + o.length := by
  induction i with
  | zero => simp [mulR]
  | succ i ih => simp [mulR, mulK_len, ih]
theorem lval_zeros (n : Nat) : lval (List.replicate n 0) = 0 := by
  induction n with
  | zero => rfl
  | succ n ih => simp [List.replicate_succ, lval, ih]
theorem mulR_law {m o : List Int} (hm : LOk m) (ho : LOk o) (i : Nat) (hi : i ≤ m.length) : LOk (mulR m o i) ∧ (∀ j, i + o.length ≤ j → (mulR m o i).getD j 0 = 0) ∧ lval (mulR m o i) = lval (m.take i) * lval o := by
  induction i with
  | zero =>
    refine ⟨fun x hx => ?_, fun j _ => ?_, ?_⟩
    · simp only [mulR] at hx; rw [List.eq_of_mem_replicate hx]; omega
    · simp only [mulR, List.getD_eq_getElem?_getD, List.getElem?_replicate]; split <;> rfl
    · simp [mulR, lval_zeros, lval]
  | succ i ih =>
    obtain ⟨h1, h2, h3⟩ := ih (by omega)
    have hl := mulR_len m o i
    obtain ⟨k1, k2, k3, k4, k5⟩ := mulK_law (hm.get i) ho h1 i (by omega) o.length (Nat.le_refl _)
    have hl2 := mulK_len (m.getD i 0) o (mulR m o i) i o.length
    have hs := lval_set (mulK (m.getD i 0) o (mulR m o i) i o.length).1 (i + o.length) (mulK (m.getD i 0) o (mulR m o i) i o.length).2 (by omega)
    rw [k4 _ (Nat.le_refl _), h2 _ (Nat.le_refl _)] at hs
    refine ⟨?_, fun j hj => ?_, ?_⟩
    · simp only [mulR]; exact k1.set _ k2 k3
    · simp only [mulR]
      rw [lgetD_set, if_neg (by omega), k4 j (by omega)]
      exact h2 j (by omega)
    · simp only [mulR]
      rw [lval_take_succ, Nat.add_mul, ← h3]
      rw [List.take_length] at k5
      rw [Int.toNat_zero, Nat.mul_zero, Nat.add_zero] at hs
      have e : 1000000000 ^ i * ((m.getD i 0).toNat * lval o) = 1000000000 ^ i * (m.getD i 0).toNat * lval o := by rw [Nat.mul_assoc]
      omega

/-! A magnitude times a limb -/
def scaK (m : List Int) (by_ : Int) : Nat → List Int × Int
  | 0 => ([], 0)
  | i + 1 => ((scaK m by_ i).1 ++ [(m.getD i 0 * by_ + (scaK m by_ i).2) % 1000000000], (m.getD i 0 * by_ + (scaK m by_ i).2) / 1000000000)
theorem scaK_law {m : List Int} {y : Int} (hm : LOk m) (hy : 0 ≤ y ∧ y < 1000000000) (i : Nat) : LOk (scaK m y i).1 ∧ (scaK m y i).1.length = i ∧ 0 ≤ (scaK m y i).2 ∧ (scaK m y i).2 < 1000000000 ∧ lval (scaK m y i).1 + 1000000000 ^ i * (scaK m y i).2.toNat = lval (m.take i) * y.toNat := by
  induction i with
  | zero => exact ⟨by intro x hx; simp [scaK] at hx, rfl, by simp [scaK], by simp [scaK], by simp [scaK, lval]⟩
  | succ i ih =>
    obtain ⟨h1, h2, h3, h4, h5⟩ := ih
    have g1 := hm.get i
    have g3 := mul_bd g1 hy
    rw [lval_take_succ]
    simp only [scaK]
    generalize m.getD i 0 = x at *
    generalize (scaK m y i).2 = c at *
    generalize (scaK m y i).1 = l at *
    refine ⟨h1.snoc (by omega) (by omega), by simp [h2], by omega, by omega, ?_⟩
    rw [lval_snoc, h2, Nat.pow_succ, Nat.add_mul, ← h5]
    obtain ⟨a, rfl⟩ := Int.eq_ofNat_of_zero_le g1.1
    obtain ⟨b, rfl⟩ := Int.eq_ofNat_of_zero_le hy.1
    obtain ⟨d, rfl⟩ := Int.eq_ofNat_of_zero_le h3
    have q : ((a : Int) * (b : Int)) = ((a * b : Nat) : Int) := by push_cast; rfl
    simp only [Int.ofNat_eq_natCast, Int.toNat_natCast, q] at *
    have e1 : (((a * b : Nat) + (d : Int)) % 1000000000).toNat = (a * b + d) % 1000000000 := by omega
    have e2 : (((a * b : Nat) + (d : Int)) / 1000000000).toNat = (a * b + d) / 1000000000 := by omega
    rw [e1, e2]
    have e3 : 1000000000 ^ i * ((a * b + d) % 1000000000) + 1000000000 ^ i * 1000000000 * ((a * b + d) / 1000000000) = 1000000000 ^ i * a * b + 1000000000 ^ i * d := by
      rw [Nat.mul_assoc, ← Nat.mul_add, Nat.mul_assoc, ← Nat.mul_add]; congr 1; omega
    omega
/-- The limbs of a magnitude times a limb, as they are computed. -/
def scaL (m : List Int) (y : Int) : List Int := (scaK m y m.length).1 ++ [(scaK m y m.length).2]
theorem scaL_law {m : List Int} {y : Int} (hm : LOk m) (hy : 0 ≤ y ∧ y < 1000000000) : LOk (scaL m y) ∧ (scaL m y).length = m.length + 1 ∧ lval (scaL m y) = lval m * y.toNat := by
  obtain ⟨h1, h2, h3, h4, h5⟩ := scaK_law hm hy m.length
  rw [List.take_length] at h5
  exact ⟨h1.snoc h3 h4, by simp [scaL, h2], by rw [scaL, lval_snoc, h2]; exact h5⟩

/-! A magnitude divided by a limb -/
theorem lval_drop_step {l : List Int} {k : Nat} (hok : LOk l) (hk : k < l.length) : (lval (l.drop (l.length - (k + 1))) : Int) = (lval (l.drop (l.length - k)) : Int) * 1000000000 + l.getD (l.length - 1 - k) 0 := by
  have e : l.drop (l.length - (k + 1)) = l[l.length - 1 - k]'(by omega) :: l.drop (l.length - k) := by
    rw [show l.length - (k + 1) = l.length - 1 - k by omega, List.drop_eq_getElem_cons (by omega)]
    congr 2; omega
  have := hok.get (l.length - 1 - k)
  rw [getD_nat l _ (by omega)] at this ⊢
  rw [e, lval]
  omega
/-- After k limbs from the top: the quotient's limbs, the rest. -/
def shK (l : List Int) (y : Int) : Nat → List Int × Int
  | 0 => (List.replicate l.length 0, 0)
  | k + 1 => ((shK l y k).1.set (l.length - 1 - k) (((shK l y k).2 * 1000000000 + l.getD (l.length - 1 - k) 0) / y), ((shK l y k).2 * 1000000000 + l.getD (l.length - 1 - k) 0) % y)
theorem shK_len (l : List Int) (y : Int) (k : Nat) : (shK l y k).1.length = l.length := by
  induction k with
  | zero => simp [shK]
  | succ k ih => simp [shK, ih]
theorem div_bd {r x y : Int} (hy : 0 < y ∧ y < 1000000000) (hr : 0 ≤ r ∧ r < y) (hx : 0 ≤ x ∧ x < 1000000000) : 0 ≤ (r * 1000000000 + x) / y ∧ (r * 1000000000 + x) / y < 1000000000 ∧ 0 ≤ (r * 1000000000 + x) % y ∧ (r * 1000000000 + x) % y < y := by
  refine ⟨Int.ediv_nonneg (by omega) (by omega), ?_, Int.emod_nonneg _ (by omega), Int.emod_lt_of_pos _ hy.1⟩
  refine Int.ediv_lt_of_lt_mul hy.1 ?_
  rw [Int.mul_comm 1000000000 y]
  omega
theorem shK_law {l : List Int} {y : Int} (hl : LOk l) (hy : 0 < y ∧ y < 1000000000) (k : Nat) (hk : k ≤ l.length) : LOk (shK l y k).1 ∧ 0 ≤ (shK l y k).2 ∧ (shK l y k).2 < y ∧
    (∀ j, j < l.length - k → (shK l y k).1.getD j 0 = 0) ∧ (lval ((shK l y k).1.drop (l.length - k)) : Int) * y + (shK l y k).2 = lval (l.drop (l.length - k)) := by
  induction k with
  | zero =>
    refine ⟨fun x hx => ?_, by simp [shK], by simp [shK]; omega, fun j _ => ?_, ?_⟩
    · simp only [shK] at hx; rw [List.eq_of_mem_replicate hx]; omega
    · simp only [shK, List.getD_eq_getElem?_getD, List.getElem?_replicate]; split <;> rfl
    · simp [shK, lval]
  | succ k ih =>
    obtain ⟨h1, h2, h3, h4, h5⟩ := ih (by omega)
    have g := hl.get (l.length - 1 - k)
    have hb := div_bd hy ⟨h2, h3⟩ g
    have hlen := shK_len l y k
    have hst := lval_drop_step hl (show k < l.length by omega)
    simp only [shK]
    generalize l.getD (l.length - 1 - k) 0 = x at *
    generalize (shK l y k).2 = r at *
    generalize hq : (shK l y k).1 = q at *
    refine ⟨h1.set _ hb.1 hb.2.1, hb.2.2.1, hb.2.2.2, fun j hj => ?_, ?_⟩
    · rw [lgetD_set, if_neg (by omega)]; exact h4 j (by omega)
    · have e : (q.set (l.length - 1 - k) ((r * 1000000000 + x) / y)).drop (l.length - (k + 1)) = (r * 1000000000 + x) / y :: q.drop (l.length - k) := by
        rw [show l.length - (k + 1) = l.length - 1 - k by omega, List.drop_eq_getElem_cons (by simp; omega)]
        congr 1
        · simp
        · rw [List.drop_set_of_lt (by omega)]; congr 1; omega
      rw [e, hst, ← h5, lval]
      have h6 := Int.mul_ediv_add_emod (r * 1000000000 + x) y
      have h7 := hb.1
      generalize (r * 1000000000 + x) / y = d at *
      generalize (r * 1000000000 + x) % y = s at *
      obtain ⟨d, rfl⟩ := Int.eq_ofNat_of_zero_le h7
      rw [Int.toNat_natCast, Int.natCast_add, Int.natCast_mul, show ((1000000000 : Nat) : Int) = 1000000000 from rfl]
      generalize (lval (q.drop (l.length - k)) : Int) = z at *
      have h8 : ((d : Int) + 1000000000 * z) * y = y * d + 1000000000 * (z * y) := by
        rw [Int.add_mul, Int.mul_comm (d : Int) y, Int.mul_assoc]
      rw [h8]
      generalize z * y = zy at *
      generalize y * (d : Int) = yd at *
      omega
/-- The quotient's limbs, the rest. -/
theorem shK_fin {l : List Int} {y : Int} (hl : LOk l) (hy : 0 < y ∧ y < 1000000000) : LOk (shK l y l.length).1 ∧ (shK l y l.length).1.length = l.length ∧ lval (shK l y l.length).1 = lval l / y.toNat ∧ (shK l y l.length).2 = (lval l % y.toNat : Nat) := by
  obtain ⟨h1, h2, h3, _, h5⟩ := shK_law hl hy l.length (Nat.le_refl _)
  refine ⟨h1, shK_len l y _, ?_⟩
  rw [Nat.sub_self, List.drop_zero, List.drop_zero] at h5
  generalize (shK l y l.length).2 = r at *
  generalize lval (shK l y l.length).1 = q at *
  obtain ⟨y, rfl⟩ := Int.eq_ofNat_of_zero_le (Int.le_of_lt hy.1)
  obtain ⟨r, rfl⟩ := Int.eq_ofNat_of_zero_le h2
  rw [Int.toNat_natCast]
  have h6 : q * y + r = lval l := by exact_mod_cast h5
  have hy0 : 0 < y := by omega
  rw [← h6]
  refine ⟨?_, ?_⟩
  · rw [Nat.mul_comm, Nat.mul_add_div hy0, Nat.div_eq_of_lt (by omega)]; omega
  · rw [Nat.mul_comm, Nat.mul_add_mod, Nat.mod_eq_of_lt (by omega)]
end Go.Proofs.YtknflgfkhkdomaaGreatDoor.Mono

/-! WkC -/
set_option linter.unusedVariables false
set_option linter.unusedSimpArgs false
set_option maxRecDepth 4000
set_option maxHeartbeats 4000000
namespace Go.Proofs.YtknflgfkhkdomaaGreatDoor.Mono
open Go Go.RowKit

theorem mul_sign {w o : Int} : sgn (decide (w < 0) != decide (o < 0)) (w.natAbs * o.natAbs) = w * o := by
  rw [← Int.natAbs_mul]
  unfold sgn
  by_cases h1 : w < 0 <;> by_cases h2 : o < 0 <;> simp [h1, h2]
  · have := Int.mul_pos_of_neg_of_neg h1 h2; omega
  · have := Int.mul_nonpos_of_nonpos_of_nonneg (Int.le_of_lt h1) (Int.not_lt.1 h2); omega
  · have := Int.mul_nonpos_of_nonneg_of_nonpos (Int.not_lt.1 h1) (Int.le_of_lt h2); omega
  · have := Int.mul_nonneg (Int.not_lt.1 h1) (Int.not_lt.1 h2); omega

theorem u32 : Tryz.prog.underlying 32 = some (.int .u64) := by kernel_rfl

theorem sz126 : (Tryz.prog.info? 126).map (·.size) = some 1 := by kernel_rfl

theorem w77 {w o : Int} (hw : (lims w.natAbs).length ≤ 1000000) (ho : (lims o.natAbs).length ≤ 1000000) : Spec CC 77 [Ty.of Kd.whole w, Ty.of Kd.whole o] (Ty.of Kd.whole (w * o)) := by
  refine spec_of_JS Tryz.func77 rfl (Nat.le_of_ble_eq_true rfl) (fun gh0 wd0 => ?_)
  refine JS_seq ?_
  -- region 0
  refine sR ?_
  refine kO (T_box rfl (ol rfl (Ty.le.refl _))) rfl ?_
  refine kO (T_box rfl (ol rfl (Ty.le.refl _))) rfl ?_
  refine kT ?_
  refine JT_alloc (S0 := Seg.cat [Seg.of Kd.bool false, Seg.of (Kd.slice (Kd.int .u32)) []]) rfl rfl rfl rfl z83 h0_83 (fun g4 => ?_)
  refine JT_done ?_
  refine JS_seq ?_
  -- region 1
  refine sR ?_
  refine kO (T_fieldAddr rfl fa83_1 (whole_mag _) rfl) rfl ?_
  refine kO (T_ld rfl rfl ti81) rfl ?_
  refine kO (T_len_slice rfl rfl u81 rfl) rfl ?_
  refine kO (T_fieldAddr rfl fa83_1 (whole_mag _) rfl) rfl ?_
  refine kO (T_ld rfl rfl ti81) rfl ?_
  refine kO (T_len_slice rfl rfl u81 rfl) rfl ?_
  refine kO (T_add rfl rfl rfl (wrap_i64 (by omega) (by omega))) rfl ?_
  refine kT ?_
  refine JT_make (K := (Kd.int .u32)) (z0 := 0) rfl rfl rfl rfl u81 ei126 rfl (by decide) (fun _ => rfl) rfl rfl (by omega) (by omega) (by omega) (by omega) (fun v19 => ?_)
  refine jA rfl rfl ?_
  refine JT_done ?_
  refine JS_seq ?_
  refine JS_seq ?_
  -- region 2
  refine sR ?_
  refine kO (T_fieldAddr rfl fa83_1 (whole_mag _) rfl) rfl ?_
  refine kO (T_ld rfl rfl ti81) rfl ?_
  refine kO (T_len_slice rfl rfl u81 rfl) rfl ?_
  refine kM rfl rfl ?_
  refine kE ?_
  refine JS_block ?_
  refine sLoop1 (fun (i : Nat) => [(23, Ty.val (.int .i64 i))]) [2, 3, 4, 5, 21, 22] (fun (i : Nat) => [(0, Res.sl v19 126 (Kd.int .u32) (mulR (lims w.natAbs) (lims o.natAbs) i))]) (fun (i : Nat) => i ≤ (lims w.natAbs).length) (fun (i : Nat) => (lims w.natAbs).length - i) 0 (Nat.zero_le _) rfl (EnvSub.consLe rfl (int_eq (rfl)) (EnvSub.nil _)) (fun i (hI : i ≤ (lims w.natAbs).length) => ?_)
  obtain ⟨h1, h2, h3⟩ := mulR_law (lims_ok w.natAbs) (lims_ok o.natAbs) i hI
  have h4 := mulR_len (lims w.natAbs) (lims o.natAbs) i
  have gx := (lims_ok w.natAbs).get i
  refine JS_seq ?_
  -- region 3
  refine sR ?_
  refine kO (T_lt rfl rfl rfl) rfl ?_
  refine kE ?_
  refine JS_seq ?_
  refine JS_if rfl (fun c24 => ?_) (fun c24 => ?_)
  · refine JS_skip ?_
    refine JS_seq ?_
    refine JS_block ?_
    refine JS_seq ?_
    -- region 4
    refine sR ?_
    refine kM rfl rfl ?_
    refine kO (T_ix rfl rfl rfl u81 ti126 (by omega) (by omega) (getD_at (i) (by omega) _)) rfl ?_
    refine kO (T_load_int rfl ti126 rfl) rfl ?_
    refine kA rfl rfl ?_
    refine kA rfl rfl ?_
    refine kE ?_
    refine JS_seq ?_
    -- region 5
    refine sR ?_
    refine kA rfl rfl ?_
    refine kE ?_
    refine JS_seq ?_
    refine JS_seq ?_
    -- region 6
    refine sR ?_
    refine kO (T_fieldAddr rfl fa83_1 (whole_mag _) rfl) rfl ?_
    refine kO (T_ld rfl rfl ti81) rfl ?_
    refine kO (T_len_slice rfl rfl u81 rfl) rfl ?_
    refine kM rfl rfl ?_
    refine kE ?_
    refine JS_block ?_
    refine sLoop1 (fun (k : Nat) => [(31, Ty.val (.int .i64 k)), (8, Ty.val (.int .u64 ((mulK ((lims w.natAbs).getD i 0) (lims o.natAbs) (mulR (lims w.natAbs) (lims o.natAbs) i) i k).2)))]) [2, 3, 4, 5, 6, 7, 21, 22, 23, 29, 30] (fun (k : Nat) => [(0, Res.sl v19 126 (Kd.int .u32) (mulK ((lims w.natAbs).getD i 0) (lims o.natAbs) (mulR (lims w.natAbs) (lims o.natAbs) i) i k).1)]) (fun (k : Nat) => k ≤ (lims o.natAbs).length) (fun (k : Nat) => (lims o.natAbs).length - k) 0 (Nat.zero_le _) rfl (EnvSub.consLe rfl (int_eq (rfl)) (EnvSub.consLe rfl (int_eq (rfl)) (EnvSub.nil _))) (fun k (hK : k ≤ (lims o.natAbs).length) => ?_)
    obtain ⟨k1, k2, k3, k4, k5⟩ := mulK_law gx (lims_ok o.natAbs) h1 i (by omega) k hK
    have k6 := mulK_len ((lims w.natAbs).getD i 0) (lims o.natAbs) (mulR (lims w.natAbs) (lims o.natAbs) i) i k
    have gy := (lims_ok o.natAbs).get k
    have gz := k1.get (i + k)
    have gp := mul_bd gx gy
    refine JS_seq ?_
    -- region 7
    refine sR ?_
    refine kO (T_lt rfl rfl rfl) rfl ?_
    refine kE ?_
    refine JS_seq ?_
    refine JS_if rfl (fun c32 => ?_) (fun c32 => ?_)
    · refine JS_skip ?_
      refine JS_seq ?_
      refine JS_block ?_
      refine JS_seq ?_
      -- region 8
      refine sR ?_
      refine kM rfl rfl ?_
      refine kO (T_ix rfl rfl rfl u81 ti126 (by omega) (by omega) (getD_at (k) (by omega) _)) rfl ?_
      refine kO (T_load_int rfl ti126 rfl) rfl ?_
      refine kA rfl rfl ?_
      refine kA rfl rfl ?_
      refine kE ?_
      refine JS_seq ?_
      -- region 9
      refine sR ?_
      refine kM rfl rfl ?_
      refine kO (T_conv rfl u126 u32 rfl (wrap_u64 (by omega) (by omega))) rfl ?_
      refine kM rfl rfl ?_
      refine kO (T_conv rfl u126 u32 rfl (wrap_u64 (by omega) (by omega))) rfl ?_
      refine kO (T_mul rfl rfl rfl (wrap_u64 (by omega) (by omega))) rfl ?_
      refine kM rfl rfl ?_
      refine kM rfl rfl ?_
      refine kM rfl rfl ?_
      refine kO (T_add rfl rfl rfl (wrap_i64 (by omega) (by omega))) rfl ?_
      refine kO (T_ixo (ix := 0) (d := (Kd.int .u32)) rfl rfl rfl rfl u81 ti126 (by omega) (by omega)) rfl ?_
      refine kO (T_lde_int (i := 0) rfl rfl rfl ti126 (by omega) (getD_in (i + k) (by omega) _)) rfl ?_
      refine kO (T_conv rfl u126 u32 rfl (wrap_u64 (by omega) (by omega))) rfl ?_
      refine kO (T_add rfl rfl rfl (wrap_u64 (by omega) (by omega))) rfl ?_
      refine kM rfl rfl ?_
      refine kO (T_add rfl rfl rfl (wrap_u64 (by omega) (by omega))) rfl ?_
      refine kA rfl rfl ?_
      refine kE ?_
      -- region 10
      refine sR ?_
      refine kM rfl rfl ?_
      refine kM rfl rfl ?_
      refine kM rfl rfl ?_
      refine kO (T_add rfl rfl rfl (wrap_i64 (by omega) (by omega))) rfl ?_
      refine kM rfl rfl ?_
      refine kO (T_rem rfl rfl rfl (by omega) (rem_nn (by omega))) rfl ?_
      refine kO (T_conv rfl u32 u126 rfl (wrap_u32 (by omega) (by omega))) rfl ?_
      refine kM rfl rfl ?_
      refine kO (T_quo rfl rfl rfl (by omega) (quo_u64 (by omega) (by omega) (by omega))) rfl ?_
      refine kO (T_ixo (ix := 0) (d := (Kd.int .u32)) rfl rfl rfl rfl u81 ti126 (by omega) (by omega)) rfl ?_
      refine kT ?_
      refine JT_store_elt (i := 0) rfl rfl rfl rfl rfl (by omega) (ol rfl (val_int _ _)) sz126 ?_
      refine jA rfl rfl ?_
      refine JT_done ?_
      refine JS_end_inB ?_
      -- region 11
      refine sR ?_
      refine kO (T_add rfl rfl rfl (wrap_i64 (by omega) (by omega))) rfl ?_
      refine kM rfl rfl ?_
      refine kE ?_
      exact JS_round (k + 1) ((by omega)) ((by omega)) (by have e : ((i : Int) + (k : Int)).toNat = i + k := (by omega); simp only [e]; rfl) (EnvSub.consLe rfl (int_eq (rfl)) (EnvSub.consLe rfl (int_eq (rfl)) (EnvSub.pick1 rfl (EnvSub.pick1 rfl (EnvSub.pick1 rfl (EnvSub.pick1 rfl (EnvSub.pick1 rfl (EnvSub.pick1 rfl (EnvSub.pick1 rfl (EnvSub.pick1 rfl (EnvSub.pick1 rfl (EnvSub.pick1 rfl (EnvSub.pick1 rfl (EnvSub.nil _))))))))))))))
    · have hk : k = (lims o.natAbs).length := by omega
      subst hk
      refine JS_exit (JE_loop_exit (JE_inB_here ?_))
      -- region 12
      refine sR ?_
      refine kM rfl rfl ?_
      refine kM rfl rfl ?_
      refine kO (T_fieldAddr rfl fa83_1 (whole_mag _) rfl) rfl ?_
      refine kO (T_ld rfl rfl ti81) rfl ?_
      refine kO (T_len_slice rfl rfl u81 rfl) rfl ?_
      refine kO (T_add rfl rfl rfl (wrap_i64 (by omega) (by omega))) rfl ?_
      refine kM rfl rfl ?_
      refine kO (T_conv rfl u32 u126 rfl (wrap_u32 (by omega) (by omega))) rfl ?_
      refine kO (T_ixo (ix := 0) (d := (Kd.int .u32)) rfl rfl rfl rfl u81 ti126 (by omega) (by omega)) rfl ?_
      refine kT ?_
      refine JT_store_elt (i := 0) rfl rfl rfl rfl rfl (by omega) (ol rfl (val_int _ _)) sz126 ?_
      refine JT_done ?_
      refine JS_end_inB ?_
      -- region 13
      refine sR ?_
      refine kO (T_add rfl rfl rfl (wrap_i64 (by omega) (by omega))) rfl ?_
      refine kM rfl rfl ?_
      refine kE ?_
      exact JS_round (i + 1) ((by omega)) ((by omega)) rfl (EnvSub.consLe rfl (int_eq (rfl)) (EnvSub.pick1 rfl (EnvSub.pick1 rfl (EnvSub.pick1 rfl (EnvSub.pick1 rfl (EnvSub.pick1 rfl (EnvSub.pick1 rfl (EnvSub.nil _))))))))
  · have hi : i = (lims w.natAbs).length := by omega
    subst hi
    have hR := mulR_law (lims_ok w.natAbs) (lims_ok o.natAbs) (lims w.natAbs).length (Nat.le_refl _)
    rw [List.take_length, lval_lims, lval_lims] at hR
    refine JS_exit (JE_loop_exit (JE_inB_here ?_))
    refine JS_seq ?_
    -- region 14
    refine JS_freeze_sl (i := 0) (s := 5) rfl rfl ?_
    refine sR ?_
    refine kO (T_fieldAddr rfl fa83_0 (whole_neg _) rfl) rfl ?_
    refine kO (T_load_bool rfl ti4 rfl) rfl ?_
    refine kO (T_fieldAddr rfl fa83_0 (whole_neg _) rfl) rfl ?_
    refine kO (T_load_bool rfl ti4 rfl) rfl ?_
    refine kO (T_bool_ne rfl u4 rfl rfl) rfl ?_
    refine kM rfl rfl ?_
    refine kO (T_callL rfl en97 (w97 hR.1 hR.2.2) (oa (ol rfl (Ty.le.refl _)) (oa (ol rfl (Ty.le.refl _)) oa0))) rfl ?_
    refine kT ?_
    refine JT_store (i := 0) rfl rfl rfl rfl rfl (ol rfl (Ty.le.refl _)) (Upd.self _ _ rfl) sz83 ?_
    refine JT_done ?_
    exact JS_ret (JE_ret_one rfl rfl (.cell (i := 0) rfl rfl ti83 .nil) ((of_eq (mul_sign))))

theorem w126 {m : List Int} {y : Int} (hm : LOk m) (hl : m.length ≤ 4000000) (hy : 0 ≤ y ∧ y < 1000000000) : Spec CC 126 [Ty.of (Kd.slice (Kd.int .u32)) m, Ty.val (.int .u32 y)] (Ty.of (Kd.slice (Kd.int .u32)) (scaL m y)) := by
  refine spec_of_JS Tryz.func126 rfl (Nat.le_of_ble_eq_true rfl) (fun gh0 wd0 => ?_)
  refine JS_bound (s := 0) rfl (fun b0 => ?_)
  unfold maxLen at b0
  refine JS_seq ?_
  -- region 0
  refine sR ?_
  refine kA rfl rfl ?_
  refine kE ?_
  refine JS_seq ?_
  -- region 1
  refine sR ?_
  refine kM rfl rfl ?_
  refine kO (T_len_slice rfl rfl u81 rfl) rfl ?_
  refine kO (T_add rfl rfl rfl (wrap_i64 (by omega) (by omega))) rfl ?_
  refine kT ?_
  refine JT_make (K := (Kd.int .u32)) (z0 := 0) rfl rfl rfl rfl u81 ei126 rfl (by decide) (fun _ => rfl) rfl rfl (by omega) (by omega) (by omega) (by omega) (fun v13 => ?_)
  refine jA rfl rfl ?_
  refine JT_done ?_
  refine JS_seq ?_
  -- region 2
  refine sR ?_
  refine kA rfl rfl ?_
  refine kE ?_
  refine JS_seq ?_
  refine JS_seq ?_
  -- region 3
  refine sR ?_
  refine kM rfl rfl ?_
  refine kO (T_len_slice rfl rfl u81 rfl) rfl ?_
  refine kM rfl rfl ?_
  refine kE ?_
  refine JS_block ?_
  refine sLoop2 (fun (i : Nat) (v : Value) => [(16, Ty.val (.int .i64 i)), (6, Ty.val (.int .u64 ((scaK m y i).2))), (5, Ty.val (v))]) [1, 14, 15] (fun (i : Nat) (v : Value) => [(0, Res.sl v 126 (Kd.int .u32) (scaK m y i).1)]) (fun (i : Nat) (v : Value) => i ≤ m.length) (fun (i : Nat) (v : Value) => m.length - i) 0 v13 (Nat.zero_le _) rfl (EnvSub.consLe rfl (int_eq (rfl)) (EnvSub.consLe rfl (int_eq (rfl)) (EnvSub.consLe rfl (Ty.le.refl _) (EnvSub.nil _)))) (fun i v (hI : i ≤ m.length) => ?_)
  obtain ⟨h1, h2, h3, h4, h5⟩ := scaK_law hm hy i
  have g1 := hm.get i
  have g2 := mul_bd g1 hy
  refine JS_seq ?_
  -- region 4
  refine sR ?_
  refine kO (T_lt rfl rfl rfl) rfl ?_
  refine kE ?_
  refine JS_seq ?_
  refine JS_if rfl (fun c17 => ?_) (fun c17 => ?_)
  · refine JS_skip ?_
    refine JS_seq ?_
    refine JS_block ?_
    refine JS_seq ?_
    -- region 5
    refine sR ?_
    refine kO (T_ix rfl rfl rfl u81 ti126 (by omega) (by omega) (getD_at (i) (by omega) _)) rfl ?_
    refine kO (T_load_int rfl ti126 rfl) rfl ?_
    refine kA rfl rfl ?_
    refine kE ?_
    refine JS_seq ?_
    -- region 6
    refine sR ?_
    refine kM rfl rfl ?_
    refine kO (T_conv rfl u126 u32 rfl (wrap_u64 (by omega) (by omega))) rfl ?_
    refine kM rfl rfl ?_
    refine kO (T_conv rfl u126 u32 rfl (wrap_u64 (by omega) (by omega))) rfl ?_
    refine kO (T_mul rfl rfl rfl (wrap_u64 (by omega) (by omega))) rfl ?_
    refine kM rfl rfl ?_
    refine kO (T_add rfl rfl rfl (wrap_u64 (by omega) (by omega))) rfl ?_
    refine kA rfl rfl ?_
    refine kE ?_
    -- region 7
    refine sR ?_
    refine kM rfl rfl ?_
    refine kM rfl rfl ?_
    refine kO (T_rem rfl rfl rfl (by omega) (rem_nn (by omega))) rfl ?_
    refine kO (T_conv rfl u32 u126 rfl (wrap_u32 (by omega) (by omega))) rfl ?_
    refine kO (T_lits (xs := [.tmp 30]) (d := (Kd.int .u32)) [_] rfl rfl u81 ti126 z126 rfl rfl (by decide) (by decide) (oa (ol rfl (val_int _ _)) oa0) rfl) rfl ?_
    refine kT ?_
    refine JT_append (i := 0) rfl rfl rfl rfl u81 ei126 rfl rfl (by decide) rfl rfl (ol rfl (Ty.le.refl _)) (by have := h2; simp only [maxLen, List.length_cons, List.length_nil, this]; omega) (by have := h2; simp only [List.length_cons, List.length_nil, this]; omega) (fun v32 => ?_)
    refine jM rfl rfl ?_
    refine jO (T_quo rfl rfl rfl (by omega) (quo_u64 (by omega) (by omega) (by omega))) rfl ?_
    refine jA rfl rfl ?_
    refine jA rfl rfl ?_
    refine JT_done ?_
    refine JS_end_inB ?_
    -- region 8
    refine sR ?_
    refine kO (T_add rfl rfl rfl (wrap_i64 (by omega) (by omega))) rfl ?_
    refine kM rfl rfl ?_
    refine kE ?_
    exact JS_round ((i + 1), v32) (by try dsimp only; exact ((by omega))) (by try dsimp only; exact ((by omega))) rfl (EnvSub.consLe rfl (int_eq (rfl)) (EnvSub.consLe rfl (int_eq (rfl)) (EnvSub.consLe rfl (Ty.le.refl _) (EnvSub.pick1 rfl (EnvSub.pick1 rfl (EnvSub.pick1 rfl (EnvSub.nil _)))))))
  · have hi : i = m.length := by omega
    subst hi
    refine JS_exit (JE_loop_exit (JE_inB_here ?_))
    refine JS_seq ?_
    -- region 9
    refine sR ?_
    refine kM rfl rfl ?_
    refine kM rfl rfl ?_
    refine kO (T_conv rfl u32 u126 rfl (wrap_u32 (by omega) (by omega))) rfl ?_
    refine kO (T_lits (xs := [.tmp 38]) (d := (Kd.int .u32)) [_] rfl rfl u81 ti126 z126 rfl rfl (by decide) (by decide) (oa (ol rfl (val_int _ _)) oa0) rfl) rfl ?_
    refine kT ?_
    refine JT_append (i := 0) rfl rfl rfl rfl u81 ei126 rfl rfl (by decide) rfl rfl (ol rfl (Ty.le.refl _)) (by have := h2; simp only [maxLen, List.length_cons, List.length_nil, this]; omega) (by have := h2; simp only [List.length_cons, List.length_nil, this]; omega) (fun v40 => ?_)
    refine jA rfl rfl ?_
    refine JT_done ?_
    refine JS_freeze_sl (i := 0) (s := 4) rfl rfl ?_
    exact JS_ret (JE_ret_one rfl rfl (.tmp rfl .nil) (of_eq (rfl)))

end Go.Proofs.YtknflgfkhkdomaaGreatDoor.Mono
