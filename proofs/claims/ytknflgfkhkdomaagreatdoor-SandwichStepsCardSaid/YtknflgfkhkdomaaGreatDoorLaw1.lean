/- croupierlaw22.SandwichSteps returns true for every input. (part 1 of 8.) Conditions: none beyond the given row. -/
import Derived.CallsIn
import Derived.RangeFuncCalls
import Derived.OwnWalkIn
import Derived.OrdersIn
import Derived.Below
import Derived.Laws.CopyRow
import Derived.Laws.Tables
import Derived.Laws.MakeOwn
import Derived.KernelRfl
import Derived.WalkKit
import Derived.WalkLawsBesides
import Derived.WalkSpells
import Derived.Laws.Strings
import Derived.Deep.LoopGhost
import Derived.Laws.AppendOwn
import Derived.Laws.OwnMore
import Derived.Laws.AppendOwnNone
import Derived.Maps.AppendAt
/-! Mono -/
set_option linter.unusedVariables false
set_option linter.unusedSimpArgs false
namespace Go.Proofs.YtknflgfkhkdomaaGreatDoor.Mono
open Go Go.RowKit

/-! ### The ghost map -/
abbrev GH := Nat → Option Obj
def GH.le (m m' : GH) : Prop := ∀ k o, m k = some o → m' k = some o
theorem GH.le.refl (m : GH) : GH.le m m := fun _ _ h => h
theorem GH.le.trans {a b c : GH} (h : GH.le a b) (h' : GH.le b c) : GH.le a c := fun k o x => h' k o (h k o x)
def Sat (w : World) (m : GH) : Prop := ∀ k o, m k = some o → w.heap[k]? = some o
theorem Sat.lt {w : World} {m : GH} (h : Sat w m) {k : Nat} (hk : m k ≠ none) : k < w.heap.size := by
  cases e : m k with
  | none => exact absurd e hk
  | some o => exact (Array.getElem?_eq_some_iff.1 (h k o e)).1

structure Ctx where
  P : Program
  G : GH → Prop
  up : ∀ {m m' : GH}, GH.le m m' → G m → G m'

/-- What is said of a value, for ever. -/
structure Ty where
  p : GH → Value → Prop
  up : ∀ {m m' : GH} {v : Value}, GH.le m m' → p m v → p m' v
def Ty.val (v0 : Value) : Ty := ⟨fun _ v => v = v0, fun _ h => h⟩
/-- Nothing is said. -/
def Ty.any : Ty := ⟨fun _ _ => True, fun _ h => h⟩

abbrev Env := List (Nat × Ty)
def Env.get : Env → Nat → Option Ty
  | [], _ => none
  | (k, T) :: r, s => bif Nat.beq k s then some T else Env.get r s
def Env.put (Γ : Env) : Option Tmp → Ty → Env
  | none, _ => Γ
  | some d, T => (d, T) :: Γ
theorem Env.get_cons (k : Nat) (T : Ty) (Γ : Env) (s : Nat) : Env.get ((k, T) :: Γ) s = if k = s then some T else Env.get Γ s := by
  show (bif Nat.beq k s then some T else Env.get Γ s) = _
  by_cases h : k = s
  · subst h; simp
  · have : Nat.beq k s = false := by rw [Bool.eq_false_iff]; intro e; exact h (Nat.eq_of_beq_eq_true e)
    simp [this, h]

/-- A block (or some blocks) of one's own. -/
structure Res where
  fp : List Nat
  p : GH → World → Prop
  up : ∀ {m m' : GH} {w w' : World}, GH.le m m' → (∀ k ∈ fp, w'.heap[k]? = w.heap[k]?) → p m w → p m' w'
  ex : ∀ {m : GH} {w : World}, p m w → ∀ k ∈ fp, k < w.heap.size

/-- From (m0, w0) to (m, w): of the old blocks those of S alone may have turned. -/
structure Ext (S : List Nat) (m0 : GH) (w0 : World) (m : GH) (w : World) : Prop where
  le : GH.le m0 m
  new : ∀ k, m k ≠ none → m0 k = none → w0.heap.size ≤ k ∨ k ∈ S
  size : w0.heap.size ≤ w.heap.size
  same : ∀ k, k < w0.heap.size → k ∉ S → w.heap[k]? = w0.heap[k]?
  os : w.os = w0.os
  tape : w.tape = w0.tape
  out : w.output = w0.output
theorem Ext.refl (S : List Nat) (m : GH) (w : World) : Ext S m w m w := ⟨GH.le.refl m, fun k h h' => absurd h' h, Nat.le_refl _, fun _ _ _ => rfl, rfl, rfl, rfl⟩
theorem Ext.trans {S T : List Nat} {m0 m m' : GH} {w0 w w' : World} (h : Ext S m0 w0 m w) (h' : Ext T m w m' w') (hT : ∀ k ∈ T, w0.heap.size ≤ k ∨ k ∈ S) : Ext S m0 w0 m' w' :=
  ⟨h.le.trans h'.le, fun k hk hn => by
      cases e : m k with
      | none =>
        rcases h'.new k hk e with h1 | h1
        · exact .inl (Nat.le_trans h.size h1)
        · exact hT k h1
      | some o => exact h.new k (by rw [e]; simp) hn,
    Nat.le_trans h.size h'.size,
    fun k hk hS => (h'.same k (Nat.lt_of_lt_of_le hk h.size) (fun hkT => (hT k hkT).elim (fun h1 => absurd hk (by omega)) hS)).trans (h.same k hk hS),
    h'.os.trans h.os, h'.tape.trans h.tape, h'.out.trans h.out⟩
theorem Ext.trans0 {S : List Nat} {m0 m m' : GH} {w0 w w' : World} (h : Ext S m0 w0 m w) (h' : Ext [] m w m' w') : Ext S m0 w0 m' w' := h.trans h' (fun k hk => by cases hk)
theorem Ext.draw {S : List Nat} {m0 m : GH} {w0 w : World} (h : Ext S m0 w0 m w) (n : Nat) : Ext S m0 w0 m { w with drawn := n } :=
  ⟨h.le, h.new, h.size, h.same, h.os, h.tape, h.out⟩
theorem Sat.draw {m : GH} {w : World} (h : Sat w m) (n : Nat) : Sat { w with drawn := n } m := h
theorem Ext.below {m m' : GH} {w w' : World} (h : Ext [] m w m' w') : Below w.heap.size w w' := ⟨h.os, h.tape, h.out, h.size, fun k hk => h.same k hk (by simp)⟩
theorem Ext.of_below {m : GH} {w w' : World} (h : Below w.heap.size w w') : Ext [] m w m w' := ⟨GH.le.refl m, fun k h h' => absurd h' h, h.size, fun k hk _ => h.block k hk, h.os, h.tape, h.output⟩
theorem Sat.of_below {m : GH} {w w' : World} (hs : Sat w m) (h : Below w.heap.size w w') : Sat w' m := fun k o hk => by
  have := hs k o hk
  rw [h.block k (Array.getElem?_eq_some_iff.1 this).1]; exact this
theorem Sat.ext0 {m m' : GH} {w w' : World} (hs : Sat w m) (h : Ext [] m w m' w') : Sat w' m := hs.of_below h.below

/-! ### The frame of a walk -/
structure Fr where
  C : Ctx
  S : List Nat
  m0 : GH
  w0 : World
  N : Nat
  D : List Deferred
  r : Option Nat

def FW : Option Nat → Fence
  | none => Fence.wide
  | some l => Fence.wide.inRound l
theorem FW_fn (r : Option Nat) (f : FuncId) : (FW r).fn f := by cases r <;> exact trivial
theorem FW_depth (r : Option Nat) : (FW r).depth = none := by cases r <;> rfl
theorem FW_round (r : Option Nat) : (FW r).round = r := by cases r <;> rfl
theorem FW_calls {r : Option Nat} {n : Nat} {P : Program} {f : FuncId} {args : Array Value} {w : World} {R : Ending → World → Prop} (h : Calls P f args w R) : CallsIn (FW r) n P f args w R := by
  cases r with
  | none => exact callsIn_wide.2 h
  | some l => exact CallsIn.inRound l (callsIn_wide.2 h)

structure St (F : Fr) (Γ : Env) (Δ : List Res) (m : GH) (w : World) (a : Act) : Prop where
  sat : Sat w m
  g : F.C.G m
  size : a.tmps.size = F.N
  defers : a.defers = F.D
  ty : ∀ s T, Env.get Γ s = some T → T.p m (a.tmps.getD s undef)
  own : ∀ r ∈ Δ, r.p m w
  apart : ∀ r ∈ Δ, ∀ k ∈ r.fp, m k = none
  disj : ∀ (i j : Nat) (r s : Res), Δ[i]? = some r → Δ[j]? = some s → i ≠ j → ∀ k ∈ r.fp, k ∉ s.fp
  mine : ∀ r ∈ Δ, ∀ k ∈ r.fp, F.w0.heap.size ≤ k ∨ k ∈ F.S
  ext : Ext F.S F.m0 F.w0 m w

theorem St.draw {F : Fr} {Γ : Env} {Δ : List Res} {m : GH} {w : World} {a : Act} (h : St F Γ Δ m w a) (n : Nat) : St F Γ Δ m { w with drawn := n } a :=
  ⟨h.sat.draw n, h.g, h.size, h.defers, h.ty, fun r hr => r.up (w := w) (GH.le.refl m) (fun _ _ => rfl) (h.own r hr), h.apart, h.disj, h.mine, h.ext.draw n⟩

/-! ### Operands -/
def Opd (Γ : Env) : Operand → Ty → Prop
  | .tmp s, T => Env.get Γ s = some T
  | .const v, T => T = Ty.val v
  | .global g, T => T = Ty.val (.pointer (some ⟨g, 0, none⟩))
  | .func f, T => T = Ty.val (.func (.func f) #[] #[])
/-- The operands' part of a typed frame. -/
def Typed (Γ : Env) (m : GH) (a : Act) (xs : List Operand) : Prop := ∀ s, Operand.tmp s ∈ xs → ∀ T, Env.get Γ s = some T → T.p m (a.tmps.getD s undef)
theorem Opd.p {Γ : Env} {m : GH} {a : Act} {xs : List Operand} {x : Operand} {T : Ty} (h : Opd Γ x T) (ht : Typed Γ m a xs) (hx : x ∈ xs) : T.p m (a.eval x) := by
  cases x with
  | tmp s => exact ht s hx T h
  | const v => cases h; rfl
  | global g => cases h; rfl
  | func f => cases h; rfl
def Ty.le (T T' : Ty) : Prop := ∀ m v, T.p m v → T'.p m v
theorem Ty.le.refl (T : Ty) : Ty.le T T := fun _ _ h => h
/-- What an operand may be taken for. -/
def OpdLe (Γ : Env) (x : Operand) (T : Ty) : Prop := ∃ T0, Opd Γ x T0 ∧ Ty.le T0 T
theorem OpdLe.p {Γ : Env} {m : GH} {a : Act} {xs : List Operand} {x : Operand} {T : Ty} (h : OpdLe Γ x T) (ht : Typed Γ m a xs) (hx : x ∈ xs) : T.p m (a.eval x) := by
  obtain ⟨T0, h1, h2⟩ := h
  exact h2 _ _ (h1.p ht hx)
theorem Opd.toLe {Γ : Env} {x : Operand} {T : Ty} (h : Opd Γ x T) : OpdLe Γ x T := ⟨T, h, Ty.le.refl T⟩
def OpdAll (Γ : Env) : List Operand → List Ty → Prop
  | [], [] => True
  | x :: xs, T :: Ts => Opd Γ x T ∧ OpdAll Γ xs Ts
  | _, _ => False
def TyAll (m : GH) : List Ty → List Value → Prop
  | [], [] => True
  | T :: Ts, v :: vs => T.p m v ∧ TyAll m Ts vs
  | _, _ => False
theorem TyAll.up {m m' : GH} (hm : GH.le m m') : ∀ {Ts : List Ty} {vs : List Value}, TyAll m Ts vs → TyAll m' Ts vs
  | [], [], _ => trivial
  | _ :: _, _ :: _, h => ⟨Ty.up _ hm h.1, TyAll.up hm h.2⟩
  | [], _ :: _, h => h.elim
  | _ :: _, [], h => h.elim
theorem OpdAll.p {Γ : Env} {m : GH} {a : Act} {all : List Operand} (ht : Typed Γ m a all) : ∀ {xs : List Operand} {Ts : List Ty}, OpdAll Γ xs Ts → (∀ x ∈ xs, x ∈ all) → TyAll m Ts (xs.map a.eval)
  | [], [], _, _ => trivial
  | x :: xs, T :: Ts, h, hs => ⟨h.1.p ht (hs x List.mem_cons_self), OpdAll.p ht h.2 (fun y hy => hs y (List.mem_cons_of_mem _ hy))⟩
  | [], _ :: _, h, _ => h.elim
  | _ :: _, [], h, _ => h.elim

/-! ### Operations that change no block -/
def CallsTo (C : Ctx) (f : FuncId) (args : Array Value) (m : GH) (w : World) (T : Ty) : Prop :=
  Calls C.P f args w fun e w' => ∃ v m', e = .returned v ∧ Ext [] m w m' w' ∧ Sat w' m' ∧ T.p m' v
def Gives (C : Ctx) (o : Oper) (a : Act) (m : GH) (w : World) (T : Ty) : Prop :=
  (∀ c, o.op ≠ .defer c) ∧
  ((∃ v m' w', (execOp a.eval o).run C.P w = .ok (.value v) w' ∧ Ext [] m w m' w' ∧ Sat w' m' ∧ T.p m' v) ∨
   (∃ f args, (execOp a.eval o).run C.P w = .ok (.enter f args) w ∧ CallsTo C f args m w T))
def TOp (C : Ctx) (Δ : List Res) (Γ : Env) (o : Oper) (T : Ty) : Prop :=
  ∀ (m : GH) (w : World) (a : Act), Sat w m → C.G m → (∀ r ∈ Δ, r.p m w) → (∀ r ∈ Δ, ∀ k ∈ r.fp, m k = none) → Typed Γ m a o.op.operands.toList → Gives C o a m w T

theorem Gives.wpIn {C : Ctx} {o : Oper} {a : Act} {m : GH} {w : World} {T : Ty} {r : Option Nat} {n : Nat} {next : Act → World → Prop} {Q : Exit → Act → World → Prop}
    (h : Gives C o a m w T) (hn : ∀ v m' w', Ext [] m w m' w' → Sat w' m' → T.p m' v → next (a.put o.dst v) w') : o.wpIn (FW r) n C.P a w next Q := by
  refine ⟨fun f _ => FW_fn r f, ?_⟩
  rw [Oper.semAt_plain _ _ _ h.1]
  rcases h.2 with ⟨v, m', w', hr, hx, hs, hT⟩ | ⟨f, args, hr, hc⟩
  · rw [hr]; exact hn v m' w' hx hs hT
  · rw [hr]
    refine ⟨fun hd => by rw [FW_depth] at hd; simp at hd, FW_calls (hc.mono ?_)⟩
    rintro e w' ⟨v, m', rfl, hx, hs, hT⟩
    exact hn v m' w' hx hs hT

/-! ### A typed list of operations -/
def yb : Value → Option Bool
  | .bool t => some t
  | _ => none
def Wanted (Γ : Env) (ops : Array Oper) (o : Oper) (b : Bool) : Prop :=
  match o.guard with
  | none => b = true
  | some (j, want) => ∃ d v, (ops[j]?).bind (·.dst) = some d ∧ Env.get Γ d = some (Ty.val v) ∧ (yb v == some want) = b
theorem Wanted.eq {Γ : Env} {ops : Array Oper} {o : Oper} {b : Bool} (h : Wanted Γ ops o b) {m : GH} {a : Act}
    (ht : ∀ j want d T, o.guard = some (j, want) → (ops[j]?).bind (·.dst) = some d → Env.get Γ d = some T → T.p m (a.tmps.getD d undef)) : Region.wanted o (yielded ops a.tmps) = b := by
  unfold Wanted at h
  unfold Region.wanted
  cases hg : o.guard with
  | none => simp only [hg] at h ⊢; exact h.symm
  | some p =>
    obtain ⟨j, want⟩ := p
    simp only [hg] at h ⊢
    obtain ⟨d, v, h1, h2, h3⟩ := h
    have hp : a.tmps.getD d undef = v := ht j want d _ hg h1 h2
    have key : yielded ops a.tmps j = yb v := by
      unfold yielded
      simp only [h1, Option.bind_some]
      rw [← hp, Array.getD_eq_getD_getElem?]
      cases a.tmps[d]? with
      | none => rfl
      | some u => cases u <;> rfl
    rw [key]; exact h3

def dstOk (N : Nat) : Option Tmp → Bool
  | none => true
  | some d => Nat.blt d N

inductive TL (C : Ctx) (N : Nat) (ops : Array Oper) (Δ : List Res) : Env → List Oper → Env → Prop
  | nil (Γ : Env) : TL C N ops Δ Γ [] Γ
  | op {Γ Γ' : Env} {o : Oper} {T : Ty} {rest : List Oper} : Wanted Γ ops o true → dstOk N o.dst = true → TOp C Δ Γ o T → TL C N ops Δ (Env.put Γ o.dst T) rest Γ' → TL C N ops Δ Γ (o :: rest) Γ'
  | skip {Γ Γ' : Env} {o : Oper} {rest : List Oper} : Wanted Γ ops o false → dstOk N o.dst = true → TL C N ops Δ (Env.put Γ o.dst (Ty.val undef)) rest Γ' → TL C N ops Δ Γ (o :: rest) Γ'

/-- The state behind an operation that changed no block. -/
theorem St.step {F : Fr} {Γ : Env} {Δ : List Res} {m m' : GH} {w w' : World} {a : Act} {dst : Option Tmp} {T : Ty} {v : Value} (h : St F Γ Δ m w a) (hx : Ext [] m w m' w') (hs : Sat w' m') (hT : T.p m' v) (hd : dstOk F.N dst = true) :
    St F (Env.put Γ dst T) Δ m' w' (a.put dst v) := by
  have hlt : ∀ r ∈ Δ, ∀ k ∈ r.fp, k < w.heap.size := fun r hr => r.ex (h.own r hr)
  refine ⟨hs, F.C.up hx.le h.g, ?_, ?_, ?_, ?_, ?_, h.disj, h.mine, h.ext.trans0 hx⟩
  · cases dst <;> simp [Act.put, h.size]
  · cases dst <;> simp [Act.put, h.defers]
  · intro s U hU
    cases dst with
    | none => exact U.up hx.le (h.ty s U hU)
    | some d =>
      have hdlt : d < a.tmps.size := by rw [h.size]; simpa [dstOk] using hd
      rw [show Env.put Γ (some d) T = (d, T) :: Γ from rfl, Env.get_cons] at hU
      show U.p m' ((a.tmps.setIfInBounds d v).getD s undef)
      by_cases e : d = s
      · subst e
        rw [if_pos rfl] at hU; cases hU
        rw [Array.getD_eq_getD_getElem?, Array.getElem?_setIfInBounds]; simp [hdlt]; exact hT
      · rw [if_neg e] at hU
        have := U.up hx.le (h.ty s U hU)
        rw [Array.getD_eq_getD_getElem?] at this ⊢
        rw [Array.getElem?_setIfInBounds, if_neg e]; exact this
  · exact fun r hr => r.up hx.le (fun k hk => hx.same k (hlt r hr k hk) (by simp)) (h.own r hr)
  · intro r hr k hk
    cases e : m' k with
    | none => rfl
    | some o =>
      rcases hx.new k (by rw [e]; simp) (h.apart r hr k hk) with h1 | h1
      · have := hlt r hr k hk; omega
      · cases h1
theorem St.skipped {F : Fr} {Γ : Env} {Δ : List Res} {m : GH} {w : World} {a : Act} {dst : Option Tmp} (h : St F Γ Δ m w a) (hd : dstOk F.N dst = true) : St F (Env.put Γ dst (Ty.val undef)) Δ m w (a.put dst undef) :=
  h.step (Ext.refl _ _ _) h.sat rfl hd
theorem St.typed {F : Fr} {Γ : Env} {Δ : List Res} {m : GH} {w : World} {a : Act} (h : St F Γ Δ m w a) (xs : List Operand) : Typed Γ m a xs := fun s _ T hT => h.ty s T hT

theorem getD_lt_of_ne {xs : Array Value} {d : Nat} {v : Value} (h : xs.getD d undef = v) (hv : v ≠ undef) : d < xs.size := by
  rcases Nat.lt_or_ge d xs.size with h1 | h1
  · exact h1
  · rw [Array.getD_eq_getD_getElem?, Array.getElem?_eq_none h1] at h
    exact absurd h.symm hv

theorem St.wanted {F : Fr} {Γ : Env} {Δ : List Res} {m : GH} {w : World} {a : Act} {ops : Array Oper} {o : Oper} {b : Bool} (h : St F Γ Δ m w a) (hw : Wanted Γ ops o b) : Region.wanted o (yielded ops a.tmps) = b := by
  cases hg : o.guard with
  | none =>
    refine hw.eq (m := m) (fun j want d T hj => ?_)
    rw [hg] at hj; cases hj
  | some p =>
    obtain ⟨j, want⟩ := p
    have hw' := hw
    unfold Wanted at hw'
    simp only [hg] at hw'
    obtain ⟨d, t, h1, h2, _⟩ := hw'
    refine hw.eq (m := m) (fun j' want' d' T hj hd hT => ?_)
    rw [hg] at hj; cases hj
    rw [h1] at hd; cases hd
    rw [h2] at hT; cases hT
    exact h.ty d _ h2

/-- One after the other. -/
def runOps (F : Fr) (ops : Array Oper) (Q : Exit → Act → World → Prop) (K : Act → World → Prop) : List Oper → Act → World → Prop
  | [], a, w => K a w
  | o :: rest, a, w =>
    if Region.wanted o (yielded ops a.tmps) then o.wpIn (FW F.r) 1 F.C.P a w (runOps F ops Q K rest) Q
    else runOps F ops Q K rest (a.put o.dst undef) w

theorem TL.run {F : Fr} {ops : Array Oper} {Δ : List Res} {Q : Exit → Act → World → Prop} {K : Act → World → Prop} {l2 : List Oper} {Γ Γ' : Env} {l : List Oper} (h : TL F.C F.N ops Δ Γ l Γ') :
    ∀ {m : GH} {w : World} {a : Act}, St F Γ Δ m w a → (∀ m w a, St F Γ' Δ m w a → runOps F ops Q K l2 a w) → runOps F ops Q K (l ++ l2) a w := by
  induction h with
  | nil Γ => intro m w a hs hk; exact hk m w a hs
  | @op Γ Γ' o T rest hw hd ht _ ih =>
    intro m w a hs hk
    simp only [List.cons_append, runOps]
    rw [if_pos (hs.wanted hw)]
    exact (ht m w a hs.sat hs.g hs.own hs.apart (hs.typed _)).wpIn (fun v m' w' hx hs' hT => ih (hs.step hx hs' hT hd) hk)
  | @skip Γ Γ' o rest hw hd _ ih =>
    intro m w a hs hk
    simp only [List.cons_append, runOps]
    rw [if_neg (by rw [hs.wanted hw]; simp)]
    exact ih (hs.skipped hd) hk

theorem runOps_wpOpsIn {F : Fr} {ops : Array Oper} {Q : Exit → Act → World → Prop} : ∀ (k i : Nat), i + k = ops.size → ∀ (a : Act) (w : World),
    runOps F ops Q (Q .normal) (ops.toList.drop i) a w → wpOpsIn (FW F.r) 1 F.C.P ops Q (List.range' i k) a w := by
  intro k
  induction k with
  | zero =>
    intro i hi a w h
    rw [List.drop_of_length_le (by simp; omega)] at h
    exact h
  | succ k ih =>
    intro i hi a w h
    have hlt : i < ops.size := by omega
    rw [List.drop_eq_getElem_cons (by simpa using hlt)] at h
    simp only [List.range'_succ, wpOpsIn]
    have ho : ops[i]? = some ops[i] := Array.getElem?_eq_getElem hlt
    rw [ho]
    simp only [runOps, Array.getElem_toList] at h ⊢
    by_cases hw : Region.wanted ops[i] (yielded ops a.tmps) = true
    · rw [if_pos hw] at h ⊢
      exact Oper.wpIn_mono (fun a w hh => ih (i + 1) (by omega) a w hh) h
    · rw [if_neg hw] at h ⊢
      exact ⟨fun f _ => FW_fn _ f, ih (i + 1) (by omega) _ _ h⟩

theorem region_run {F : Fr} {id : Nat} {ops : Array Oper} {Q : Exit → Act → World → Prop} {a : Act} {w : World} (h : runOps F ops Q (Q .normal) ops.toList a w) : (Code.region id ops false).wpIn (FW F.r) 1 F.C.P Q a w := by
  refine wpIn_region ?_
  rw [List.range_eq_range']
  exact runOps_wpOpsIn ops.size 0 (by omega) a w (by simpa using h)

/-! ### A region that draws its order -/
def bits (acc : List Nat) (o : Oper) : Nat := o.after.toList.foldl (fun s e => if Region.binds .any e then s ||| (1 <<< e.on) ||| acc.getD e.on 0 else s) 0
def befs : List Oper → List Nat → List Nat
  | [], acc => acc
  | o :: r, acc => befs r (acc ++ [bits acc o])
theorem foldl_bits (acc : List Nat) (j : Nat) : ∀ (l : List Edge) (s : Nat), (l.foldl (fun s e => if Region.binds .any e then s ||| (1 <<< e.on) ||| acc.getD e.on 0 else s) s).testBit j = true →
    s.testBit j = true ∨ ∃ e ∈ l, Region.binds .any e = true ∧ (e.on = j ∨ (acc.getD e.on 0).testBit j = true) := by
  intro l
  induction l with
  | nil => intro s h; exact .inl h
  | cons e l ih =>
    intro s h
    rcases ih _ h with h1 | ⟨e', he', h1⟩
    · dsimp only at h1
      split at h1
      · rename_i hb
        rw [Nat.testBit_or, Nat.testBit_or, Bool.or_eq_true, Bool.or_eq_true] at h1
        rcases h1 with (h1 | h1) | h1
        · exact .inl h1
        · refine .inr ⟨e, List.mem_cons_self, hb, .inl ?_⟩
          rw [Nat.one_shiftLeft, Nat.testBit_two_pow] at h1
          simpa using h1
        · exact .inr ⟨e, List.mem_cons_self, hb, .inr h1⟩
      · exact .inl h1
    · exact .inr ⟨e', List.mem_cons_of_mem _ he', h1⟩
theorem bits_spec {acc : List Nat} {o : Oper} {j : Nat} (h : (bits acc o).testBit j = true) : ∃ e ∈ o.after.toList, Region.binds .any e = true ∧ (e.on = j ∨ (acc.getD e.on 0).testBit j = true) := by
  rcases foldl_bits acc j _ _ h with h | h
  · simp at h
  · exact h
theorem befs_spec : ∀ (ops : List Oper) (acc : List Nat), (befs ops acc).length = acc.length + ops.length ∧ (∀ i, i < acc.length → (befs ops acc).getD i 0 = acc.getD i 0) ∧
    (∀ i o j, ops[i]? = some o → ((befs ops acc).getD (acc.length + i) 0).testBit j = true → ∃ e ∈ o.after.toList, Region.binds .any e = true ∧ (e.on = j ∨ (e.on < acc.length + i ∧ ((befs ops acc).getD e.on 0).testBit j = true))) := by
  intro ops
  induction ops with
  | nil => intro acc; exact ⟨by simp [befs], fun _ _ => rfl, fun i o j h => by simp at h⟩
  | cons o ops ih =>
    intro acc
    obtain ⟨h1, h2, h3⟩ := ih (acc ++ [bits acc o])
    refine ⟨by simp only [befs]; rw [h1]; simp; omega, fun i hi => ?_, fun i o' j hi hj => ?_⟩
    · simp only [befs]
      rw [h2 i (by simp; omega), List.getD_eq_getElem?_getD, List.getD_eq_getElem?_getD, List.getElem?_append_left hi]
    · simp only [befs] at hj ⊢
      cases i with
      | zero =>
        simp only [List.getElem?_cons_zero, Option.some.injEq] at hi
        subst hi
        rw [Nat.add_zero, h2 acc.length (by simp), List.getD_eq_getElem?_getD, List.getElem?_append_right (Nat.le_refl _)] at hj
        simp only [Nat.sub_self, List.getElem?_cons_zero, Option.getD_some] at hj
        obtain ⟨e, he, hb, hc⟩ := bits_spec hj
        refine ⟨e, he, hb, hc.imp id (fun hc => ?_)⟩
        have hlt : e.on < acc.length := by
          rcases Nat.lt_or_ge e.on acc.length with h | h
          · exact h
          · rw [List.getD_eq_getElem?_getD, List.getElem?_eq_none h] at hc; simp at hc
        refine ⟨by omega, ?_⟩
        rw [h2 e.on (by simp; omega), List.getD_eq_getElem?_getD, List.getElem?_append_left hlt, ← List.getD_eq_getElem?_getD]
        exact hc
      | succ i =>
        have := h3 i o' j (by simpa using hi) (by rw [show (acc ++ [bits acc o]).length + i = acc.length + (i + 1) by simp; omega]; exact hj)
        obtain ⟨e, he, hb, hc⟩ := this
        exact ⟨e, he, hb, hc.imp id (fun hc => ⟨by have := hc.1; simp at this; omega, hc.2⟩)⟩

def tmpsOf (o : Oper) : List Tmp := o.op.operands.toList.filterMap fun | .tmp t => some t | _ => none
def guardSlot (ops : List Oper) (o : Oper) : List Tmp :=
  match o.guard with
  | none => []
  | some (j, _) => ((ops[j]?).bind (·.dst)).toList
/-- The closed look at a region: its first n0 operations may come in any order that the edges allow; the others come behind all these, one after the other. -/
def okDraw (ops : List Oper) (n0 : Nat) : Bool :=
  let B := befs ops []
  let pre := (ops.take n0).zipIdx
  pre.all (fun (o, i) => (tmpsOf o ++ guardSlot ops o).all fun s => pre.all fun (p, j) => p.dst != some s || ((Nat.blt j i && (B.getD i 0).testBit j) || (Nat.blt i j && (B.getD j 0).testBit i))) &&
  pre.all (fun (o, i) => pre.all fun (p, j) => i == j || o.dst.isNone || o.dst != p.dst) &&
  ops.zipIdx.all (fun (o, i) => o.after.toList.all fun e => !Region.binds .any e || Nat.blt e.on i) &&
  ops.zipIdx.all (fun (_, i) => Nat.blt i n0 || (List.range i).all fun j => (B.getD i 0).testBit j)

structure DrawOk (ops : List Oper) (n0 : Nat) : Prop where
  reads : ∀ i o s j p, i < n0 → j < n0 → ops[i]? = some o → ops[j]? = some p → (s ∈ tmpsOf o ∨ s ∈ guardSlot ops o) → p.dst = some s → (j < i ∧ ((befs ops []).getD i 0).testBit j = true) ∨ (i < j ∧ ((befs ops []).getD j 0).testBit i = true)
  dsts : ∀ i j o p s, i < n0 → j < n0 → ops[i]? = some o → ops[j]? = some p → o.dst = some s → p.dst = some s → i = j
  edges : ∀ i o, ops[i]? = some o → ∀ e ∈ o.after.toList, Region.binds .any e = true → e.on < i
  tail : ∀ i o, ops[i]? = some o → n0 ≤ i → ∀ j, j < i → ((befs ops []).getD i 0).testBit j = true

theorem mem_zipIdx' {α : Type} {l : List α} {i : Nat} {x : α} (h : l[i]? = some x) : (x, i) ∈ l.zipIdx := by
  rw [List.mem_zipIdx_iff_getElem?]; exact h
theorem okDraw_spec {ops : List Oper} {n0 : Nat} (h : okDraw ops n0 = true) : DrawOk ops n0 := by
  unfold okDraw at h
  simp only [Bool.and_eq_true, List.all_eq_true] at h
  obtain ⟨⟨⟨h1, h2⟩, h3⟩, h4⟩ := h
  have tk : ∀ {i : Nat} {o : Oper}, i < n0 → ops[i]? = some o → (o, i) ∈ (ops.take n0).zipIdx := fun hi ho => mem_zipIdx' (by rw [List.getElem?_take, if_pos hi]; exact ho)
  refine ⟨fun i o s j p hi hj ho hp hs hd => ?_, fun i j o p s hi hj ho hp hd hd' => ?_, fun i o ho e he hb => ?_, fun i o ho hi j hj => ?_⟩
  · have := h1 _ (tk hi ho) s (List.mem_append.2 hs) _ (tk hj hp)
    simp only [hd, bne_self_eq_false, Bool.false_or, Bool.and_eq_true, Bool.or_eq_true] at this
    exact this.imp (fun this => ⟨by simpa using this.1, this.2⟩) (fun this => ⟨by simpa using this.1, this.2⟩)
  · have := h2 _ (tk hi ho) _ (tk hj hp)
    simp [hd, hd'] at this
    exact this
  · have := h3 _ (mem_zipIdx' ho) e he
    simp [hb] at this
    exact this
  · have := h4 _ (mem_zipIdx' ho)
    simp only [Bool.or_eq_true, List.all_eq_true] at this
    rcases this with h | h
    · have : i < n0 := by simpa using h
      omega
    · exact h j (List.mem_range.2 hj)

/-- The frame's types behind the first i operations of a typed list. -/
def envs : Env → List Oper → List (Ty × Bool) → Nat → Env
  | Γ, _, _, 0 => Γ
  | Γ, o :: l, T :: Φ, i + 1 => envs (Env.put Γ o.dst T.1) l Φ i
  | Γ, _, _, _ + 1 => Γ
theorem TL.asg {C : Ctx} {N : Nat} {ops : Array Oper} {Δ : List Res} {Γ Γ' : Env} {l : List Oper} (h : TL C N ops Δ Γ l Γ') :
    ∃ Φ : List (Ty × Bool), Φ.length = l.length ∧ Γ' = envs Γ l Φ l.length ∧ ∀ i o T, l[i]? = some o → Φ[i]? = some T →
      Wanted (envs Γ l Φ i) ops o T.2 ∧ dstOk N o.dst = true ∧ (T.2 = true → TOp C Δ (envs Γ l Φ i) o T.1) ∧ (T.2 = false → T.1 = Ty.val undef) := by
  induction h with
  | nil Γ => exact ⟨[], rfl, rfl, fun i o T h => by simp at h⟩
  | @op Γ Γ' o T rest hw hd ht _ ih =>
    obtain ⟨Φ, h1, h2, h3⟩ := ih
    refine ⟨(T, true) :: Φ, by simp [h1], h2, fun i o' T' ho hT => ?_⟩
    cases i with
    | zero =>
      simp only [List.getElem?_cons_zero, Option.some.injEq] at ho hT
      subst ho; subst hT
      exact ⟨hw, hd, fun _ => ht, fun h => by simp at h⟩
    | succ i => exact h3 i o' T' (by simpa using ho) (by simpa using hT)
  | @skip Γ Γ' o rest hw hd _ ih =>
    obtain ⟨Φ, h1, h2, h3⟩ := ih
    refine ⟨(Ty.val undef, false) :: Φ, by simp [h1], h2, fun i o' T' ho hT => ?_⟩
    cases i with
    | zero =>
      simp only [List.getElem?_cons_zero, Option.some.injEq] at ho hT
      subst ho; subst hT
      exact ⟨hw, hd, fun h => by simp at h, fun _ => rfl⟩
    | succ i => exact h3 i o' T' (by simpa using ho) (by simpa using hT)
theorem put_get (Γ : Env) (dst : Option Tmp) (T : Ty) (s : Nat) : Env.get (Env.put Γ dst T) s = if dst = some s then some T else Env.get Γ s := by
  cases dst with
  | none => simp [Env.put]
  | some d => rw [show Env.put Γ (some d) T = (d, T) :: Γ from rfl, Env.get_cons]; simp
theorem envs_get : ∀ (i : Nat) (Γ : Env) (l : List Oper) (Φ : List (Ty × Bool)) (s : Nat), Φ.length = l.length →
    (∃ j o T, j < i ∧ l[j]? = some o ∧ Φ[j]? = some T ∧ o.dst = some s ∧ Env.get (envs Γ l Φ i) s = some T.1) ∨
    ((∀ j o, j < i → l[j]? = some o → o.dst ≠ some s) ∧ Env.get (envs Γ l Φ i) s = Env.get Γ s) := by
  intro i
  induction i with
  | zero => intro Γ l Φ s _; exact .inr ⟨fun j o h => by omega, by simp [envs]⟩
  | succ i ih =>
    intro Γ l Φ s hl
    cases l with
    | nil => exact .inr ⟨fun j o _ h => by simp at h, by cases Φ <;> simp [envs]⟩
    | cons o l =>
      cases Φ with
      | nil => simp at hl
      | cons T Φ =>
        rcases ih (Env.put Γ o.dst T.1) l Φ s (by simpa using hl) with ⟨j, o', T', h1, h2, h3, h4, h5⟩ | ⟨h1, h2⟩
        · exact .inl ⟨j + 1, o', T', by omega, by simpa using h2, by simpa using h3, h4, h5⟩
        · rw [put_get] at h2
          by_cases e : o.dst = some s
          · exact .inl ⟨0, o, T, by omega, rfl, rfl, e, by rw [if_pos e] at h2; exact h2⟩
          · rw [if_neg e] at h2
            refine .inr ⟨fun j o' hj ho' => ?_, h2⟩
            cases j with
            | zero => simp only [List.getElem?_cons_zero, Option.some.injEq] at ho'; subst ho'; exact e
            | succ j => exact h1 j o' (by omega) (by simpa using ho')

/-- The frame's types when the operations of L have been carried out. -/
def envL (Γ : Env) (l : List Oper) (Φ : List (Ty × Bool)) : List Nat → Env
  | [] => Γ
  | i :: L => Env.put (envL Γ l Φ L) ((l[i]?).bind (·.dst)) ((Φ[i]?).map (·.1) |>.getD Ty.any)
theorem envL_get (Γ : Env) (l : List Oper) (Φ : List (Ty × Bool)) (s : Nat) : ∀ (L : List Nat),
    (∃ j, j ∈ L ∧ (l[j]?).bind (·.dst) = some s ∧ Env.get (envL Γ l Φ L) s = some ((Φ[j]?).map (·.1) |>.getD Ty.any)) ∨
    ((∀ j, j ∈ L → (l[j]?).bind (·.dst) ≠ some s) ∧ Env.get (envL Γ l Φ L) s = Env.get Γ s)
  | [] => .inr ⟨fun j h => by simp at h, rfl⟩
  | i :: L => by
    simp only [envL, put_get]
    by_cases e : (l[i]?).bind (·.dst) = some s
    · exact .inl ⟨i, List.mem_cons_self, e, by rw [if_pos e]⟩
    · rw [if_neg e]
      rcases envL_get Γ l Φ s L with ⟨j, h1, h2, h3⟩ | ⟨h1, h2⟩
      · exact .inl ⟨j, List.mem_cons_of_mem _ h1, h2, h3⟩
      · refine .inr ⟨fun j hj => ?_, h2⟩
        rcases List.mem_cons.1 hj with h | h
        · subst h; exact e
        · exact h1 j h

theorem nodup_sub : ∀ {L L2 : List Nat}, L.Nodup → (∀ x ∈ L, x ∈ L2) → L.length ≤ L2.length
  | [], _, _, _ => Nat.zero_le _
  | a :: L, L2, hnd, hs => by
    obtain ⟨h1, h2⟩ := List.nodup_cons.1 hnd
    have ha := hs a List.mem_cons_self
    have := nodup_sub (L2 := L2.erase a) h2 (fun x hx => (List.mem_erase_of_ne (by rintro rfl; exact h1 hx)).2 (hs x (List.mem_cons_of_mem _ hx)))
    rw [List.length_erase_of_mem ha] at this
    have := List.length_pos_of_mem ha
    simp only [List.length_cons]; omega
theorem nodup_full {L : List Nat} {n : Nat} (hnd : L.Nodup) (hL : ∀ x ∈ L, x < n) (hlen : L.length = n) (j : Nat) (hj : j < n) : j ∈ L := by
  refine Classical.byContradiction fun hn => ?_
  have := nodup_sub (L := j :: L) (L2 := List.range n) (List.nodup_cons.2 ⟨hn, hnd⟩) (fun x hx => List.mem_range.2 ((List.mem_cons.1 hx).elim (fun h => by omega) (hL x)))
  simp at this; omega

section draw
variable {F : Fr} {ops : Array Oper} {Δ : List Res} {Q : Exit → Act → World → Prop} {Γ Γ' : Env} {n0 : Nat} {Φ : List (Ty × Bool)}

theorem ready_iff {listed : Array Bool} {i : Nat} (hi : i < ops.size) (hsz : listed.size = ops.size) :
    i ∈ Region.ready .any ops listed ↔ listed.getD i false = false ∧ ∀ e ∈ ops[i].after.toList, Region.binds .any e = true → listed.getD e.on false = true := by
  unfold Region.ready
  rw [List.mem_filter]
  have hl : i < listed.size := by omega
  simp only [List.mem_range, Array.getElem?_eq_getElem hi, Option.map_some, Option.getD_some, Bool.and_eq_true, Bool.not_eq_true']
  constructor
  · rintro ⟨_, h1, h2⟩
    refine ⟨?_, fun e he hb => ?_⟩
    · rw [Array.getD_eq_getD_getElem?, Array.getElem?_eq_getElem hl] at h1 ⊢; simpa using h1
    · have := (Array.all_eq_true_iff_forall_mem.1 h2) e (by simpa using he)
      simpa [hb] using this
  · rintro ⟨h1, h2⟩
    refine ⟨hi, ?_, ?_⟩
    · rw [Array.getD_eq_getD_getElem?, Array.getElem?_eq_getElem hl] at h1 ⊢; simpa using h1
    · refine Array.all_eq_true_iff_forall_mem.2 fun e he => ?_
      by_cases hb : Region.binds .any e = true
      · simp [hb, h2 e (by simpa using he) hb]
      · simp [hb]

theorem ready_lt {listed : Array Bool} {i : Nat} (h : i ∈ Region.ready .any ops listed) : i < ops.size := by
  unfold Region.ready at h
  exact List.mem_range.1 (List.mem_filter.1 h).1

/-- What is listed is closed towards what must come before. -/
theorem closed_bits (hok : DrawOk ops.toList n0) {isIn : Nat → Prop} (hcl : ∀ i, isIn i → ∀ o, ops.toList[i]? = some o → ∀ e ∈ o.after.toList, Region.binds .any e = true → isIn e.on) :
    ∀ (i : Nat) (o : Oper), ops.toList[i]? = some o → (∀ e ∈ o.after.toList, Region.binds .any e = true → isIn e.on) → ∀ j, ((befs ops.toList []).getD i 0).testBit j = true → isIn j := by
  intro i
  induction i using Nat.strongRecOn with
  | _ i ih =>
    intro o ho hpre j hj
    obtain ⟨e, he, hb, hc⟩ := (befs_spec ops.toList []).2.2 i o j ho (by simpa using hj)
    have hin := hpre e he hb
    rcases hc with hc | ⟨hlt, hc⟩
    · rw [← hc]; exact hin
    · have hlt' : e.on < i := by simpa using hlt
      have hsz : e.on < ops.toList.length := by have := (List.getElem?_eq_some_iff.1 ho).1; omega
      exact ih e.on hlt' _ (List.getElem?_eq_getElem hsz) (fun e' he' hb' => hcl e.on hin _ (List.getElem?_eq_getElem hsz) e' he' hb') j hc

/-- Some operation can come up as long as one is left. -/
theorem ready_some (hok : DrawOk ops.toList n0) {listed : Array Bool} (hsz : listed.size = ops.size) (h : Region.ready .any ops listed = []) : ∀ i, i < ops.size → listed.getD i false = true := by
  intro i
  induction i using Nat.strongRecOn with
  | _ i ih =>
    intro hi
    cases hl : listed.getD i false with
    | true => rfl
    | false =>
      have : i ∈ Region.ready .any ops listed := (ready_iff hi hsz).2 ⟨hl, fun e he hb => by
        have hlt := hok.edges i ops[i] (by simp [hi]) e he hb
        exact ih e.on hlt (by omega)⟩
      rw [h] at this; cases this

theorem getD_set (listed : Array Bool) (i j : Nat) (hi : i < listed.size) : (listed.setIfInBounds i true).getD j false = if i = j then true else listed.getD j false := by
  rw [Array.getD_eq_getD_getElem?, Array.getElem?_setIfInBounds, Array.getD_eq_getD_getElem?]
  by_cases e : i = j
  · subst e; simp [hi]
  · simp [e]

/-- The tail: one after the other. -/
theorem draw_tail (hok : DrawOk ops.toList n0) : ∀ (k i : Nat), i + k = ops.size → n0 ≤ i → ∀ (listed : Array Bool) (a : Act) (w : World), listed.size = ops.size → (∀ j, j < ops.size → (listed.getD j false = true ↔ j < i)) →
    runOps F ops Q (Q .normal) (ops.toList.drop i) a w → wpAnyIn (FW F.r) 1 F.C.P .any ops Q k listed a w := by
  intro k
  induction k with
  | zero =>
    intro i hi hn listed a w hsz hl h
    rw [List.drop_of_length_le (by simp; omega)] at h
    refine ⟨?_, h⟩
    cases hr : Region.ready .any ops listed with
    | nil => rfl
    | cons x xs =>
      have hx : x ∈ Region.ready .any ops listed := by rw [hr]; exact List.mem_cons_self
      have hlt := ready_lt hx
      have := ((ready_iff hlt hsz).1 hx).1
      rw [(hl x hlt).2 (by omega)] at this; cases this
  | succ k ih =>
    intro i hi hn listed a w hsz hl h
    have hlt : i < ops.size := by omega
    rw [List.drop_eq_getElem_cons (by simpa using hlt)] at h
    refine ⟨fun hr => ?_, fun j hj => ?_⟩
    · have := ready_some hok hsz hr i hlt
      have := (hl i hlt).1 this; omega
    · have hjlt := ready_lt hj
      have hready := (ready_iff hjlt hsz).1 hj
      have hij : ¬ j < i := fun hji => by rw [(hl j hjlt).2 hji] at hready; cases hready.1
      have hcl : ∀ x, (x < ops.size ∧ listed.getD x false = true) → ∀ o, ops.toList[x]? = some o → ∀ e ∈ o.after.toList, Region.binds .any e = true → (e.on < ops.size ∧ listed.getD e.on false = true) := by
        rintro x ⟨hx, hlx⟩ o ho e he hb
        have h1 := hok.edges x o ho e he hb
        exact ⟨by omega, (hl e.on (by omega)).2 (by have := (hl x hx).1 hlx; omega)⟩
      have hji : j = i := by
        rcases Nat.lt_or_ge i j with h1 | h1
        · have hb := hok.tail j ops[j] (by simp [hjlt]) (by omega) i h1
          have := closed_bits hok hcl j ops[j] (by simp [hjlt]) (fun e he hb => ⟨by have := hok.edges j ops[j] (by simp [hjlt]) e he hb; omega, hready.2 e he hb⟩) i hb
          have := (hl i hlt).1 this.2; omega
        · omega
      subst hji
      unfold wpOpIn
      rw [Array.getElem?_eq_getElem hlt]
      simp only [runOps, Array.getElem_toList] at h ⊢
      have hl' : ∀ x, x < ops.size → ((listed.setIfInBounds j true).getD x false = true ↔ x < j + 1) := fun x hx => by
        rw [getD_set _ _ _ (by omega)]
        by_cases e : j = x
        · subst e; simp
        · rw [if_neg e, hl x hx]; omega
      by_cases hw : Region.wanted ops[j] (yielded ops a.tmps) = true
      · rw [if_pos hw] at h ⊢
        exact Oper.wpIn_mono (fun a w hh => ih (j + 1) (by omega) (by omega) _ a w (by simpa using hsz) hl' hh) h
      · rw [if_neg hw] at h ⊢
        exact ⟨fun f _ => FW_fn _ f, ih (j + 1) (by omega) (by omega) _ _ w (by simpa using hsz) hl' h⟩

/-- The first operations, in whatever order. -/
theorem draw_head (hok : DrawOk ops.toList n0) (hn0 : n0 ≤ ops.size) (hΦ : Φ.length = n0)
    (hT : ∀ i o T, i < n0 → ops.toList[i]? = some o → Φ[i]? = some T → Wanted (envs Γ (ops.toList.take n0) Φ i) ops o T.2 ∧ dstOk F.N o.dst = true ∧ (T.2 = true → TOp F.C Δ (envs Γ (ops.toList.take n0) Φ i) o T.1) ∧ (T.2 = false → T.1 = Ty.val undef))
    (hK : ∀ m w a, St F (envs Γ (ops.toList.take n0) Φ n0) Δ m w a → runOps F ops Q (Q .normal) (ops.toList.drop n0) a w) :
    ∀ (fuel : Nat) (listed : Array Bool) (L : List Nat) (m : GH) (w : World) (a : Act), listed.size = ops.size → fuel + L.length = ops.size → L.Nodup → (∀ j ∈ L, j < n0) → (∀ j, j < ops.size → (listed.getD j false = true ↔ j ∈ L)) →
      (∀ j ∈ L, ∀ o, ops.toList[j]? = some o → ∀ e ∈ o.after.toList, Region.binds .any e = true → e.on ∈ L) →
      St F (envL Γ ops.toList Φ L) Δ m w a → wpAnyIn (FW F.r) 1 F.C.P .any ops Q fuel listed a w := by
  have tk : ∀ i, i < n0 → (ops.toList.take n0)[i]? = ops.toList[i]? := fun i hi => by rw [List.getElem?_take, if_pos hi]
  have tk' : ∀ i o, (ops.toList.take n0)[i]? = some o → i < n0 ∧ ops.toList[i]? = some o := fun i o ho => by
    rw [List.getElem?_take] at ho; split at ho
    · exact ⟨by assumption, ho⟩
    · cases ho
  have hlen : Φ.length = (ops.toList.take n0).length := by rw [hΦ]; simp; omega
  -- all the first operations are listed: the frame is typed as the text's order types it
  have full : ∀ {L : List Nat} {m : GH} {w : World} {a : Act}, (∀ j ∈ L, j < n0) → (∀ j, j < n0 → j ∈ L) → St F (envL Γ ops.toList Φ L) Δ m w a → St F (envs Γ (ops.toList.take n0) Φ n0) Δ m w a := by
    intro L m w a hL hall hs
    refine ⟨hs.sat, hs.g, hs.size, hs.defers, fun s T hT' => hs.ty s T ?_, hs.own, hs.apart, hs.disj, hs.mine, hs.ext⟩
    rcases envs_get n0 Γ (ops.toList.take n0) Φ s hlen with ⟨j, o, T', h1, h2, h3, h4, h5⟩ | ⟨h1, h2⟩
    · rw [h5] at hT'; cases hT'
      have ho := (tk' j o h2).2
      rcases envL_get Γ ops.toList Φ s L with ⟨j', g1, g2, g3⟩ | ⟨g1, g2⟩
      · cases ho' : ops.toList[j']? with
        | none => rw [ho'] at g2; simp at g2
        | some o' =>
          rw [ho'] at g2
          have := hok.dsts j j' o o' s h1 (hL j' g1) ho ho' h4 (by simpa using g2)
          subst this
          rw [g3, h3]; rfl
      · exact absurd (by rw [ho]; simpa using h4) (g1 j (hall j h1))
    · rw [h2] at hT'
      rcases envL_get Γ ops.toList Φ s L with ⟨j', g1, g2, g3⟩ | ⟨g1, g2⟩
      · cases ho' : ops.toList[j']? with
        | none => rw [ho'] at g2; simp at g2
        | some o' =>
          rw [ho'] at g2
          exact absurd (by simpa using g2) (h1 j' o' (hL j' g1) (by rw [tk j' (hL j' g1)]; exact ho'))
      · rw [g2]; exact hT'
  intro fuel
  induction fuel with
  | zero =>
    intro listed L m w a hsz hfl hnd hL hl hcl hs
    -- all operations are listed
    have hall : ∀ j, j < ops.size → j ∈ L := fun j hj => nodup_full hnd (fun x hx => by have := hL x hx; omega) (by omega) j hj
    have hn : n0 = ops.size := by
      rcases Nat.lt_or_ge n0 ops.size with h | h
      · have := hL n0 (hall n0 h); omega
      · omega
    refine ⟨?_, ?_⟩
    · cases hr : Region.ready .any ops listed with
      | nil => rfl
      | cons x xs =>
        have hx : x ∈ Region.ready .any ops listed := by rw [hr]; exact List.mem_cons_self
        have hlt := ready_lt hx
        have := ((ready_iff hlt hsz).1 hx).1
        rw [(hl x hlt).2 (hall x hlt)] at this; cases this
    · have := hK m w a (full hL (fun j hj => hall j (by omega)) hs)
      rw [List.drop_of_length_le (by simp; omega)] at this
      exact this
  | succ fuel ih =>
    intro listed L m w a hsz hfl hnd hL hl hcl hs
    refine ⟨fun hr => ?_, fun i hi => ?_⟩
    · have h1 := ready_some hok hsz hr
      have := nodup_sub (L := List.range ops.size) (L2 := L) List.nodup_range (fun x hx => (hl x (List.mem_range.1 hx)).1 (h1 x (List.mem_range.1 hx)))
      simp at this; omega
    · have hilt := ready_lt hi
      have hready := (ready_iff hilt hsz).1 hi
      have hiL : i ∉ L := fun h => by rw [(hl i hilt).2 h] at hready; cases hready.1
      have ho : ops.toList[i]? = some ops[i] := by simp [hilt]
      have hpre : ∀ e ∈ ops[i].after.toList, Region.binds .any e = true → e.on ∈ L := fun e he hb =>
        (hl e.on (by have := hok.edges i ops[i] ho e he hb; omega)).1 (hready.2 e he hb)
      have hbits := closed_bits hok (isIn := (· ∈ L)) hcl i ops[i] ho hpre
      by_cases hin : i < n0
      · -- one of the first
        have hΦi : i < Φ.length := by omega
        obtain ⟨g1, g2, g3, g4⟩ := hT i ops[i] Φ[i] hin ho (List.getElem?_eq_getElem hΦi)
        -- what the text's order says of a slot that the operation looks at is known
        have look : ∀ s T, (s ∈ tmpsOf ops[i] ∨ s ∈ guardSlot ops.toList ops[i]) → Env.get (envs Γ (ops.toList.take n0) Φ i) s = some T → Env.get (envL Γ ops.toList Φ L) s = some T := by
          intro s T hsl hT'
          rcases envs_get i Γ (ops.toList.take n0) Φ s hlen with ⟨j, o, T', h1, h2, h3, h4, h5⟩ | ⟨h1, h2⟩
          · rw [h5] at hT'; cases hT'
            obtain ⟨hjn, ho'⟩ := tk' j o h2
            have hjL : j ∈ L := hbits j ((hok.reads i _ s j o hin hjn ho ho' hsl h4).elim (fun h => h.2) (fun h => absurd h.1 (by omega)))
            rcases envL_get Γ ops.toList Φ s L with ⟨j', k1, k2, k3⟩ | ⟨k1, k2⟩
            · cases ho'' : ops.toList[j']? with
              | none => rw [ho''] at k2; simp at k2
              | some o'' =>
                rw [ho''] at k2
                have := hok.dsts j j' o o'' s hjn (hL j' k1) ho' ho'' h4 (by simpa using k2)
                subst this
                rw [k3, h3]; rfl
            · exact absurd (by rw [ho']; simpa using h4) (k1 j hjL)
          · rw [h2] at hT'
            rcases envL_get Γ ops.toList Φ s L with ⟨j', k1, k2, k3⟩ | ⟨k1, k2⟩
            · cases ho'' : ops.toList[j']? with
              | none => rw [ho''] at k2; simp at k2
              | some o'' =>
                rw [ho''] at k2
                have hlt : j' < i := by
                  rcases hok.reads i _ s j' o'' hin (hL j' k1) ho ho'' hsl (by simpa using k2) with hr | hr
                  · exact hr.1
                  · exact absurd (closed_bits hok (isIn := (· ∈ L)) hcl j' o'' ho'' (fun e he hb => hcl j' k1 o'' ho'' e he hb) i hr.2) hiL
                exact absurd (by simpa using k2) (h1 j' o'' hlt (by rw [tk j' (hL j' k1)]; exact ho''))
            · rw [k2]; exact hT'
        have hwant : Region.wanted ops[i] (yielded ops a.tmps) = Φ[i].2 := by
          cases hg : ops[i].guard with
          | none =>
            refine g1.eq (m := m) (fun j want d T hj => ?_)
            rw [hg] at hj; cases hj
          | some p =>
            obtain ⟨jg, want⟩ := p
            have g1' := g1
            unfold Wanted at g1'
            simp only [hg] at g1'
            obtain ⟨d, t, q1, q2, _⟩ := g1'
            have hsl : d ∈ guardSlot ops.toList ops[i] := by
              unfold guardSlot
              simp only [hg]
              rw [Array.getElem?_toList, q1]; simp
            have hty := hs.ty d _ (look d _ (.inr hsl) q2)
            refine g1.eq (m := m) (fun j' want' d' T hj hd hT' => ?_)
            rw [hg] at hj; cases hj
            rw [q1] at hd; cases hd
            rw [q2] at hT'; cases hT'
            exact hty
        have hnext : ∀ (T : Ty) (v : Value) (m' : GH) (w' : World), Φ[i].1 = T → Ext [] m w m' w' → Sat w' m' → T.p m' v → wpAnyIn (FW F.r) 1 F.C.P .any ops Q fuel (listed.setIfInBounds i true) (a.put ops[i].dst v) w' := by
          intro T v m' w' hTe hx hs' hTp
          refine ih (listed.setIfInBounds i true) (i :: L) m' w' _ (by simpa using hsz) (by simp; omega) (List.nodup_cons.2 ⟨hiL, hnd⟩) (fun j hj => ?_) (fun j hj => ?_) (fun j hj o ho' e he hb => ?_) ?_
          · rcases List.mem_cons.1 hj with h | h
            · subst h; exact hin
            · exact hL j h
          · rw [getD_set _ _ _ (by omega), List.mem_cons]
            by_cases e : i = j
            · subst e; simp
            · rw [if_neg e, hl j hj]
              exact ⟨fun h => .inr h, fun h => h.resolve_left (fun h => e h.symm)⟩
          · rcases List.mem_cons.1 hj with h | h
            · subst h
              rw [ho] at ho'; cases ho'
              exact List.mem_cons_of_mem _ (hpre e he hb)
            · exact List.mem_cons_of_mem _ (hcl j h o ho' e he hb)
          · have := hs.step hx hs' hTp g2
            simp only [envL, ho, Option.bind_some, List.getElem?_eq_getElem hΦi, Option.map_some, Option.getD_some, hTe]
            exact this
        unfold wpOpIn
        rw [Array.getElem?_eq_getElem hilt]
        dsimp only
        rw [hwant]
        cases hb : Φ[i].2 with
        | true =>
          rw [if_pos rfl]
          refine Gives.wpIn (g3 hb m w a hs.sat hs.g hs.own hs.apart ?_) (fun v m' w' hx hs' hTp => hnext _ v m' w' rfl hx hs' hTp)
          intro s hsm T hT'
          exact hs.ty s T (look s T (.inl (List.mem_filterMap.2 ⟨.tmp s, hsm, rfl⟩)) hT')
        | false =>
          rw [if_neg (by simp)]
          exact ⟨fun f _ => FW_fn _ f, hnext (Ty.val undef) undef m w (g4 hb) (Ext.refl _ _ _) hs.sat rfl⟩
      · -- the tail begins: all the first are listed
        have hall : ∀ j, j < n0 → j ∈ L := fun j hj => hbits j (hok.tail i _ ho (by omega) j (by omega))
        have hi0 : i = n0 := by
          rcases Nat.lt_or_ge n0 i with h | h
          · have := hL n0 (hbits n0 (hok.tail i _ ho (by omega) n0 h)); omega
          · omega
        have hLlen : L.length = n0 := by
          have h1 := nodup_sub (L := L) (L2 := List.range n0) hnd (fun x hx => List.mem_range.2 (hL x hx))
          have h2 := nodup_sub (L := List.range n0) (L2 := L) List.nodup_range (fun x hx => hall x (List.mem_range.1 hx))
          simp at h1 h2; omega
        have htail := draw_tail (F := F) (Q := Q) hok (fuel + 1) n0 (by omega) (Nat.le_refl _) listed a w hsz (fun j hj => by
          rw [hl j hj]; exact ⟨hL j, hall j⟩) (hK m w a (full hL hall hs))
        exact htail.2 i hi

theorem region_draw {id : Nat} (hm : F.C.P.follows .mixedOrders = true) {l2 : List Oper} {l1 : List Oper} (hl : ops.toList = l1 ++ l2) (hok : okDraw ops.toList l1.length = true) (ht : TL F.C F.N ops Δ Γ l1 Γ')
    (hK : ∀ m w a, St F Γ' Δ m w a → runOps F ops Q (Q .normal) l2 a w) {m : GH} {w : World} {a : Act} (hs : St F Γ Δ m w a) : (Code.region id ops true).wpIn (FW F.r) 1 F.C.P Q a w := by
  refine wpIn_region_any hm ?_
  obtain ⟨Φ, h1, h2, h3⟩ := ht.asg
  have hsz : l1.length + l2.length = ops.size := by rw [← List.length_append, ← hl]; simp
  have htake : ops.toList.take l1.length = l1 := by rw [hl]; simp
  have hdrop : ops.toList.drop l1.length = l2 := by rw [hl]; simp
  refine draw_head (n0 := l1.length) (Φ := Φ) (Γ := Γ) (Δ := Δ) (okDraw_spec hok) (by omega) h1 (fun i o T hi ho hT => ?_) ?_ ops.size (Array.replicate ops.size false) [] m _ a (by simp) (by simp) (by simp) (by simp) (fun j hj => ?_) (by simp) (by exact hs.draw _)
  · rw [htake]
    exact h3 i o T (by rw [← ho, hl, List.getElem?_append_left hi]) hT
  · rw [htake, hdrop, ← h2]; exact hK
  · rw [Array.getD_eq_getD_getElem?, Array.getElem?_replicate]; simp [hj]
end draw

end Go.Proofs.YtknflgfkhkdomaaGreatDoor.Mono

/-! MonoK -/
set_option linter.unusedVariables false
set_option linter.unusedSimpArgs false
namespace Go.Proofs.YtknflgfkhkdomaaGreatDoor.Mono
open Go Go.RowKit

/-! ### Segments and kinds -/
structure Seg where
  sz : Nat
  agg : Bool
  p : GH → List Value → Prop
  up : ∀ {m m' : GH} {cs : List Value}, GH.le m m' → p m cs → p m' cs
  len : ∀ {m : GH} {cs : List Value}, p m cs → cs.length = sz
  one : ∀ {m : GH} {cs : List Value}, p m cs → ∀ u ∈ cs, u.oneCell' = true
  flat : agg = false → sz = 1
structure Kd (α : Type) where
  sz : Nat
  agg : Bool
  K : GH → α → List Value → Prop
  up : ∀ {m m' : GH} {x : α} {cs : List Value}, GH.le m m' → K m x cs → K m' x cs
  len : ∀ {m : GH} {x : α} {cs : List Value}, K m x cs → cs.length = sz
  one : ∀ {m : GH} {x : α} {cs : List Value}, K m x cs → ∀ u ∈ cs, u.oneCell' = true
  flat : agg = false → sz = 1
def Seg.of {α : Type} (d : Kd α) (x : α) : Seg := ⟨d.sz, d.agg, fun m cs => d.K m x cs, fun h h' => d.up h h', fun h => d.len h, fun h => d.one h, d.flat⟩
/-- The value of some cells. -/
def mkV (agg : Bool) (cs : List Value) : Value := bif agg then .agg cs.toArray else cs.headD undef
def Ty.seg (S : Seg) : Ty := ⟨fun m v => ∃ cs, S.p m cs ∧ v = mkV S.agg cs, fun h ⟨cs, h1, h2⟩ => ⟨cs, S.up h h1, h2⟩⟩
abbrev Ty.of {α : Type} (d : Kd α) (x : α) : Ty := Ty.seg (Seg.of d x)

theorem oneCell_cells {u : Value} (h : u.oneCell' = true) : u.cells = #[u] := by cases u <;> first | rfl | simp [Value.oneCell'] at h
theorem Seg.cells {S : Seg} {m : GH} {cs : List Value} (h : S.p m cs) : (mkV S.agg cs).cells = cs.toArray := by
  unfold mkV
  cases ha : S.agg with
  | true => rfl
  | false =>
    have hl := S.len h
    rw [S.flat ha] at hl
    match cs, hl with
    | [u], _ => exact oneCell_cells (S.one h u (by simp))

/-- A row of elements. -/
def Reps {α : Type} (m : GH) (d : Kd α) : List α → List Value → Prop
  | [], cs => cs = []
  | x :: xs, cs => ∃ c r, cs = c ++ r ∧ d.K m x c ∧ Reps m d xs r
namespace Reps
variable {α : Type} {m m' : GH} {d : Kd α}
theorem up (hm : GH.le m m') : ∀ {xs : List α} {cs : List Value}, Reps m d xs cs → Reps m' d xs cs
  | [], _, h => h
  | _ :: _, _, ⟨c, r, h1, h2, h3⟩ => ⟨c, r, h1, d.up hm h2, up hm h3⟩
theorem len : ∀ {xs : List α} {cs : List Value}, Reps m d xs cs → cs.length = xs.length * d.sz
  | [], _, h => by rw [show _ = [] from h]; simp
  | _ :: _, _, ⟨c, r, h1, h2, h3⟩ => by rw [h1, List.length_append, d.len h2, len h3, List.length_cons, Nat.succ_mul]; omega
theorem one : ∀ {xs : List α} {cs : List Value}, Reps m d xs cs → ∀ u ∈ cs, u.oneCell' = true
  | [], _, h, u, hu => by rw [show _ = [] from h] at hu; cases hu
  | _ :: _, _, ⟨c, r, h1, h2, h3⟩, u, hu => by
    rw [h1] at hu
    rcases List.mem_append.1 hu with h | h
    · exact d.one h2 u h
    · exact one h3 u h
theorem append : ∀ {xs ys : List α} {cs ds : List Value}, Reps m d xs cs → Reps m d ys ds → Reps m d (xs ++ ys) (cs ++ ds)
  | [], _, _, _, h, h' => by rw [show _ = [] from h]; exact h'
  | _ :: _, _, _, ds, ⟨c, r, h1, h2, h3⟩, h' => ⟨c, r ++ ds, by rw [h1, List.append_assoc], h2, append h3 h'⟩
theorem single {x : α} {c : List Value} (h : d.K m x c) : Reps m d [x] c := ⟨c, [], by simp, h, rfl⟩
theorem split : ∀ {xs ys : List α} {cs : List Value}, Reps m d (xs ++ ys) cs → ∃ c1 c2, cs = c1 ++ c2 ∧ Reps m d xs c1 ∧ Reps m d ys c2
  | [], _, cs, h => ⟨[], cs, rfl, rfl, h⟩
  | _ :: _, _, _, ⟨c, r, h1, h2, h3⟩ => by
    obtain ⟨c1, c2, h4, h5, h6⟩ := split h3
    exact ⟨c ++ c1, c2, by rw [h1, h4, List.append_assoc], ⟨c, c1, rfl, h2, h5⟩, h6⟩
theorem at_ {xs : List α} {cs : List Value} (h : Reps m d xs cs) (i : Nat) (hi : i < xs.length) :
    ∃ c1 c2 c3, cs = c1 ++ c2 ++ c3 ∧ c1.length = i * d.sz ∧ d.K m xs[i] c2 ∧ Reps m d (xs.take i) c1 ∧ Reps m d (xs.drop (i + 1)) c3 := by
  have e : xs = xs.take i ++ (xs[i] :: xs.drop (i + 1)) := by rw [← List.drop_eq_getElem_cons hi, List.take_append_drop]
  rw [e] at h
  obtain ⟨c1, c2, h1, h2, ⟨c, r, h3, h4, h5⟩⟩ := split h
  refine ⟨c1, c, r, by rw [h1, h3, List.append_assoc], ?_, h4, h2, h5⟩
  rw [h2.len, List.length_take]; congr 1; omega
theorem set {xs : List α} {cs : List Value} (h : Reps m d xs cs) (i : Nat) (hi : i < xs.length) :
    ∃ c1 c2 c3, cs = c1 ++ c2 ++ c3 ∧ c1.length = i * d.sz ∧ d.K m xs[i] c2 ∧ ∀ y c', d.K m y c' → Reps m d (xs.set i y) (c1 ++ c' ++ c3) := by
  obtain ⟨c1, c2, c3, h1, h2, h3, h4, h5⟩ := h.at_ i hi
  refine ⟨c1, c2, c3, h1, h2, h3, fun y c' hy => ?_⟩
  rw [List.set_eq_take_append_cons_drop, if_pos hi, List.append_assoc]
  exact h4.append ⟨c', c3, rfl, hy, h5⟩
theorem take_drop {xs : List α} {cs : List Value} (h : Reps m d xs cs) (l k : Nat) (hk : l + k ≤ xs.length) :
    ∃ c1 c2 c3, cs = c1 ++ c2 ++ c3 ∧ c1.length = l * d.sz ∧ Reps m d ((xs.drop l).take k) c2 := by
  have e : xs = xs.take l ++ ((xs.drop l).take k ++ (xs.drop l).drop k) := by rw [List.take_append_drop, List.take_append_drop]
  rw [e] at h
  obtain ⟨c1, r, h1, h2, h3⟩ := split h
  obtain ⟨c2, c3, h4, h5, h6⟩ := split h3
  refine ⟨c1, c2, c3, by rw [h1, h4, List.append_assoc], ?_, ?_⟩
  · rw [h2.len, List.length_take]; congr 1; omega
  · have e2 : ((xs.take l ++ ((xs.drop l).take k ++ (xs.drop l).drop k)).drop l).take k = (xs.drop l).take k := by rw [← e]
    exact h5
end Reps

/-! ### Places and slices that never change again -/
def Lies (m : GH) (b off : Nat) (cs : List Value) : Prop := ∃ cur t fr pre post, m b = some (.cells cur t fr) ∧ cur.toList = pre ++ cs ++ post ∧ pre.length = off
theorem Lies.up {m m' : GH} (hm : GH.le m m') {b off : Nat} {cs : List Value} : Lies m b off cs → Lies m' b off cs
  | ⟨cur, t, fr, pre, post, h1, h2, h3⟩ => ⟨cur, t, fr, pre, post, hm _ _ h1, h2, h3⟩
theorem Lies.cell {m : GH} {w : World} (hs : Sat w m) {b off : Nat} {cs : List Value} (h : Lies m b off cs) (j : Nat) (u : Value) (hj : cs[j]? = some u) : w.cell? ⟨b, off + j, none⟩ = some u := by
  obtain ⟨cur, t, fr, pre, post, h1, h2, h3⟩ := h
  rw [cell_of_row w b (off + j) cur t fr (hs _ _ h1), ← Array.getElem?_toList, h2, ← h3, List.append_assoc, List.getElem?_append_right (by omega), List.getElem?_append_left (by have := (List.getElem?_eq_some_iff.1 hj).1; omega)]
  rw [show pre.length + j - pre.length = j by omega]; exact hj
theorem Lies.sub {m : GH} {b off : Nat} {c1 c2 c3 : List Value} (h : Lies m b off (c1 ++ c2 ++ c3)) : Lies m b (off + c1.length) c2 := by
  obtain ⟨cur, t, fr, pre, post, h1, h2, h3⟩ := h
  exact ⟨cur, t, fr, pre ++ c1, c3 ++ post, h1, by rw [h2]; simp [List.append_assoc], by simp [h3]⟩

def Ty.place (S : Seg) : Ty := ⟨fun m v => ∃ b off cs, v = .pointer (some ⟨b, off, none⟩) ∧ Lies m b off cs ∧ S.p m cs, fun h ⟨b, off, cs, h1, h2, h3⟩ => ⟨b, off, cs, h1, h2.up h, S.up h h3⟩⟩

def SliceAt {α : Type} (m : GH) (d : Kd α) (xs : List α) (v : Value) : Prop :=
  ∃ base cap, v = .slice base xs.length cap ∧ xs.length ≤ cap ∧ cap ≤ maxLen ∧ (xs = [] ∨ ∃ b off cs, base = some ⟨b, off, none⟩ ∧ Lies m b off cs ∧ Reps m d xs cs)
theorem SliceAt.up {α : Type} {m m' : GH} {d : Kd α} {xs : List α} {v : Value} (hm : GH.le m m') : SliceAt m d xs v → SliceAt m' d xs v
  | ⟨base, cap, h1, h2, h3, h4⟩ => ⟨base, cap, h1, h2, h3, h4.imp id (fun ⟨b, off, cs, g1, g2, g3⟩ => ⟨b, off, cs, g1, g2.up hm, g3.up hm⟩)⟩

namespace Kd
def scalar {α : Type} (enc : α → Value) (h : ∀ x, (enc x).oneCell' = true) : Kd α where
  sz := 1
  agg := false
  K := fun _ x cs => cs = [enc x]
  up := fun _ h => h
  len := fun h => by rw [h]; rfl
  one := fun h' u hu => by rw [h'] at hu; rw [List.mem_singleton.1 hu]; exact h _
  flat := fun _ => rfl
def int (k : IntKind) : Kd Int := scalar (Value.int k) (fun _ => rfl)
def bool : Kd Bool := scalar Value.bool (fun _ => rfl)
def bs (l : List UInt8) : ByteArray := ⟨l.toArray⟩
theorem size_bs (l : List UInt8) : (bs l).size = l.length := by show l.toArray.size = _; simp
def str : Kd (List UInt8) := scalar (fun l => Value.string (bs l)) (fun _ => rfl)
/-- A value as it is, of one cell. -/
def raw : Kd { v : Value // v.oneCell' = true } := scalar (fun v => v.1) (fun v => v.2)
def slice {α : Type} (d : Kd α) : Kd (List α) where
  sz := 1
  agg := false
  K := fun m xs cs => ∃ v, cs = [v] ∧ SliceAt m d xs v
  up := fun hm ⟨v, h1, h2⟩ => ⟨v, h1, h2.up hm⟩
  len := fun ⟨v, h1, _⟩ => by rw [h1]; rfl
  one := fun ⟨v, h1, base, cap, h2, _⟩ u hu => by rw [h1] at hu; rw [List.mem_singleton.1 hu, h2]; rfl
  flat := fun _ => rfl
/-- Fields in line; the datum by its parts. -/
def pair {α β γ : Type} (a : Kd α) (b : Kd β) (f : γ → α) (g : γ → β) : Kd γ where
  sz := a.sz + b.sz
  agg := true
  K := fun m x cs => ∃ c1 c2, cs = c1 ++ c2 ∧ a.K m (f x) c1 ∧ b.K m (g x) c2
  up := fun hm ⟨c1, c2, h1, h2, h3⟩ => ⟨c1, c2, h1, a.up hm h2, b.up hm h3⟩
  len := fun ⟨c1, c2, h1, h2, h3⟩ => by rw [h1, List.length_append, a.len h2, b.len h3]
  one := fun ⟨c1, c2, h1, h2, h3⟩ u hu => by
    rw [h1] at hu
    rcases List.mem_append.1 hu with h | h
    · exact a.one h2 u h
    · exact b.one h3 u h
  flat := fun h => by simp at h
/-- A struct of one field. -/
def only {α γ : Type} (a : Kd α) (f : γ → α) : Kd γ where
  sz := a.sz
  agg := true
  K := fun m x cs => a.K m (f x) cs
  up := fun hm h => a.up hm h
  len := fun h => a.len h
  one := fun h => a.one h
  flat := fun h => by simp at h
/-- The datum seen otherwise, under a condition. -/
def iso {α γ : Type} (a : Kd α) (f : γ → α) (ok : γ → Prop := fun _ => True) : Kd γ where
  sz := a.sz
  agg := a.agg
  K := fun m x cs => ok x ∧ a.K m (f x) cs
  up := fun hm h => ⟨h.1, a.up hm h.2⟩
  len := fun h => a.len h.2
  one := fun h => a.one h.2
  flat := a.flat
/-- An array by value. -/
def arr {α : Type} (n : Nat) (d : Kd α) : Kd (List α) where
  sz := n * d.sz
  agg := true
  K := fun m xs cs => xs.length = n ∧ Reps m d xs cs
  up := fun hm h => ⟨h.1, h.2.up hm⟩
  len := fun h => by rw [h.2.len, h.1]
  one := fun h => h.2.one
  flat := fun h => by simp at h
/-- A pointer to a place that never changes again. -/
def ptr (S : Seg) : Kd Unit where
  sz := 1
  agg := false
  K := fun m _ cs => ∃ v, cs = [v] ∧ (Ty.place S).p m v
  up := fun hm ⟨v, h1, h2⟩ => ⟨v, h1, (Ty.place S).up hm h2⟩
  len := fun ⟨v, h1, _⟩ => by rw [h1]; rfl
  one := fun ⟨v, h1, b, off, cs, h2, _⟩ u hu => by rw [h1] at hu; rw [List.mem_singleton.1 hu, h2]; rfl
  flat := fun _ => rfl
end Kd

/-- What lies at an offset within a segment. -/
def Sub (S : Seg) (off : Nat) (S' : Seg) : Prop := ∀ m cs, S.p m cs → ∃ c1 c2 c3, cs = c1 ++ c2 ++ c3 ∧ c1.length = off ∧ S'.p m c2
/-- What a store of T at an offset makes of a segment. -/
def Upd (S : Seg) (off : Nat) (T S' : Seg) : Prop := ∀ m cs, S.p m cs → ∃ c1 c2 c3, cs = c1 ++ c2 ++ c3 ∧ c1.length = off ∧ c2.length = T.sz ∧ ∀ c', T.p m c' → S'.p m (c1 ++ c' ++ c3)
theorem Sub.self (S : Seg) : Sub S 0 S := fun m cs h => ⟨[], cs, [], by simp, rfl, h⟩
theorem Upd.self (S T : Seg) (h : S.sz = T.sz) : Upd S 0 T T := fun m cs hp => ⟨[], cs, [], by simp, rfl, by rw [S.len hp, h], fun c' hc => by simpa using hc⟩
theorem Sub.fst {α β γ : Type} (a : Kd α) (b : Kd β) (f : γ → α) (g : γ → β) (x : γ) : Sub (Seg.of (Kd.pair a b f g) x) 0 (Seg.of a (f x)) :=
  fun m cs ⟨c1, c2, h1, h2, h3⟩ => ⟨[], c1, c2, by simpa using h1, rfl, h2⟩
theorem Sub.snd {α β γ : Type} (a : Kd α) (b : Kd β) (f : γ → α) (g : γ → β) (x : γ) {n : Nat} (hn : a.sz = n) : Sub (Seg.of (Kd.pair a b f g) x) n (Seg.of b (g x)) :=
  fun m cs ⟨c1, c2, h1, h2, h3⟩ => ⟨c1, c2, [], by simpa using h1, by rw [a.len h2, hn], h3⟩
theorem Sub.in_ {S S' S'' : Seg} {o o' : Nat} (h : Sub S o S') (h' : Sub S' o' S'') : Sub S (o + o') S'' := fun m cs hp => by
  obtain ⟨c1, c2, c3, h1, h2, h3⟩ := h m cs hp
  obtain ⟨d1, d2, d3, g1, g2, g3⟩ := h' m c2 h3
  exact ⟨c1 ++ d1, d2, d3 ++ c3, by rw [h1, g1]; simp [List.append_assoc], by simp [h2, g2], g3⟩

/-! ### Closed facts about the program's types -/
def TI (P : Program) (t : TypeId) (agg : Bool) (sz : Nat) : Prop :=
  (P.underlying t).map (fun d => match d with | .struct _ | .array _ _ => true | _ => false) = some agg ∧ (P.info? t).map (·.size) = some sz
theorem TI.isAgg {P : Program} {t : TypeId} {agg : Bool} {sz : Nat} (h : TI P t agg sz) (w : World) : (isAgg t).run P w = .ok agg w := by
  obtain ⟨h1, _⟩ := h
  cases hu : P.underlying t with
  | none => rw [hu] at h1; simp at h1
  | some d =>
    rw [hu] at h1
    simp only [Option.map_some, Option.some.injEq] at h1
    unfold Go.isAgg Go.underlying
    simp only [Sem.run_bind, run_program, Result.andThen_ok, hu, Sem.run_pure]
    cases d <;> simp_all
theorem TI.size {P : Program} {t : TypeId} {agg : Bool} {sz : Nat} (h : TI P t agg sz) (w : World) : (sizeOf t).run P w = .ok sz w := by
  obtain ⟨_, h2⟩ := h
  cases hi : P.info? t with
  | none => rw [hi] at h2; simp at h2
  | some i =>
    rw [hi] at h2
    simp only [Option.map_some, Option.some.injEq] at h2
    unfold Go.sizeOf Go.typeInfo
    simp [hi, h2]
def FieldAt (P : Program) (s i off : Nat) : Prop :=
  ((P.underlying s).bind fun d => match d with | .struct fs => (fs[i]?).map fun f => (f.offset, (P.info? f.type).map fun i => Nat.blt 0 i.size) | _ => none) = some (off, some true)
theorem FieldAt.spec {P : Program} {s i off : Nat} (h : FieldAt P s i off) : ∃ fs f n, P.underlying s = some (.struct fs) ∧ fs[i]? = some f ∧ f.offset = off ∧ (∃ ti, P.info? f.type = some ti ∧ ti.size = n) ∧ n ≠ 0 := by
  unfold FieldAt at h
  cases hu : P.underlying s with
  | none => rw [hu] at h; simp at h
  | some d =>
    rw [hu] at h
    simp only [Option.bind_some] at h
    cases d <;> simp only [Option.some.injEq, reduceCtorEq] at h
    rename_i fs
    cases hf : fs[i]? with
    | none => rw [hf] at h; simp at h
    | some f =>
      rw [hf] at h
      simp only [Option.map_some, Option.some.injEq, Prod.mk.injEq] at h
      obtain ⟨h1, h2⟩ := h
      cases hi : P.info? f.type with
      | none => rw [hi] at h2; simp at h2
      | some ti =>
        rw [hi] at h2
        simp at h2
        exact ⟨fs, f, ti.size, rfl, hf, h1, ⟨ti, hi, rfl⟩, by omega⟩

/-! ### The rules -/
section rules
variable {C : Ctx} {Δ : List Res} {Γ : Env} {o : Oper}

theorem Gives.value {a : Act} {m : GH} {w : World} {T : Ty} {v : Value} (hd : ∀ c, o.op ≠ .defer c) (hr : (execOp a.eval o).run C.P w = .ok (.value v) w) (hs : Sat w m) (hT : T.p m v) : Gives C o a m w T :=
  ⟨hd, .inl ⟨v, m, w, hr, Ext.refl _ _ _, hs, hT⟩⟩

theorem T_move {x : Operand} {T : Ty} (ho : o.op = .move x ∨ o.op = .assign x) (hx : Opd Γ x T) : TOp C Δ Γ o T := by
  intro m w a hs _ _ _ ht
  rcases ho with ho | ho
  · refine Gives.value (v := a.eval x) (by simp [ho]) (by simp [execOp, ho]) hs (hx.p ht (by simp [ho, Op.operands]))
  · refine Gives.value (v := a.eval x) (by simp [ho]) (by simp [execOp, ho]) hs (hx.p ht (by simp [ho, Op.operands]))

theorem T_pick_true {c x y : Operand} {T : Ty} (ho : o.op = .pick c x y) (hc : Opd Γ c (Ty.val (.bool true))) (hx : Opd Γ x T) : TOp C Δ Γ o T := by
  intro m w a hs _ _ _ ht
  have h1 : a.eval c = .bool true := hc.p ht (by simp [ho, Op.operands])
  exact Gives.value (v := a.eval x) (by simp [ho]) (by simp [execOp, ho, h1, asBool]) hs (hx.p ht (by simp [ho, Op.operands]))
theorem T_pick_false {c x y : Operand} {T : Ty} (ho : o.op = .pick c x y) (hc : Opd Γ c (Ty.val (.bool false))) (hy : Opd Γ y T) : TOp C Δ Γ o T := by
  intro m w a hs _ _ _ ht
  have h1 : a.eval c = .bool false := hc.p ht (by simp [ho, Op.operands])
  exact Gives.value (v := a.eval y) (by simp [ho]) (by simp [execOp, ho, h1, asBool]) hs (hy.p ht (by simp [ho, Op.operands]))

/-- A block laid for good. -/
def GH.lay (m : GH) (k : Nat) (o : Obj) : GH := fun j => if j = k then some o else m j
theorem GH.lay_le {m : GH} {k : Nat} {o : Obj} (h : m k = none) : GH.le m (m.lay k o) := fun j o' hj => by
  unfold GH.lay
  by_cases e : j = k
  · subst e; rw [h] at hj; cases hj
  · simp [e, hj]
theorem GH.lay_same (m : GH) (k : Nat) (o : Obj) : m.lay k o k = some o := by simp [GH.lay]
theorem sat_none {m : GH} {w : World} (hs : Sat w m) : m w.heap.size = none := by
  cases e : m w.heap.size with
  | none => rfl
  | some o => have := (Array.getElem?_eq_some_iff.1 (hs _ _ e)).1; omega
theorem heap_push_same (w : World) (o : Obj) : (w.heap.push o)[w.heap.size]? = some o := by simp
theorem heap_push_old (w : World) (o : Obj) (k : Nat) (h : k < w.heap.size) : (w.heap.push o)[k]? = w.heap[k]? := by
  rw [Array.getElem?_push, if_neg (by omega)]
theorem Ext.lay {m : GH} {w : World} (hs : Sat w m) (o : Obj) : Ext [] m w (m.lay w.heap.size o) { w with heap := w.heap.push o } :=
  ⟨GH.lay_le (sat_none hs), fun k hk hn => .inl (by
      unfold GH.lay at hk
      by_cases e : k = w.heap.size
      · omega
      · simp [e, hn] at hk), by simp, fun k hk _ => heap_push_old w o k hk, rfl, rfl, rfl⟩
theorem Sat.lay {m : GH} {w : World} (hs : Sat w m) (o : Obj) : Sat { w with heap := w.heap.push o } (m.lay w.heap.size o) := fun k o' hk => by
  unfold GH.lay at hk
  show (w.heap.push o)[k]? = some o'
  by_cases e : k = w.heap.size
  · subst e; simp at hk; subst hk; exact heap_push_same w o
  · rw [if_neg e] at hk
    rw [heap_push_old w o k (hs.lt (by rw [hk]; simp))]; exact hs k o' hk

theorem T_box {t : TypeId} {x : Operand} {S : Seg} (ho : o.op = .box t x) (hx : OpdLe Γ x (Ty.seg S)) : TOp C Δ Γ o (Ty.place S) := by
  intro m w a hs _ _ _ ht
  obtain ⟨cs, h1, h2⟩ := hx.p ht (by simp [ho, Op.operands])
  refine ⟨by simp [ho], .inl ⟨.pointer (some ⟨w.heap.size, 0, none⟩), m.lay w.heap.size (.cells cs.toArray t), { w with heap := w.heap.push (.cells cs.toArray t) }, ?_, Ext.lay hs _, Sat.lay hs _, ?_⟩⟩
  · simp [execOp, ho, h2, Instr.box, newVar, newRow, S.cells h1]
  · exact ⟨w.heap.size, 0, cs, rfl, ⟨cs.toArray, t, (0, 0), [], [], GH.lay_same _ _ _, by simp, rfl⟩, S.up (GH.lay_le (sat_none hs)) h1⟩

theorem run_loadVar_cells {P : Program} {w : World} {t : TypeId} {agg : Bool} {cs : List Value} (hti : TI P t agg cs.length) (hflat : agg = false → cs.length = 1) (b off : Nat)
    (hc : ∀ j u, cs[j]? = some u → w.cell? ⟨b, off + j, none⟩ = some u) : (loadVar t ⟨b, off, none⟩).run P w = .ok (mkV agg cs) w := by
  unfold loadVar
  simp only [Sem.run_bind, hti.isAgg w, Result.andThen_ok]
  have hadd : ∀ j, (⟨b, off, none⟩ : Addr).add j = ⟨b, off + j, none⟩ := fun j => by
    unfold Addr.add; by_cases e : j = 0
    · subst e; simp
    · simp [e]
  cases agg with
  | true =>
    simp only [if_true, Sem.run_bind, hti.size w, Result.andThen_ok]
    rw [run_loadCells_list w ⟨b, off, none⟩ cs (fun j v hj => by rw [hadd]; exact hc j v hj)]
    rfl
  | false =>
    have hl := hflat rfl
    match cs, hl with
    | [u], _ =>
      have := hc 0 u rfl
      simp only [Bool.false_eq_true, if_false]
      simp at this
      simp [run_load, this, mkV]

theorem T_load {t : TypeId} {x : Operand} {S : Seg} (ho : o.op = .load t x) (hti : TI C.P t S.agg S.sz) (hx : Opd Γ x (Ty.place S)) : TOp C Δ Γ o (Ty.seg S) := by
  intro m w a hs _ _ _ ht
  obtain ⟨b, off, cs, h1, h2, h3⟩ := hx.p ht (by simp [ho, Op.operands])
  have hl := S.len h3
  refine Gives.value (v := mkV S.agg cs) (by simp [ho]) ?_ hs ⟨cs, h3, rfl⟩
  simp only [execOp, ho, Sem.run_bind, Instr.loadAt, h1, Instr.sureAddr, Sem.run_pure, Result.andThen_ok]
  rw [run_loadVar_cells (by rw [hl]; exact hti) (fun h => by rw [hl]; exact S.flat h) b off (fun j u hj => h2.cell hs j u hj)]
  rfl

theorem run_fieldAt {P : Program} {w : World} {s i off : Nat} (h : FieldAt P s i off) (ad : Addr) : (Instr.fieldAt s (.pointer (some ad)) i).run P w = .ok (.pointer (some (ad.add off))) w := by
  obtain ⟨fs, f, n, h1, h2, h3, ⟨ti, h4, h5⟩, h6⟩ := h.spec
  simp [Instr.fieldAt, Go.underlying, h1, h2, Instr.sureAddr, fieldPlace, Go.sizeOf, Go.typeInfo, h4, h5, h6, h3]
theorem add_none (b off k : Nat) : (⟨b, off, none⟩ : Addr).add k = ⟨b, off + k, none⟩ := by
  unfold Addr.add; by_cases e : k = 0
  · subst e; simp
  · simp [e]

theorem T_fieldAddr {s i off : Nat} {x : Operand} {S S' : Seg} (ho : o.op = .fieldAddr s x i) (hf : FieldAt C.P s i off) (hsub : Sub S off S') (hx : Opd Γ x (Ty.place S)) : TOp C Δ Γ o (Ty.place S') := by
  intro m w a hs _ _ _ ht
  obtain ⟨b, of, cs, h1, h2, h3⟩ := hx.p ht (by simp [ho, Op.operands])
  obtain ⟨c1, c2, c3, g1, g2, g3⟩ := hsub m cs h3
  refine Gives.value (v := .pointer (some ⟨b, of + off, none⟩)) (by simp [ho]) ?_ hs ⟨b, of + off, c2, rfl, ?_, g3⟩
  · simp only [execOp, ho, Sem.run_bind, h1, run_fieldAt hf, add_none, Result.andThen_ok, Sem.run_pure]
  · rw [g1] at h2; rw [← g2]; exact h2.sub

theorem run_part {P : Program} {w : World} {t : TypeId} {agg : Bool} {c1 c2 c3 : List Value} (hti : TI P t agg c2.length) (hflat : agg = false → c2.length = 1) :
    (part t (c1 ++ c2 ++ c3).toArray c1.length).run P w = .ok (mkV agg c2) w := by
  unfold part
  simp only [Sem.run_bind, hti.isAgg w, Result.andThen_ok]
  cases agg with
  | true =>
    simp only [if_true, Sem.run_bind, hti.size w, Result.andThen_ok, Sem.run_pure, mkV, cond_true]
    congr 2
    simp [List.extract_eq_take_drop]
  | false =>
    match c2, hflat rfl with
    | [u], _ => simp [mkV]

theorem T_field {s i off ft : Nat} {x : Operand} {S S' : Seg} (ho : o.op = .field s x i) (hu : ((C.P.underlying s).bind fun d => match d with | .struct fs => (fs[i]?).map fun f => (f.offset, f.type) | _ => none) = some (off, ft))
    (hti : TI C.P ft S'.agg S'.sz) (hagg : S.agg = true) (hsub : Sub S off S') (hx : Opd Γ x (Ty.seg S)) : TOp C Δ Γ o (Ty.seg S') := by
  intro m w a hs _ _ _ ht
  obtain ⟨cs, h1, h2⟩ := hx.p ht (by simp [ho, Op.operands])
  obtain ⟨c1, c2, c3, g1, g2, g3⟩ := hsub m cs h1
  have hl := S'.len g3
  rw [hagg] at h2
  refine Gives.value (v := mkV S'.agg c2) (by simp [ho]) ?_ hs ⟨c2, g3, rfl⟩
  cases hd : C.P.underlying s with
  | none => rw [hd] at hu; simp at hu
  | some d =>
    rw [hd] at hu
    cases d <;> simp at hu
    rename_i fs
    obtain ⟨f, hf, h3, h4⟩ := hu
    have hr := run_part (P := C.P) (w := w) (t := ft) (c1 := c1) (c2 := c2) (c3 := c3) (by rw [hl]; exact hti) (fun h => by rw [hl]; exact S'.flat h)
    simp only [execOp, ho, Sem.run_bind, Instr.field, Go.underlying, run_program, Result.andThen_ok, hd, Sem.run_pure, hf, h2, mkV, cond_true, asAgg, h3, h4, g1]
    rw [← g2, hr]
    rfl

theorem T_len_slice {t : TypeId} {e : TypeId} {ts : Array TypeId} {x : Operand} {α : Type} {d : Kd α} {xs : List α} (ho : o.op = .call { callee := .builtin .len, args := #[x], argTypes := ts }) (ht : ts[0]? = some t) (hu : C.P.underlying t = some (.slice e))
    (hx : Opd Γ x (Ty.of (Kd.slice d) xs)) : TOp C Δ Γ o (Ty.val (.int .i64 xs.length)) := by
  intro m w a hs _ _ _ htt
  obtain ⟨cs, ⟨v, h1, base, cap, h2, _⟩, h3⟩ := hx.p htt (by simp [ho, Op.operands, Call.operands])
  have he : a.eval x = .slice base xs.length cap := by rw [h3, h1, h2]; rfl
  exact Gives.value (by simp [ho]) (by simp [execOp, ho, resolve, invoke, builtin, Builtin.len_, he, ht, Go.underlying, hu, goInt]) hs rfl
theorem T_len_str {t : TypeId} {ts : Array TypeId} {x : Operand} {l : List UInt8} (ho : o.op = .call { callee := .builtin .len, args := #[x], argTypes := ts }) (ht : ts[0]? = some t) (hu : C.P.underlying t = some .string)
    (hx : Opd Γ x (Ty.of Kd.str l)) : TOp C Δ Γ o (Ty.val (.int .i64 l.length)) := by
  intro m w a hs _ _ _ htt
  obtain ⟨cs, h1, h3⟩ := hx.p htt (by simp [ho, Op.operands, Call.operands])
  have he : a.eval x = .string (Kd.bs l) := by rw [h3, show cs = _ from h1]; rfl
  refine Gives.value (v := .int .i64 l.length) (by simp [ho]) ?_ hs rfl
  have hsz : (Kd.bs l).size = l.length := Kd.size_bs l
  generalize Kd.bs l = s at he hsz
  simp [execOp, ho, resolve, invoke, builtin, Builtin.len_, he, ht, Go.underlying, hu, goInt, hsz]

theorem T_indexAddr {t e : TypeId} {x i : Operand} {k : IntKind} {n : Int} {α : Type} {d : Kd α} {xs : List α} (ho : o.op = .indexAddr t x i) (hu : C.P.underlying t = some (.slice e)) (hti : TI C.P e d.agg d.sz)
    (hx : Opd Γ x (Ty.of (Kd.slice d) xs)) (hi : Opd Γ i (Ty.val (.int k n))) (h0 : 0 ≤ n) (hlt : n.toNat < xs.length) : TOp C Δ Γ o (Ty.place (Seg.of d xs[n.toNat])) := by
  intro m w a hs _ _ _ htt
  obtain ⟨cs, ⟨v, h1, base, cap, h2, _, _, h4⟩, h3⟩ := hx.p htt (by simp [ho, Op.operands])
  rcases h4 with h4 | ⟨b, off, ds, g1, g2, g3⟩
  · rw [h4] at hlt; simp at hlt
  have he : a.eval x = .slice (some ⟨b, off, none⟩) xs.length cap := by rw [h3, h1, h2, g1]; rfl
  have hi' : a.eval i = .int k n := hi.p htt (by simp [ho, Op.operands])
  obtain ⟨c1, c2, c3, k1, k2, k3, _⟩ := g3.at_ n.toNat hlt
  refine Gives.value (v := .pointer (some ⟨b, off + n.toNat * d.sz, none⟩)) (by simp [ho]) ?_ hs ⟨b, off + n.toNat * d.sz, c2, rfl, by rw [← k2]; rw [k1] at g2; exact g2.sub, k3⟩
  have hlt' : n < (xs.length : Int) := by omega
  simp [execOp, ho, Instr.indexAt, hi', he, asIntOf, Go.underlying, hu, h0, hlt', hti.size w, add_none]

end rules

end Go.Proofs.YtknflgfkhkdomaaGreatDoor.Mono

/-! MonoP -/
set_option linter.unusedVariables false
set_option linter.unusedSimpArgs false
namespace Go.Proofs.YtknflgfkhkdomaaGreatDoor.Mono
open Go Go.RowKit

def Seg.le (S S' : Seg) : Prop := S.agg = S'.agg ∧ S.sz = S'.sz ∧ ∀ m cs, S.p m cs → S'.p m cs
theorem Seg.le.seg {S S' : Seg} (h : Seg.le S S') : Ty.le (Ty.seg S) (Ty.seg S') := fun m v ⟨cs, h1, h2⟩ => ⟨cs, h.2.2 m cs h1, by rw [h2, h.1]⟩
theorem Seg.le.place {S S' : Seg} (h : Seg.le S S') : Ty.le (Ty.place S) (Ty.place S') := fun m v ⟨b, off, cs, h1, h2, h3⟩ => ⟨b, off, cs, h1, h2, h.2.2 m cs h3⟩
/-- A plain value of one cell, as a segment. -/
theorem val_seg {α : Type} (enc : α → Value) (h : ∀ x, (enc x).oneCell' = true) (x : α) : Ty.le (Ty.val (enc x)) (Ty.of (Kd.scalar enc h) x) := fun m v hv => ⟨[enc x], rfl, hv⟩
theorem seg_val {α : Type} (enc : α → Value) (h : ∀ x, (enc x).oneCell' = true) (x : α) : Ty.le (Ty.of (Kd.scalar enc h) x) (Ty.val (enc x)) := fun m v ⟨cs, h1, h2⟩ => by
  rw [show cs = _ from h1] at h2; exact h2

/-- Functions as values. -/
def Enters (P : Program) (f : FuncId) : Prop := ∀ (args : Array Value) (w : World), (callFunc f args).run P w = .ok (.enter f args) w
def Ty.fn (C : Ctx) {X : Type} (ins : X → List Ty) (out : X → Ty) : Ty := ⟨fun m v => ∃ f first cap, v = .func (.func f) first cap ∧ Enters C.P f ∧
    ∀ (x : X) (m' : GH) (w' : World) (args : Array Value), GH.le m m' → Sat w' m' → C.G m' → TyAll m' (ins x) args.toList → CallsTo C f (first ++ args ++ cap) m' w' (out x),
  fun hm ⟨f, first, cap, h1, h2, h3⟩ => ⟨f, first, cap, h1, h2, fun x m' w' args hle => h3 x m' w' args (hm.trans hle)⟩⟩
def Ty.tup (Ts : List Ty) : Ty := ⟨fun m v => ∃ vs : Array Value, v = .tuple vs ∧ TyAll m Ts vs.toList, fun hm ⟨vs, h1, h2⟩ => ⟨vs, h1, h2.up hm⟩⟩
/-- The contract of a function that changes no block. -/
def Spec (C : Ctx) (f : FuncId) (ins : List Ty) (out : Ty) : Prop :=
  ∀ (m : GH) (w : World) (args : Array Value), Sat w m → C.G m → TyAll m ins args.toList → CallsTo C f args m w out
theorem CallsTo.mono {C : Ctx} {f : FuncId} {args : Array Value} {m : GH} {w : World} {T T' : Ty} (h : CallsTo C f args m w T) (hT : Ty.le T T') : CallsTo C f args m w T' :=
  Calls.mono h fun e w' ⟨v, m', h1, h2, h3, h4⟩ => ⟨v, m', h1, h2, h3, hT _ _ h4⟩
theorem Spec.mono {C : Ctx} {f : FuncId} {ins : List Ty} {out out' : Ty} (h : Spec C f ins out) (hT : Ty.le out out') : Spec C f ins out' := fun m w args h1 h2 h3 => (h m w args h1 h2 h3).mono hT
theorem TyAll.le {m : GH} : ∀ {Ts Us : List Ty} {vs : List Value}, TyAll m Ts vs → List.length Ts = List.length Us → (∀ (i : Nat) (T U : Ty), Ts[i]? = some T → Us[i]? = some U → Ty.le T U) → TyAll m Us vs
  | [], [], [], _, _, _ => trivial
  | T :: Ts, U :: Us, v :: vs, h, hl, hle => ⟨hle 0 T U rfl rfl m v h.1, TyAll.le h.2 (by simpa using hl) (fun i T U h1 h2 => hle (i + 1) T U (by simpa using h1) (by simpa using h2))⟩
  | [], [], _ :: _, h, _, _ => h.elim
  | _ :: _, _, [], h, _, _ => h.elim
  | [], _ :: _, _, _, hl, _ => by simp at hl
  | _ :: _, [], _, _, hl, _ => by simp at hl

section rules
variable {C : Ctx} {Δ : List Res} {Γ : Env} {o : Oper}

theorem Gives.mono {a : Act} {m : GH} {w : World} {T T' : Ty} (h : Gives C o a m w T) (hT : Ty.le T T') : Gives C o a m w T' :=
  ⟨h.1, h.2.imp (fun ⟨v, m', w', h1, h2, h3, h4⟩ => ⟨v, m', w', h1, h2, h3, hT _ _ h4⟩) (fun ⟨f, args, h1, h2⟩ => ⟨f, args, h1, h2.mono hT⟩)⟩
theorem T_sub {T T' : Ty} (h : TOp C Δ Γ o T) (hT : Ty.le T T') : TOp C Δ Γ o T' := fun m w a h1 h2 h3 h4 h5 => (h m w a h1 h2 h3 h4 h5).mono hT

theorem run_call {ρ : Operand → Value} {c : Call} {ty : TypeId} {f : FuncId} {first cap : Array Value} {x : Operand} (hc : c.callee = .value x) (hx : ρ x = .func (.func f) first cap) (he : Enters C.P f) (w : World) :
    (do let d ← resolve ρ c ty; invoke d.target d.args : Sem Next).run C.P w = .ok (.enter f (first ++ c.args.map ρ ++ cap)) w := by
  have := he (first ++ c.args.map ρ ++ cap) w
  simp [resolve, hc, hx, Deferred.ofValue, invoke]
  simpa using this

theorem T_call {f : FuncId} {xs : Array Operand} {ts : Array TypeId} {ins : List Ty} {T : Ty} (ho : o.op = .call { callee := .value (.func f), args := xs, argTypes := ts }) (he : Enters C.P f) (hf : Spec C f ins T) (hx : OpdAll Γ xs.toList ins) : TOp C Δ Γ o T := by
  intro m w a hs hg _ _ htt
  have hargs := hx.p htt (fun x hx => by simp [ho, Op.operands, Call.operands, Array.mem_toList_iff.1 hx])
  refine ⟨by simp [ho], .inr ⟨f, xs.map a.eval, ?_, hf m w _ hs hg (by simpa using hargs)⟩⟩
  have := run_call (C := C) (ρ := a.eval) (c := { callee := .value (.func f), args := xs, argTypes := ts }) (ty := o.type) (x := .func f) rfl rfl he w
  simpa [execOp, ho] using this

theorem T_callv {x : Operand} {xs : Array Operand} {ts : Array TypeId} {X : Type} {ins : X → List Ty} {out : X → Ty} (y : X) (ho : o.op = .call { callee := .value x, args := xs, argTypes := ts }) (hf : Opd Γ x (Ty.fn C ins out)) (hx : OpdAll Γ xs.toList (ins y)) : TOp C Δ Γ o (out y) := by
  intro m w a hs hg _ _ htt
  obtain ⟨f, first, cap, h1, h2, h3⟩ := hf.p htt (by simp [ho, Op.operands, Call.operands])
  have hargs := hx.p htt (fun x hx => by simp [ho, Op.operands, Call.operands, Array.mem_toList_iff.1 hx])
  refine ⟨by simp [ho], .inr ⟨f, first ++ xs.map a.eval ++ cap, ?_, h3 y m w _ (GH.le.refl m) hs hg (by simpa using hargs)⟩⟩
  have := run_call (C := C) (ρ := a.eval) (c := { callee := .value x, args := xs, argTypes := ts }) (ty := o.type) (x := x) rfl h1 h2 w
  simpa [execOp, ho] using this

theorem TyAll.get {m : GH} {T : Ty} : ∀ (Ts : List Ty) (vs : List Value) (i : Nat), TyAll m Ts vs → Ts[i]? = some T → ∃ v, vs[i]? = some v ∧ T.p m v
  | [], [], _, _, h => by simp at h
  | T :: Ts, v :: vs, 0, h, hi => by simp at hi; subst hi; exact ⟨v, rfl, h.1⟩
  | T :: Ts, v :: vs, i + 1, h, hi => by
    obtain ⟨u, h1, h2⟩ := TyAll.get Ts vs i h.2 (by simpa using hi)
    exact ⟨u, by simpa using h1, h2⟩
  | [], _ :: _, _, h, _ => h.elim
  | _ :: _, [], _, h, _ => h.elim
theorem T_extract {x : Operand} {i : Nat} {Ts : List Ty} {T : Ty} (ho : o.op = .extract x i) (hx : Opd Γ x (Ty.tup Ts)) (hi : Ts[i]? = some T) : TOp C Δ Γ o T := by
  intro m w a hs hg _ _ htt
  obtain ⟨vs, h1, h2⟩ := hx.p htt (by simp [ho, Op.operands])
  obtain ⟨v, h3, h4⟩ := TyAll.get _ _ i h2 hi
  refine Gives.value (v := v) (by simp [ho]) ?_ hs h4
  have h3' : vs[i]? = some v := by simpa using h3
  simp [execOp, ho, h1, Instr.extract, h3']

theorem T_makeFunc {fn : Fn} {first cap : Array Operand} {T : Ty} (ho : o.op = .makeFunc fn first cap) (h : ∀ m w a, Sat w m → C.G m → (∀ r ∈ Δ, r.p m w) → Typed Γ m a o.op.operands.toList → T.p m (.func fn (first.map a.eval) (cap.map a.eval))) : TOp C Δ Γ o T := by
  intro m w a hs hg hΔ _ htt
  refine Gives.value (by simp [ho]) ?_ hs (h m w a hs hg hΔ htt)
  simp [execOp, ho, Instr.makeFunc]

/-! Whole numbers -/
theorem eqGuard_int (op : BinOp) (t : TypeId) (x y : Operand) (k k' : IntKind) (a b : Int) (P : Program) (w : World) : (eqGuard op t x y (.int k a) (.int k' b)).run P w = .ok () w := by
  cases op <;> simp [eqGuard]
theorem T_add {t yt : TypeId} {x y : Operand} {k : IntKind} {a b n : Int} (ho : o.op = .binOp .add t x y yt) (hx : Opd Γ x (Ty.val (.int k a))) (hy : Opd Γ y (Ty.val (.int k b))) (hn : k.wrap (a + b) = n) : TOp C Δ Γ o (Ty.val (.int k n)) := by
  intro m w ac hs _ _ _ htt
  have h1 : ac.eval x = .int k a := hx.p htt (by simp [ho, Op.operands])
  have h2 : ac.eval y = .int k b := hy.p htt (by simp [ho, Op.operands])
  exact Gives.value (by simp [ho]) (by simp [execOp, ho, h1, h2, eqGuard_int, binOp, Op.intArith, hn]) hs rfl
theorem T_subI {t yt : TypeId} {x y : Operand} {k : IntKind} {a b n : Int} (ho : o.op = .binOp .sub t x y yt) (hx : Opd Γ x (Ty.val (.int k a))) (hy : Opd Γ y (Ty.val (.int k b))) (hn : k.wrap (a - b) = n) : TOp C Δ Γ o (Ty.val (.int k n)) := by
  intro m w ac hs _ _ _ htt
  have h1 : ac.eval x = .int k a := hx.p htt (by simp [ho, Op.operands])
  have h2 : ac.eval y = .int k b := hy.p htt (by simp [ho, Op.operands])
  exact Gives.value (by simp [ho]) (by simp [execOp, ho, h1, h2, eqGuard_int, binOp, Op.intArith, hn]) hs rfl
theorem T_mul {t yt : TypeId} {x y : Operand} {k : IntKind} {a b n : Int} (ho : o.op = .binOp .mul t x y yt) (hx : Opd Γ x (Ty.val (.int k a))) (hy : Opd Γ y (Ty.val (.int k b))) (hn : k.wrap (a * b) = n) : TOp C Δ Γ o (Ty.val (.int k n)) := by
  intro m w ac hs _ _ _ htt
  have h1 : ac.eval x = .int k a := hx.p htt (by simp [ho, Op.operands])
  have h2 : ac.eval y = .int k b := hy.p htt (by simp [ho, Op.operands])
  exact Gives.value (by simp [ho]) (by simp [execOp, ho, h1, h2, eqGuard_int, binOp, Op.intArith, hn]) hs rfl
theorem T_quo {t yt : TypeId} {x y : Operand} {k : IntKind} {a b n : Int} (ho : o.op = .binOp .quo t x y yt) (hx : Opd Γ x (Ty.val (.int k a))) (hy : Opd Γ y (Ty.val (.int k b))) (hb : b ≠ 0) (hn : k.wrap (a.tdiv b) = n) : TOp C Δ Γ o (Ty.val (.int k n)) := by
  intro m w ac hs _ _ _ htt
  have h1 : ac.eval x = .int k a := hx.p htt (by simp [ho, Op.operands])
  have h2 : ac.eval y = .int k b := hy.p htt (by simp [ho, Op.operands])
  exact Gives.value (by simp [ho]) (by simp [execOp, ho, h1, h2, eqGuard_int, binOp, Op.intDiv, hb, hn]) hs rfl
theorem T_rem {t yt : TypeId} {x y : Operand} {k : IntKind} {a b n : Int} (ho : o.op = .binOp .rem t x y yt) (hx : Opd Γ x (Ty.val (.int k a))) (hy : Opd Γ y (Ty.val (.int k b))) (hb : b ≠ 0) (hn : a.tmod b = n) : TOp C Δ Γ o (Ty.val (.int k n)) := by
  intro m w ac hs _ _ _ htt
  have h1 : ac.eval x = .int k a := hx.p htt (by simp [ho, Op.operands])
  have h2 : ac.eval y = .int k b := hy.p htt (by simp [ho, Op.operands])
  exact Gives.value (by simp [ho]) (by simp [execOp, ho, h1, h2, eqGuard_int, binOp, Op.intDiv, hb, hn]) hs rfl
/-- The six comparisons. -/
def cmpI : BinOp → Int → Int → Bool
  | .eql, a, b => decide (a = b)
  | .neq, a, b => decide (a ≠ b)
  | .lss, a, b => decide (a < b)
  | .leq, a, b => decide (a ≤ b)
  | .gtr, a, b => decide (b < a)
  | .geq, a, b => decide (b ≤ a)
  | _, _, _ => false
def isCmp : BinOp → Bool
  | .eql | .neq | .lss | .leq | .gtr | .geq => true
  | _ => false
theorem T_cmp {op : BinOp} {t yt : TypeId} {x y : Operand} {k : IntKind} {a b : Int} (ho : o.op = .binOp op t x y yt) (hop : isCmp op = true) (hx : Opd Γ x (Ty.val (.int k a))) (hy : Opd Γ y (Ty.val (.int k b))) : TOp C Δ Γ o (Ty.val (.bool (cmpI op a b))) := by
  intro m w ac hs _ _ _ htt
  have h1 : ac.eval x = .int k a := hx.p htt (by simp [ho, Op.operands])
  have h2 : ac.eval y = .int k b := hy.p htt (by simp [ho, Op.operands])
  refine Gives.value (v := .bool (cmpI op a b)) (by simp [ho]) ?_ hs rfl
  cases op <;> simp [isCmp] at hop <;> simp [execOp, ho, h1, h2, eqGuard_int, binOp, Op.intCmp, cmpI] <;> rfl
theorem eqGuard_bool (op : BinOp) (t : TypeId) (x y : Operand) (a b : Bool) (P : Program) (w : World) : (eqGuard op t x y (.bool a) (.bool b)).run P w = .ok () w := by
  cases op <;> simp [eqGuard]
theorem T_not {t : TypeId} {x : Operand} {b : Bool} (ho : o.op = .unOp .not t x) (hx : Opd Γ x (Ty.val (.bool b))) : TOp C Δ Γ o (Ty.val (.bool (!b))) := by
  intro m w ac hs _ _ _ htt
  have h1 : ac.eval x = .bool b := hx.p htt (by simp [ho, Op.operands])
  exact Gives.value (by simp [ho]) (by simp [execOp, ho, h1, Op.unary]) hs rfl
theorem T_neg {t : TypeId} {x : Operand} {k : IntKind} {a n : Int} (ho : o.op = .unOp .neg t x) (hx : Opd Γ x (Ty.val (.int k a))) (hn : k.wrap (0 - a) = n) : TOp C Δ Γ o (Ty.val (.int k n)) := by
  intro m w ac hs _ _ _ htt
  have h1 : ac.eval x = .int k a := hx.p htt (by simp [ho, Op.operands])
  exact Gives.value (v := .int k n) (by simp [ho]) (by simp only [execOp, ho, h1, Op.unary, Op.intArith, hn]; rfl) hs rfl
theorem T_conv {s t : TypeId} {ds : TypeDesc} {x : Operand} {k k' : IntKind} {a n : Int} (ho : o.op = .convert s t x) (hus : C.P.underlying s = some ds) (hut : C.P.underlying t = some (.int k')) (hx : Opd Γ x (Ty.val (.int k a))) (hn : k'.wrap a = n) : TOp C Δ Γ o (Ty.val (.int k' n)) := by
  intro m w ac hs _ _ _ htt
  have h1 : ac.eval x = .int k a := hx.p htt (by simp [ho, Op.operands])
  exact Gives.value (by simp [ho]) (by simp [execOp, ho, h1, convert, Go.underlying, hus, hut, Conv.intToInt, hn]) hs rfl
theorem T_conv_str {s t : TypeId} {ds : TypeDesc} {x : Operand} {l : List UInt8} (ho : o.op = .convert s t x) (hus : C.P.underlying s = some ds) (hut : C.P.underlying t = some .string) (hx : Opd Γ x (Ty.of Kd.str l)) : TOp C Δ Γ o (Ty.of Kd.str l) := by
  intro m w ac hs _ _ _ htt
  obtain ⟨cs, hcs, h1⟩ := hx.p htt (by simp [ho, Op.operands])
  have h1 : ac.eval x = .string (Kd.bs l) := by rw [h1, show cs = _ from hcs]; rfl
  refine Gives.value (v := .string (Kd.bs l)) (by simp [ho]) ?_ hs ⟨[.string (Kd.bs l)], rfl, rfl⟩
  generalize Kd.bs l = q at h1
  simp [execOp, ho, h1, convert, Go.underlying, hus, hut]

/-! Strings -/
theorem eqGuard_str (op : BinOp) (t : TypeId) (x y : Operand) (a b : ByteArray) (P : Program) (w : World) : (eqGuard op t x y (.string a) (.string b)).run P w = .ok () w := by
  cases op <;> simp [eqGuard]
theorem bs_toList (l : List UInt8) : (Kd.bs l).toList = l := by
  show ByteArray.toList ⟨l.toArray⟩ = l
  rw [ByteArray.toList_eq]
theorem str_opd {x : Operand} {l : List UInt8} {m : GH} {ac : Act} {all : List Operand} (hx : Opd Γ x (Ty.of Kd.str l)) (htt : Typed Γ m ac all) (hm : x ∈ all) : ac.eval x = .string (Kd.bs l) := by
  obtain ⟨cs, hcs, h1⟩ := hx.p htt hm
  rw [h1, show cs = _ from hcs]; rfl
theorem T_str_eq {t yt : TypeId} {x y : Operand} {k l : List UInt8} (ho : o.op = .binOp .eql t x y yt) (hx : Opd Γ x (Ty.of Kd.str k)) (hy : Opd Γ y (Ty.of Kd.str l)) : TOp C Δ Γ o (Ty.val (.bool (decide (k = l)))) := by
  intro m w ac hs _ _ _ htt
  have h1 := str_opd hx htt (by simp [ho, Op.operands])
  have h2 := str_opd hy htt (by simp [ho, Op.operands])
  refine Gives.value (v := .bool (decide (k = l))) (by simp [ho]) ?_ hs rfl
  have e1 := bs_toList k; have e2 := bs_toList l
  generalize Kd.bs k = a at h1 e1; generalize Kd.bs l = b at h2 e2
  simp [execOp, ho, h1, h2, eqGuard_str, binOp, Op.stringOp, e1, e2]
  by_cases e : k = l <;> simp [e]
theorem T_str_ne {t yt : TypeId} {x y : Operand} {k l : List UInt8} (ho : o.op = .binOp .neq t x y yt) (hx : Opd Γ x (Ty.of Kd.str k)) (hy : Opd Γ y (Ty.of Kd.str l)) : TOp C Δ Γ o (Ty.val (.bool (decide (k ≠ l)))) := by
  intro m w ac hs _ _ _ htt
  have h1 := str_opd hx htt (by simp [ho, Op.operands])
  have h2 := str_opd hy htt (by simp [ho, Op.operands])
  refine Gives.value (v := .bool (decide (k ≠ l))) (by simp [ho]) ?_ hs rfl
  have e1 := bs_toList k; have e2 := bs_toList l
  generalize Kd.bs k = a at h1 e1; generalize Kd.bs l = b at h2 e2
  simp [execOp, ho, h1, h2, eqGuard_str, binOp, Op.stringOp, e1, e2]
  by_cases e : k = l <;> simp [e]
theorem bs_append (k l : List UInt8) : Kd.bs k ++ Kd.bs l = Kd.bs (k ++ l) := by
  apply ByteArray.ext
  show (Kd.bs k ++ Kd.bs l).data = (k ++ l).toArray
  rw [ByteArray.data_append]
  simp [Kd.bs]
theorem T_str_add {t yt : TypeId} {x y : Operand} {k l : List UInt8} (ho : o.op = .binOp .add t x y yt) (hx : Opd Γ x (Ty.of Kd.str k)) (hy : Opd Γ y (Ty.of Kd.str l)) (hlen : k.length + l.length ≤ maxLen) : TOp C Δ Γ o (Ty.of Kd.str (k ++ l)) := by
  intro m w ac hs _ _ _ htt
  have h1 := str_opd hx htt (by simp [ho, Op.operands])
  have h2 := str_opd hy htt (by simp [ho, Op.operands])
  refine Gives.value (v := .string (Kd.bs (k ++ l))) (by simp [ho]) ?_ hs ⟨[.string (Kd.bs (k ++ l))], rfl, rfl⟩
  have e1 := Kd.size_bs k; have e2 := Kd.size_bs l; have e3 := bs_append k l
  generalize Kd.bs k = a at *; generalize Kd.bs l = b at *; generalize Kd.bs (k ++ l) = c at *
  have hn : ¬ (IntKind.i64.max < (a.size : Int) + (b.size : Int)) := by
    rw [e1, e2]; unfold maxLen at hlen
    have : IntKind.i64.max = 9223372036854775807 := by decide
    rw [this]; omega
  have hn2 : (a.size : Int) + (b.size : Int) ≤ 9223372036854775807 := by unfold maxLen at hlen; omega
  simp [execOp, ho, h1, h2, eqGuard_str, binOp, Op.stringOp, e3, hn, hn2]
theorem T_index_str {t : TypeId} {x i : Operand} {k : IntKind} {n : Int} {l : List UInt8} (ho : o.op = .index t x i) (hu : C.P.underlying t = some .string) (hx : Opd Γ x (Ty.of Kd.str l)) (hi : Opd Γ i (Ty.val (.int k n))) (h0 : 0 ≤ n) (hlt : n.toNat < l.length) :
    TOp C Δ Γ o (Ty.val (.int .u8 (l[n.toNat].toNat))) := by
  intro m w ac hs _ _ _ htt
  have h1 := str_opd hx htt (by simp [ho, Op.operands])
  have h2 : ac.eval i = .int k n := hi.p htt (by simp [ho, Op.operands])
  refine Gives.value (v := .int .u8 (l[n.toNat].toNat)) (by simp [ho]) ?_ hs rfl
  have e : (Kd.bs l)[n.toNat]? = some l[n.toNat] := by
    have hsz : n.toNat < (Kd.bs l).size := by rw [Kd.size_bs]; exact hlt
    rw [getElem?_pos (Kd.bs l) n.toNat hsz]
    rfl
  generalize Kd.bs l = q at h1 e
  simp [execOp, ho, h1, h2, Instr.index, asIntOf, Go.underlying, hu, h0, e]

/-! Slices of slices -/
theorem run_bound {P : Program} {w : World} {k : IntKind} {i : Int} {y : Nat} {code : BoundsCode} (h0 : 0 ≤ i) (h1 : i ≤ y) : (Instr.sliceBound (.int k i) y code).run P w = .ok i.toNat w := by
  simp [Instr.sliceBound, asIntOf, h0, h1]
/-- The two bounds of a slice expression, either left out. -/
def loOf : Option Int → Nat
  | none => 0
  | some l => l.toNat
def hiOf (n : Nat) : Option Int → Nat
  | none => n
  | some h => h.toNat
def OpdOpt (Γ : Env) (k : IntKind) : Option Operand → Option Int → Prop
  | none, none => True
  | some x, some n => Opd Γ x (Ty.val (.int k n))
  | _, _ => False
def BndOk (n : Nat) (lo hi : Option Int) : Prop := (∀ l, lo = some l → 0 ≤ l) ∧ (∀ h, hi = some h → 0 ≤ h) ∧ loOf lo ≤ hiOf n hi ∧ hiOf n hi ≤ n
theorem run_bounds {P : Program} {w : World} {isS : Bool} {n cap : Nat} {k k' : IntKind} {lo hi : Option Int} (h : BndOk n lo hi) (hc : n ≤ cap) :
    (Instr.sliceBounds isS n cap (lo.map (Value.int k)) (hi.map (Value.int k')) none).run P w = .ok (loOf lo, hiOf n hi, cap) w := by
  obtain ⟨h1, h2, h3, h4⟩ := h
  have e1 : ∀ v : Int, hi = some v → (Instr.sliceBound (.int k' v) cap (if isS = true then .sliceAcap else .sliceAlen)).run P w = .ok v.toNat w := fun v hv => by
    subst hv; exact run_bound (h2 v rfl) (by simp only [hiOf] at h4; have := h2 v rfl; omega)
  have e2 : ∀ v : Int, lo = some v → (Instr.sliceBound (.int k v) (hiOf n hi) .sliceB).run P w = .ok v.toNat w := fun v hv => by
    subst hv; exact run_bound (h1 v rfl) (by simp only [loOf] at h3; have := h1 v rfl; omega)
  cases lo <;> cases hi <;> simp [Instr.sliceBounds, loOf, hiOf] <;> simp_all [loOf, hiOf]
theorem opt_eval {k : IntKind} {x : Option Operand} {n : Option Int} {m : GH} {ac : Act} {all : List Operand} (h : OpdOpt Γ k x n) (htt : Typed Γ m ac all) (hm : ∀ y, x = some y → y ∈ all) : x.map ac.eval = n.map (Value.int k) := by
  cases x with
  | none => cases n with
    | none => rfl
    | some _ => exact h.elim
  | some y => cases n with
    | none => exact h.elim
    | some v =>
      have hh : Opd Γ y (Ty.val (.int k v)) := h
      have := hh.p htt (hm y rfl)
      simp only [Option.map_some]; congr 1

theorem T_slice {t e : TypeId} {x : Operand} {lo hi : Option Operand} {k k' : IntKind} {l h : Option Int} {α : Type} {d : Kd α} {xs : List α} (ho : o.op = .slice t x lo hi none) (hu : C.P.underlying t = some (.slice e)) (hti : TI C.P e d.agg d.sz)
    (hx : Opd Γ x (Ty.of (Kd.slice d) xs)) (hlo : OpdOpt Γ k lo l) (hhi : OpdOpt Γ k' hi h) (hb : BndOk xs.length l h) : TOp C Δ Γ o (Ty.of (Kd.slice d) ((xs.drop (loOf l)).take (hiOf xs.length h - loOf l))) := by
  intro m w ac hs _ _ _ htt
  obtain ⟨cs, ⟨v, h1, base, cap, h2, hcap, hmax, h4⟩, h3⟩ := hx.p htt (by simp [ho, Op.operands])
  have he : ac.eval x = .slice base xs.length cap := by rw [h3, h1, h2]; rfl
  have hl := opt_eval hlo htt (fun y hy => by simp [ho, Op.operands, hy])
  have hh := opt_eval hhi htt (fun y hy => by simp [ho, Op.operands, hy])
  have hr := run_bounds (P := C.P) (w := w) (isS := true) (k := k) (k' := k') hb hcap
  have hle : loOf l ≤ hiOf xs.length h := hb.2.2.1
  have hle2 : hiOf xs.length h ≤ xs.length := hb.2.2.2
  have hlen : ((xs.drop (loOf l)).take (hiOf xs.length h - loOf l)).length = hiOf xs.length h - loOf l := by rw [List.length_take, List.length_drop]; omega
  refine Gives.value (v := .slice (if cap = loOf l then base else base.map (·.add (loOf l * d.sz))) (hiOf xs.length h - loOf l) (cap - loOf l)) (by simp [ho]) ?_ hs ⟨[_], ⟨_, rfl, if cap = loOf l then base else base.map (·.add (loOf l * d.sz)), cap - loOf l, ?_, ?_, ?_, ?_⟩, rfl⟩
  · simp only [execOp, ho, Instr.sliceAt, Sem.run_bind, Go.underlying, run_program, Result.andThen_ok, hu, Sem.run_pure, Instr.slice, he, hl, hh, hr, hti.size w, Option.map_none]
  · rw [hlen]
  · rw [hlen]; omega
  · omega
  · rcases h4 with h4 | ⟨b, off, ds, g1, g2, g3⟩
    · left; subst h4; simp
    · by_cases hz : hiOf xs.length h - loOf l = 0
      · left; rw [hz]; simp
      · right
        have hne : ¬ cap = loOf l := by omega
        obtain ⟨c1, c2, c3, k1, k2, k3⟩ := g3.take_drop (loOf l) (hiOf xs.length h - loOf l) (by omega)
        refine ⟨b, off + loOf l * d.sz, c2, ?_, ?_, k3⟩
        · rw [if_neg hne, g1]; simp [add_none]
        · rw [← k2]; rw [k1] at g2; exact g2.sub
theorem bs_extract (s : List UInt8) (l h : Nat) : (Kd.bs s).extract l h = Kd.bs ((s.drop l).take (h - l)) := by
  apply ByteArray.ext
  rw [ByteArray.data_extract]
  show s.toArray.extract l h = _
  simp [Kd.bs, List.extract_eq_take_drop]
theorem T_slice_str {t : TypeId} {x : Operand} {lo hi : Option Operand} {k k' : IntKind} {l h : Option Int} {s : List UInt8} (ho : o.op = .slice t x lo hi none) (hu : C.P.underlying t = some .string)
    (hx : Opd Γ x (Ty.of Kd.str s)) (hlo : OpdOpt Γ k lo l) (hhi : OpdOpt Γ k' hi h) (hb : BndOk s.length l h) : TOp C Δ Γ o (Ty.of Kd.str ((s.drop (loOf l)).take (hiOf s.length h - loOf l))) := by
  intro m w ac hs _ _ _ htt
  have h1 := str_opd hx htt (by simp [ho, Op.operands])
  have hl := opt_eval hlo htt (fun y hy => by simp [ho, Op.operands, hy])
  have hh := opt_eval hhi htt (fun y hy => by simp [ho, Op.operands, hy])
  have hr := run_bounds (P := C.P) (w := w) (isS := false) (k := k) (k' := k') hb (Nat.le_refl _)
  refine Gives.value (v := .string (Kd.bs ((s.drop (loOf l)).take (hiOf s.length h - loOf l)))) (by simp [ho]) ?_ hs ⟨[_], rfl, rfl⟩
  rw [← bs_extract]
  simp only [execOp, ho, Instr.sliceAt, Sem.run_bind, Go.underlying, run_program, Result.andThen_ok, hu, Sem.run_pure, Instr.slice, h1, hl, hh, Kd.size_bs, hr, Option.map_none, Option.isSome_none, Bool.false_eq_true, if_false]

/-! Literals -/
def CatP (m : GH) : List Seg → List Value → Prop
  | [], cs => cs = []
  | S :: Ss, cs => ∃ c r, cs = c ++ r ∧ S.p m c ∧ CatP m Ss r
theorem CatP.up {m m' : GH} (hm : GH.le m m') : ∀ {Ss : List Seg} {cs : List Value}, CatP m Ss cs → CatP m' Ss cs
  | [], _, h => h
  | S :: _, _, ⟨c, r, h1, h2, h3⟩ => ⟨c, r, h1, S.up hm h2, CatP.up hm h3⟩
def sizes : List Seg → Nat
  | [] => 0
  | S :: Ss => S.sz + sizes Ss
theorem CatP.len {m : GH} : ∀ {Ss : List Seg} {cs : List Value}, CatP m Ss cs → cs.length = sizes Ss
  | [], _, h => by rw [show _ = [] from h]; rfl
  | S :: _, _, ⟨c, r, h1, h2, h3⟩ => by rw [h1, List.length_append, S.len h2, CatP.len h3]; rfl
theorem CatP.one {m : GH} : ∀ {Ss : List Seg} {cs : List Value}, CatP m Ss cs → ∀ u ∈ cs, u.oneCell' = true
  | [], _, h, u, hu => by rw [show _ = [] from h] at hu; cases hu
  | S :: _, _, ⟨c, r, h1, h2, h3⟩, u, hu => by
    rw [h1] at hu
    rcases List.mem_append.1 hu with h | h
    · exact S.one h2 u h
    · exact CatP.one h3 u h
/-- Segments in line: a struct. -/
def Seg.cat (Ss : List Seg) : Seg := ⟨sizes Ss, true, fun m cs => CatP m Ss cs, fun hm h => h.up hm, fun h => h.len, fun h => h.one, fun h => by simp at h⟩
theorem sizes_append : ∀ (A B : List Seg), sizes (A ++ B) = sizes A + sizes B
  | [], B => by simp [sizes]
  | S :: A, B => by simp [sizes, sizes_append A B]; omega
theorem CatP.split {m : GH} : ∀ {A B : List Seg} {cs : List Value}, CatP m (A ++ B) cs → ∃ c1 c2, cs = c1 ++ c2 ∧ CatP m A c1 ∧ CatP m B c2
  | [], _, cs, h => ⟨[], cs, rfl, rfl, h⟩
  | _ :: _, _, _, ⟨c, r, h1, h2, h3⟩ => by
    obtain ⟨c1, c2, h4, h5, h6⟩ := CatP.split h3
    exact ⟨c ++ c1, c2, by rw [h1, h4, List.append_assoc], ⟨c, c1, rfl, h2, h5⟩, h6⟩
theorem CatP.join {m : GH} : ∀ {A B : List Seg} {c1 c2 : List Value}, CatP m A c1 → CatP m B c2 → CatP m (A ++ B) (c1 ++ c2)
  | [], _, _, _, h, h' => by rw [show _ = [] from h]; exact h'
  | _ :: _, _, _, _, ⟨c, r, h1, h2, h3⟩, h' => ⟨c, r ++ _, by rw [h1, List.append_assoc], h2, CatP.join h3 h'⟩
theorem Sub.cat {Ss : List Seg} {S : Seg} (i : Nat) (hi : Ss[i]? = some S) {off : Nat} (ho : sizes (Ss.take i) = off) : Sub (Seg.cat Ss) off S := fun m cs h => by
  have hlt := (List.getElem?_eq_some_iff.1 hi).1
  have e : Ss = Ss.take i ++ (S :: Ss.drop (i + 1)) := by
    rw [← (List.getElem?_eq_some_iff.1 hi).2, ← List.drop_eq_getElem_cons hlt, List.take_append_drop]
  have h' : CatP m (Ss.take i ++ (S :: Ss.drop (i + 1))) cs := by rw [← e]; exact h
  obtain ⟨c1, c2, h1, h2, ⟨c, r, h3, h4, h5⟩⟩ := h'.split
  exact ⟨c1, c, r, by rw [h1, h3, List.append_assoc], by rw [h2.len, ho], h4⟩
theorem Upd.cat {Ss : List Seg} {S T : Seg} (i : Nat) (hi : Ss[i]? = some S) {off : Nat} (ho : sizes (Ss.take i) = off) (hsz : S.sz = T.sz) : Upd (Seg.cat Ss) off T (Seg.cat (Ss.set i T)) := fun m cs h => by
  have hlt := (List.getElem?_eq_some_iff.1 hi).1
  have e : Ss = Ss.take i ++ (S :: Ss.drop (i + 1)) := by
    rw [← (List.getElem?_eq_some_iff.1 hi).2, ← List.drop_eq_getElem_cons hlt, List.take_append_drop]
  have h' : CatP m (Ss.take i ++ (S :: Ss.drop (i + 1))) cs := by rw [← e]; exact h
  obtain ⟨c1, c2, h1, h2, ⟨c, r, h3, h4, h5⟩⟩ := h'.split
  refine ⟨c1, c, r, by rw [h1, h3, List.append_assoc], by rw [h2.len, ho], by rw [S.len h4, hsz], fun c' hc => ?_⟩
  have e2 : Ss.set i T = Ss.take i ++ (T :: Ss.drop (i + 1)) := by rw [List.set_eq_take_append_cons_drop, if_pos hlt]
  show CatP m (Ss.set i T) _
  rw [e2, List.append_assoc]
  exact h2.join ⟨c', r, rfl, hc, h5⟩
/-- Known cells. -/
def Seg.lit (vs : List Value) (h : ∀ u ∈ vs, u.oneCell' = true) : Seg := ⟨vs.length, true, fun _ cs => cs = vs, fun _ h => h, fun h => by rw [h], fun h' => by rw [h']; exact h, fun h => by simp at h⟩
def OneAll (vs : List Value) : Prop := ∀ u ∈ vs, u.oneCell' = true
theorem oneAll_of {vs : List Value} (h : (vs.all fun u => u.oneCell') = true) : OneAll vs := fun u hu => List.all_eq_true.1 h u hu

/-- Filling a struct or an array, part by part. -/
inductive Fill (Γ : Env) (place : Nat → Option (Nat × Nat)) : Seg → List (Nat × Operand) → Seg → Prop
  | nil (S : Seg) : Fill Γ place S [] S
  | cons {S S' S'' T : Seg} {i off : Nat} {x : Operand} {rest : List (Nat × Operand)} : place i = some (off, T.sz) → OpdLe Γ x (Ty.seg T) → Upd S off T S' → Fill Γ place S' rest S'' → Fill Γ place S ((i, x) :: rest) S''
theorem foldl_set (vs : List Value) : ∀ (j : Nat) (cells : Array Value), (vs.zipIdx j).foldl (fun cs (p : Value × Nat) => cs.setIfInBounds p.2 p.1) cells = (cells.toList.take j ++ vs ++ cells.toList.drop (j + vs.length)).toArray ∨ cells.size < j + vs.length := by
  induction vs with
  | nil => intro j cells; left; simp
  | cons v vs ih =>
    intro j cells
    by_cases hlt : cells.size < j + (v :: vs).length
    · exact .inr hlt
    · left
      simp only [List.zipIdx_cons, List.foldl_cons]
      rcases ih (j + 1) (cells.setIfInBounds j v) with h | h
      · rw [h]
        congr 1
        have hj : j < cells.size := by simp at hlt; omega
        rw [Array.toList_setIfInBounds]
        have e1 : (cells.toList.set j v).take (j + 1) = cells.toList.take j ++ [v] := by
          rw [List.set_eq_take_append_cons_drop, if_pos (by simpa using hj), List.take_append, List.take_of_length_le (by simp; omega)]
          simp [Nat.min_eq_left (Nat.le_of_lt hj)]
        have e2 : (cells.toList.set j v).drop (j + 1 + vs.length) = cells.toList.drop (j + (v :: vs).length) := by
          rw [List.drop_set_of_lt (by omega)]; congr 1; simp; omega
        rw [e1, e2]; simp
      · simp at h hlt; omega
theorem splice_eq (c1 c2 c3 ts : List Value) (h : ts.length = c2.length) : (c1 ++ c2 ++ c3).take c1.length ++ ts ++ (c1 ++ c2 ++ c3).drop (c1.length + ts.length) = c1 ++ ts ++ c3 := by
  have e1 : (c1 ++ c2 ++ c3).take c1.length = c1 := by rw [List.append_assoc]; exact List.take_left' rfl
  have e2 : (c1 ++ c2 ++ c3).drop (c1.length + ts.length) = c3 := by rw [h, ← List.length_append]; exact List.drop_left' rfl
  rw [e1, e2]
theorem run_fill {Γ : Env} {place : Nat → Option (Nat × Nat)} {S S' : Seg} {parts : List (Nat × Operand)} (h : Fill Γ place S parts S') {m : GH} {ac : Act} (htt : Typed Γ m ac (parts.map (·.2))) :
    ∀ {cs : List Value}, S.p m cs → ∃ cs', Instr.fill place cs.toArray (parts.map fun p => (p.1, ac.eval p.2)) = some cs'.toArray ∧ S'.p m cs' := by
  induction h with
  | nil S => intro cs hs; exact ⟨cs, rfl, hs⟩
  | @cons S S' S'' T i off x rest hp hx hu _ ih =>
    intro cs hs
    obtain ⟨ts, ht1, ht2⟩ := hx.p htt (by simp)
    obtain ⟨c1, c2, c3, g1, g2, g3, g4⟩ := hu m cs hs
    have hcells : (ac.eval x).cells = ts.toArray := by rw [ht2]; exact T.cells ht1
    have hl := T.len ht1
    obtain ⟨cs', k1, k2⟩ := ih (fun s hs' U hU => htt s (by simp at hs' ⊢; exact .inr hs') U hU) (g4 ts ht1)
    refine ⟨cs', ?_, k2⟩
    rw [← k1]
    simp only [List.map_cons, Instr.fill, hp, hcells]
    have hsz : cs.length = off + T.sz + c3.length := by rw [g1]; simp [g2, g3]; omega
    rw [if_neg (by simp [hl]; omega)]
    have hf : (ts.toArray.zipIdx.foldl (fun cs (c, j) => cs.setIfInBounds (off + j) c) cs.toArray) = (c1 ++ ts ++ c3).toArray := by
      have e := foldl_set ts off cs.toArray
      rw [← Array.foldl_toList]
      have e0 : ∀ (l : List Value) (k : Nat) (acc : Array Value), (l.zipIdx k).foldl (fun cs (p : Value × Nat) => cs.setIfInBounds (off + p.2) p.1) acc = (l.zipIdx (off + k)).foldl (fun cs (p : Value × Nat) => cs.setIfInBounds p.2 p.1) acc := by
        intro l
        induction l with
        | nil => intro k acc; rfl
        | cons u l ih2 => intro k acc; simp only [List.zipIdx_cons, List.foldl_cons]; rw [ih2 (k + 1)]; rfl
      have e1 := e0 ts 0 cs.toArray
      simp only [Nat.add_zero] at e1
      rw [show ts.toArray.zipIdx.toList = ts.zipIdx 0 by simp]
      refine e1.trans ?_
      rcases e with e | e
      · rw [e, g1]
        congr 1
        simp only [List.toList_toArray]
        rw [← g2]
        exact splice_eq c1 c2 c3 ts (by rw [hl, g3])
      · simp [hl] at e; omega
    rw [hf]
/-- The places of a struct's fields. -/
def placeOf (P : Program) (t : TypeId) (i : Nat) : Option (Nat × Nat) :=
  match P.underlying t with
  | some (.struct fs) => (fs[i]?).bind fun f => (P.info? f.type).map fun ti => (f.offset, ti.size)
  | _ => none
def ZeroOf (P : Program) (t : TypeId) (z : Value) : Prop := (P.info? t).map (·.zero) = some (some z)
theorem ZeroOf.run {P : Program} {t : TypeId} {z : Value} (h : ZeroOf P t z) (w : World) : (zeroValue t).run P w = .ok z w := by
  unfold ZeroOf at h
  cases hi : P.info? t with
  | none => rw [hi] at h; simp at h
  | some i =>
    rw [hi] at h
    simp only [Option.map_some, Option.some.injEq] at h
    simp [zeroValue, Go.typeInfo, hi, h]
theorem run_places {P : Program} {w : World} (fs : Array Field) (hall : ∀ f ∈ fs.toList, (P.info? f.type).isSome = true) :
    (fs.mapM fun f => (do pure (f.offset, ← sizeOf f.type) : Sem (Nat × Nat))).run P w = .ok (fs.map fun f => (f.offset, P.cellsOf f.type)) w := by
  have key : ∀ (l : List Field), (∀ f ∈ l, (P.info? f.type).isSome = true) → (l.mapM fun f => (do pure (f.offset, ← sizeOf f.type) : Sem (Nat × Nat))).run P w = .ok (l.map fun f => (f.offset, P.cellsOf f.type)) w := by
    intro l
    induction l with
    | nil => intro _; simp
    | cons f l ih =>
      intro h
      obtain ⟨ti, hti⟩ := Option.isSome_iff_exists.1 (h f (by simp))
      have ih := ih (fun g hg => h g (by simp [hg]))
      simp only [List.mapM_cons, Sem.run_bind, sizeOf, Go.typeInfo, run_program, Result.andThen_ok, hti, Sem.run_pure, ih, List.map_cons, Program.cellsOf, Option.map_some, Option.getD_some]
      simp [sizeOf, Go.typeInfo, Program.cellsOf] at ih
      simp [sizeOf, Go.typeInfo, Program.cellsOf, ih]
  obtain ⟨l⟩ := fs
  have := key l (by simpa using hall)
  rw [Array.mapM_eq_mapM_toList]
  simp only [Sem.run_map, this, Result.andThen_ok]
  simp
/-- A closed look: every field's type is known. -/
def FieldsKnown (P : Program) (t : TypeId) : Prop :=
  (match P.underlying t with | some (.struct fs) => fs.toList.all fun f => (P.info? f.type).isSome | _ => false) = true
theorem fill_congr {p q : Nat → Option (Nat × Nat)} (h : ∀ i, p i = q i) : ∀ (parts : List (Nat × Value)) (cells : Array Value), Instr.fill p cells parts = Instr.fill q cells parts := by
  intro parts
  induction parts with
  | nil => intro cells; rfl
  | cons x parts ih =>
    intro cells
    obtain ⟨i, v⟩ := x
    simp only [Instr.fill, h i]
    cases q i with
    | none => rfl
    | some y => simp only [ih]
theorem T_build {t : TypeId} {parts : Array (Nat × Operand)} {z : Value} {S0 S : Seg} (ho : o.op = .build t parts) (hk : FieldsKnown C.P t) (hz : ZeroOf C.P t z) (h0 : ∀ m, S0.p m z.cells.toList) (hf : Fill Γ (placeOf C.P t) S0 parts.toList S) (hagg : S.agg = true) : TOp C Δ Γ o (Ty.seg S) := by
  intro m w ac hs _ _ _ htt
  obtain ⟨cs', k1, k2⟩ := run_fill hf (m := m) (ac := ac) (fun s hs' U hU => htt s (by simpa [ho, Op.operands] using hs') U hU) (h0 m)
  refine Gives.value (v := .agg cs'.toArray) (by simp [ho]) ?_ hs ⟨cs', k2, by rw [hagg]; rfl⟩
  unfold FieldsKnown at hk
  cases hd : C.P.underlying t with
  | none => rw [hd] at hk; simp at hk
  | some d =>
    rw [hd] at hk
    cases d <;> simp only [Bool.false_eq_true] at hk
    rename_i fs
    have hp := run_places (P := C.P) (w := w) fs (fun f hf => List.all_eq_true.1 hk f hf)
    have hpl : ∀ i, (fs.map fun f => (f.offset, C.P.cellsOf f.type))[i]? = placeOf C.P t i := fun i => by
      unfold placeOf
      simp only [hd, Array.getElem?_map]
      cases hi : fs[i]? with
      | none => rfl
      | some f =>
        have : (C.P.info? f.type).isSome = true := by
          have := List.all_eq_true.1 hk f (by simpa using Array.mem_of_getElem? hi)
          exact this
        obtain ⟨ti, hti⟩ := Option.isSome_iff_exists.1 this
        simp [Program.cellsOf, hti]
    have e : Instr.fill (fun i => (fs.map fun f => (f.offset, C.P.cellsOf f.type))[i]?) z.cells (parts.toList.map fun p => (p.1, ac.eval p.2)) = some cs'.toArray := by
      rw [fill_congr hpl]; simpa using k1
    simp only [execOp, ho, Sem.run_bind, Instr.build, hz.run w, Result.andThen_ok, Go.underlying, run_program, hd, Sem.run_pure, hp, Array.toList_map, e]
theorem cat_reps {m : GH} {α : Type} {d : Kd α} : ∀ (xs : List α) (cs : List Value), CatP m (xs.map (Seg.of d)) cs → Reps m d xs cs
  | [], _, h => h
  | x :: xs, _, ⟨c, r, h1, h2, h3⟩ => ⟨c, r, h1, h2, cat_reps xs r h3⟩
theorem T_buildSlice {t e : TypeId} {n : Nat} {parts : Array (Nat × Operand)} {α : Type} {d : Kd α} {xs : List α} {z : Value} {S0 : Seg} (ho : o.op = .buildSlice t n parts) (hu : C.P.underlying t = some (.slice e)) (hti : TI C.P e d.agg d.sz)
    (hz : ZeroOf C.P e z) (hpos : n * d.sz ≠ 0) (hbig : n * d.sz ≤ 2 ^ 24)
    (h0 : ∀ m, S0.p m ((List.range (n * d.sz)).map fun i => z.cells[i % z.cells.size]!)) (hf : Fill Γ (fun i => some (i * d.sz, d.sz)) S0 parts.toList (Seg.cat (xs.map (Seg.of d)))) (hn : xs.length = n) : TOp C Δ Γ o (Ty.of (Kd.slice d) xs) := by
  intro m w ac hs _ _ _ htt
  obtain ⟨cs', k1, k2⟩ := run_fill hf (m := m) (ac := ac) (fun s hs' U hU => htt s (by simpa [ho, Op.operands] using hs') U hU) (h0 m)
  have hr : Reps m d xs cs' := cat_reps xs cs' k2
  refine ⟨by simp [ho], .inl ⟨.slice (some ⟨w.heap.size, 0, none⟩) n n, m.lay w.heap.size (.cells cs'.toArray e), { w with heap := w.heap.push (.cells cs'.toArray e) }, ?_, Ext.lay hs _, Sat.lay hs _, ?_⟩⟩
  · have e1 : ((Array.range (n * d.sz)).map fun i => z.cells[i % z.cells.size]!) = ((List.range (n * d.sz)).map fun i => z.cells[i % z.cells.size]!).toArray := by
      apply Array.ext'; simp
    have e2 : Instr.fill (fun i => some (i * d.sz, d.sz)) ((List.range (n * d.sz)).map fun i => z.cells[i % z.cells.size]!).toArray (parts.toList.map fun p => (p.1, ac.eval p.2)) = some cs'.toArray := by simpa using k1
    simp only [execOp, ho, Sem.run_bind, Instr.buildSlice, Go.underlying, run_program, Result.andThen_ok, hu, Sem.run_pure, hti.size w, if_neg (Nat.not_lt.2 hbig), if_neg hpos, hz.run w, e1, Array.toList_map, e2, newRow, run_newObj]
  · have hle : n ≤ maxLen := by unfold maxLen; rcases Nat.eq_zero_or_pos d.sz with h | h
                                · exact absurd (by rw [h, Nat.mul_zero]) hpos
                                · have := Nat.le_mul_of_pos_right n h; omega
    refine ⟨[_], ⟨_, rfl, some ⟨w.heap.size, 0, none⟩, n, by rw [hn], by omega, hle, .inr ⟨w.heap.size, 0, cs', rfl, ⟨cs'.toArray, e, (0, 0), [], [], GH.lay_same _ _ _, by simp, rfl⟩, hr.up (GH.lay_le (sat_none hs))⟩⟩, rfl⟩
end rules

end Go.Proofs.YtknflgfkhkdomaaGreatDoor.Mono

/-! MonoJ -/
set_option linter.unusedVariables false
set_option linter.unusedSimpArgs false
namespace Go.Proofs.YtknflgfkhkdomaaGreatDoor.Mono
open Go Go.RowKit

abbrev Post := Exit → Act → World → Prop
def stk (F : Fr) (Q : Post) : List Code → Act → World → Prop
  | [] => Q .normal
  | c :: cs => fun a w => c.wpIn (FW F.r) 1 F.C.P (Exit.then (stk F Q cs) Q) a w
/-- From a typed frame the codes of the list go one after the other to Q. -/
def JS (F : Fr) (Q : Post) (Γ : Env) (Δ : List Res) (cs : List Code) : Prop := ∀ (m : GH) (w : World) (a : Act), St F Γ Δ m w a → stk F Q cs a w
/-- The rest of a region, one operation after the other. -/
def JT (F : Fr) (Q : Post) (cs : List Code) (ops : Array Oper) (Γ : Env) (Δ : List Res) (l : List Oper) : Prop :=
  ∀ (m : GH) (w : World) (a : Act), St F Γ Δ m w a → runOps F ops (Exit.then (stk F Q cs) Q) (stk F Q cs) l a w
/-- The rest of a region, typed as far as it changes no block. -/
def TK (F : Fr) (Q : Post) (cs : List Code) (ops : Array Oper) (draw : Bool) (Δ : List Res) (Γ : Env) (l : List Oper) : Prop :=
  ∃ Γ' l1 l2, l = l1 ++ l2 ∧ TL F.C F.N ops Δ Γ l1 Γ' ∧ (draw = true → okDraw ops.toList (ops.size - l2.length) = true) ∧ JT F Q cs ops Γ' Δ l2

section rules
variable {F : Fr} {Q : Post} {Γ : Env} {Δ : List Res} {cs : List Code} {ops : Array Oper} {draw : Bool} {o : Oper} {l : List Oper}

theorem then_mono {K K' : Act → World → Prop} {Q Q' : Post} (hk : ∀ a w, K a w → K' a w) (hq : ∀ e a w, e ≠ .normal → Q e a w → Q' e a w) : ∀ e a w, Exit.then K Q e a w → Exit.then K' Q' e a w := by
  intro e a w h
  cases e with
  | normal => exact hk a w h
  | exit id => exact hq _ a w (by simp) h
  | goto l => exact hq _ a w (by simp) h
  | ret => exact hq _ a w (by simp) h
  | panic c => exact hq _ a w (by simp) h
  | outgrown => exact hq _ a w (by simp) h
theorem then_then {K K2 : Act → World → Prop} {Q : Post} : ∀ e a w, Exit.then K Q e a w → Exit.then K (Exit.then K2 Q) e a w := by
  intro e a w h
  cases e <;> exact h

theorem JS_seq {x y : Code} (h : JS F Q Γ Δ (x :: y :: cs)) : JS F Q Γ Δ (.seq x y :: cs) := fun m w a hs => wpIn_seq (wpIn_mono (h m w a hs) then_then)
theorem JS_skip (h : JS F Q Γ Δ cs) : JS F Q Γ Δ (.skip :: cs) := fun m w a hs => wpIn_skip (h m w a hs)
theorem JS_label {n : Nat} (h : JS F Q Γ Δ cs) : JS F Q Γ Δ (.label n :: cs) := fun m w a hs => wpIn_label (h m w a hs)

theorem JS_region {id : Nat} (hm : draw = true → F.C.P.follows .mixedOrders = true) (h : TK F Q cs ops draw Δ Γ ops.toList) : JS F Q Γ Δ (.region id ops draw :: cs) := by
  obtain ⟨Γ', l1, l2, h1, h2, h3, h4⟩ := h
  intro m w a hs
  show (Code.region id ops draw).wpIn (FW F.r) 1 F.C.P (Exit.then (stk F Q cs) Q) a w
  cases hd : draw with
  | false =>
    refine region_run ?_
    rw [h1]
    exact h2.run hs (fun m w a hs => h4 m w a hs)
  | true =>
    have hl : l1.length = ops.size - l2.length := by
      have := congrArg List.length h1
      simp at this; omega
    exact region_draw (hm hd) h1 (by rw [hl]; exact h3 hd) h2 (fun m w a hs => h4 m w a hs) hs

theorem TK_op {T : Ty} (hw : Wanted Γ ops o true) (hd : dstOk F.N o.dst = true) (ht : TOp F.C Δ Γ o T) (h : TK F Q cs ops draw Δ (Env.put Γ o.dst T) l) : TK F Q cs ops draw Δ Γ (o :: l) := by
  obtain ⟨Γ', l1, l2, h1, h2, h3, h4⟩ := h
  exact ⟨Γ', o :: l1, l2, by rw [h1]; rfl, .op hw hd ht h2, h3, h4⟩
theorem TK_skip (hw : Wanted Γ ops o false) (hd : dstOk F.N o.dst = true) (h : TK F Q cs ops draw Δ (Env.put Γ o.dst (Ty.val undef)) l) : TK F Q cs ops draw Δ Γ (o :: l) := by
  obtain ⟨Γ', l1, l2, h1, h2, h3, h4⟩ := h
  exact ⟨Γ', o :: l1, l2, by rw [h1]; rfl, .skip hw hd h2, h3, h4⟩
theorem TK_tail (hd : draw = true → okDraw ops.toList (ops.size - l.length) = true) (h : JT F Q cs ops Γ Δ l) : TK F Q cs ops draw Δ Γ l := ⟨Γ, [], l, rfl, .nil Γ, hd, h⟩
theorem TK_done (hd : draw = true → okDraw ops.toList ops.size = true) (h : JS F Q Γ Δ cs) : TK F Q cs ops draw Δ Γ [] := ⟨Γ, [], [], rfl, .nil Γ, hd, fun m w a hs => h m w a hs⟩
theorem JT_done (h : JS F Q Γ Δ cs) : JT F Q cs ops Γ Δ [] := fun m w a hs => h m w a hs
theorem JT_op {T : Ty} (hw : Wanted Γ ops o true) (hd : dstOk F.N o.dst = true) (ht : TOp F.C Δ Γ o T) (h : JT F Q cs ops (Env.put Γ o.dst T) Δ l) : JT F Q cs ops Γ Δ (o :: l) := by
  intro m w a hs
  simp only [runOps]
  rw [if_pos (hs.wanted hw)]
  exact (ht m w a hs.sat hs.g hs.own hs.apart (hs.typed _)).wpIn (fun v m' w' hx hs' hT => h m' w' _ (hs.step hx hs' hT hd))
theorem JT_skip (hw : Wanted Γ ops o false) (hd : dstOk F.N o.dst = true) (h : JT F Q cs ops (Env.put Γ o.dst (Ty.val undef)) Δ l) : JT F Q cs ops Γ Δ (o :: l) := by
  intro m w a hs
  simp only [runOps]
  rw [if_neg (by rw [hs.wanted hw]; simp)]
  exact h m w _ (hs.skipped hd)

theorem opd_bool {c : Operand} {t : Bool} (hc : Opd Γ c (Ty.val (.bool t))) {m : GH} {w : World} {a : Act} (hs : St F Γ Δ m w a) : a.eval c = .bool t :=
  hc.p (hs.typed [c]) (by simp)
theorem JS_cond {c : Operand} {x y : Code} {t : Bool} (hc : Opd Γ c (Ty.val (.bool t))) (h1 : t = true → JS F Q Γ Δ (x :: cs)) (h2 : t = false → JS F Q Γ Δ (y :: cs)) : JS F Q Γ Δ (.cond c x y :: cs) :=
  fun m w a hs => wpIn_cond_split (opd_bool hc hs) (fun e => h1 e m w a hs) (fun e => h2 e m w a hs)
theorem JS_if {c : Operand} {x y : Code} {p : Prop} [Decidable p] (hc : Opd Γ c (Ty.val (.bool (decide p)))) (h1 : p → JS F Q Γ Δ (x :: cs)) (h2 : ¬ p → JS F Q Γ Δ (y :: cs)) : JS F Q Γ Δ (.cond c x y :: cs) :=
  JS_cond hc (fun e => h1 (of_decide_eq_true e)) (fun e => h2 (of_decide_eq_false e))

/-- Behind a block: 'exit id' goes on with K, all else to Q. -/
def inB (id : Nat) (K : Act → World → Prop) (Q : Post) : Post
  | .normal, a, w => K a w
  | .exit i, a, w => if i = id then K a w else Q (.exit i) a w
  | e, a, w => Q e a w
theorem JS_block {id : Nat} {b : Code} (h : JS F (inB id (stk F Q cs) Q) Γ Δ [b]) : JS F Q Γ Δ (.block id b :: cs) := fun m w a hs => by
  refine wpIn_block (wpIn_mono (h m w a hs) ?_)
  intro e a w hq
  cases e with
  | normal => exact hq
  | exit i =>
    show if i = id then _ else _
    have hq' : if i = id then stk F Q cs a w else Q (.exit i) a w := hq
    by_cases e : i = id
    · rw [if_pos e] at hq' ⊢; exact hq'
    · rw [if_neg e] at hq' ⊢; exact hq'
  | goto l => exact hq
  | ret => exact hq
  | panic c => exact hq
  | outgrown => exact hq
theorem JS_end_inB {id : Nat} {Q' : Post} (h : JS F Q Γ Δ cs) : JS F (inB id (stk F Q cs) Q') Γ Δ [] := fun m w a hs => h m w a hs
/-- What a jump asks. -/
def JE (F : Fr) (Q : Post) (Γ : Env) (Δ : List Res) (e : Exit) : Prop := ∀ (m : GH) (w : World) (a : Act), St F Γ Δ m w a → Q e a w
theorem JS_exit {i : Nat} (h : JE F Q Γ Δ (.exit i)) : JS F Q Γ Δ (.exit i :: cs) := fun m w a hs => wpIn_exit (h m w a hs)
theorem JS_ret (h : JE F Q Γ Δ .ret) : JS F Q Γ Δ (.ret :: cs) := fun m w a hs => wpIn_ret (h m w a hs)
theorem JS_goto {n : Nat} (h : JE F Q Γ Δ (.goto n)) : JS F Q Γ Δ (.goto n :: cs) := fun m w a hs => wpIn_goto (h m w a hs)
theorem JS_nil (h : JE F Q Γ Δ .normal) : JS F Q Γ Δ [] := fun m w a hs => h m w a hs
theorem JE_inB_here {id : Nat} {Q' : Post} (h : JS F Q Γ Δ cs) : JE F (inB id (stk F Q cs) Q') Γ Δ (.exit id) := fun m w a hs => by show inB _ _ _ _ _ _; simp only [inB, if_true]; exact h m w a hs
theorem JE_inB_end {id : Nat} {Q' : Post} (h : JS F Q Γ Δ cs) : JE F (inB id (stk F Q cs) Q') Γ Δ .normal := fun m w a hs => h m w a hs
theorem JE_inB_out {id i : Nat} {K : Act → World → Prop} (hne : Nat.beq i id = false) (h : JE F Q Γ Δ (.exit i)) : JE F (inB id K Q) Γ Δ (.exit i) := fun m w a hs => by
  show inB _ _ _ _ _ _; simp only [inB]; rw [if_neg (by rintro rfl; simp at hne)]; exact h m w a hs
theorem JE_inB_ret {id : Nat} {K : Act → World → Prop} (h : JE F Q Γ Δ .ret) : JE F (inB id K Q) Γ Δ .ret := fun m w a hs => h m w a hs
theorem JE_inB_goto {id n : Nat} {K : Act → World → Prop} (h : JE F Q Γ Δ (.goto n)) : JE F (inB id K Q) Γ Δ (.goto n) := fun m w a hs => h m w a hs

/-! Less known -/
def EnvSub (Γ Γ' : Env) : Prop := ∀ s T, Env.get Γ' s = some T → ∃ T0, Env.get Γ s = some T0 ∧ Ty.le T0 T
theorem EnvSub.nil (Γ : Env) : EnvSub Γ [] := fun s T h => by simp [Env.get] at h
theorem EnvSub.cons {Γ Γ' : Env} {s : Nat} {T : Ty} (h : Env.get Γ s = some T) (h' : EnvSub Γ Γ') : EnvSub Γ ((s, T) :: Γ') := fun k U hk => by
  rw [Env.get_cons] at hk
  by_cases e : s = k
  · rw [if_pos e] at hk; cases hk; subst e; exact ⟨T, h, Ty.le.refl T⟩
  · rw [if_neg e] at hk; exact h' k U hk
theorem EnvSub.consLe {Γ Γ' : Env} {s : Nat} {T T0 : Ty} (h : Env.get Γ s = some T0) (hle : Ty.le T0 T) (h' : EnvSub Γ Γ') : EnvSub Γ ((s, T) :: Γ') := fun k U hk => by
  rw [Env.get_cons] at hk
  by_cases e : s = k
  · rw [if_pos e] at hk; cases hk; subst e; exact ⟨T0, h, hle⟩
  · rw [if_neg e] at hk; exact h' k U hk
theorem EnvSub.refl (Γ : Env) : EnvSub Γ Γ := fun s T h => ⟨T, h, Ty.le.refl T⟩
theorem St.sub {F : Fr} {Γ Γ' : Env} {Δ : List Res} {m : GH} {w : World} {a : Act} (h : St F Γ Δ m w a) (hs : EnvSub Γ Γ') : St F Γ' Δ m w a :=
  ⟨h.sat, h.g, h.size, h.defers, fun s T hT => by obtain ⟨T0, h1, h2⟩ := hs s T hT; exact h2 _ _ (h.ty s T0 h1), h.own, h.apart, h.disj, h.mine, h.ext⟩
theorem JS_sub {Γ' : Env} (hs : EnvSub Γ Γ') (h : JS F Q Γ' Δ cs) : JS F Q Γ Δ cs := fun m w a h' => h m w a (h'.sub hs)
/-- One slot said anew. -/
theorem JS_re {s : Nat} {T0 T : Ty} (hg : Env.get Γ s = some T0) (hle : Ty.le T0 T) (h : JS F Q ((s, T) :: Γ) Δ cs) : JS F Q Γ Δ cs :=
  JS_sub (fun k U hk => by
    rw [Env.get_cons] at hk
    by_cases e : s = k
    · rw [if_pos e] at hk; cases hk; subst e; exact ⟨T0, hg, hle⟩
    · rw [if_neg e] at hk; exact ⟨U, hk, Ty.le.refl U⟩) h

/-! Loops -/
structure Inv where
  Γ : Env
  Δ : List Res
def loopQ (F : Fr) {X : Type} (inv : X → Inv) (good : X → Prop) (μ : X → Nat) (n : Nat) (Q : Post) : Post
  | .normal, a, w => ∃ x, good x ∧ μ x < n ∧ ∃ m, St F (inv x).Γ (inv x).Δ m w a
  | e, a, w => Q e a w
theorem JS_loop {X : Type} (inv : X → Inv) (good : X → Prop) (μ : X → Nat) (x0 : X) (h0 : good x0) (hΔ : Δ = (inv x0).Δ) (hΓ : EnvSub Γ (inv x0).Γ) {b : Code}
    (h : ∀ x, good x → JS F (loopQ F inv good μ (μ x) Q) (inv x).Γ (inv x).Δ [b]) : JS F Q Γ Δ (.loop b :: cs) := by
  intro m w a hs
  show (Code.loop b).wpIn _ _ _ _ _ _
  have I0 : ∃ x, (∃ n, n = μ x ∧ good x ∧ ∃ m, St F (inv x).Γ (inv x).Δ m w a) := ⟨x0, _, rfl, h0, m, by rw [← hΔ]; exact hs.sub hΓ⟩
  refine wpIn_loop (fun a w => ∃ n, ∃ x, n = μ x ∧ good x ∧ ∃ m, St F (inv x).Γ (inv x).Δ m w a) (fun a w => leastOf (fun n => ∃ x, n = μ x ∧ good x ∧ ∃ m, St F (inv x).Γ (inv x).Δ m w a)) ?_ ?_
  · obtain ⟨x, n, h1, h2⟩ := I0; exact ⟨n, x, h1, h2⟩
  · intro a w hI
    have hspec := leastOf_spec hI
    obtain ⟨⟨x, hn, hg, m, hst⟩, hmin⟩ := hspec
    rw [hn]
    refine wpIn_mono (h x hg m w a hst) ?_
    intro e a' w' hq
    cases e with
    | normal =>
      obtain ⟨x', hg', hlt, m', hst'⟩ := hq
      have hI' : ∃ n, ∃ x, n = μ x ∧ good x ∧ ∃ m, St F (inv x).Γ (inv x).Δ m w' a' := ⟨μ x', x', rfl, hg', m', hst'⟩
      exact ⟨hI', Nat.lt_of_le_of_lt ((leastOf_spec hI').2 _ ⟨x', rfl, hg', m', hst'⟩) hlt⟩
    | exit i => exact hq
    | goto l => exact hq
    | ret => exact hq
    | panic c => exact hq
    | outgrown => exact hq
theorem JS_round {X : Type} {inv : X → Inv} {good : X → Prop} {μ : X → Nat} {n : Nat} (x : X) (hg : good x) (hlt : μ x < n) (hΔ : Δ = (inv x).Δ) (hΓ : EnvSub Γ (inv x).Γ) : JS F (loopQ F inv good μ n Q) Γ Δ [] :=
  fun m w a hs => ⟨x, hg, hlt, m, by rw [← hΔ]; exact hs.sub hΓ⟩
theorem JE_round {X : Type} {inv : X → Inv} {good : X → Prop} {μ : X → Nat} {n : Nat} (x : X) (hg : good x) (hlt : μ x < n) (hΔ : Δ = (inv x).Δ) (hΓ : EnvSub Γ (inv x).Γ) : JE F (loopQ F inv good μ n Q) Γ Δ .normal :=
  fun m w a hs => ⟨x, hg, hlt, m, by rw [← hΔ]; exact hs.sub hΓ⟩
theorem JE_loop_exit {X : Type} {inv : X → Inv} {good : X → Prop} {μ : X → Nat} {n i : Nat} (h : JE F Q Γ Δ (.exit i)) : JE F (loopQ F inv good μ n Q) Γ Δ (.exit i) := fun m w a hs => h m w a hs
theorem JE_loop_ret {X : Type} {inv : X → Inv} {good : X → Prop} {μ : X → Nat} {n : Nat} (h : JE F Q Γ Δ .ret) : JE F (loopQ F inv good μ n Q) Γ Δ .ret := fun m w a hs => h m w a hs
theorem JE_loop_goto {X : Type} {inv : X → Inv} {good : X → Prop} {μ : X → Nat} {n l : Nat} (h : JE F Q Γ Δ (.goto l)) : JE F (loopQ F inv good μ n Q) Γ Δ (.goto l) := fun m w a hs => h m w a hs
/-- The code behind a loop is not reached from its end; a cut: what follows is proved once. -/
theorem JS_cut {Γ' : Env} {Δ' : List Res} {cs' : List Code} (h1 : JS F (inB 4000000000 (stk F Q cs') Q) Γ Δ cs) (h : cs ≠ []) : JS F (inB 4000000000 (stk F Q cs') Q) Γ Δ cs := h1

/-! ### Functions -/
/-- What is asked at a function's end. -/
def retQ (F : Fr) (fn : Func) (out : GH → World → Value → Prop) : Post
  | .ret, a, w | .normal, a, w => a.defers = [] ∧ ∃ m v, (results fn a.tmps).run F.C.P w = .ok v w ∧ Sat w m ∧ Ext F.S F.m0 F.w0 m w ∧ out m w v
  | _, _, _ => False
/-- The frame of types at a function's entry. -/
def entry : Nat → List Ty → Env
  | _, [] => []
  | i, T :: Ts => (i, T) :: entry (i + 1) Ts
theorem entry_get {m : GH} : ∀ (Ts : List Ty) (vs : List Value) (i : Nat), TyAll m Ts vs → ∀ s T, Env.get (entry i Ts) s = some T → i ≤ s ∧ ∃ v, vs[s - i]? = some v ∧ T.p m v
  | [], _, _, _, s, T, h => by simp [entry, Env.get] at h
  | T :: Ts, [], _, h, _, _, _ => h.elim
  | T :: Ts, v :: vs, i, h, s, U, hU => by
    simp only [entry] at hU
    rw [Env.get_cons] at hU
    by_cases e : i = s
    · rw [if_pos e] at hU; cases hU; subst e; exact ⟨Nat.le_refl _, v, by simp, h.1⟩
    · rw [if_neg e] at hU
      obtain ⟨h1, u, h2, h3⟩ := entry_get Ts vs (i + 1) h.2 s U hU
      refine ⟨by omega, u, ?_, h3⟩
      rw [show s - i = (s - (i + 1)) + 1 by omega]; simpa using h2
theorem calls_of_JS {C : Ctx} {f : FuncId} {fn : Func} {b : Code} {args : Array Value} {m : GH} {w : World} {ins : List Ty} {S : List Nat} {Δ : List Res} {out : GH → World → Value → Prop}
    (hf : C.P.funcs[f]? = some fn) (hb : fn.body = some b) (hsz : args.size ≤ fn.ntmps) (hs : Sat w m) (hg : C.G m) (ht : TyAll m ins args.toList)
    (hown : ∀ r ∈ Δ, r.p m w) (hap : ∀ r ∈ Δ, ∀ k ∈ r.fp, m k = none) (hdj : ∀ (i j : Nat) (r s : Res), Δ[i]? = some r → Δ[j]? = some s → i ≠ j → ∀ k ∈ r.fp, k ∉ s.fp) (hmine : ∀ r ∈ Δ, ∀ k ∈ r.fp, k ∈ S)
    (h : JS { C, S, m0 := m, w0 := w, N := fn.ntmps, D := [], r := none } (retQ { C, S, m0 := m, w0 := w, N := fn.ntmps, D := [], r := none } fn out) (entry 0 ins) Δ [b]) :
    Calls C.P f args w fun e w' => ∃ v m', e = .returned v ∧ Ext S m w m' w' ∧ Sat w' m' ∧ out m' w' v := by
  refine (callsIn_wide (n := 1)).1 (callsIn_of_wp hf hb trivial ?_)
  have hst : St { C, S, m0 := m, w0 := w, N := fn.ntmps, D := [], r := none } (entry 0 ins) Δ m w { tmps := args ++ Array.replicate (fn.ntmps - args.size) undef, defers := [] } := by
    refine ⟨hs, hg, by simp; omega, rfl, fun s T hT => ?_, hown, hap, hdj, fun r hr k hk => .inr (hmine r hr k hk), Ext.refl _ _ _⟩
    obtain ⟨_, v, h2, h3⟩ := entry_get ins args.toList 0 ht s T hT
    simp only [Nat.sub_zero, Array.getElem?_toList] at h2
    have hlt : s < args.size := (Array.getElem?_eq_some_iff.1 h2).1
    show T.p m ((args ++ Array.replicate (fn.ntmps - args.size) undef).getD s undef)
    rw [Array.getD_eq_getD_getElem?, Array.getElem?_append_left hlt, h2]
    exact h3
  refine wpIn_mono (h m w _ hst) ?_
  intro e a w' hq
  cases e with
  | normal =>
    obtain ⟨h1, m', v, h2, h3, h4, h5⟩ := hq
    exact ⟨h1, v, h2, v, m', rfl, h4, h3, h5⟩
  | ret =>
    obtain ⟨h1, m', v, h2, h3, h4, h5⟩ := hq
    exact ⟨h1, v, h2, v, m', rfl, h4, h3, h5⟩
  | exit i => exact hq.elim
  | goto l => exact hq.elim
  | panic c => exact hq.elim
  | outgrown => exact hq.elim
/-- A function that changes no block of its caller's. -/
theorem spec_of_JS {C : Ctx} {f : FuncId} {fn : Func} {b : Code} {ins : List Ty} {out : Ty} (hf : C.P.funcs[f]? = some fn) (hb : fn.body = some b) (hsz : ins.length ≤ fn.ntmps)
    (h : ∀ m w, JS { C, S := [], m0 := m, w0 := w, N := fn.ntmps, D := [], r := none } (retQ { C, S := [], m0 := m, w0 := w, N := fn.ntmps, D := [], r := none } fn (fun m _ v => out.p m v)) (entry 0 ins) [] [b]) : Spec C f ins out := by
  intro m w args hs hg ht
  have hlen : args.size = ins.length := by
    have : ∀ (Ts : List Ty) (vs : List Value), TyAll m Ts vs → vs.length = Ts.length := by
      intro Ts
      induction Ts with
      | nil => intro vs h; cases vs with
        | nil => rfl
        | cons _ _ => exact h.elim
      | cons T Ts ih => intro vs h; cases vs with
        | nil => exact h.elim
        | cons v vs => simp [ih vs h.2]
    simpa using this ins args.toList ht
  exact calls_of_JS hf hb (by omega) hs hg ht (fun r hr => by cases hr) (fun r hr => by cases hr) (fun i j r s hi => by simp at hi) (fun r hr => by cases hr) (h m w)

/-- The results are slots. -/
def ResTmps : List ResultVar → List Operand → Prop
  | [], [] => True
  | .tmp t :: rs, x :: xs => x = .tmp t ∧ ResTmps rs xs
  | _, _ => False
def rvSem (tmps : Array Value) : ResultVar → Sem Value
  | .tmp t => pure (tmps.getD t undef)
  | .cell b t => do loadVar t (← asAddr (tmps.getD b undef))
theorem results_eq (fn : Func) (tmps : Array Value) : results fn tmps = (do let vs ← fn.results.mapM (rvSem tmps); pure (if h : vs.size = 1 then vs[0] else .tuple vs) : Sem Value) := by
  have e : (fun (r : ResultVar) => (match r with | .tmp t => pure (tmps.getD t undef) | .cell b t => do loadVar t (← asAddr (tmps.getD b undef)) : Sem Value)) = rvSem tmps := by
    funext r; cases r <;> rfl
  rw [← e]; rfl
theorem run_rv1 {P : Program} {w : World} {fn : Func} {tmps : Array Value} {r : ResultVar} {v : Value} (hr : fn.results = #[r]) (h : (rvSem tmps r).run P w = .ok v w) : (results fn tmps).run P w = .ok v w := by
  rw [results_eq, hr]
  simp [h]
theorem run_rvs {P : Program} {w : World} {fn : Func} {tmps : Array Value} {vs : List Value} (hn : fn.results.size ≠ 1) (h : (fn.results.toList.mapM (rvSem tmps)).run P w = .ok vs w) (hl : vs.length = fn.results.size) : (results fn tmps).run P w = .ok (.tuple vs.toArray) w := by
  rw [results_eq, Array.mapM_eq_mapM_toList]
  simp only [Sem.run_bind, Sem.run_map, h, Result.andThen_ok, Sem.run_pure]
  rw [dif_neg (by simp [hl]; exact hn)]
theorem run_results {P : Program} {w : World} {a : Act} : ∀ (rs : List ResultVar) (xs : List Operand), ResTmps rs xs → (rs.mapM (rvSem a.tmps)).run P w = .ok (xs.map a.eval) w
  | [], [], _ => by simp
  | .tmp t :: rs, x :: xs, h => by
    obtain ⟨rfl, h2⟩ := h
    have ih := run_results (P := P) (w := w) (a := a) rs xs h2
    simp only [List.mapM_cons, Sem.run_bind, rvSem, Sem.run_pure, Result.andThen_ok, ih]
    simp [Act.eval]
  | [], _ :: _, h => h.elim
  | .cell _ _ :: _, _, h => h.elim
  | .tmp _ :: _, [], h => h.elim
theorem resTmps_len : ∀ (rs : List ResultVar) (xs : List Operand), ResTmps rs xs → xs.length = rs.length
  | [], [], _ => rfl
  | .tmp t :: rs, x :: xs, h => by simp [resTmps_len rs xs h.2]
  | [], _ :: _, h => h.elim
  | .cell _ _ :: _, _, h => h.elim
  | .tmp _ :: _, [], h => h.elim
theorem JE_ret1 {fn : Func} {t : Tmp} {T : Ty} {out : Ty} (hD : F.D = []) (hr : fn.results = #[.tmp t]) (hT : Env.get Γ t = some T) (hle : Ty.le T out) : JE F (retQ F fn (fun m _ v => out.p m v)) Γ Δ .ret := fun m w a hs =>
  ⟨hs.defers.trans hD, m, a.tmps.getD t undef, run_rv1 hr rfl, hs.sat, hs.ext, hle _ _ (hs.ty t T hT)⟩
theorem JE_retN {fn : Func} {xs : List Operand} {Ts : List Ty} (hD : F.D = []) (hr : ResTmps fn.results.toList xs) (hn : fn.results.size ≠ 1) (hT : OpdAll Γ xs Ts) : JE F (retQ F fn (fun m _ v => (Ty.tup Ts).p m v)) Γ Δ .ret := fun m w a hs =>
  ⟨hs.defers.trans hD, m, .tuple (xs.map a.eval).toArray, run_rvs hn (run_results _ xs hr) (by rw [List.length_map, resTmps_len _ _ hr]; simp), hs.sat, hs.ext, ⟨_, rfl, by simpa using hT.p (hs.typed xs) (fun x hx => hx)⟩⟩
end rules

end Go.Proofs.YtknflgfkhkdomaaGreatDoor.Mono

/-! MonoO -/
set_option linter.unusedVariables false
set_option linter.unusedSimpArgs false
namespace Go.Proofs.YtknflgfkhkdomaaGreatDoor.Mono
open Go Go.RowKit

/-! ### Steps -/
theorem St.put_only {F : Fr} {Γ : Env} {Δ Δ' : List Res} {m : GH} {w w' : World} {a : Act} {dst : Option Tmp} {T : Ty} {v : Value} (h : St F Γ Δ m w a) (hd : dstOk F.N dst = true) (hT : T.p m v)
    (hs : Sat w' m) (hown : ∀ r ∈ Δ', r.p m w') (hap : ∀ r ∈ Δ', ∀ k ∈ r.fp, m k = none) (hdj : ∀ (i j : Nat) (r s : Res), Δ'[i]? = some r → Δ'[j]? = some s → i ≠ j → ∀ k ∈ r.fp, k ∉ s.fp)
    (hmine : ∀ r ∈ Δ', ∀ k ∈ r.fp, F.w0.heap.size ≤ k ∨ k ∈ F.S) (hx : Ext F.S F.m0 F.w0 m w') : St F (Env.put Γ dst T) Δ' m w' (a.put dst v) := by
  refine ⟨hs, h.g, by cases dst <;> simp [Act.put, h.size], by cases dst <;> simp [Act.put, h.defers], fun s U hU => ?_, hown, hap, hdj, hmine, hx⟩
  cases dst with
  | none => exact h.ty s U hU
  | some d =>
    have hdlt : d < a.tmps.size := by rw [h.size]; simpa [dstOk] using hd
    rw [show Env.put Γ (some d) T = (d, T) :: Γ from rfl, Env.get_cons] at hU
    show U.p m ((a.tmps.setIfInBounds d v).getD s undef)
    by_cases e : d = s
    · subst e
      rw [if_pos rfl] at hU; cases hU
      rw [Array.getD_eq_getD_getElem?, Array.getElem?_setIfInBounds]; simp [hdlt]; exact hT
    · rw [if_neg e] at hU
      have := h.ty s U hU
      rw [Array.getD_eq_getD_getElem?] at this ⊢
      rw [Array.getElem?_setIfInBounds, if_neg e]; exact this
/-- A step that turns the blocks of one resource alone (and new ones), and leaves another resource in its place. -/
theorem St.own_step {F : Fr} {Γ : Env} {Δ : List Res} {m : GH} {w w' : World} {a : Act} {dst : Option Tmp} {T : Ty} {v : Value} {i : Nat} {r r' : Res} (h : St F Γ Δ m w a) (hi : Δ[i]? = some r) (hd : dstOk F.N dst = true) (hT : T.p m v)
    (hx : Ext r.fp m w m w') (hr : r'.p m w') (hfp : ∀ k ∈ r'.fp, k ∈ r.fp ∨ w.heap.size ≤ k) : St F (Env.put Γ dst T) (Δ.set i r') m w' (a.put dst v) := by
  have hmem : r ∈ Δ := List.mem_of_getElem? hi
  have hlt : i < Δ.length := (List.getElem?_eq_some_iff.1 hi).1
  have exl : ∀ r ∈ Δ, ∀ k ∈ r.fp, k < w.heap.size := fun r hr => r.ex (h.own r hr)
  -- what a member of the new list is
  have mem' : ∀ j s, (Δ.set i r')[j]? = some s → (j = i ∧ s = r') ∨ (j ≠ i ∧ Δ[j]? = some s) := fun j s hj => by
    rw [List.getElem?_set] at hj
    by_cases e : i = j
    · rw [if_pos e, if_pos hlt] at hj; exact .inl ⟨e.symm, by simpa using hj.symm⟩
    · rw [if_neg e] at hj; exact .inr ⟨fun e' => e e'.symm, hj⟩
  have old : ∀ s ∈ Δ.set i r', s = r' ∨ ∃ j, j ≠ i ∧ Δ[j]? = some s := fun s hs => by
    obtain ⟨j, hj⟩ := List.getElem?_of_mem hs
    rcases mem' j s hj with ⟨_, h2⟩ | ⟨h1, h2⟩
    · exact .inl h2
    · exact .inr ⟨j, h1, h2⟩
  have apartN : ∀ k, m k ≠ none → k ∉ r.fp := fun k hk hkr => hk (h.apart r hmem k hkr)
  refine h.put_only hd hT (fun k o hk => ?_) (fun s hs => ?_) (fun s hs k hk => ?_) (fun j j' s s' hj hj' hne k hk => ?_) (fun s hs k hk => ?_) (h.ext.trans hx (h.mine r hmem))
  · have hlt := h.sat.lt (k := k) (by rw [hk]; simp)
    rw [hx.same k hlt (apartN k (by rw [hk]; simp))]; exact h.sat k o hk
  · rcases old s hs with rfl | ⟨j, hj, hjs⟩
    · exact hr
    · have hms := List.mem_of_getElem? hjs
      refine s.up (GH.le.refl m) (fun k hk => hx.same k (exl s hms k hk) (h.disj j i s r hjs hi hj k hk)) (h.own s hms)
  · rcases old s hs with rfl | ⟨j, hj, hjs⟩
    · rcases hfp k hk with h1 | h1
      · exact h.apart r hmem k h1
      · cases e : m k with
        | none => rfl
        | some o => have := h.sat.lt (k := k) (by rw [e]; simp); omega
    · exact h.apart s (List.mem_of_getElem? hjs) k hk
  · rcases mem' j s hj with ⟨e1, e2⟩ | ⟨e1, e2⟩ <;> rcases mem' j' s' hj' with ⟨e3, e4⟩ | ⟨e3, e4⟩
    · omega
    · subst e2
      rcases hfp k hk with h1 | h1
      · exact h.disj i j' r s' hi e4 (Ne.symm e3) k h1
      · intro hk'; have := exl s' (List.mem_of_getElem? e4) k hk'; omega
    · subst e4
      intro hk'
      rcases hfp k hk' with h1 | h1
      · exact h.disj j i s r e2 hi e1 k hk h1
      · have := exl s (List.mem_of_getElem? e2) k hk; omega
    · exact h.disj j j' s s' e2 e4 hne k hk
  · rcases old s hs with rfl | ⟨j, hj, hjs⟩
    · rcases hfp k hk with h1 | h1
      · exact h.mine r hmem k h1
      · exact .inl (Nat.le_trans h.ext.size h1)
    · exact h.mine s (List.mem_of_getElem? hjs) k hk
/-- A new resource. -/
theorem St.new_step {F : Fr} {Γ : Env} {Δ : List Res} {m : GH} {w w' : World} {a : Act} {dst : Option Tmp} {T : Ty} {v : Value} {r' : Res} (h : St F Γ Δ m w a) (hd : dstOk F.N dst = true) (hT : T.p m v)
    (hx : Ext [] m w m w') (hr : r'.p m w') (hfp : ∀ k ∈ r'.fp, w.heap.size ≤ k) : St F (Env.put Γ dst T) (r' :: Δ) m w' (a.put dst v) := by
  have exl : ∀ r ∈ Δ, ∀ k ∈ r.fp, k < w.heap.size := fun r hr => r.ex (h.own r hr)
  refine h.put_only hd hT (h.sat.ext0 hx) (fun s hs => ?_) (fun s hs k hk => ?_) (fun j j' s s' hj hj' hne k hk => ?_) (fun s hs k hk => ?_) (h.ext.trans0 hx)
  · rcases List.mem_cons.1 hs with rfl | hs
    · exact hr
    · exact s.up (GH.le.refl m) (fun k hk => hx.same k (exl s hs k hk) (by simp)) (h.own s hs)
  · rcases List.mem_cons.1 hs with rfl | hs
    · cases e : m k with
      | none => rfl
      | some o => have := h.sat.lt (k := k) (by rw [e]; simp); have := hfp k hk; omega
    · exact h.apart s hs k hk
  · cases j with
    | zero =>
      simp only [List.getElem?_cons_zero, Option.some.injEq] at hj; subst hj
      cases j' with
      | zero => omega
      | succ j' =>
        simp only [List.getElem?_cons_succ] at hj'
        intro hk'; have := exl s' (List.mem_of_getElem? hj') k hk'; have := hfp k hk; omega
    | succ j =>
      simp only [List.getElem?_cons_succ] at hj
      cases j' with
      | zero =>
        simp only [List.getElem?_cons_zero, Option.some.injEq] at hj'; subst hj'
        intro hk'; have := exl s (List.mem_of_getElem? hj) k hk; have := hfp k hk'; omega
      | succ j' =>
        simp only [List.getElem?_cons_succ] at hj'
        exact h.disj j j' s s' hj hj' (by omega) k hk
  · rcases List.mem_cons.1 hs with rfl | hs
    · exact .inl (Nat.le_trans h.ext.size (hfp k hk))
    · exact h.mine s hs k hk

/-! ### Boxes -/
def Res.box (g : Nat) (t : TypeId) (S : Seg) : Res where
  fp := [g]
  p := fun m w => ∃ cs, w.heap[g]? = some (.cells cs.toArray t (0, 0)) ∧ S.p m cs
  up := fun hm hk ⟨cs, h1, h2⟩ => ⟨cs, by rw [hk g (by simp)]; exact h1, S.up hm h2⟩
  ex := fun ⟨cs, h1, _⟩ k hk => by rw [List.mem_singleton.1 hk]; exact (Array.getElem?_eq_some_iff.1 h1).1
abbrev ptr (g off : Nat) : Value := .pointer (some ⟨g, off, none⟩)

section rules
variable {F : Fr} {Q : Post} {Γ : Env} {Δ : List Res} {cs : List Code} {ops : Array Oper} {o : Oper} {l : List Oper}

/-- An operation of one's own, in general. -/
theorem JT_step {Y : Type} {T : Y → Ty} {Δ' : Y → List Res} (hw : Wanted Γ ops o true) (hdef : ∀ c, o.op ≠ .defer c)
    (hrun : ∀ m w a, St F Γ Δ m w a → ∃ y v w', ((execOp a.eval o).run F.C.P w = .ok (.value v) w' ∨ ((execOp a.eval o).run F.C.P w = .ok .skip w' ∧ v = undef)) ∧ ∃ m', St F (Env.put Γ o.dst (T y)) (Δ' y) m' w' (a.put o.dst v))
    (h : ∀ y, JT F Q cs ops (Env.put Γ o.dst (T y)) (Δ' y) l) : JT F Q cs ops Γ Δ (o :: l) := by
  intro m w a hs
  simp only [runOps]
  rw [if_pos (hs.wanted hw)]
  obtain ⟨y, v, w', hr, m', hst⟩ := hrun m w a hs
  refine ⟨fun f _ => FW_fn _ f, ?_⟩
  rw [Oper.semAt_plain _ _ _ hdef]
  rcases hr with hr | ⟨hr, rfl⟩
  · rw [hr]; exact h y m' w' _ hst
  · rw [hr]; exact h y m' w' _ hst

theorem JT_alloc {t : TypeId} {d : Tmp} {z : Value} {S0 : Seg} (ho : o.op = .alloc t) (hw : Wanted Γ ops o true) (hd : o.dst = some d) (hN : Nat.blt d F.N = true) (hz : ZeroOf F.C.P t z) (h0 : ∀ m, S0.p m z.cells.toList)
    (h : ∀ g, JT F Q cs ops ((d, Ty.val (ptr g 0)) :: Γ) (Res.box g t S0 :: Δ) l) : JT F Q cs ops Γ Δ (o :: l) := by
  refine JT_step (Y := Nat) (T := fun g => Ty.val (ptr g 0)) (Δ' := fun g => Res.box g t S0 :: Δ) hw (by simp [ho]) (fun m w a hs => ?_) (fun g => by rw [hd]; exact h g)
  refine ⟨w.heap.size, ptr w.heap.size 0, { w with heap := w.heap.push (.cells z.cells t) }, .inl ?_, m, ?_⟩
  · simp [execOp, ho, Instr.alloc, hz.run w, newVar, newRow, ptr]
  · refine hs.new_step (by rw [hd]; exact hN) rfl ⟨GH.le.refl m, fun k h h' => absurd h' h, by simp, fun k hk _ => heap_push_old w _ k hk, rfl, rfl, rfl⟩ ⟨z.cells.toList, by simp, h0 m⟩ (fun k hk => by rw [List.mem_singleton.1 hk]; exact Nat.le_refl _)
theorem JT_box {t : TypeId} {d : Tmp} {x : Operand} {S : Seg} (ho : o.op = .box t x) (hw : Wanted Γ ops o true) (hd : o.dst = some d) (hN : Nat.blt d F.N = true) (hx : OpdLe Γ x (Ty.seg S))
    (h : ∀ g, JT F Q cs ops ((d, Ty.val (ptr g 0)) :: Γ) (Res.box g t S :: Δ) l) : JT F Q cs ops Γ Δ (o :: l) := by
  refine JT_step (Y := Nat) (T := fun g => Ty.val (ptr g 0)) (Δ' := fun g => Res.box g t S :: Δ) hw (by simp [ho]) (fun m w a hs => ?_) (fun g => by rw [hd]; exact h g)
  obtain ⟨vs, h1, h2⟩ := hx.p (hs.typed [x]) (by simp)
  refine ⟨w.heap.size, ptr w.heap.size 0, { w with heap := w.heap.push (.cells vs.toArray t) }, .inl ?_, m, ?_⟩
  · simp [execOp, ho, Instr.box, h2, S.cells h1, newVar, newRow, ptr]
  · refine hs.new_step (by rw [hd]; exact hN) rfl ⟨GH.le.refl m, fun k h h' => absurd h' h, by simp, fun k hk _ => heap_push_old w _ k hk, rfl, rfl, rfl⟩ ⟨vs, by simp, h1⟩ (fun k hk => by rw [List.mem_singleton.1 hk]; exact Nat.le_refl _)

theorem T_fieldAddr_ptr {C : Ctx} {s i off : Nat} {x : Operand} {g k n : Nat} (ho : o.op = .fieldAddr s x i) (hf : FieldAt C.P s i off) (hx : Opd Γ x (Ty.val (ptr g k))) (hn : k + off = n) : TOp C Δ Γ o (Ty.val (ptr g n)) := by
  intro m w a hs _ _ _ ht
  have h1 : a.eval x = ptr g k := hx.p ht (by simp [ho, Op.operands])
  refine Gives.value (v := ptr g n) (by simp [ho]) ?_ hs rfl
  simp only [execOp, ho, Sem.run_bind, h1, ptr, run_fieldAt hf, add_none, Result.andThen_ok, Sem.run_pure, hn]

theorem T_load_own {C : Ctx} {t t' : TypeId} {x : Operand} {g off i : Nat} {S S' : Seg} (ho : o.op = .load t x) (hx : Opd Γ x (Ty.val (ptr g off))) (hi : Δ[i]? = some (Res.box g t' S)) (hsub : Sub S off S') (hti : TI C.P t S'.agg S'.sz) : TOp C Δ Γ o (Ty.seg S') := by
  intro m w a hs _ hown _ ht
  have h1 : a.eval x = ptr g off := hx.p ht (by simp [ho, Op.operands])
  obtain ⟨vs, h2, h3⟩ := hown _ (List.mem_of_getElem? hi)
  obtain ⟨c1, c2, c3, g1, g2, g3⟩ := hsub m vs h3
  have hl := S'.len g3
  refine Gives.value (v := mkV S'.agg c2) (by simp [ho]) ?_ hs ⟨c2, g3, rfl⟩
  simp only [execOp, ho, Sem.run_bind, Instr.loadAt, h1, ptr, Instr.sureAddr, Sem.run_pure, Result.andThen_ok]
  rw [run_loadVar_cells (by rw [hl]; exact hti) (fun h => by rw [hl]; exact S'.flat h) g off (fun j u hj => by
    rw [cell_of_row w g (off + j) _ t' (0, 0) h2, g1, ← g2]
    simp only [List.getElem?_toArray]
    rw [List.append_assoc, List.getElem?_append_right (by omega), List.getElem?_append_left (by have := (List.getElem?_eq_some_iff.1 hj).1; omega), show c1.length + j - c1.length = j by omega]
    exact hj)]
  rfl

theorem Ext.row {m : GH} {w : World} {g : Nat} {old cs' : Array Value} {t : TypeId} (hg : w.heap[g]? = some (.cells old t (0, 0))) : Ext [g] m w m (w.setRow g cs') :=
  ⟨GH.le.refl m, fun k h h' => absurd h' h, by simp, fun k hk hkg => setRow_other w g k _ (by simpa using hkg), rfl, rfl, rfl⟩

theorem run_storeVar_at {P : Program} {w : World} {g off : Nat} {t t' : TypeId} {agg : Bool} {c1 c2 c3 c' : List Value} {T : Seg} {m : GH} (hg : w.heap[g]? = some (.cells (c1 ++ c2 ++ c3).toArray t' (0, 0))) (h1 : c1.length = off) (h2 : c2.length = T.sz) (hT : T.p m c') (hti : (P.info? t).map (·.size) = some T.sz) :
    (storeVar t ⟨g, off, none⟩ (mkV T.agg c')).run P w = .ok () (w.setRow g (c1 ++ c' ++ c3).toArray) := by
  have hsz : (sizeOf t).run P w = .ok T.sz w := by
    cases hi : P.info? t with
    | none => rw [hi] at hti; simp at hti
    | some i =>
      rw [hi] at hti
      simp only [Option.map_some, Option.some.injEq] at hti
      simp [sizeOf, Go.typeInfo, hi, hti]
  have hl := T.len hT
  unfold storeVar
  simp only [Sem.run_bind, hsz, Result.andThen_ok, T.cells hT]
  rw [if_neg (by simp [hl])]
  have := run_storeCells_at P g off t' c' 0 (c1 ++ c2 ++ c3).toArray w hg (by simp [h1, h2, hl]) (T.one hT)
  simp only [Nat.add_zero, List.toList_toArray] at this
  rw [← h1] at this ⊢
  rw [splice_eq c1 c2 c3 c' (by rw [hl, h2])] at this
  simpa using this

theorem JT_store {t t' : TypeId} {x y : Operand} {g off i : Nat} {S S' T : Seg} (ho : o.op = .store t x y) (hw : Wanted Γ ops o true) (hd : o.dst = none) (hx : Opd Γ x (Ty.val (ptr g off))) (hi : Δ[i]? = some (Res.box g t' S)) (hy : OpdLe Γ y (Ty.seg T)) (hu : Upd S off T S') (hti : (F.C.P.info? t).map (·.size) = some T.sz)
    (h : JT F Q cs ops Γ (Δ.set i (Res.box g t' S')) l) : JT F Q cs ops Γ Δ (o :: l) := by
  refine JT_step (Y := Unit) (T := fun _ => Ty.any) (Δ' := fun _ => Δ.set i (Res.box g t' S')) hw (by simp [ho]) (fun m w a hs => ?_) (fun _ => by rw [hd]; exact h)
  have h1 : a.eval x = ptr g off := hx.p (hs.typed [x]) (by simp)
  obtain ⟨ts, k1, k2⟩ := hy.p (hs.typed [y]) (by simp)
  obtain ⟨vs, h2, h3⟩ := hs.own _ (List.mem_of_getElem? hi)
  obtain ⟨c1, c2, c3, g1, g2, g3, g4⟩ := hu m vs h3
  rw [g1] at h2
  refine ⟨(), undef, w.setRow g (c1 ++ ts ++ c3).toArray, .inr ⟨?_, rfl⟩, m, ?_⟩
  · simp only [execOp, ho, Instr.storeAt, h1, ptr, Instr.sureAddr, k2, Sem.run_bind, Sem.run_pure, Result.andThen_ok]
    rw [run_storeVar_at (agg := true) h2 g2 g3 k1 hti]
    rfl
  · rw [hd]
    exact hs.own_step (dst := none) (T := Ty.any) hi rfl trivial (Ext.row h2) ⟨c1 ++ ts ++ c3, setRow_heap w g _ _ _ _ h2, g4 ts k1⟩ (fun k hk => .inl hk)

/-! ### Results in cells -/
inductive ResAll (P : Program) (Γ : Env) (Δ : List Res) : List ResultVar → List Ty → Prop
  | nil : ResAll P Γ Δ [] []
  | tmp {t : Tmp} {T : Ty} {rs : List ResultVar} {Ts : List Ty} : Env.get Γ t = some T → ResAll P Γ Δ rs Ts → ResAll P Γ Δ (.tmp t :: rs) (T :: Ts)
  | cell {b : Tmp} {ty t : TypeId} {g i : Nat} {S : Seg} {rs : List ResultVar} {Ts : List Ty} : Env.get Γ b = some (Ty.val (ptr g 0)) → Δ[i]? = some (Res.box g t S) → TI P ty S.agg S.sz → ResAll P Γ Δ rs Ts → ResAll P Γ Δ (.cell b ty :: rs) (Ty.seg S :: Ts)
  | le {rs : List ResultVar} {r : ResultVar} {T T' : Ty} {Ts : List Ty} : ResAll P Γ Δ (r :: rs) (T :: Ts) → Ty.le T T' → ResAll P Γ Δ (r :: rs) (T' :: Ts)
theorem ResAll.run {rs : List ResultVar} {Ts : List Ty} (h : ResAll F.C.P Γ Δ rs Ts) {m : GH} {w : World} {a : Act} (hs : St F Γ Δ m w a) : ∃ vs, (rs.mapM (rvSem a.tmps)).run F.C.P w = .ok vs w ∧ TyAll m Ts vs ∧ vs.length = rs.length := by
  induction h with
  | nil => exact ⟨[], by simp, trivial, rfl⟩
  | @tmp t T rs Ts ht _ ih =>
    obtain ⟨vs, h1, h2, h3⟩ := ih
    refine ⟨a.tmps.getD t undef :: vs, ?_, ⟨hs.ty t T ht, h2⟩, by simp [h3]⟩
    simp only [List.mapM_cons, Sem.run_bind, rvSem, Sem.run_pure, Result.andThen_ok, h1]
  | @cell b ty t g i S rs Ts hb hi hti _ ih =>
    obtain ⟨vs, h1, h2, h3⟩ := ih
    obtain ⟨cs, k1, k2⟩ := hs.own _ (List.mem_of_getElem? hi)
    have hb' : a.tmps.getD b undef = ptr g 0 := hs.ty b _ hb
    have hl := S.len k2
    have hld : (loadVar ty ⟨g, 0, none⟩).run F.C.P w = .ok (mkV S.agg cs) w := run_loadVar_cells (by rw [hl]; exact hti) (fun h => by rw [hl]; exact S.flat h) g 0 (fun j u hj => by
      rw [Nat.zero_add, cell_of_row w g j _ t (0, 0) k1]; simpa using hj)
    refine ⟨mkV S.agg cs :: vs, ?_, ⟨⟨cs, k2, rfl⟩, h2⟩, by simp [h3]⟩
    simp only [List.mapM_cons, Sem.run_bind, rvSem, hb', ptr, asAddr, Sem.run_pure, Result.andThen_ok, hld, h1]
  | @le rs r T T' Ts _ hle ih =>
    obtain ⟨vs, h1, h2, h3⟩ := ih
    cases vs with
    | nil => exact h2.elim
    | cons v vs => exact ⟨v :: vs, h1, ⟨hle _ _ h2.1, h2.2⟩, h3⟩
theorem JE_ret_one {fn : Func} {r : ResultVar} {T out : Ty} (hD : F.D = []) (hr : fn.results = #[r]) (h : ResAll F.C.P Γ Δ [r] [T]) (hle : Ty.le T out) : JE F (retQ F fn (fun m _ v => out.p m v)) Γ Δ .ret := fun m w a hs => by
  obtain ⟨vs, h1, h2, h3⟩ := h.run hs
  match vs, h2 with
  | [v], h2 =>
    refine ⟨hs.defers.trans hD, m, v, run_rv1 hr ?_, hs.sat, hs.ext, hle _ _ h2.1⟩
    simp only [List.mapM_cons, List.mapM_nil, Sem.run_bind] at h1
    cases hq : (rvSem a.tmps r).run F.C.P w with
    | halt x w' => rw [hq] at h1; simp at h1
    | ok u w' => rw [hq] at h1; simp at h1; rw [h1.1, h1.2]
theorem JE_ret_many {fn : Func} {Ts : List Ty} (hD : F.D = []) (hn : fn.results.size ≠ 1) (h : ResAll F.C.P Γ Δ fn.results.toList Ts) : JE F (retQ F fn (fun m _ v => (Ty.tup Ts).p m v)) Γ Δ .ret := fun m w a hs => by
  obtain ⟨vs, h1, h2, h3⟩ := h.run hs
  exact ⟨hs.defers.trans hD, m, .tuple vs.toArray, run_rvs hn h1 (by simp [h3]), hs.sat, hs.ext, ⟨_, rfl, by simpa using h2⟩⟩

/-! ### Freezing -/
theorem St.drop {i : Nat} {m : GH} {w : World} {a : Act} (h : St F Γ Δ m w a) : St F Γ (Δ.eraseIdx i) m w a := by
  have mem : ∀ r ∈ Δ.eraseIdx i, r ∈ Δ := fun r hr => List.mem_of_mem_eraseIdx hr
  refine ⟨h.sat, h.g, h.size, h.defers, h.ty, fun r hr => h.own r (mem r hr), fun r hr => h.apart r (mem r hr), fun j j' s s' hj hj' hne k hk => ?_, fun r hr => h.mine r (mem r hr), h.ext⟩
  rw [List.getElem?_eraseIdx] at hj hj'
  split at hj <;> split at hj'
  · exact h.disj j j' s s' hj hj' hne k hk
  · exact h.disj j (j' + 1) s s' hj hj' (by omega) k hk
  · exact h.disj (j + 1) j' s s' hj hj' (by omega) k hk
  · exact h.disj (j + 1) (j' + 1) s s' hj hj' (by omega) k hk
theorem JS_drop (i : Nat) (h : JS F Q Γ (Δ.eraseIdx i) cs) : JS F Q Γ Δ cs := fun m w a hs => h m w a hs.drop
theorem St.freeze {i : Nat} {r : Res} {g : Nat} {ob : Obj} {m : GH} {w : World} {a : Act} (h : St F Γ Δ m w a) (hi : Δ[i]? = some r) (hg : g ∈ r.fp) (hob : w.heap[g]? = some ob) : St F Γ (Δ.eraseIdx i) (m.lay g ob) w a := by
  have hmem := List.mem_of_getElem? hi
  have hn : m g = none := h.apart r hmem g hg
  have hle := GH.lay_le (o := ob) hn
  have h' := h.drop (i := i)
  refine ⟨fun k o hk => ?_, F.C.up hle h.g, h.size, h.defers, fun s T hT => T.up hle (h.ty s T hT), fun s hs => s.up hle (fun _ _ => rfl) (h'.own s hs), fun s hs k hk => ?_, h'.disj, h'.mine, ?_⟩
  · unfold GH.lay at hk
    by_cases e : k = g
    · subst e; simp at hk; subst hk; exact hob
    · rw [if_neg e] at hk; exact h.sat k o hk
  · unfold GH.lay
    by_cases e : k = g
    · subst e
      -- k lies in r's and in s's footprint
      obtain ⟨j, hj⟩ := List.getElem?_of_mem hs
      rw [List.getElem?_eraseIdx] at hj
      split at hj
      · exact absurd hg (h.disj j i s r hj hi (by omega) k hk)
      · exact absurd hg (h.disj (j + 1) i s r hj hi (by omega) k hk)
    · rw [if_neg e]; exact h'.apart s hs k hk
  · refine ⟨h.ext.le.trans hle, fun k hk hk0 => ?_, h.ext.size, h.ext.same, h.ext.os, h.ext.tape, h.ext.out⟩
    unfold GH.lay at hk
    by_cases e : k = g
    · subst e; exact h.mine r hmem k hg
    · rw [if_neg e] at hk; exact h.ext.new k hk hk0
theorem St.retype {s : Nat} {T0 T : Ty} {m : GH} {w : World} {a : Act} (h : St F Γ Δ m w a) (hg : Env.get Γ s = some T0) (hp : T.p m (a.tmps.getD s undef)) : St F ((s, T) :: Γ) Δ m w a :=
  ⟨h.sat, h.g, h.size, h.defers, fun k U hU => by
    rw [Env.get_cons] at hU
    by_cases e : s = k
    · rw [if_pos e] at hU; cases hU; subst e; exact hp
    · rw [if_neg e] at hU; exact h.ty k U hU, h.own, h.apart, h.disj, h.mine, h.ext⟩
theorem JS_freeze_box {i s : Nat} {g : Nat} {t : TypeId} {S : Seg} (hi : Δ[i]? = some (Res.box g t S)) (hg : Env.get Γ s = some (Ty.val (ptr g 0))) (h : JS F Q ((s, Ty.place S) :: Γ) (Δ.eraseIdx i) cs) : JS F Q Γ Δ cs := fun m w a hs => by
  obtain ⟨vs, h1, h2⟩ := hs.own _ (List.mem_of_getElem? hi)
  have hf := hs.freeze hi (g := g) (by simp [Res.box]) h1
  have hv : a.tmps.getD s undef = ptr g 0 := hs.ty s _ hg
  refine h _ w a (hf.retype (T0 := Ty.val (ptr g 0)) hg ⟨g, 0, vs, hv, ⟨vs.toArray, t, (0, 0), [], [], GH.lay_same _ _ _, by simp, rfl⟩, S.up (GH.lay_le (hs.apart _ (List.mem_of_getElem? hi) g (by simp [Res.box]))) h2⟩)

/-! ### Slices of one's own -/
def Res.sl {α : Type} (v : Value) (e : TypeId) (d : Kd α) (xs : List α) : Res where
  fp := v.ownBlock.toList
  p := fun m w => ∃ cs, w.ownsRow 0 e d.sz v xs.length cs ∧ Reps m d xs cs
  up := fun {m m' w w'} hm hk ⟨cs, h1, h2⟩ => by
    refine ⟨cs, ?_, h2.up hm⟩
    obtain ⟨g1, g2⟩ := h1
    refine ⟨g1, ?_⟩
    rcases g2 with g2 | ⟨g, cap, cur, hv, hb, hh, r⟩
    · exact .inl g2
    · exact .inr ⟨g, cap, cur, hv, hb, (hk g (by rw [hv]; simp [Value.ownBlock])).trans hh, r⟩
  ex := fun ⟨cs, h1, _⟩ k hk => (h1.lt k (by simpa using hk)).2
theorem sl_form {α : Type} {v : Value} {e : TypeId} {d : Kd α} {xs : List α} {m : GH} {w : World} (h : (Res.sl v e d xs).p m w) : ∃ a cap, v = .slice a xs.length cap ∧ xs.length ≤ cap ∧ cap ≤ maxLen := by
  obtain ⟨cs, ⟨_, h1⟩, _⟩ := h
  rcases h1 with ⟨rfl, h0⟩ | ⟨g, cap, cur, rfl, _, _, h2, h3, _⟩
  · exact ⟨none, 0, by rw [h0], by omega, by unfold maxLen; omega⟩
  · exact ⟨_, cap, rfl, h2, h3⟩
/-- A slice of one's own, as it is known once for all. -/
theorem sl_slice {α : Type} {v : Value} {e : TypeId} {d : Kd α} {xs : List α} {m : GH} {w : World} (h : (Res.sl v e d xs).p m w) {ob : Obj} (hob : ∀ g, v.ownBlock = some g → m g = w.heap[g]?) : SliceAt m d xs v := by
  obtain ⟨a, cap, rfl, h2, h3⟩ := sl_form h
  obtain ⟨cs, ⟨hl, h1⟩, hr⟩ := h
  refine ⟨a, cap, rfl, h2, h3, ?_⟩
  rcases h1 with ⟨hv, h0⟩ | ⟨g, cap', cur, hv, _, hh, _, _, _, ht⟩
  · left; exact List.length_eq_zero_iff.1 h0
  · right
    injection hv with e1 e2 e3
    refine ⟨g, 0, cs, e1, ⟨cur, e, (0, 0), [], cur.toList.drop (xs.length * d.sz), ?_, ?_, rfl⟩, hr⟩
    · rw [hob g (by rw [e1]; rfl), hh]
    · rw [List.nil_append, ← ht, List.take_append_drop]
theorem JS_freeze_sl {α : Type} {i s : Nat} {v : Value} {e : TypeId} {d : Kd α} {xs : List α} (hi : Δ[i]? = some (Res.sl v e d xs)) (hg : Env.get Γ s = some (Ty.val v)) (h : JS F Q ((s, Ty.of (Kd.slice d) xs) :: Γ) (Δ.eraseIdx i) cs) : JS F Q Γ Δ cs := fun m w a hs => by
  have hp := hs.own _ (List.mem_of_getElem? hi)
  have hv : a.tmps.getD s undef = v := hs.ty s _ hg
  cases hob : v.ownBlock with
  | none =>
    refine h m w a ((hs.drop (i := i)).retype hg ⟨[v], ⟨v, rfl, sl_slice (ob := default) hp (fun g hgg => by rw [hob] at hgg; cases hgg)⟩, hv⟩)
  | some g =>
    have hfp : g ∈ (Res.sl v e d xs).fp := by simp [Res.sl, hob]
    have hlt := (Res.sl v e d xs).ex hp g hfp
    have hheap : w.heap[g]? = some w.heap[g] := Array.getElem?_eq_getElem hlt
    have hf := hs.freeze hi hfp hheap
    have hle := GH.lay_le (o := w.heap[g]) (hs.apart _ (List.mem_of_getElem? hi) g hfp)
    refine h _ w a (hf.retype hg ⟨[v], ⟨v, rfl, sl_slice (ob := default) ((Res.sl v e d xs).up hle (fun _ _ => rfl) hp) (fun g' hgg => ?_)⟩, hv⟩)
    rw [hob] at hgg; cases hgg
    rw [GH.lay_same, hheap]
theorem JS_own_nil {α : Type} (e : TypeId) (d : Kd α) (h : JS F Q Γ (Res.sl (.slice none 0 0) e d [] :: Δ) cs) : JS F Q Γ Δ cs := fun m w a hs => by
  refine h m w a ⟨hs.sat, hs.g, hs.size, hs.defers, hs.ty, fun r hr => ?_, fun r hr k hk => ?_, fun j j' s s' hj hj' hne k hk => ?_, fun r hr k hk => ?_, hs.ext⟩
  · rcases List.mem_cons.1 hr with rfl | hr
    · exact ⟨[], ⟨by simp, .inl ⟨rfl, rfl⟩⟩, rfl⟩
    · exact hs.own r hr
  · rcases List.mem_cons.1 hr with rfl | hr
    · cases hk
    · exact hs.apart r hr k hk
  · cases j with
    | zero => simp only [List.getElem?_cons_zero, Option.some.injEq] at hj; subst hj; cases hk
    | succ j =>
      cases j' with
      | zero => simp only [List.getElem?_cons_zero, Option.some.injEq] at hj'; subst hj'; intro h; cases h
      | succ j' => exact hs.disj j j' s s' (by simpa using hj) (by simpa using hj') (by omega) k hk
  · rcases List.mem_cons.1 hr with rfl | hr
    · cases hk
    · exact hs.mine r hr k hk
theorem nil_le {α : Type} (d : Kd α) : Ty.le (Ty.val (.slice none 0 0)) (Ty.of (Kd.slice d) []) := fun m v hv => ⟨[v], ⟨v, rfl, none, 0, hv, Nat.le_refl _, by unfold maxLen; omega, .inl rfl⟩, rfl⟩

theorem T_len_own {C : Ctx} {t e e' : TypeId} {ts : Array TypeId} {x : Operand} {α : Type} {d : Kd α} {xs : List α} {v : Value} {i : Nat} (ho : o.op = .call { callee := .builtin .len, args := #[x], argTypes := ts }) (ht : ts[0]? = some t) (hu : C.P.underlying t = some (.slice e))
    (hx : Opd Γ x (Ty.val v)) (hi : Δ[i]? = some (Res.sl v e' d xs)) : TOp C Δ Γ o (Ty.val (.int .i64 xs.length)) := by
  intro m w a hs _ hown _ htt
  have h1 : a.eval x = v := hx.p htt (by simp [ho, Op.operands, Call.operands])
  obtain ⟨ad, cap, rfl, _, _⟩ := sl_form (hown _ (List.mem_of_getElem? hi))
  exact Gives.value (by simp [ho]) (by simp [execOp, ho, resolve, invoke, builtin, Builtin.len_, h1, ht, Go.underlying, hu, goInt]) hs rfl

/-- The address of an element of a slice of one's own. -/
def eltPtr (v : Value) (sz i : Nat) : Value :=
  match v with
  | .slice (some a) _ _ => .pointer (some (a.add (i * sz)))
  | _ => undef
theorem T_indexAddr_own {C : Ctx} {t e e' : TypeId} {x i : Operand} {k : IntKind} {n : Int} {α : Type} {d : Kd α} {xs : List α} {v : Value} {ix : Nat} (ho : o.op = .indexAddr t x i) (hu : C.P.underlying t = some (.slice e)) (hti : TI C.P e d.agg d.sz)
    (hx : Opd Γ x (Ty.val v)) (hix : Δ[ix]? = some (Res.sl v e' d xs)) (hi : Opd Γ i (Ty.val (.int k n))) (h0 : 0 ≤ n) (hlt : n.toNat < xs.length) : TOp C Δ Γ o (Ty.val (eltPtr v d.sz n.toNat)) := by
  intro m w a hs _ hown _ htt
  have h1 : a.eval x = v := hx.p htt (by simp [ho, Op.operands])
  have hi' : a.eval i = .int k n := hi.p htt (by simp [ho, Op.operands])
  obtain ⟨cs, ⟨_, h2⟩, _⟩ := hown _ (List.mem_of_getElem? hix)
  rcases h2 with ⟨_, h2⟩ | ⟨g, cap, cur, rfl, _⟩
  · omega
  · refine Gives.value (v := eltPtr (.slice (some ⟨g, 0, none⟩) xs.length cap) d.sz n.toNat) (by simp [ho]) ?_ hs rfl
    have hlt' : n < (xs.length : Int) := by omega
    simp [execOp, ho, Instr.indexAt, hi', h1, asIntOf, Go.underlying, hu, h0, hlt', hti.size w, eltPtr]
theorem sl_elt {α : Type} {v : Value} {e : TypeId} {d : Kd α} {xs : List α} {m : GH} {w : World} (h : (Res.sl v e d xs).p m w) {n : Nat} (hlt : n < xs.length) :
    ∃ g cap cur c1 c2 c3 rest, v = .slice (some ⟨g, 0, none⟩) xs.length cap ∧ w.heap[g]? = some (.cells cur e (0, 0)) ∧ xs.length ≤ cap ∧ cap ≤ maxLen ∧ cur.size = cap * d.sz ∧ cur.toList = c1 ++ c2 ++ c3 ++ rest ∧ c1.length = n * d.sz ∧ (c1 ++ c2 ++ c3).length = xs.length * d.sz ∧ d.K m xs[n] c2 ∧ ∀ y c', d.K m y c' → Reps m d (xs.set n y) (c1 ++ c' ++ c3) := by
  obtain ⟨cs, ⟨hl, h1⟩, hr⟩ := h
  rcases h1 with ⟨_, h1⟩ | ⟨g, cap, cur, rfl, _, hh, h2, h3, h4, h5⟩
  · omega
  · obtain ⟨c1, c2, c3, k1, k2, k3, k4⟩ := hr.set n hlt
    refine ⟨g, cap, cur, c1, c2, c3, cur.toList.drop (xs.length * d.sz), rfl, hh, h2, h3, h4, ?_, k2, by rw [← k1, hl], k3, k4⟩
    rw [← k1, ← h5, List.take_append_drop]
theorem T_load_elt {C : Ctx} {t e : TypeId} {x : Operand} {α : Type} {d : Kd α} {xs : List α} {v : Value} {n i : Nat} (ho : o.op = .load t x) (hx : Opd Γ x (Ty.val (eltPtr v d.sz n))) (hi : Δ[i]? = some (Res.sl v e d xs)) (hlt : n < xs.length) (hti : TI C.P t d.agg d.sz) : TOp C Δ Γ o (Ty.of d xs[n]) := by
  intro m w a hs _ hown _ ht
  have h1 : a.eval x = eltPtr v d.sz n := hx.p ht (by simp [ho, Op.operands])
  obtain ⟨g, cap, cur, c1, c2, c3, rest, rfl, hh, _, _, _, k1, k2, _, k3, _⟩ := sl_elt (hown _ (List.mem_of_getElem? hi)) hlt
  have hl := d.len k3
  refine Gives.value (v := mkV d.agg c2) (by simp [ho]) ?_ hs ⟨c2, k3, rfl⟩
  simp only [execOp, ho, Sem.run_bind, Instr.loadAt, h1, eltPtr, Instr.sureAddr, Sem.run_pure, Result.andThen_ok, add_none, Nat.zero_add]
  rw [run_loadVar_cells (by rw [hl]; exact hti) (fun h => by rw [hl]; exact d.flat h) g (n * d.sz) (fun j u hj => by
    rw [cell_of_row w g _ _ e (0, 0) hh, ← Array.getElem?_toList, k1, ← k2, List.append_assoc, List.append_assoc, List.getElem?_append_right (by omega), List.getElem?_append_left (by have := (List.getElem?_eq_some_iff.1 hj).1; omega), show c1.length + j - c1.length = j by omega]
    exact hj)]
  rfl
theorem JT_store_elt {t e : TypeId} {x y : Operand} {α : Type} {d : Kd α} {xs : List α} {v : Value} {n i : Nat} {z : α} (ho : o.op = .store t x y) (hw : Wanted Γ ops o true) (hd : o.dst = none) (hx : Opd Γ x (Ty.val (eltPtr v d.sz n))) (hi : Δ[i]? = some (Res.sl v e d xs)) (hlt : n < xs.length) (hy : OpdLe Γ y (Ty.of d z)) (hti : (F.C.P.info? t).map (·.size) = some d.sz)
    (h : JT F Q cs ops Γ (Δ.set i (Res.sl v e d (xs.set n z))) l) : JT F Q cs ops Γ Δ (o :: l) := by
  refine JT_step (Y := Unit) (T := fun _ => Ty.any) (Δ' := fun _ => Δ.set i (Res.sl v e d (xs.set n z))) hw (by simp [ho]) (fun m w a hs => ?_) (fun _ => by rw [hd]; exact h)
  have h1 : a.eval x = eltPtr v d.sz n := hx.p (hs.typed [x]) (by simp)
  obtain ⟨ts, j1, j2⟩ := hy.p (hs.typed [y]) (by simp)
  obtain ⟨g, cap, cur, c1, c2, c3, rest, rfl, hh, q1, q2, q3, k1, k2, k6, k3, k4⟩ := sl_elt (hs.own _ (List.mem_of_getElem? hi)) hlt
  have hcur : cur = (c1 ++ c2 ++ (c3 ++ rest)).toArray := by rw [← Array.toArray_toList (xs := cur), k1]; simp
  rw [hcur] at hh
  have hl1 := d.len k3
  have hl2 := d.len (show d.K m z ts from j1)
  refine ⟨(), undef, w.setRow g (c1 ++ ts ++ (c3 ++ rest)).toArray, .inr ⟨?_, rfl⟩, m, ?_⟩
  · simp only [execOp, ho, Instr.storeAt, h1, eltPtr, Instr.sureAddr, j2, Sem.run_bind, Sem.run_pure, Result.andThen_ok, add_none, Nat.zero_add]
    rw [run_storeVar_at (agg := true) (T := Seg.of d z) hh k2 hl1 j1 hti]
    rfl
  · rw [hd]
    refine hs.own_step (dst := none) (T := Ty.any) hi rfl trivial ?_ ⟨c1 ++ ts ++ c3, ⟨?_, .inr ⟨g, cap, _, by simp, Nat.zero_le _, setRow_heap w g _ _ _ _ hh, by simpa using q1, q2, ?_, ?_⟩⟩, k4 z ts j1⟩ (fun k hk => .inl hk)
    · have := Ext.row (m := m) (cs' := (c1 ++ ts ++ (c3 ++ rest)).toArray) hh
      simpa [Res.sl, Value.ownBlock] using this
    · simp only [List.length_append, List.length_set] at k6 ⊢; omega
    · have e : cur.size = (c1 ++ c2 ++ (c3 ++ rest)).length := by rw [hcur]; simp
      simp only [List.size_toArray, List.length_append] at e ⊢
      omega
    · simp only [List.toList_toArray, List.length_set]
      rw [← List.append_assoc, List.take_append_of_le_length (by simp only [List.length_append] at k6 ⊢; omega), List.take_of_length_le (by simp only [List.length_append] at k6 ⊢; omega)]
end rules

end Go.Proofs.YtknflgfkhkdomaaGreatDoor.Mono

/-! MonoM -/
set_option linter.unusedVariables false
set_option linter.unusedSimpArgs false
namespace Go.Proofs.YtknflgfkhkdomaaGreatDoor.Mono
open Go Go.RowKit

/-- What is closed of an element's type. -/
def EI (P : Program) (e : TypeId) (size bytes : Nat) (z : Value) : Prop := (P.info? e).map (fun i => (i.size, i.bytes, i.zero)) = some (size, bytes, some z)
theorem EI.spec {P : Program} {e : TypeId} {size bytes : Nat} {z : Value} (h : EI P e size bytes z) : ∃ i, P.info? e = some i ∧ i.size = size ∧ i.bytes = bytes ∧ i.zero = some z := by
  unfold EI at h
  cases hi : P.info? e with
  | none => rw [hi] at h; simp at h
  | some i =>
    rw [hi] at h
    simp only [Option.map_some, Option.some.injEq, Prod.mk.injEq] at h
    exact ⟨i, rfl, h.1, h.2.1, h.2.2⟩

theorem made_flatten (zs : List Value) (hz : zs ≠ []) : ∀ c, (List.range (c * zs.length)).map (fun i => zs.toArray[i % zs.toArray.size]!) = (List.replicate c zs).flatten := by
  intro c
  induction c with
  | zero => simp
  | succ c ih =>
    rw [List.replicate_succ', List.flatten_append, ← ih, Nat.succ_mul, List.range_add, List.map_append, List.map_map]
    congr 1
    simp only [List.flatten_cons, List.flatten_nil, List.append_nil]
    apply List.ext_getElem
    · simp
    · intro i h1 h2
      have h2' : i < zs.length := by simpa using h2
      simp only [List.getElem_map, List.getElem_range, Function.comp, List.size_toArray]
      rw [Nat.mul_comm c, Nat.mul_add_mod, Nat.mod_eq_of_lt h2']
      simp [h2']
theorem Reps.replicate {α : Type} {m : GH} {d : Kd α} {x : α} {zs : List Value} (h : d.K m x zs) : ∀ c, Reps m d (List.replicate c x) (List.replicate c zs).flatten
  | 0 => rfl
  | c + 1 => ⟨zs, _, by simp [List.replicate_succ], h, Reps.replicate h c⟩

section rules
variable {F : Fr} {Q : Post} {Γ : Env} {Δ : List Res} {cs : List Code} {ops : Array Oper} {o : Oper} {l : List Oper}

theorem JT_make {t e : TypeId} {d : Tmp} {x y : Operand} {k k' : IntKind} {n c : Int} {size bytes : Nat} {z : Value} {α : Type} {K : Kd α} {z0 : α} (ho : o.op = .makeSlice t x y) (hw : Wanted Γ ops o true) (hd : o.dst = some d) (hN : Nat.blt d F.N = true)
    (hu : F.C.P.underlying t = some (.slice e)) (hei : EI F.C.P e size bytes z) (hsz : K.sz = size) (hpos : z.cells.toList ≠ []) (hz : ∀ m, K.K m z0 z.cells.toList) (hx : Opd Γ x (Ty.val (.int k n))) (hy : Opd Γ y (Ty.val (.int k' c)))
    (h0 : 0 ≤ n) (hle : n ≤ c) (hb : (bytes : Int) * c ≤ 281474976710656) (hc : c ≤ 9223372036854775807)
    (h : ∀ v, JT F Q cs ops ((d, Ty.val v) :: Γ) (Res.sl v e K (List.replicate n.toNat z0) :: Δ) l) : JT F Q cs ops Γ Δ (o :: l) := by
  refine JT_step (Y := Value) (T := fun v => Ty.val v) (Δ' := fun v => Res.sl v e K (List.replicate n.toNat z0) :: Δ) hw (by simp [ho]) (fun m w a hs => ?_) (fun v => by rw [hd]; exact h v)
  obtain ⟨i, hi, hi1, hi2, hi3⟩ := hei.spec
  have h1 : a.eval x = .int k n := hx.p (hs.typed [x]) (by simp)
  have h2 : a.eval y = .int k' c := hy.p (hs.typed [y]) (by simp)
  have hr := run_make (P := F.C.P) w t e i z hu hi hi3 k k' n c h0 hle (by rw [hi2]; exact hb) hc
  have hzl : z.cells.toList.length = size := by rw [← hsz]; exact K.len (hz m)
  have hcap : n.toNat ≤ c.toNat := by omega
  have hmade : (madeCells z.cells (c.toNat * i.size)).toList = (List.replicate c.toNat z.cells.toList).flatten := by
    have := made_flatten z.cells.toList hpos c.toNat
    rw [← this, hzl, hi1]
    simp [madeCells]
  refine ⟨.slice (some ⟨w.heap.size, 0, none⟩) n.toNat c.toNat, .slice (some ⟨w.heap.size, 0, none⟩) n.toNat c.toNat, w.alloc (.cells (madeCells z.cells (c.toNat * i.size)) e), .inl ?_, m, hs.new_step (by rw [hd]; exact hN) rfl ?_ ⟨(List.replicate n.toNat z.cells.toList).flatten, ⟨?_, .inr ⟨w.heap.size, c.toNat, _, by simp, Nat.zero_le _, heap_alloc_new w _, by simpa using hcap, ?_, ?_, ?_⟩⟩, Reps.replicate (hz m) _⟩ (fun k hk => ?_)⟩
  · simp only [execOp, ho, h1, h2, Sem.run_bind, hr, Result.andThen_ok, Sem.run_pure]
  · exact Ext.of_below ((Below.refl _ _).alloc (Nat.le_refl _) _)
  · rw [(Reps.replicate (hz m) n.toNat).len]
  · unfold maxLen; omega
  · rw [← Array.length_toList, hmade, (Reps.replicate (hz m) c.toNat).len]; simp
  · rw [hmade, List.length_replicate]
    have e : List.replicate c.toNat z.cells.toList = List.replicate n.toNat z.cells.toList ++ List.replicate (c.toNat - n.toNat) z.cells.toList := by
      rw [List.replicate_append_replicate]; congr 1; omega
    rw [e, List.flatten_append]
    have hl := (Reps.replicate (hz m) n.toNat).len
    rw [List.length_replicate] at hl
    rw [← hl, List.take_left]
  · simp [Res.sl, Value.ownBlock] at hk; omega

theorem ext_grown {m : GH} {w w' : World} {row : Option Nat} (h : w.grownBy w' row) : Ext row.toList m w m w' :=
  ⟨GH.le.refl m, fun k h h' => absurd h' h, h.size, fun k hk hkr => h.block k hk (by intro e; subst e; simp at hkr), h.os, h.tape, h.output⟩

theorem JT_append {t e : TypeId} {d : Tmp} {s x : Operand} {size bytes i : Nat} {z : Value} {α : Type} {K : Kd α} {xs ys : List α} {v : Value} (ho : o.op = .call { callee := .builtin .append, args := #[s, x], argTypes := #[t, t] }) (hw : Wanted Γ ops o true) (hd : o.dst = some d) (hN : Nat.blt d F.N = true)
    (hu : F.C.P.underlying t = some (.slice e)) (hei : EI F.C.P e size bytes z) (hsz : K.sz = size) (hzs : z.cells.size = size) (hpos : 0 < size) (hs0 : Opd Γ s (Ty.val v)) (hi : Δ[i]? = some (Res.sl v e K xs)) (hx : OpdLe Γ x (Ty.of (Kd.slice K) ys))
    (hlen : xs.length + ys.length ≤ maxLen) (hbytes : (xs.length + ys.length) * bytes ≤ 140737488355328)
    (h : ∀ v', JT F Q cs ops ((d, Ty.val v') :: Γ) (Δ.set i (Res.sl v' e K (xs ++ ys))) l) : JT F Q cs ops Γ Δ (o :: l) := by
  refine JT_step (Y := Value) (T := fun v => Ty.val v) (Δ' := fun v' => Δ.set i (Res.sl v' e K (xs ++ ys))) hw (by simp [ho]) (fun m w a hs => ?_) (fun v => by rw [hd]; exact h v)
  obtain ⟨ti, hti, hi1, hi2, hi3⟩ := hei.spec
  have h1 : a.eval s = v := hs0.p (hs.typed [s]) (by simp)
  obtain ⟨vs, ⟨u, g1, base, cap, g2, g3, g4, g5⟩, g6⟩ := hx.p (hs.typed [x]) (by simp)
  have h2 : a.eval x = .slice base ys.length cap := by rw [g6, g1, g2]; rfl
  obtain ⟨cells, hown, hreps⟩ := hs.own _ (List.mem_of_getElem? hi)
  have hexec : ∀ (q : Value) (w' : World), (Builtin.append_ #[t, t] o.type #[v, .slice base ys.length cap]).run F.C.P w = .ok q w' → (execOp a.eval o).run F.C.P w = .ok (.value q) w' := fun q w' hq => by
    simp only [execOp, ho, Sem.run_bind, resolve, Sem.run_pure, Result.andThen_ok, invoke, builtin, h1, h2]
    simp [h1, h2, hq]
  rcases g5 with g5 | ⟨b, off, ds, k1, k2, k3⟩
  · -- nothing is appended
    subst g5
    obtain ⟨ad, cap', rfl, hle, hmax⟩ := sl_form ⟨cells, hown, hreps⟩
    refine ⟨.slice ad xs.length cap', .slice ad xs.length cap', w, .inl (hexec (.slice ad xs.length cap') w ?_), m, ?_⟩
    · cases base with
      | none => cases ad <;> simp [Builtin.append_, run_underlying hu, sizeOf, Go.typeInfo, hti, Builtin.lenOf, Builtin.firstCells, hle, storeCells]
      | some b => cases ad <;> simp [Builtin.append_, run_underlying hu, sizeOf, Go.typeInfo, hti, Builtin.lenOf, Builtin.firstCells, hle, storeCells, loadCells, loadCellsFrom]
    · have := hs.own_step (dst := o.dst) (T := Ty.val (.slice ad xs.length cap')) hi (by rw [hd]; exact hN) rfl (Ext.refl _ _ _) (r' := Res.sl (.slice ad xs.length cap') e K (xs ++ [])) ⟨cells, by simpa using hown, by simpa using hreps⟩ (fun k hk => .inl hk)
      exact this
  · subst k1
    have hnews : ∀ j u, ds[j]? = some u → w.cell? ((⟨b, off, none⟩ : Addr).add j) = some u := fun j u hj => by rw [add_none]; exact k2.cell hs.sat j u hj
    obtain ⟨v', w', hr, hown', hg', _, hat⟩ := run_append_own_at (P := F.C.P) w 0 t o.type e ti z size bytes hu hti hi3 hi1 hi2 hzs hpos v xs.length cells (by rw [← hsz]; exact hown) ⟨b, off, none⟩ ys.length cap ds (by rw [k3.len, hsz]) hnews k3.one hlen hbytes (Nat.zero_le _)
    refine ⟨v', v', w', .inl (hexec v' w' hr), m, ?_⟩
    refine hs.own_step hi (by rw [hd]; exact hN) rfl (ext_grown hg') ⟨cells ++ ds, by rw [hsz, List.length_append]; exact hown', hreps.append k3⟩ (fun k hk => ?_)
    -- the block: the elder one, or a new one
    have hk' : v'.ownBlock = some k := by simpa [Res.sl] using hk
    rcases hat with hat | hat
    · left; rw [hat] at hk'; simp [Res.sl, hk']
    · right; rw [hat] at hk'; simp at hk'; omega

/-! ### Calls that change blocks of the caller's -/
structure OwnOk (Δ : List Res) (m : GH) (w : World) : Prop where
  own : ∀ r ∈ Δ, r.p m w
  apart : ∀ r ∈ Δ, ∀ k ∈ r.fp, m k = none
  disj : ∀ (i j : Nat) (r s : Res), Δ[i]? = some r → Δ[j]? = some s → i ≠ j → ∀ k ∈ r.fp, k ∉ s.fp
def fps (Δ : List Res) : List Nat := Δ.flatMap Res.fp
theorem mem_fps {Δ : List Res} {k : Nat} : k ∈ fps Δ ↔ ∃ r ∈ Δ, k ∈ r.fp := by unfold fps; rw [List.mem_flatMap]
/-- The contract of a function that is handed blocks and hands blocks back. -/
def SpecM (C : Ctx) (f : FuncId) (ins : List Ty) (Δin : List Res) {Y : Type} (out : Y → Ty) (Δout : Y → List Res) : Prop :=
  ∀ (m : GH) (w : World) (args : Array Value), Sat w m → C.G m → TyAll m ins args.toList → OwnOk Δin m w →
    Calls C.P f args w fun e w' => ∃ v m', e = .returned v ∧ Ext (fps Δin) m w m' w' ∧ Sat w' m' ∧ ∃ y, (out y).p m' v ∧ OwnOk (Δout y) m' w' ∧ ∀ k ∈ fps (Δout y), w.heap.size ≤ k ∨ k ∈ fps Δin
theorem append_get {α : Type} {A B : List α} {i : Nat} {r : α} (h : (A ++ B)[i]? = some r) : (i < A.length ∧ A[i]? = some r) ∨ (A.length ≤ i ∧ B[i - A.length]? = some r) := by
  rcases Nat.lt_or_ge i A.length with hlt | hge
  · rw [List.getElem?_append_left hlt] at h; exact .inl ⟨hlt, h⟩
  · rw [List.getElem?_append_right hge] at h; exact .inr ⟨hge, h⟩
theorem St.call_step {Δin Δout Δr : List Res} {m m' : GH} {w w' : World} {a : Act} {dst : Option Tmp} {T : Ty} {v : Value} (h : St F Γ (Δin ++ Δr) m w a) (hd : dstOk F.N dst = true) (hT : T.p m' v)
    (hx : Ext (fps Δin) m w m' w') (hs : Sat w' m') (ho : OwnOk Δout m' w') (hfp : ∀ k ∈ fps Δout, w.heap.size ≤ k ∨ k ∈ fps Δin) : St F (Env.put Γ dst T) (Δout ++ Δr) m' w' (a.put dst v) := by
  have exl : ∀ r ∈ Δin ++ Δr, ∀ k ∈ r.fp, k < w.heap.size := fun r hr => r.ex (h.own r hr)
  have din : ∀ k ∈ fps Δin, ∀ r ∈ Δr, k ∉ r.fp := fun k hk r hr hkr => by
    obtain ⟨s, hs, hks⟩ := mem_fps.1 hk
    obtain ⟨i, hi⟩ := List.getElem?_of_mem hs
    obtain ⟨j, hj⟩ := List.getElem?_of_mem hr
    have hilt := (List.getElem?_eq_some_iff.1 hi).1
    exact h.disj i (Δin.length + j) s r (by rw [List.getElem?_append_left hilt]; exact hi) (by rw [List.getElem?_append_right (by omega)]; rw [show Δin.length + j - Δin.length = j by omega]; exact hj) (by omega) k hks hkr
  have dout : ∀ k ∈ fps Δout, ∀ r ∈ Δr, k ∉ r.fp := fun k hk r hr hkr => by
    rcases hfp k hk with h1 | h1
    · have := exl r (List.mem_append.2 (.inr hr)) k hkr; omega
    · exact din k h1 r hr hkr
  have ext' : Ext F.S F.m0 F.w0 m' w' := h.ext.trans hx (fun k hk => by
    obtain ⟨r, hr, hkr⟩ := mem_fps.1 hk
    exact h.mine r (List.mem_append.2 (.inl hr)) k hkr)
  refine ⟨hs, F.C.up hx.le h.g, by cases dst <;> simp [Act.put, h.size], by cases dst <;> simp [Act.put, h.defers], fun s U hU => ?_, fun r hr => ?_, fun r hr k hk => ?_, fun i j r s hi hj hne k hk => ?_, fun r hr k hk => ?_, ext'⟩
  · cases dst with
    | none => exact U.up hx.le (h.ty s U hU)
    | some d =>
      have hdlt : d < a.tmps.size := by rw [h.size]; simpa [dstOk] using hd
      rw [show Env.put Γ (some d) T = (d, T) :: Γ from rfl, Env.get_cons] at hU
      show U.p m' ((a.tmps.setIfInBounds d v).getD s undef)
      by_cases e : d = s
      · subst e
        rw [if_pos rfl] at hU; cases hU
        rw [Array.getD_eq_getD_getElem?, Array.getElem?_setIfInBounds]; simp [hdlt]; exact hT
      · rw [if_neg e] at hU
        have := U.up hx.le (h.ty s U hU)
        rw [Array.getD_eq_getD_getElem?] at this ⊢
        rw [Array.getElem?_setIfInBounds, if_neg e]; exact this
  · rcases List.mem_append.1 hr with hr | hr
    · exact ho.own r hr
    · exact r.up hx.le (fun k hk => hx.same k (exl r (List.mem_append.2 (.inr hr)) k hk) (fun hk' => din k hk' r hr hk)) (h.own r (List.mem_append.2 (.inr hr)))
  · rcases List.mem_append.1 hr with hr | hr
    · exact ho.apart r hr k hk
    · cases e : m' k with
      | none => rfl
      | some ob =>
        rcases hx.new k (by rw [e]; simp) (h.apart r (List.mem_append.2 (.inr hr)) k hk) with h1 | h1
        · have := exl r (List.mem_append.2 (.inr hr)) k hk; omega
        · exact absurd hk (din k h1 r hr)
  · rcases append_get hi with ⟨e1, e2⟩ | ⟨e1, e2⟩ <;> rcases append_get hj with ⟨e3, e4⟩ | ⟨e3, e4⟩
    · exact ho.disj i j r s e2 e4 hne k hk
    · exact dout k (mem_fps.2 ⟨r, List.mem_of_getElem? e2, hk⟩) s (List.mem_of_getElem? e4)
    · intro hk'; exact dout k (mem_fps.2 ⟨s, List.mem_of_getElem? e4, hk'⟩) r (List.mem_of_getElem? e2) hk
    · refine h.disj (Δin.length + (i - Δout.length)) (Δin.length + (j - Δout.length)) r s ?_ ?_ (by omega) k hk
      · rw [List.getElem?_append_right (by omega), show Δin.length + (i - Δout.length) - Δin.length = i - Δout.length by omega]; exact e2
      · rw [List.getElem?_append_right (by omega), show Δin.length + (j - Δout.length) - Δin.length = j - Δout.length by omega]; exact e4
  · rcases List.mem_append.1 hr with hr | hr
    · rcases hfp k (mem_fps.2 ⟨r, hr, hk⟩) with h1 | h1
      · exact .inl (Nat.le_trans h.ext.size h1)
      · obtain ⟨s, hs', hks⟩ := mem_fps.1 h1
        exact h.mine s (List.mem_append.2 (.inl hs')) k hks
    · exact h.mine r (List.mem_append.2 (.inr hr)) k hk
theorem St.ownIn {Δin Δr : List Res} {m : GH} {w : World} {a : Act} (h : St F Γ (Δin ++ Δr) m w a) : OwnOk Δin m w :=
  ⟨fun r hr => h.own r (List.mem_append.2 (.inl hr)), fun r hr => h.apart r (List.mem_append.2 (.inl hr)), fun i j r s hi hj => h.disj i j r s (by rw [List.getElem?_append_left (List.getElem?_eq_some_iff.1 hi).1]; exact hi) (by rw [List.getElem?_append_left (List.getElem?_eq_some_iff.1 hj).1]; exact hj)⟩
theorem JT_callM {f : FuncId} {xs : Array Operand} {ts : Array TypeId} {ins : List Ty} {Δin Δr : List Res} {Y : Type} {out : Y → Ty} {Δout : Y → List Res} (ho : o.op = .call { callee := .value (.func f), args := xs, argTypes := ts }) (hw : Wanted Γ ops o true) (hd : dstOk F.N o.dst = true)
    (he : Enters F.C.P f) (hf : SpecM F.C f ins Δin out Δout) (hx : OpdAll Γ xs.toList ins) (hΔ : Δ = Δin ++ Δr) (h : ∀ y, JT F Q cs ops (Env.put Γ o.dst (out y)) (Δout y ++ Δr) l) : JT F Q cs ops Γ Δ (o :: l) := by
  subst hΔ
  intro m w a hs
  simp only [runOps]
  rw [if_pos (hs.wanted hw)]
  refine ⟨fun f _ => FW_fn _ f, ?_⟩
  rw [Oper.semAt_plain _ _ _ (by simp [ho])]
  have hargs := hx.p (hs.typed xs.toList) (fun x hx => hx)
  have hr : (execOp a.eval o).run F.C.P w = .ok (.enter f (xs.map a.eval)) w := by
    have := run_call (C := F.C) (ρ := a.eval) (c := { callee := .value (.func f), args := xs, argTypes := ts }) (ty := o.type) (x := .func f) rfl rfl he w
    simpa [execOp, ho] using this
  rw [hr]
  refine ⟨fun hd => by rw [FW_depth] at hd; simp at hd, FW_calls ((hf m w (xs.map a.eval) hs.sat hs.g (by simpa using hargs) hs.ownIn).mono ?_)⟩
  rintro e w' ⟨v, m', rfl, h1, h2, y, h3, h4, h5⟩
  exact h y m' w' _ (hs.call_step hd h3 h1 h2 h4 h5)
theorem JT_perm {Δ' : List Res} (hp : Δ.Perm Δ') (h : JT F Q cs ops Γ Δ' l) : JT F Q cs ops Γ Δ l := by
  intro m w a hs
  refine h m w a ⟨hs.sat, hs.g, hs.size, hs.defers, hs.ty, fun r hr => hs.own r (hp.mem_iff.2 hr), fun r hr => hs.apart r (hp.mem_iff.2 hr), ?_, fun r hr => hs.mine r (hp.mem_iff.2 hr), hs.ext⟩
  have pw : Δ.Pairwise (fun r s => ∀ k ∈ r.fp, k ∉ s.fp) := List.pairwise_iff_getElem.2 (fun i j hi hj hlt => hs.disj i j _ _ (List.getElem?_eq_getElem hi) (List.getElem?_eq_getElem hj) (by omega))
  have pw' : Δ'.Pairwise (fun r s => ∀ k ∈ r.fp, k ∉ s.fp) := (hp.pairwise_iff (fun {r s} h k hk hk' => h k hk' hk)).1 pw
  intro i j r s hi hj hne k hk hk'
  obtain ⟨hil, rfl⟩ := List.getElem?_eq_some_iff.1 hi
  obtain ⟨hjl, rfl⟩ := List.getElem?_eq_some_iff.1 hj
  rcases Nat.lt_or_ge i j with hlt | hge
  · exact List.pairwise_iff_getElem.1 pw' i j hil hjl hlt k hk hk'
  · exact List.pairwise_iff_getElem.1 pw' j i hjl hil (by omega) k hk' hk
theorem JS_perm {Δ' : List Res} (hp : Δ.Perm Δ') (h : JS F Q Γ Δ' cs) : JS F Q Γ Δ cs := by
  intro m w a hs
  have := JT_perm (F := F) (Q := Q) (cs := cs) (ops := #[]) (Γ := Γ) hp (l := []) (fun m w a hs => h m w a hs) m w a hs
  exact this
/-- The contract of a function that changes blocks, out of its walk. -/
def ownOut {Y : Type} (out : Y → Ty) (Δout : Y → List Res) (S : List Nat) (n : Nat) : GH → World → Value → Prop := fun m w v => ∃ y, (out y).p m v ∧ OwnOk (Δout y) m w ∧ ∀ k ∈ fps (Δout y), n ≤ k ∨ k ∈ S
theorem specM_of_JS {C : Ctx} {f : FuncId} {fn : Func} {b : Code} {ins : List Ty} {Δin : List Res} {Y : Type} {out : Y → Ty} {Δout : Y → List Res} (hf : C.P.funcs[f]? = some fn) (hb : fn.body = some b) (hsz : ins.length ≤ fn.ntmps)
    (h : ∀ m w, JS { C, S := fps Δin, m0 := m, w0 := w, N := fn.ntmps, D := [], r := none } (retQ { C, S := fps Δin, m0 := m, w0 := w, N := fn.ntmps, D := [], r := none } fn (ownOut out Δout (fps Δin) w.heap.size)) (entry 0 ins) Δin [b]) : SpecM C f ins Δin out Δout := by
  intro m w args hs hg ht ho
  have hlen : args.size = ins.length := by
    have : ∀ (Ts : List Ty) (vs : List Value), TyAll m Ts vs → vs.length = Ts.length := by
      intro Ts
      induction Ts with
      | nil => intro vs h; cases vs with
        | nil => rfl
        | cons _ _ => exact h.elim
      | cons T Ts ih => intro vs h; cases vs with
        | nil => exact h.elim
        | cons v vs => simp [ih vs h.2]
    simpa using this ins args.toList ht
  exact calls_of_JS hf hb (by omega) hs hg ht ho.own ho.apart ho.disj (fun r hr k hk => mem_fps.2 ⟨r, hr, hk⟩) (h m w)
theorem JE_retM {fn : Func} {Y : Type} {out : Y → Ty} {Δout : Y → List Res} {S : List Nat} {n : Nat} {Ts : List Ty} (y : Y) (hS : F.S = S) (hn0 : F.w0.heap.size = n) (hD : F.D = []) (hΔ : Δout y = Δ) (h : ResAll F.C.P Γ Δ fn.results.toList Ts) (hout : ∀ m vs, TyAll m Ts vs → (out y).p m (if h : vs.toArray.size = 1 then vs.toArray[0] else .tuple vs.toArray)) : JE F (retQ F fn (ownOut out Δout S n)) Γ Δ .ret := fun m w a hs => by
  obtain ⟨vs, h1, h2, h3⟩ := h.run hs
  refine ⟨hs.defers.trans hD, m, (if h : vs.toArray.size = 1 then vs.toArray[0] else .tuple vs.toArray), ?_, hs.sat, hs.ext, y, hout m vs h2, hΔ ▸ ⟨hs.own, hs.apart, hs.disj⟩, fun k hk => ?_⟩
  · rw [results_eq, Array.mapM_eq_mapM_toList]
    simp only [Sem.run_bind, Sem.run_map, h1, Result.andThen_ok, Sem.run_pure]
  · rw [hΔ] at hk
    obtain ⟨r, hr, hkr⟩ := mem_fps.1 hk
    rw [← hS, ← hn0]; exact hs.mine r hr k hkr
end rules

end Go.Proofs.YtknflgfkhkdomaaGreatDoor.Mono
