/- croupierlaw22.SandwichSteps returns true for every input. (part 3 of 8.) Conditions: none beyond the given row. -/
import Derived.Test.YtknflgfkhkdomaaGreatDoorLaw2
import Derived.RangeFuncLeaves
import Derived.RangeFuncRecord
/-! MonoR -/
set_option linter.unusedVariables false
set_option linter.unusedSimpArgs false
namespace Go.Proofs.YtknflgfkhkdomaaGreatDoor.Mono
open Go Go.RowKit

/-- A block that is known whole. -/
def Res.obj (k : Nat) (o : Obj) : Res := ⟨[k], fun _ w => w.heap[k]? = some o, fun _ hk h => (hk _ (by simp)).trans h, fun h k' hk => by
  rw [List.mem_singleton.1 hk]; exact (Array.getElem?_eq_some_iff.1 h).1⟩

/-- What yield does, as its caller says it: element k in state x leads to a state of 'good (k + 1)', or of 'bad', where the loop is left. -/
structure Yld (C : Ctx) (N : Nat) (E : Nat → List Ty) (l : Nat) {X : Type} (ΔJ : X → List Res) (good : Nat → X → Prop) (bad : X → Prop) (m0 : GH) : Prop where
  go : ∀ (k : Nat) (x : X) (m : GH) (w : World) (args : Array Value), k < N → good k x → GH.le m0 m → Sat w m → C.G m → TyAll m (E k) args.toList → OwnOk (ΔJ x) m w →
    ∃ f tmps assign body, (Instr.yield l args).run C.P w = .ok (.round l f tmps assign body) w ∧ RoundIn Fence.wide 0 C.P l f tmps assign body w fun e w' =>
      ∃ (b : Bool) (m' : GH) (x' : X), e = .returned (.bool b) ∧ Ext (fps (ΔJ x)) m w m' w' ∧ Sat w' m' ∧ OwnOk (ΔJ x') m' w' ∧ (∀ j ∈ fps (ΔJ x'), w.heap.size ≤ j ∨ j ∈ fps (ΔJ x)) ∧ (b = true → good (k + 1) x') ∧ (b = false → bad x')
def IterOk (C : Ctx) (gf : FuncId) (lb : Array Value) (N : Nat) (E : Nat → List Ty) (m0 : GH) : Prop :=
  ∀ (l : Nat) (X : Type) (ΔJ : X → List Res) (good : Nat → X → Prop) (bad : X → Prop) (x0 : X) (m : GH) (w : World), GH.le m0 m → Yld C N E l ΔJ good bad m → Sat w m → C.G m → good 0 x0 → OwnOk (ΔJ x0) m w →
    Calls C.P gf (#[.func (.yield l) #[] #[]] ++ lb) w fun e w' => ∃ v m' x', e = .returned v ∧ Ext (fps (ΔJ x0)) m w m' w' ∧ Sat w' m' ∧ OwnOk (ΔJ x') m' w' ∧ (∀ j ∈ fps (ΔJ x'), w.heap.size ≤ j ∨ j ∈ fps (ΔJ x0)) ∧ (good N x' ∨ bad x')
/-- An iterator: a function value that hands out N rows of values of the types E. -/
def Ty.iter (C : Ctx) (N : Nat) (E : Nat → List Ty) : Ty := ⟨fun m v => ∃ gf lb, v = .func (.func gf) #[] lb ∧ Enters C.P gf ∧ IterOk C gf lb N E m,
  fun hm ⟨gf, lb, h1, h2, h3⟩ => ⟨gf, lb, h1, h2, fun l X ΔJ good bad x0 m w hle => h3 l X ΔJ good bad x0 m w (hm.trans hle)⟩⟩

theorem FW_round_in {r : Option Nat} {n : Nat} {P : Program} {l : Nat} {f : FuncId} {tmps : Array Value} {assign body : Code} {w : World} {R : Ending → World → Prop} (h : RoundIn Fence.wide n P l f tmps assign body w R) : RoundIn (FW r) n P l f tmps assign body w R := by
  cases r <;> exact h

section rules
variable {F : Fr} {Q : Post} {Γ : Env} {Δ : List Res} {cs : List Code} {ops : Array Oper} {o : Oper} {l : List Oper} {C : Ctx}

theorem OpdAllLe.p {m : GH} {a : Act} {xs : List Operand} {Ts : List Ty} (h : OpdAllLe Γ xs Ts) (ht : Typed Γ m a xs) : TyAll m Ts (xs.map a.eval) := by
  obtain ⟨Us, h1, h2, h3⟩ := h.spec
  exact (h1.p ht (fun x hx => hx)).le h2 h3
theorem JT_yield {x : Operand} {xs : Array Operand} {ts : Array TypeId} {lp N : Nat} {E : Nat → List Ty} {X : Type} {ΔJ : X → List Res} {good : Nat → X → Prop} {bad : X → Prop} {Δr : List Res} {k : Nat} {x0 : X}
    (ho : o.op = .call { callee := .value x, args := xs, argTypes := ts }) (hw : Wanted Γ ops o true) (hd : dstOk F.N o.dst = true) (hf : Opd Γ x (Ty.val (.func (.yield lp) #[] #[]))) (hY : Yld F.C N E lp ΔJ good bad F.m0) (hk : k < N) (hx : OpdAllLe Γ xs.toList (E k)) (hg : good k x0) (hΔ : Δ = ΔJ x0 ++ Δr)
    (ht : ∀ x', good (k + 1) x' → JT F Q cs ops (Env.put Γ o.dst (Ty.val (.bool true))) (ΔJ x' ++ Δr) l)
    (hf' : ∀ x', bad x' → JT F Q cs ops (Env.put Γ o.dst (Ty.val (.bool false))) (ΔJ x' ++ Δr) l) : JT F Q cs ops Γ Δ (o :: l) := by
  subst hΔ
  intro m w a hs
  simp only [runOps]
  rw [if_pos (hs.wanted hw)]
  refine ⟨fun f _ => FW_fn _ f, ?_⟩
  rw [Oper.semAt_plain _ _ _ (by simp [ho])]
  have hfv : a.eval x = .func (.yield lp) #[] #[] := hf.p (hs.typed [x]) (by simp)
  have hargs := hx.p (hs.typed xs.toList)
  obtain ⟨f, tmps, assign, body, h1, h2⟩ := hY.go k x0 m w (xs.map a.eval) hk hg hs.ext.le hs.sat hs.g (by simpa using hargs) hs.ownIn
  have hr : (execOp a.eval o).run F.C.P w = .ok (.round lp f tmps assign body) w := by
    rw [← h1]
    simp [execOp, ho, resolve, hfv, invoke, Deferred.ofValue]
  rw [hr]
  refine ⟨fun hd => by rw [FW_depth] at hd; simp at hd, (FW_round_in h2).mono ?_⟩
  rintro e w' ⟨b, m', x', rfl, g1, g2, g3, g4, g5, g6⟩
  cases b with
  | true => exact ht x' (g5 rfl) m' w' _ (hs.call_step hd (T := Ty.val (.bool true)) rfl g1 g2 g3 g4)
  | false => exact hf' x' (g6 rfl) m' w' _ (hs.call_step hd (T := Ty.val (.bool false)) rfl g1 g2 g3 g4)

/-- An iterator's contract, out of its walk. -/
theorem iter_of_JS {gf : FuncId} {fn : Func} {b : Code} {caps : List Ty} {N : Nat} {E : Nat → List Ty} (hf : C.P.funcs[gf]? = some fn) (hb : fn.body = some b) (hsz : caps.length + 1 ≤ fn.ntmps)
    (h : ∀ (lp : Nat) (X : Type) (ΔJ : X → List Res) (good : Nat → X → Prop) (bad : X → Prop) (x0 : X) (m : GH) (w : World), Yld C N E lp ΔJ good bad m → good 0 x0 →
      JS { C, S := fps (ΔJ x0), m0 := m, w0 := w, N := fn.ntmps, D := [], r := none } (retQ { C, S := fps (ΔJ x0), m0 := m, w0 := w, N := fn.ntmps, D := [], r := none } fn (ownOut (Y := { x : X // good N x ∨ bad x }) (fun _ => Ty.any) (fun y => ΔJ y.1) (fps (ΔJ x0)) w.heap.size))
        (entry 0 (Ty.val (.func (.yield lp) #[] #[]) :: caps)) (ΔJ x0) [b]) : ∀ (m : GH) (lb : Array Value), TyAll m caps lb.toList → IterOk C gf lb N E m := by
  intro m0 lb ht lp X ΔJ good bad x0 m w hle hY hs hg h0 ho
  have hlen : lb.size = caps.length := by
    have : ∀ (Ts : List Ty) (vs : List Value), TyAll m0 Ts vs → vs.length = Ts.length := by
      intro Ts
      induction Ts with
      | nil => intro vs h; cases vs with
        | nil => rfl
        | cons _ _ => exact h.elim
      | cons T Ts ih => intro vs h; cases vs with
        | nil => exact h.elim
        | cons v vs => simp [ih vs h.2]
    simpa using this caps lb.toList ht
  have hc := calls_of_JS (C := C) (args := #[.func (.yield lp) #[] #[]] ++ lb) (ins := Ty.val (.func (.yield lp) #[] #[]) :: caps) hf hb (by simp; omega) hs hg (by simp; exact ⟨rfl, ht.up hle⟩) ho.own ho.apart ho.disj (fun r hr k hk => mem_fps.2 ⟨r, hr, hk⟩) (h lp X ΔJ good bad x0 m w hY h0)
  refine hc.mono ?_
  rintro e w' ⟨v, m', rfl, h1, h2, ⟨y, h3, h4, h5⟩⟩
  exact ⟨v, m', y.1, rfl, h1, h2, h4, h5, y.2⟩
theorem T_iter {gf : FuncId} {cap : Array Operand} {caps : List Ty} {N : Nat} {E : Nat → List Ty} (ho : o.op = .makeFunc (.func gf) #[] cap) (he : Enters C.P gf) (hi : ∀ (m : GH) (lb : Array Value), TyAll m caps lb.toList → IterOk C gf lb N E m) (hx : OpdAllLe Γ cap.toList caps) : TOp C Δ Γ o (Ty.iter C N E) := by
  refine T_makeFunc ho (fun m w a hs hg hr ht => ⟨gf, cap.map a.eval, by simp, he, hi m _ ?_⟩)
  have := hx.p (m := m) (a := a) (fun s hs' U hU => ht s (by simpa [ho, Op.operands] using hs') U hU)
  simpa using this

/-! The loop -/
def params : List Tmp → List Ty → Env
  | t :: ts, T :: Ts => params ts Ts ++ [(t, T)]
  | _, _ => []
theorem params_get {m : GH} {N : Nat} : ∀ (ps : List Tmp) (Ts : List Ty) (vs : List Value) (tmps : Array Value) (Γ : Env), (∀ t ∈ ps, t < N) → tmps.size = N → TyAll m Ts vs → ps.length = Ts.length → (∀ s T, Env.get Γ s = some T → T.p m (tmps.getD s undef)) →
    ((ps.zip vs).foldl (fun t (p : Tmp × Value) => t.setIfInBounds p.1 p.2) tmps).size = N ∧ ∀ s T, Env.get (params ps Ts ++ Γ) s = some T → T.p m (((ps.zip vs).foldl (fun t (p : Tmp × Value) => t.setIfInBounds p.1 p.2) tmps).getD s undef)
  | [], [], [], tmps, Γ, _, hsz, _, _, h => ⟨hsz, h⟩
  | t :: ps, T :: Ts, v :: vs, tmps, Γ, hlt, hsz, ht, hl, h => by
    have := params_get ps Ts vs (tmps.setIfInBounds t v) ((t, T) :: Γ) (fun t' h' => hlt t' (List.mem_cons_of_mem _ h')) (by simp [hsz]) ht.2 (by simpa using hl) (fun s U hU => by
      rw [Env.get_cons] at hU
      rw [Array.getD_eq_getD_getElem?, Array.getElem?_setIfInBounds]
      have htN := hlt t (by simp)
      by_cases e : t = s
      · subst e
        rw [if_pos rfl] at hU; cases hU
        simp [hsz, htN]; exact ht.1
      · rw [if_neg e] at hU ⊢
        have := h s U hU
        rwa [Array.getD_eq_getD_getElem?] at this)
    refine ⟨this.1, fun s U hU => this.2 s U ?_⟩
    simpa [params, List.append_assoc] using hU
  | [], _ :: _, _, _, _, _, _, _, hl, _ => by simp at hl
  | _ :: _, [], _, _, _, _, _, _, hl, _ => by simp at hl
  | [], [], _ :: _, _, _, _, _, ht, _, _ => ht.elim
  | _ :: _, _ :: _, [], _, _, _, _, ht, _, _ => ht.elim

/-- What a round's end asks. -/
def roundQ (F : Fr) {X : Type} (lp : Nat) (busy : Obj) (ΔI : X → List Res) (good : X → Prop) (Ix : Code → X → Prop) : Post
  | .normal, a, w => ∃ x m, good x ∧ St F [] (Res.obj lp busy :: ΔI x) m w a
  | .ret, a, w => ∃ x m, Ix .ret x ∧ St F [] (Res.obj lp busy :: ΔI x) m w a
  | .exit i, a, w => ∃ x m, Ix (.exit i) x ∧ St F [] (Res.obj lp busy :: ΔI x) m w a
  | .goto t, a, w => ∃ x m, Ix (.goto t) x ∧ St F [] (Res.obj lp busy :: ΔI x) m w a
  | .panic _, _, _ => False
  | .outgrown, _, _ => False
def beginQ (F : Fr) (lp : Nat) (body : Code) (Qr : Post) : Post
  | .normal, a, w => ∃ w2, (Instr.beginRound lp).run F.C.P w = .ok () w2 ∧ body.wpIn (FW F.r) 1 F.C.P Qr a w2
  | _, _, _ => False
theorem ext_putObj {m : GH} {w : World} {k : Nat} {o : Obj} : Ext [k] m w m (w.putObj k o) :=
  ⟨GH.le.refl m, fun j h h' => absurd h' h, by simp, fun j hj hk => World.putObj_heap_other (by simpa using hk), rfl, rfl, rfl⟩
theorem St.put_res {i k : Nat} {ob ob' : Obj} {m : GH} {w : World} {a : Act} (h : St F Γ Δ m w a) (hi : Δ[i]? = some (Res.obj k ob)) : St F Γ (Δ.set i (Res.obj k ob')) m (w.putObj k ob') a := by
  have hp := h.own _ (List.mem_of_getElem? hi)
  exact h.own_step (dst := none) (T := Ty.any) (v := undef) hi rfl trivial ext_putObj (r' := Res.obj k ob') (World.putObj_heap_same (Array.getElem?_eq_some_iff.1 hp).1) (fun k hk => .inl hk)
theorem JS_begin {lp i : Nat} {r : Loop} {body : Code} {Qr : Post} (hi : Δ[i]? = some (Res.obj lp (.loop r))) (hr : r.state = .ready) (h : JS F Qr Γ (Δ.set i (Res.obj lp (.loop { r with state := .busy }))) [body]) : JS F (beginQ F lp body Qr) Γ Δ [] := fun m w a hs => by
  have hp := hs.own _ (List.mem_of_getElem? hi)
  refine ⟨_, run_beginRound hp hr, ?_⟩
  refine wpIn_mono (h m _ a (hs.put_res hi)) ?_
  intro e a w hq
  cases e <;> exact hq
theorem JS_roundEnd {X : Type} {lp : Nat} {busy : Obj} {ΔI : X → List Res} {good : X → Prop} {Ix : Code → X → Prop} (x : X) (hg : good x) (hΔ : Δ = Res.obj lp busy :: ΔI x) : JS F (roundQ F lp busy ΔI good Ix) Γ Δ [] := fun m w a hs => ⟨x, m, hg, by rw [← hΔ]; exact hs.sub (EnvSub.nil Γ)⟩
theorem JE_round_exit {X : Type} {lp j : Nat} {busy : Obj} {ΔI : X → List Res} {good : X → Prop} {Ix : Code → X → Prop} (x : X) (hg : Ix (.exit j) x) (hΔ : Δ = Res.obj lp busy :: ΔI x) : JE F (roundQ F lp busy ΔI good Ix) Γ Δ (.exit j) := fun m w a hs => ⟨x, m, hg, by rw [← hΔ]; exact hs.sub (EnvSub.nil Γ)⟩
theorem JE_round_ret {X : Type} {lp : Nat} {busy : Obj} {ΔI : X → List Res} {good : X → Prop} {Ix : Code → X → Prop} (x : X) (hg : Ix .ret x) (hΔ : Δ = Res.obj lp busy :: ΔI x) : JE F (roundQ F lp busy ΔI good Ix) Γ Δ .ret := fun m w a hs => ⟨x, m, hg, by rw [← hΔ]; exact hs.sub (EnvSub.nil Γ)⟩
theorem round0 {n : Nat} {P : Program} {l : Nat} {f : FuncId} {tmps : Array Value} {assign body : Code} {w : World} {R : Ending → World → Prop} (h : RoundIn Fence.wide n P l f tmps assign body w R) : RoundIn Fence.wide 0 P l f tmps assign body w R :=
  ⟨h.1, fun c cs _ => h.2 c cs (room_wide _)⟩

theorem St.alloc {m : GH} {w : World} {a : Act} (h : St F Γ Δ m w a) (o : Obj) : St F Γ (Res.obj w.heap.size o :: Δ) m (w.alloc o) a := by
  refine h.new_step (dst := none) (T := Ty.any) (v := undef) rfl trivial ⟨GH.le.refl m, fun j h h' => absurd h' h, by simp, fun k hk _ => heap_push_old w _ k hk, rfl, rfl, rfl⟩ (r' := Res.obj w.heap.size o) (World.alloc_heap_new w o) (fun k hk => ?_)
  rw [List.mem_singleton.1 hk]; exact Nat.le_refl _
theorem St.mark {m : GH} {w : World} {a : Act} (h : St F Γ Δ m w a) (d : Deferred) : St { F with D := d :: F.D } Γ Δ m w { a with defers := [d] ++ a.defers } :=
  ⟨h.sat, h.g, h.size, by simp [h.defers], h.ty, h.own, h.apart, h.disj, h.mine, h.ext⟩
abbrev markOf (k : Nat) : Deferred := { target := .collected k, args := #[] }
/-- The frame of a round. -/
abbrev Fr.round (F : Fr) (S : List Nat) (m : GH) (w : World) (lp : Nat) : Fr := { F with S := S, m0 := m, w0 := w, D := [], r := some lp }
theorem stk_D {D : List Deferred} : ∀ (cs : List Code), stk { F with D := D } Q cs = stk F Q cs
  | [] => rfl
  | c :: cs => by
    show (fun a w => c.wpIn (FW F.r) 1 F.C.P (Exit.then (stk { F with D := D } Q cs) Q) a w) = _
    rw [stk_D cs]; rfl
theorem JS_end_inBD {D : List Deferred} {id : Nat} {Q' : Post} (h : JS { F with D := D } Q Γ Δ cs) : JS { F with D := D } (inB id (stk F Q cs) Q') Γ Δ [] := fun m w a hs => by
  have := h m w a hs
  rw [stk_D] at this; exact this
theorem JE_inB_hereD {D : List Deferred} {id : Nat} {Q' : Post} (h : JS { F with D := D } Q Γ Δ cs) : JE { F with D := D } (inB id (stk F Q cs) Q') Γ Δ (.exit id) := fun m w a hs => by
  have := h m w a hs
  rw [stk_D] at this
  show inB _ _ _ _ _ _; simp only [inB, if_true]; exact this
theorem JS_rangeFunc {g : Operand} {ps : Array Tmp} {assign body : Code} {N : Nat} {E : Nat → List Ty} {X : Type} (ΔI : X → List Res) (good : Nat → X → Prop) (Ix : Code → X → Prop) (x0 : X) (hr : F.r = none) (hg : Opd Γ g (Ty.iter F.C N E)) (hps : ∀ k, ps.toList.length = (E k).length) (hpN : ∀ t ∈ ps.toList, t < F.N)
    (h0 : good 0 x0) (hΔ : Δ = ΔI x0)
    (hbody : ∀ (k : Nat) (x : X) (m : GH) (w : World) (lp : Nat) (r : Loop), k < N → good k x → r.state = .ready → GH.le F.m0 m →
      JS (F.round (lp :: fps (ΔI x)) m w lp) (beginQ (F.round (lp :: fps (ΔI x)) m w lp) lp body (roundQ (F.round (lp :: fps (ΔI x)) m w lp) lp (.loop { r with state := .busy }) ΔI (good (k + 1)) Ix)) (params ps.toList (E k) ++ Γ) (Res.obj lp (.loop r) :: ΔI x) [assign])
    (hdone : ∀ (x : X) (D0 : Nat), good N x → JS { F with D := markOf D0 :: F.D } Q Γ (Res.obj D0 (.deferred (some [])) :: ΔI x) cs)
    (hstop : ∀ (c : Code) (x : X) (D0 : Nat), Ix c x → JS { F with D := markOf D0 :: F.D } Q Γ (Res.obj D0 (.deferred (some [])) :: ΔI x) (c :: cs)) : JS F Q Γ Δ (.rangeFunc g ps assign body :: cs) := by
  subst hΔ
  intro m w a hs
  show (Code.rangeFunc g ps assign body).wpIn (FW F.r) 1 F.C.P (Exit.then (stk F Q cs) Q) a w
  refine wpIn_rangeFunc ?_
  intro fn hfn
  rw [show (FW F.r).round = none by rw [FW_round, hr]]
  obtain ⟨gf, lb, hgv, he, hok⟩ : (Ty.iter F.C N E).p m (a.eval g) := hg.p (hs.typed [g]) (by simp)
  obtain ⟨rec, hrec⟩ : ∃ rec : LoopState → Option Code → Loop, rec = fun st pe => { state := st, pending := pe, fn, tmps := a.tmps, params := ps, assign, body, defers := w.heap.size } := ⟨_, rfl⟩
  obtain ⟨lp, hlp⟩ : ∃ lp, lp = (w.alloc (.deferred (some []))).heap.size := ⟨_, rfl⟩
  obtain ⟨ΔJ, hJ⟩ : ∃ ΔJ : X × Option Code → List Res, ΔJ = fun p => Res.obj lp (.loop (rec (if p.2.isNone then .ready else .done) p.2)) :: Res.obj w.heap.size (.deferred (some [])) :: ΔI p.1 := ⟨_, rfl⟩
  have hs1 : St F Γ (ΔJ (x0, none)) m ((w.alloc (.deferred (some []))).alloc (.loop (rec .ready none))) a := by
    rw [hJ, hlp]; exact (hs.alloc _).alloc _
  refine ⟨lp, [markOf w.heap.size], (w.alloc (.deferred (some []))).alloc (.loop (rec .ready none)), { target := .fn (.func gf) lb, args := #[.func (.yield lp) #[] #[]] }, (w.alloc (.deferred (some []))).alloc (.loop (rec .ready none)), gf, #[.func (.yield lp) #[] #[]] ++ lb, (w.alloc (.deferred (some []))).alloc (.loop (rec .ready none)), ?_, ?_, fun f' _ => FW_fn _ f', ?_, fun hd => by rw [FW_depth] at hd; simp at hd, ?_⟩
  · rw [hrec, hlp, run_enterLoop_outer]; simp
  · simp only [resolve, hgv]; simp [go_sem]
  · have := he (#[.func (.yield lp) #[] #[]] ++ lb) ((w.alloc (.deferred (some []))).alloc (.loop (rec .ready none)))
    simp [invoke, go_sem, this]
  · refine FW_calls ((hok lp (X × Option Code) ΔJ (fun k p => p.2 = none ∧ good k p.1) (fun p => ∃ c, p.2 = some c ∧ Ix c p.1) (x0, none) m _ (GH.le.refl m) ⟨?_⟩ hs1.sat hs1.g ⟨rfl, h0⟩ ⟨hs1.own, hs1.apart, hs1.disj⟩).mono ?_)
    · -- one round
      rintro k ⟨x, p⟩ m1 W args hk ⟨hp, hgd⟩ hle hsat hG hargs hown
      dsimp only at hp; subst hp
      have hl : W.heap[lp]? = some (.loop (rec .ready none)) := hown.own (Res.obj lp (.loop (rec .ready none))) (by rw [hJ]; simp)
      have hdef : W.heap[w.heap.size]? = some (.deferred (some [])) := hown.own (Res.obj w.heap.size (.deferred (some []))) (by rw [hJ]; simp)
      have hlt : ∀ (Ts : List Ty) (vs : List Value), TyAll m1 Ts vs → vs.length = Ts.length := by
        intro Ts
        induction Ts with
        | nil => intro vs h; cases vs with
          | nil => rfl
          | cons _ _ => exact h.elim
        | cons T Ts ih => intro vs h; cases vs with
          | nil => exact h.elim
          | cons v vs => simp [ih vs h.2]
      have hsz : args.size = ps.size := by have := hlt _ _ hargs; have h2 := hps k; simp at this h2; omega
      have hy := run_yield (P := F.C.P) (args := args) hl (by rw [hrec]; exact hsz)
      rw [hrec] at hy
      refine ⟨fn, _, assign, body, hy, round0 (n := 1) (roundIn_of_wpIn trivial ?_)⟩
      obtain ⟨hq1, hq2⟩ := params_get (m := m1) (N := F.N) ps.toList (E k) args.toList a.tmps Γ hpN hs.size hargs (hps k) (fun s T hT => T.up hle (hs.ty s T hT))
      have hne : lp ≠ w.heap.size := by rw [hlp]; simp
      have sub : ∀ r ∈ Res.obj lp (.loop (rec .ready none)) :: ΔI x, r ∈ ΔJ (x, none) := fun r hr => by
        rw [hJ]
        rcases List.mem_cons.1 hr with rfl | hr
        · simp
        · simp [hr]
      have dj : ∀ (i j : Nat) (r s : Res), (Res.obj lp (.loop (rec .ready none)) :: ΔI x)[i]? = some r → (Res.obj lp (.loop (rec .ready none)) :: ΔI x)[j]? = some s → i ≠ j → ∀ k ∈ r.fp, k ∉ s.fp := by
        intro i j r s hi hj hij
        have conv : ∀ (i : Nat) (r : Res), (Res.obj lp (.loop (rec .ready none)) :: ΔI x)[i]? = some r → (ΔJ (x, none))[if i = 0 then 0 else i + 1]? = some r := fun i r h => by
          rw [hJ]
          cases i with
          | zero => simpa using h
          | succ i => simpa using h
        exact hown.disj _ _ r s (conv i r hi) (conv j s hj) (by split <;> split <;> omega)
      have hst0 : St (F.round (lp :: fps (ΔI x)) m1 W lp) (params ps.toList (E k) ++ Γ) (Res.obj lp (.loop (rec .ready none)) :: ΔI x) m1 W { tmps := (ps.toList.zip args.toList).foldl (fun t (p : Tmp × Value) => t.setIfInBounds p.1 p.2) a.tmps, defers := [] } :=
        ⟨hsat, hG, hq1, rfl, hq2, fun r hr => hown.own r (sub r hr), fun r hr => hown.apart r (sub r hr), dj, fun r hr k hk => .inr (by
          rcases List.mem_cons.1 hr with rfl | hr
          · rw [List.mem_singleton.1 hk]; simp
          · exact List.mem_cons_of_mem _ (mem_fps.2 ⟨r, hr, hk⟩)), Ext.refl _ _ _⟩
      have hw := hbody k x m1 W lp (rec .ready none) hk hgd (by rw [hrec]) (hs.ext.le.trans hle) m1 W _ hst0
      have etmps : (ps.zip args).foldl (fun tmps (t, a) => tmps.setIfInBounds t a) a.tmps = (ps.toList.zip args.toList).foldl (fun t (p : Tmp × Value) => t.setIfInBounds p.1 p.2) a.tmps := by
        rw [← Array.foldl_toList, Array.toList_zip]
      -- the end of a round
      have fin : ∀ (jump : Option Code) (x' : X) (m3 : GH) (W3 : World) (a3 : Act), St (F.round (lp :: fps (ΔI x)) m1 W lp) [] (Res.obj lp (.loop { rec .ready none with state := .busy }) :: ΔI x') m3 W3 a3 → (jump = none → good (k + 1) x') → (∀ c, jump = some c → Ix c x') →
          ∃ v w', (Instr.endRound lp jump).run F.C.P W3 = .ok v w' ∧ ∃ (b : Bool) (m' : GH) (x'' : X × Option Code), Ending.returned v = .returned (.bool b) ∧ Ext (fps (ΔJ (x, none))) m1 W m' w' ∧ Sat w' m' ∧ OwnOk (ΔJ x'') m' w' ∧ (∀ j ∈ fps (ΔJ x''), W.heap.size ≤ j ∨ j ∈ fps (ΔJ (x, none))) ∧ (b = true → x''.2 = none ∧ good (k + 1) x''.1) ∧ (b = false → ∃ c, x''.2 = some c ∧ Ix c x''.1) := by
        intro jump x' m3 W3 a3 h3 hj1 hj2
        have hl3 := h3.own (Res.obj lp (.loop { rec .ready none with state := .busy })) (by simp)
        have hrun := run_endRound (P := F.C.P) jump hl3
        have h4 := h3.put_res (i := 0) (ob' := .loop (rec (if jump.isNone then .ready else .done) jump)) rfl
        refine ⟨_, W3.putObj lp (.loop (rec (if jump.isNone then .ready else .done) jump)), by rw [hrun, hrec], jump.isNone, m3, (x', jump), rfl, ?_, h4.sat, ?_, ?_, ?_, ?_⟩
        · have hx := h4.ext
          refine ⟨hx.le, fun j hj hj' => ?_, hx.size, fun j hj hj' => hx.same j hj (fun hmem => hj' ?_), hx.os, hx.tape, hx.out⟩
          · refine (hx.new j hj hj').imp id (fun hmem => ?_)
            rw [hJ]; rcases List.mem_cons.1 hmem with rfl | hmem
            · simp [fps, Res.obj]
            · obtain ⟨r, hr, hkr⟩ := mem_fps.1 hmem; exact mem_fps.2 ⟨r, by simp [hr], hkr⟩
          · rw [hJ]; rcases List.mem_cons.1 hmem with rfl | hmem
            · simp [fps, Res.obj]
            · obtain ⟨r, hr, hkr⟩ := mem_fps.1 hmem; exact mem_fps.2 ⟨r, by simp [hr], hkr⟩
        · -- what is one's own, the block for deferred calls among it
          have hDout : ∀ r ∈ ΔI x', w.heap.size ∉ r.fp := fun r hr hmem => by
            rcases h4.mine r (by simp [hr]) _ hmem with h | h
            · have := (Array.getElem?_eq_some_iff.1 hdef).1
              have : W.heap.size ≤ w.heap.size := h
              omega
            · rcases List.mem_cons.1 h with h | h
              · exact hne h.symm
              · obtain ⟨s, hs', hks⟩ := mem_fps.1 h
                obtain ⟨i, hi⟩ := List.getElem?_of_mem hs'
                refine hown.disj 1 (i + 2) (Res.obj w.heap.size (.deferred (some []))) s (by rw [hJ]; rfl) (by rw [hJ]; simpa using hi) (by omega) w.heap.size (by simp [Res.obj]) hks
          have hD4 : (W3.putObj lp (.loop (rec (if jump.isNone then .ready else .done) jump))).heap[w.heap.size]? = some (.deferred (some [])) := by
            rw [h4.ext.same w.heap.size (Array.getElem?_eq_some_iff.1 hdef).1 (fun hmem => ?_)]
            · exact hdef
            · rcases List.mem_cons.1 hmem with h | h
              · exact hne h.symm
              · obtain ⟨s, hs', hks⟩ := mem_fps.1 h
                obtain ⟨i, hi⟩ := List.getElem?_of_mem hs'
                refine hown.disj 1 (i + 2) (Res.obj w.heap.size (.deferred (some []))) s (by rw [hJ]; rfl) (by rw [hJ]; simpa using hi) (by omega) w.heap.size (by simp [Res.obj]) hks
          have hDm : m3 w.heap.size = none := by
            cases e : m3 w.heap.size with
            | none => rfl
            | some ob =>
              have h1 : m1 w.heap.size = none := hown.apart (Res.obj w.heap.size (.deferred (some []))) (by rw [hJ]; simp) _ (by simp [Res.obj])
              rcases h4.ext.new w.heap.size (by rw [e]; simp) h1 with h | h
              · have := (Array.getElem?_eq_some_iff.1 hdef).1
                have : W.heap.size ≤ w.heap.size := h
                omega
              · rcases List.mem_cons.1 h with h | h
                · exact absurd h.symm hne
                · obtain ⟨s, hs', hks⟩ := mem_fps.1 h
                  obtain ⟨i, hi⟩ := List.getElem?_of_mem hs'
                  exact absurd hks (hown.disj 1 (i + 2) (Res.obj w.heap.size (.deferred (some []))) s (by rw [hJ]; rfl) (by rw [hJ]; simpa using hi) (by omega) w.heap.size (by simp [Res.obj]))
          have h5 : OwnOk (Res.obj lp (.loop (rec (if jump.isNone then .ready else .done) jump)) :: ΔI x') m3 (W3.putObj lp (.loop (rec (if jump.isNone then .ready else .done) jump))) := ⟨h4.own, h4.apart, h4.disj⟩
          rw [hJ]
          refine ⟨fun r hr => ?_, fun r hr k hk => ?_, fun i j r s hi hj hij k hk => ?_⟩
          · rcases List.mem_cons.1 hr with rfl | hr
            · exact h5.own _ (by simp)
            · rcases List.mem_cons.1 hr with rfl | hr
              · exact hD4
              · exact h5.own _ (by simp [hr])
          · rcases List.mem_cons.1 hr with rfl | hr
            · exact h5.apart _ (by simp) k hk
            · rcases List.mem_cons.1 hr with rfl | hr
              · rw [List.mem_singleton.1 hk]; exact hDm
              · exact h5.apart _ (by simp [hr]) k hk
          · match i, j with
            | 0, 0 => exact absurd rfl hij
            | 0, 1 =>
              simp only [List.getElem?_cons_zero, List.getElem?_cons_succ, Option.some.injEq] at hi hj
              subst hi; subst hj
              intro hk'; rw [List.mem_singleton.1 hk] at hk'; exact hne (List.mem_singleton.1 hk')
            | 1, 0 =>
              simp only [List.getElem?_cons_zero, List.getElem?_cons_succ, Option.some.injEq] at hi hj
              subst hi; subst hj
              intro hk'; rw [List.mem_singleton.1 hk] at hk'; exact hne (List.mem_singleton.1 hk').symm
            | 1, 1 => exact absurd rfl hij
            | 0, j + 2 => exact h5.disj 0 (j + 1) r s (by simpa using hi) (by simpa using hj) (by omega) k hk
            | i + 2, 0 => exact h5.disj (i + 1) 0 r s (by simpa using hi) (by simpa using hj) (by omega) k hk
            | 1, j + 2 =>
              simp only [List.getElem?_cons_zero, List.getElem?_cons_succ, Option.some.injEq] at hi hj
              subst hi
              rw [List.mem_singleton.1 hk]; exact hDout s (List.mem_of_getElem? hj)
            | i + 2, 1 =>
              simp only [List.getElem?_cons_zero, List.getElem?_cons_succ, Option.some.injEq] at hi hj
              subst hj
              intro hk'; rw [List.mem_singleton.1 hk'] at hk; exact hDout r (List.mem_of_getElem? hi) hk
            | i + 2, j + 2 => exact h5.disj (i + 1) (j + 1) r s (by simpa using hi) (by simpa using hj) (by omega) k hk
        · intro j hj
          rw [hJ] at hj
          obtain ⟨r, hr, hkr⟩ := mem_fps.1 hj
          rcases List.mem_cons.1 hr with rfl | hr
          · right; rw [List.mem_singleton.1 hkr, hJ]; simp [fps, Res.obj]
          · rcases List.mem_cons.1 hr with rfl | hr
            · right; rw [List.mem_singleton.1 hkr, hJ]; simp [fps, Res.obj]
            · rcases h4.mine r (by simp [hr]) j hkr with h | h
              · exact .inl h
              · right; rw [hJ]; rcases List.mem_cons.1 h with rfl | h
                · simp [fps, Res.obj]
                · obtain ⟨r', hr', hk'⟩ := mem_fps.1 h; exact mem_fps.2 ⟨r', by simp [hr'], hk'⟩
        · intro hb
          cases jump with
          | none => exact ⟨rfl, hj1 rfl⟩
          | some c => simp at hb
        · intro hb
          cases jump with
          | none => simp at hb
          | some c => exact ⟨c, rfl, hj2 c rfl⟩
      rw [etmps]
      refine wpIn_mono hw ?_
      intro e a1 W1 hq
      cases e with
      | normal =>
        obtain ⟨w2, hb1, hb2⟩ := hq
        refine ⟨w2, hb1, wpIn_mono hb2 ?_⟩
        intro e2 a2 W2 hq2
        cases e2 with
        | normal =>
          obtain ⟨x', m3, g1, g2⟩ := hq2
          exact fin none x' m3 W2 a2 g2 (fun _ => g1) (fun c hc => by cases hc)
        | ret =>
          obtain ⟨x', m3, g1, g2⟩ := hq2
          exact fin (some .ret) x' m3 W2 a2 g2 (fun h => by cases h) (fun c hc => by cases hc; exact g1)
        | exit i =>
          obtain ⟨x', m3, g1, g2⟩ := hq2
          exact fin (some (.exit i)) x' m3 W2 a2 g2 (fun h => by cases h) (fun c hc => by cases hc; exact g1)
        | goto i =>
          obtain ⟨x', m3, g1, g2⟩ := hq2
          exact fin (some (.goto i)) x' m3 W2 a2 g2 (fun h => by cases h) (fun c hc => by cases hc; exact g1)
        | panic c => exact hq2
        | outgrown => exact hq2
      | ret => exact hq
      | exit i => exact hq
      | goto i => exact hq
      | panic c => exact hq
      | outgrown => exact hq
    · -- behind the iterator
      rintro e W2 ⟨v, m2, ⟨x', p⟩, rfl, h1, h2, h3, h4, h5⟩
      have hs2 : St F Γ (ΔJ (x', p) ++ []) m2 W2 (a.put none undef) := St.call_step (Δr := []) (Δin := ΔJ (x0, none)) (dst := none) (T := Ty.any) (v := undef) (by rw [List.append_nil]; exact hs1) rfl trivial h1 h2 h3 h4
      rw [List.append_nil] at hs2
      have hs2 : St F Γ (ΔJ (x', p)) m2 W2 a := hs2
      rw [hJ] at hs2
      have hl := hs2.own (Res.obj lp (.loop (rec (if p.isNone then .ready else .done) p))) (by simp)
      have hend := run_endLoop (P := F.C.P) hl (by rw [hrec]; cases p <;> simp)
      have hs3 := (hs2.put_res (i := 0) (ob' := .loop { rec (if p.isNone then .ready else .done) p with state := .exhausted }) rfl)
      have hs4 := (hs3.drop (i := 0)).mark (markOf w.heap.size)
      refine ⟨p, W2.putObj lp (.loop { rec (if p.isNone then .ready else .done) p with state := .exhausted }), by rw [hend]; rw [hrec], ?_⟩
      cases p with
      | none =>
        rcases h5 with ⟨_, hgd⟩ | ⟨c, hc, _⟩
        · have := hdone x' w.heap.size hgd m2 _ _ hs4
          rw [stk_D] at this; exact this
        · cases hc
      | some c =>
        rcases h5 with ⟨hc, _⟩ | ⟨c', hc, hix⟩
        · cases hc
        · cases hc
          have := hstop c x' w.heap.size hix m2 _ _ hs4
          rw [stk_D] at this; exact this

theorem JS_rf1 {g : Operand} {ps : Array Tmp} {assign body : Code} {N : Nat} {E : Nat → List Ty} {X : Type} (ch : X → List (Nat × Res)) (good : Nat → X → Prop) (Ix : Code → X → Prop) (x0 : X) (hg : Opd Γ g (Ty.iter F.C N E)) (hr : F.r = none) (hps : ∀ k, ps.toList.length = (E k).length) (hpN : (ps.toList.all fun t => Nat.blt t F.N) = true)
    (h0 : good 0 x0) (hΔ : Δ = sets (ch x0) Δ)
    (hbody : ∀ (k : Nat) (x : X) (m : GH) (w : World) (lp : Nat) (r : Loop), k < N → good k x → r.state = .ready → GH.le F.m0 m →
      JS (F.round (lp :: fps (sets (ch x) Δ)) m w lp) (beginQ (F.round (lp :: fps (sets (ch x) Δ)) m w lp) lp body (roundQ (F.round (lp :: fps (sets (ch x) Δ)) m w lp) lp (.loop { r with state := .busy }) (fun x => sets (ch x) Δ) (good (k + 1)) Ix)) (params ps.toList (E k) ++ Γ) (Res.obj lp (.loop r) :: sets (ch x) Δ) [assign])
    (hdone : ∀ (x : X) (D0 : Nat), good N x → JS { F with D := markOf D0 :: F.D } Q Γ (Res.obj D0 (.deferred (some [])) :: sets (ch x) Δ) cs)
    (hstop : ∀ (c : Code) (x : X) (D0 : Nat), Ix c x → JS { F with D := markOf D0 :: F.D } Q Γ (Res.obj D0 (.deferred (some [])) :: sets (ch x) Δ) (c :: cs)) : JS F Q Γ Δ (.rangeFunc g ps assign body :: cs) :=
  JS_rangeFunc (fun x => sets (ch x) Δ) good Ix x0 hr hg hps (fun t ht => by have := List.all_eq_true.1 hpN t ht; simpa using this) h0 hΔ hbody hdone hstop
theorem JE_normal {fn : Func} {out : GH → World → Value → Prop} (h : JE F (retQ F fn out) Γ Δ .ret) : JE F (retQ F fn out) Γ Δ .normal := fun m w a hs => h m w a hs
theorem JS_perm' {Δ' : List Res} (hp : Δ.Perm Δ') (h : JS F Q Γ Δ' cs) : JS F Q Γ Δ cs := JS_perm hp h
/-- yield, one's own blocks ahead of those of the loop's. -/
theorem JT_yieldR {x : Operand} {xs : Array Operand} {ts : Array TypeId} {lp N : Nat} {E : Nat → List Ty} {X : Type} {ΔJ : X → List Res} {good : Nat → X → Prop} {bad : X → Prop} (Δr : List Res) (k : Nat) (x0 : X)
    (ho : o.op = .call { callee := .value x, args := xs, argTypes := ts }) (hw : Wanted Γ ops o true) (hd : dstOk F.N o.dst = true) (hf : Opd Γ x (Ty.val (.func (.yield lp) #[] #[]))) (hY : Yld F.C N E lp ΔJ good bad F.m0) (hk : k < N) (hx : OpdAllLe Γ xs.toList (E k)) (hg : good k x0) (hΔ : Δ = Δr ++ ΔJ x0)
    (ht : ∀ x', good (k + 1) x' → JT F Q cs ops (Env.put Γ o.dst (Ty.val (.bool true))) (Δr ++ ΔJ x') l)
    (hf' : ∀ x', bad x' → JT F Q cs ops (Env.put Γ o.dst (Ty.val (.bool false))) (Δr ++ ΔJ x') l) : JT F Q cs ops Γ Δ (o :: l) :=
  JT_perm (hΔ ▸ List.perm_append_comm) (JT_yield (Δr := Δr) ho hw hd hf hY hk hx hg rfl (fun x' h' => JT_perm List.perm_append_comm (ht x' h')) (fun x' h' => JT_perm List.perm_append_comm (hf' x' h')))
theorem JE_iter {fn : Func} {N : Nat} {X : Type} {ΔJ : X → List Res} {good : Nat → X → Prop} {bad : X → Prop} {S : List Nat} {n : Nat} (x : X) (hx : good N x ∨ bad x) (hΔ : Δ = ΔJ x) (hS : F.S = S) (hn0 : F.w0.heap.size = n) (hD : F.D = []) (hr : fn.results.toList = []) :
    JE F (retQ F fn (ownOut (Y := { x : X // good N x ∨ bad x }) (fun _ => Ty.any) (fun y => ΔJ y.1) S n)) Γ Δ .ret :=
  JE_retM (Ts := []) (⟨x, hx⟩ : { x : X // good N x ∨ bad x }) hS hn0 hD hΔ.symm (by rw [hr]; exact .nil) (fun _ _ _ => trivial)

/-! A function's end, with marks -/
def Outs (F : Fr) (fn : Func) (out : GH → World → Value → Prop) (tmps : Array Value) : List Deferred → World → Prop
  | [], w => ∃ m v, (results fn tmps).run F.C.P w = .ok v w ∧ Sat w m ∧ Ext F.S F.m0 F.w0 m w ∧ out m w v
  | d :: ds, w => ∃ r w', d.target = .collected r ∧ (Instr.takeDeferred r).run F.C.P w = .ok [] w' ∧ Outs F fn out tmps ds w'
def retQM (F : Fr) (fn : Func) (out : GH → World → Value → Prop) : Post
  | .ret, a, w | .normal, a, w => Outs F fn out a.tmps a.defers w
  | _, _, _ => False
theorem JE_normalM {fn : Func} {out : GH → World → Value → Prop} (h : JE F (retQM F fn out) Γ Δ .ret) : JE F (retQM F fn out) Γ Δ .normal := fun m w a hs => h m w a hs
theorem JE_unmark {fn : Func} {out : GH → World → Value → Prop} {D0 i : Nat} {D : List Deferred} (hi : Δ[i]? = some (Res.obj D0 (.deferred (some [])))) (h : JE { F with D := D } (retQM F fn out) Γ (Δ.eraseIdx i) .ret) : JE { F with D := markOf D0 :: D } (retQM F fn out) Γ Δ .ret := fun m w a hs => by
  have hp := hs.own _ (List.mem_of_getElem? hi)
  show Outs F fn out a.tmps a.defers w
  rw [show a.defers = markOf D0 :: D from hs.defers]
  refine ⟨D0, _, rfl, run_takeDeferred hp, ?_⟩
  have h1 := (hs.put_res (ob' := .deferred none) hi).drop (i := i)
  rw [List.eraseIdx_set_eq] at h1
  have h2 : St { F with D := D } Γ (Δ.eraseIdx i) m (w.putObj D0 (.deferred none)) { a with defers := D } := ⟨h1.sat, h1.g, h1.size, rfl, h1.ty, h1.own, h1.apart, h1.disj, h1.mine, h1.ext⟩
  exact h m _ _ h2
theorem JE_unmarked {fn : Func} {out : GH → World → Value → Prop} (h : JE { F with D := [] } (retQ F fn out) Γ Δ .ret) : JE { F with D := [] } (retQM F fn out) Γ Δ .ret := fun m w a hs => by
  obtain ⟨h1, h2⟩ := h m w a hs
  show Outs F fn out a.tmps a.defers w
  rw [h1]; exact h2
theorem leaves_outs {fn : Func} {out : GH → World → Value → Prop} {tmps : Array Value} : ∀ (ds : List Deferred) (w : World), Outs F fn out tmps ds w → LeavesInM Fence.wide 1 F.C.P fn tmps (fun e w' => ∃ v m', e = .returned v ∧ Ext F.S F.m0 F.w0 m' w' ∧ Sat w' m' ∧ out m' w' v) ds .returning w
  | [], w, ⟨m, v, h1, h2, h3, h4⟩ => ⟨v, h1, v, m, rfl, h3, h2, h4⟩
  | d :: ds, w, ⟨r, w', h1, h2, h3⟩ => ⟨by simp, .inl ⟨r, w', h1, h2, leaves_outs ds w' h3⟩⟩
theorem calls_of_JSM {f : FuncId} {fn : Func} {b : Code} {args : Array Value} {m : GH} {w : World} {ins : List Ty} {S : List Nat} {out : GH → World → Value → Prop}
    (hf : C.P.funcs[f]? = some fn) (hb : fn.body = some b) (hsz : args.size ≤ fn.ntmps) (hs : Sat w m) (hg : C.G m) (ht : TyAll m ins args.toList)
    (hown : ∀ r ∈ Δ, r.p m w) (hap : ∀ r ∈ Δ, ∀ k ∈ r.fp, m k = none) (hdj : ∀ (i j : Nat) (r s : Res), Δ[i]? = some r → Δ[j]? = some s → i ≠ j → ∀ k ∈ r.fp, k ∉ s.fp) (hmine : ∀ r ∈ Δ, ∀ k ∈ r.fp, k ∈ S)
    (h : JS { C, S, m0 := m, w0 := w, N := fn.ntmps, D := [], r := none } (retQM { C, S, m0 := m, w0 := w, N := fn.ntmps, D := [], r := none } fn out) (entry 0 ins) Δ [b]) :
    Calls C.P f args w fun e w' => ∃ v m', e = .returned v ∧ Ext S m w m' w' ∧ Sat w' m' ∧ out m' w' v := by
  refine (callsIn_wide (n := 1)).1 (callsIn_of_wp_marks hf hb trivial ?_)
  have hst : St { C, S, m0 := m, w0 := w, N := fn.ntmps, D := [], r := none } (entry 0 ins) Δ m w { tmps := args ++ Array.replicate (fn.ntmps - args.size) undef, defers := [] } := by
    refine ⟨hs, hg, by simp; omega, rfl, fun s T hT => ?_, hown, hap, hdj, fun r hr k hk => .inr (hmine r hr k hk), Ext.refl _ _ _⟩
    obtain ⟨_, v, h2, h3⟩ := entry_get ins args.toList 0 ht s T hT
    have hlt : s < args.size := by
      have := (List.getElem?_eq_some_iff.1 h2).1; simpa using this
    show T.p m ((args ++ Array.replicate (fn.ntmps - args.size) undef).getD s undef)
    rw [Nat.sub_zero, Array.getElem?_toList] at h2
    rw [Array.getD_eq_getD_getElem?, Array.getElem?_append_left hlt, h2]
    exact h3
  refine wpIn_mono (h m w _ hst) ?_
  intro e a w' hq
  cases e with
  | normal => exact leaves_outs a.defers w' hq
  | ret => exact leaves_outs a.defers w' hq
  | exit i => exact hq.elim
  | goto l => exact hq.elim
  | panic c => exact hq.elim
  | outgrown => exact hq.elim
theorem spec_of_JSM {f : FuncId} {fn : Func} {b : Code} {ins : List Ty} {out : Ty} (hf : C.P.funcs[f]? = some fn) (hb : fn.body = some b) (hsz : ins.length ≤ fn.ntmps)
    (h : ∀ m w, JS { C, S := [], m0 := m, w0 := w, N := fn.ntmps, D := [], r := none } (retQM { C, S := [], m0 := m, w0 := w, N := fn.ntmps, D := [], r := none } fn (fun m _ v => out.p m v)) (entry 0 ins) [] [b]) : Spec C f ins out := by
  intro m w args hs hg ht
  have hlen : args.size = ins.length := by
    have : ∀ (Ts : List Ty) (vs : List Value), TyAll m Ts vs → vs.length = Ts.length := by
      intro Ts
      induction Ts with
      | nil => intro vs h; cases vs with
        | nil => rfl
        | cons _ _ => exact h.elim
      | cons T Ts ih => intro vs h; cases vs with
        | nil => exact h.elim
        | cons v vs => simp [ih vs h.2]
    simpa using this ins args.toList ht
  refine (calls_of_JSM (S := []) (Δ := []) hf hb (by omega) hs hg ht (by simp) (by simp) (by simp) (by simp) (h m w)).mono ?_
  rintro e w' ⟨v, m', h1, h2, h3, h4⟩
  exact ⟨v, m', h1, h2, h3, h4⟩
end rules

end Go.Proofs.YtknflgfkhkdomaaGreatDoor.Mono

/-! MonoD -/
set_option linter.unusedVariables false
set_option linter.unusedSimpArgs false
namespace Go.Proofs.YtknflgfkhkdomaaGreatDoor.Mono
open Go Go.RowKit

theorem wpIn_congrQ {F : Fence} {n : Nat} {P : Program} {o : Oper} {a : Act} {w : World} {K : Act → World → Prop} {Q Q' : Exit → Act → World → Prop} (hp : ∀ c a w, Q (.panic c) a w → Q' (.panic c) a w) (ho : ∀ a w, Q .outgrown a w → Q' .outgrown a w) (h : o.wpIn F n P a w K Q) : o.wpIn F n P a w K Q' := by
  unfold Oper.wpIn at *
  refine ⟨h.1, ?_⟩
  have hh := h.2
  generalize (o.semAt F.round a.eval).run P w = r at *
  have hl : LetsOut Q → LetsOut Q' := fun ⟨a, w, h⟩ => ⟨a, w, ho a w h⟩
  cases r with
  | ok x w' =>
    cases x <;> simp only [Oper.uponIn] at hh ⊢
    case enter f args =>
      refine ⟨hh.1, hh.2.mono ?_⟩
      intro e w2 h2
      cases e with
      | returned v => exact h2
      | panicked c => exact hp _ _ _ h2
      | outgrown => exact hl h2
    case round l f tmps assign body =>
      refine ⟨hh.1, hh.2.mono ?_⟩
      intro e w2 h2
      cases e with
      | returned v => exact h2
      | panicked c => exact hp _ _ _ h2
      | outgrown => exact hl h2
    all_goals exact hh
  | halt x w' =>
    cases x <;> first | exact hh | (simp only [Oper.uponIn] at hh ⊢; exact hp _ _ _ hh)

def okDrawD (ops : List Oper) (isD : Nat → Bool) : Bool :=
  let B := befs ops []
  let z := ops.zipIdx
  z.all (fun (o, i) => isD i || (tmpsOf o ++ guardSlot ops o).all fun s => z.all fun (p, j) => p.dst != some s || (!isD j && (Nat.blt j i && (B.getD i 0).testBit j))) &&
  z.all (fun ((o : Oper), (i : Nat)) => z.all fun ((p : Oper), (j : Nat)) => i == j || o.dst.isNone || o.dst != p.dst) &&
  z.all (fun (o, i) => o.after.toList.all fun e => !Region.binds .any e || Nat.blt e.on i) &&
  z.all (fun (o, i) => !isD i || o.guard.isNone)
/-- What the operation i that changes blocks looks at, but for what such operations yield, comes ahead of it. -/
def needOk (ops : List Oper) (isD : Nat → Bool) (i : Nat) (slots : List Nat) : Bool :=
  slots.all fun s => ops.zipIdx.all fun (p, j) => p.dst != some s || (!isD j && ((befs ops []).getD i 0).testBit j)
structure DOk (ops : List Oper) (isD : Nat → Bool) : Prop where
  reads : ∀ (i : Nat) (o : Oper) (s : Nat) (j : Nat) (p : Oper), isD i = false → ops[i]? = some o → ops[j]? = some p → (s ∈ tmpsOf o ∨ s ∈ guardSlot ops o) → p.dst = some s → isD j = false ∧ j < i ∧ ((befs ops []).getD i 0).testBit j = true
  dsts : ∀ (i j : Nat) (o p : Oper) (s : Nat), ops[i]? = some o → ops[j]? = some p → o.dst = some s → p.dst = some s → i = j
  edges : ∀ (i : Nat) (o : Oper), ops[i]? = some o → ∀ e ∈ o.after.toList, Region.binds .any e = true → e.on < i
  guards : ∀ (i : Nat) (o : Oper), isD i = true → ops[i]? = some o → o.guard = none
theorem okDrawD_spec {ops : List Oper} {isD : Nat → Bool} (h : okDrawD ops isD = true) : DOk ops isD := by
  unfold okDrawD at h
  simp only [Bool.and_eq_true, List.all_eq_true] at h
  obtain ⟨⟨⟨h1, h2⟩, h3⟩, h4⟩ := h
  refine ⟨fun i o s j p hi ho hp hs hd => ?_, fun i j o p s ho hp hd hd' => ?_, fun i o ho e he hb => ?_, fun i o hi ho => ?_⟩
  · have := h1 _ (mem_zipIdx' ho)
    simp only [hi, Bool.false_or, List.all_eq_true] at this
    have := this s (List.mem_append.2 hs) _ (mem_zipIdx' hp)
    simp only [hd, bne_self_eq_false, Bool.false_or, Bool.and_eq_true, Bool.not_eq_true'] at this
    exact ⟨this.1, by simpa using this.2.1, this.2.2⟩
  · have := h2 _ (mem_zipIdx' ho) _ (mem_zipIdx' hp)
    simp [hd, hd'] at this
    exact this
  · have := h3 _ (mem_zipIdx' ho) e he
    simp [hb] at this
    exact this
  · have := h4 _ (mem_zipIdx' ho)
    simp [hi] at this
    exact this

inductive TLD (C : Ctx) (N : Nat) (ops : Array Oper) (isD : Nat → Bool) (inv : List Nat → Env → List Res → Prop) : Nat → Env → List Oper → Env → Prop
  | nil (i : Nat) (Γ : Env) : TLD C N ops isD inv i Γ [] Γ
  | op {i : Nat} {Γ Γ' : Env} {o : Oper} {T : Ty} {rest : List Oper} : isD i = false → Wanted Γ ops o true → dstOk N o.dst = true → (∀ s Γd Δ, inv s Γd Δ → TOp C Δ Γ o T) → TLD C N ops isD inv (i + 1) (Env.put Γ o.dst T) rest Γ' → TLD C N ops isD inv i Γ (o :: rest) Γ'
  | skip {i : Nat} {Γ Γ' : Env} {o : Oper} {rest : List Oper} : isD i = false → Wanted Γ ops o false → dstOk N o.dst = true → TLD C N ops isD inv (i + 1) (Env.put Γ o.dst (Ty.val undef)) rest Γ' → TLD C N ops isD inv i Γ (o :: rest) Γ'
  | dyn {i : Nat} {Γ Γ' : Env} {o : Oper} {rest : List Oper} : isD i = true → TLD C N ops isD inv (i + 1) (Env.put Γ o.dst Ty.any) rest Γ' → TLD C N ops isD inv i Γ (o :: rest) Γ'
theorem TLD.asg {C : Ctx} {N : Nat} {ops : Array Oper} {isD : Nat → Bool} {inv : List Nat → Env → List Res → Prop} {k : Nat} {Γ Γ' : Env} {l : List Oper} (h : TLD C N ops isD inv k Γ l Γ') :
    ∃ Φ : List (Ty × Bool), Φ.length = l.length ∧ Γ' = envs Γ l Φ l.length ∧ ∀ i o T, l[i]? = some o → Φ[i]? = some T →
      (isD (k + i) = true → T = (Ty.any, true)) ∧ (isD (k + i) = false → Wanted (envs Γ l Φ i) ops o T.2 ∧ dstOk N o.dst = true ∧ (T.2 = true → ∀ s Γd Δ, inv s Γd Δ → TOp C Δ (envs Γ l Φ i) o T.1) ∧ (T.2 = false → T.1 = Ty.val undef)) := by
  induction h with
  | nil i Γ => exact ⟨[], rfl, rfl, fun i o T h => by simp at h⟩
  | @op k Γ Γ' o T rest hk hw hd ht _ ih =>
    obtain ⟨Φ, h1, h2, h3⟩ := ih
    refine ⟨(T, true) :: Φ, by simp [h1], h2, fun i o' T' ho hT => ?_⟩
    cases i with
    | zero =>
      simp only [List.getElem?_cons_zero, Option.some.injEq] at ho hT
      subst ho; subst hT
      exact ⟨(fun h => by rw [Nat.add_zero, hk] at h; exact absurd h (by simp)), fun _ => ⟨hw, hd, fun _ => ht, fun h => by simp at h⟩⟩
    | succ i => rw [show k + (i + 1) = k + 1 + i by omega]; exact h3 i o' T' (by simpa using ho) (by simpa using hT)
  | @skip k Γ Γ' o rest hk hw hd _ ih =>
    obtain ⟨Φ, h1, h2, h3⟩ := ih
    refine ⟨(Ty.val undef, false) :: Φ, by simp [h1], h2, fun i o' T' ho hT => ?_⟩
    cases i with
    | zero =>
      simp only [List.getElem?_cons_zero, Option.some.injEq] at ho hT
      subst ho; subst hT
      exact ⟨(fun h => by rw [Nat.add_zero, hk] at h; exact absurd h (by simp)), fun _ => ⟨hw, hd, fun h => by simp at h, fun _ => rfl⟩⟩
    | succ i => rw [show k + (i + 1) = k + 1 + i by omega]; exact h3 i o' T' (by simpa using ho) (by simpa using hT)
  | @dyn k Γ Γ' o rest hk _ ih =>
    obtain ⟨Φ, h1, h2, h3⟩ := ih
    refine ⟨(Ty.any, true) :: Φ, by simp [h1], h2, fun i o' T' ho hT => ?_⟩
    cases i with
    | zero =>
      simp only [List.getElem?_cons_zero, Option.some.injEq] at ho hT
      subst ho; subst hT
      exact ⟨fun _ => rfl, (fun h => by rw [Nat.add_zero, hk] at h; exact absurd h (by simp))⟩
    | succ i => rw [show k + (i + 1) = k + 1 + i by omega]; exact h3 i o' T' (by simpa using ho) (by simpa using hT)

section draw
variable {F : Fr} {ops : Array Oper} {Q : Exit → Act → World → Prop} {Γ Γ' : Env} {Φ : List (Ty × Bool)} {isD : Nat → Bool} {inv : List Nat → Env → List Res → Prop}
theorem closed_bits' {isIn : Nat → Prop} (hcl : ∀ i, isIn i → ∀ o, ops.toList[i]? = some o → ∀ e ∈ o.after.toList, Region.binds .any e = true → isIn e.on) :
    ∀ (i : Nat) (o : Oper), ops.toList[i]? = some o → (∀ e ∈ o.after.toList, Region.binds .any e = true → isIn e.on) → ∀ j, ((befs ops.toList []).getD i 0).testBit j = true → isIn j := by
  intro i
  induction i using Nat.strongRecOn with
  | _ i ih =>
    intro o ho hpre j hj
    obtain ⟨e, he, hb, hc⟩ := (befs_spec ops.toList []).2.2 i o j ho (by simpa using hj)
    have hin := hpre e he hb
    rcases hc with hc | ⟨hlt, hc⟩
    · rw [← hc]; exact hin
    · have hlt' : e.on < i := by simpa using hlt
      have hsz : e.on < ops.toList.length := by have := (List.getElem?_eq_some_iff.1 ho).1; omega
      exact ih e.on hlt' _ (List.getElem?_eq_getElem hsz) (fun e' he' hb' => hcl e.on hin _ (List.getElem?_eq_getElem hsz) e' he' hb') j hc
theorem ready_some' (hed : ∀ i o, ops.toList[i]? = some o → ∀ e ∈ o.after.toList, Region.binds .any e = true → e.on < i) {listed : Array Bool} (hsz : listed.size = ops.size) (h : Region.ready .any ops listed = []) : ∀ i, i < ops.size → listed.getD i false = true := by
  intro i
  induction i using Nat.strongRecOn with
  | _ i ih =>
    intro hi
    cases hl : listed.getD i false with
    | true => rfl
    | false =>
      have : i ∈ Region.ready .any ops listed := (ready_iff hi hsz).2 ⟨hl, fun e he hb => by
        have hlt := hed i ops[i] (by simp [hi]) e he hb
        exact ih e.on hlt (by omega)⟩
      rw [h] at this; cases this
theorem get_append2 (A B C : Env) (h : ∀ s, Env.get B s = Env.get C s) (s : Nat) : Env.get (A ++ B) s = Env.get (A ++ C) s := by rw [get_append, get_append, h]

theorem St.subAny {Γ1 Γ2 : Env} {Δ : List Res} {m : GH} {w : World} {a : Act} (h : St F Γ1 Δ m w a) (hs : ∀ s T, Env.get Γ2 s = some T → T = Ty.any ∨ ∃ T0, Env.get Γ1 s = some T0 ∧ Ty.le T0 T) : St F Γ2 Δ m w a :=
  ⟨h.sat, h.g, h.size, h.defers, fun s T hT => by
    rcases hs s T hT with rfl | ⟨T0, h1, h2⟩
    · trivial
    · exact h2 _ _ (h.ty s T0 h1), h.own, h.apart, h.disj, h.mine, h.ext⟩
theorem draw_any (hok : DOk ops.toList isD) (hΦ : Φ.length = ops.size) (need : Nat → Env)
    (hT : ∀ i o T, ops.toList[i]? = some o → Φ[i]? = some T → (isD i = true → T = (Ty.any, true)) ∧ (isD i = false → Wanted (envs Γ ops.toList Φ i) ops o T.2 ∧ dstOk F.N o.dst = true ∧ (T.2 = true → ∀ s Γd Δ, inv s Γd Δ → TOp F.C Δ (envs Γ ops.toList Φ i) o T.1) ∧ (T.2 = false → T.1 = Ty.val undef)))
    (hdd : ∀ s Γd Δ d T, inv s Γd Δ → Env.get Γd d = some T → ∃ j o, isD j = true ∧ ops.toList[j]? = some o ∧ o.dst = some d)
    (hneed : ∀ i s T, Env.get (need i) s = some T → Env.get (envs Γ ops.toList Φ ops.size) s = some T)
    (hneedOk : ∀ i o s T, isD i = true → ops.toList[i]? = some o → Env.get (need i) s = some T → ∀ j p, ops.toList[j]? = some p → p.dst = some s → isD j = false ∧ ((befs ops.toList []).getD i 0).testBit j = true)
    (hD : ∀ (Q1 : Post) (cs1 : List Code) i o s Γd Δ Γx, isD i = true → ops.toList[i]? = some o → i ∉ s → (∀ j, isD j = true → ((befs ops.toList []).getD i 0).testBit j = true → j ∈ s) → inv s Γd Δ →
      (∀ Γd' Δ', inv (i :: s) Γd' Δ' → JS F Q1 (Γd' ++ (need i ++ Γx)) Δ' cs1) → JT F Q1 cs1 ops (Γd ++ (need i ++ Γx)) Δ [o])
    (hK : ∀ s Γd Δ m w a, inv s Γd Δ → (∀ j, j < ops.size → isD j = true → j ∈ s) → St F (Γd ++ envs Γ ops.toList Φ ops.size) Δ m w a → Q .normal a w) :
    ∀ (fuel : Nat) (listed : Array Bool) (L : List Nat) (s : List Nat) (Γd : Env) (Δ : List Res) (m : GH) (w : World) (a : Act), listed.size = ops.size → fuel + L.length = ops.size → L.Nodup → (∀ j ∈ L, j < ops.size) → (∀ j, j < ops.size → (listed.getD j false = true ↔ j ∈ L)) →
      (∀ j ∈ L, ∀ o, ops.toList[j]? = some o → ∀ e ∈ o.after.toList, Region.binds .any e = true → e.on ∈ L) → (∀ j, j ∈ s ↔ (j ∈ L ∧ isD j = true)) → inv s Γd Δ →
      St F (Γd ++ envL Γ ops.toList Φ L) Δ m w a → wpAnyIn (FW F.r) 1 F.C.P .any ops Q fuel listed a w := by
  have hlen : Φ.length = ops.toList.length := by rw [hΦ]; simp
  -- a slot's type by the text's order, and by L
  have same : ∀ (L : List Nat) (i : Nat) (d : Nat) (T : Ty), (∀ j ∈ L, j < ops.size) → Env.get (envs Γ ops.toList Φ i) d = some T → (∀ j p, j < i → ops.toList[j]? = some p → p.dst = some d → j ∈ L) → (∀ j p, ops.toList[j]? = some p → p.dst = some d → j ∈ L → j < i) → Env.get (envL Γ ops.toList Φ L) d = some T := by
    intro L i d T hL hT' hin hlt
    rcases envs_get i Γ ops.toList Φ d hlen with ⟨j, o, T', h1, h2, h3, h4, h5⟩ | ⟨h1, h2⟩
    · rw [h5] at hT'; cases hT'
      rcases envL_get Γ ops.toList Φ d L with ⟨j', g1, g2, g3⟩ | ⟨g1, g2⟩
      · cases ho' : ops.toList[j']? with
        | none => rw [ho'] at g2; simp at g2
        | some o' =>
          rw [ho'] at g2
          have := hok.dsts j j' o o' d h2 ho' h4 (by simpa using g2)
          subst this
          rw [g3, h3]; rfl
      · exact absurd (by rw [h2]; simpa using h4) (g1 j (hin j o h1 h2 h4))
    · rw [h2] at hT'
      rcases envL_get Γ ops.toList Φ d L with ⟨j', g1, g2, g3⟩ | ⟨g1, g2⟩
      · cases ho' : ops.toList[j']? with
        | none => rw [ho'] at g2; simp at g2
        | some o' =>
          rw [ho'] at g2
          exact absurd (by simpa using g2) (h1 j' o' (hlt j' o' ho' (by simpa using g2) g1) ho')
      · rw [g2]; exact hT'
  have fin : ∀ (L s : List Nat) (Γd : Env) (Δ : List Res) (m : GH) (w : World) (a : Act), (∀ j ∈ L, j < ops.size) → (∀ j, j < ops.size → j ∈ L) → (∀ j, j ∈ s ↔ (j ∈ L ∧ isD j = true)) → inv s Γd Δ → St F (Γd ++ envL Γ ops.toList Φ L) Δ m w a → Q .normal a w := by
    intro L s Γd Δ m w a hL hall hsD hinv hs
    refine hK s Γd Δ m w a hinv (fun j hj hd => (hsD j).2 ⟨hall j hj, hd⟩) (hs.sub (fun d T hT' => ?_))
    rw [get_append] at hT'
    rw [get_append]
    cases hgd : Env.get Γd d with
    | some U => rw [hgd] at hT'; exact ⟨T, hT', Ty.le.refl T⟩
    | none =>
      rw [hgd] at hT'
      refine ⟨T, ?_, Ty.le.refl T⟩
      exact same L ops.size d T hL hT' (fun j p hj _ _ => hall j hj) (fun j p hp _ _ => by have := (List.getElem?_eq_some_iff.1 hp).1; simpa using this)
  intro fuel
  induction fuel with
  | zero =>
    intro listed L s Γd Δ m w a hsz hfl hnd hL hl hcl hsD hinv hs
    have hall : ∀ j, j < ops.size → j ∈ L := fun j hj => nodup_full hnd hL (by omega) j hj
    refine ⟨?_, fin L s Γd Δ m w a hL hall hsD hinv hs⟩
    cases hr : Region.ready .any ops listed with
    | nil => rfl
    | cons x xs =>
      have hx : x ∈ Region.ready .any ops listed := by rw [hr]; exact List.mem_cons_self
      have hlt := ready_lt hx
      have := ((ready_iff hlt hsz).1 hx).1
      rw [(hl x hlt).2 (hall x hlt)] at this; cases this
  | succ fuel ih =>
    intro listed L s Γd Δ m w a hsz hfl hnd hL hl hcl hsD hinv hs
    refine ⟨fun hr => ?_, fun i hi => ?_⟩
    · have h1 := ready_some' hok.edges hsz hr
      have := nodup_sub (L := List.range ops.size) (L2 := L) List.nodup_range (fun x hx => (hl x (List.mem_range.1 hx)).1 (h1 x (List.mem_range.1 hx)))
      simp at this; omega
    · have hilt := ready_lt hi
      have hready := (ready_iff hilt hsz).1 hi
      have hiL : i ∉ L := fun h => by rw [(hl i hilt).2 h] at hready; cases hready.1
      have ho : ops.toList[i]? = some ops[i] := by simp [hilt]
      have hpre : ∀ e ∈ ops[i].after.toList, Region.binds .any e = true → e.on ∈ L := fun e he hb =>
        (hl e.on (by have := hok.edges i ops[i] ho e he hb; omega)).1 (hready.2 e he hb)
      have hbits := closed_bits' (isIn := (· ∈ L)) hcl i ops[i] ho hpre
      have hΦi : i < Φ.length := by omega
      have hTi := hT i ops[i] Φ[i] ho (List.getElem?_eq_getElem hΦi)
      have hl' : ∀ j, j < ops.size → ((listed.setIfInBounds i true).getD j false = true ↔ j ∈ i :: L) := fun j hj => by
        rw [getD_set _ _ _ (by omega), List.mem_cons]
        by_cases e : i = j
        · subst e; simp
        · rw [if_neg e, hl j hj]
          exact ⟨fun h => .inr h, fun h => h.resolve_left (fun h => e h.symm)⟩
      have hcl' : ∀ j ∈ i :: L, ∀ o, ops.toList[j]? = some o → ∀ e ∈ o.after.toList, Region.binds .any e = true → e.on ∈ i :: L := fun j hj o ho' e he hb => by
        rcases List.mem_cons.1 hj with h | h
        · subst h
          rw [ho] at ho'; cases ho'
          exact List.mem_cons_of_mem _ (hpre e he hb)
        · exact List.mem_cons_of_mem _ (hcl j h o ho' e he hb)
      have hL' : ∀ j ∈ i :: L, j < ops.size := fun j hj => by
        rcases List.mem_cons.1 hj with h | h
        · subst h; exact hilt
        · exact hL j h
      cases hdi : isD i with
      | true =>
        -- an operation that changes blocks
        have hΦany := hTi.1 hdi
        obtain ⟨Γx, hΓx⟩ : ∃ Γx, Γx = envL Γ ops.toList Φ L := ⟨_, rfl⟩
        have hng : ∀ d T, Env.get (need i) d = some T → Env.get Γx d = some T := fun d T hd => by
          rw [hΓx]
          refine same L ops.size d T hL (hneed i d T hd) (fun j p _ hp hpd => hbits j (hneedOk i ops[i] d T hdi ho hd j p hp hpd).2) (fun j p hp _ _ => by have := (List.getElem?_eq_some_iff.1 hp).1; simpa using this)
        have hsame : ∀ d, Env.get (need i ++ Γx) d = Env.get Γx d := fun d => by
          rw [get_append]
          cases e : Env.get (need i) d with
          | none => rfl
          | some T => rw [hng d T e]; rfl
        have hs' : St F (Γd ++ (need i ++ Γx)) Δ m w a := hs.sub (fun d T hT' => ⟨T, by rw [← hΓx, ← get_append2 _ _ _ hsame]; exact hT', Ty.le.refl T⟩)
        have hguard := hok.guards i ops[i] hdi ho
        have hwant : Region.wanted ops[i] (yielded ops a.tmps) = true := by unfold Region.wanted; rw [hguard]
        unfold wpOpIn
        rw [Array.getElem?_eq_getElem hilt]
        dsimp only
        rw [if_pos hwant]
        have hjt := hD (fun e a w => match e with | .normal => wpAnyIn (FW F.r) 1 F.C.P .any ops Q fuel (listed.setIfInBounds i true) a w | e => Q e a w) [] i ops[i] s Γd Δ Γx hdi ho (fun h => hiL ((hsD i).1 h).1) (fun j hj hb => (hsD j).2 ⟨hbits j hb, hj⟩) hinv (fun Γd' Δ' hinv' m' w' a' hst => ?_) m w a hs'
        · simp only [runOps, if_pos hwant] at hjt
          exact wpIn_congrQ (fun c a w h => h) (fun a w h => h) hjt
        · show wpAnyIn (FW F.r) 1 F.C.P .any ops Q fuel (listed.setIfInBounds i true) a' w'
          refine ih (listed.setIfInBounds i true) (i :: L) (i :: s) Γd' Δ' m' w' a' (by simpa using hsz) (by simp; omega) (List.nodup_cons.2 ⟨hiL, hnd⟩) hL' hl' hcl' (fun j => ?_) hinv' ?_
          · rw [List.mem_cons, List.mem_cons, hsD j]
            constructor
            · rintro (rfl | h)
              · exact ⟨.inl rfl, hdi⟩
              · exact ⟨.inr h.1, h.2⟩
            · rintro ⟨rfl | h, hd⟩
              · exact .inl rfl
              · exact .inr ⟨h, hd⟩
          · refine hst.subAny (fun d T hT' => ?_)
            rw [get_append] at hT'
            rw [get_append, hsame]
            cases hgd : Env.get Γd' d with
            | some U => rw [hgd] at hT'; exact .inr ⟨T, hT', Ty.le.refl T⟩
            | none =>
              rw [hgd] at hT'
              simp only [envL, put_get, ho, Option.bind_some, List.getElem?_eq_getElem hΦi, Option.map_some, Option.getD_some, hΦany] at hT'
              rw [hΓx]
              by_cases e : ops[i].dst = some d
              · rw [if_pos e] at hT'
                exact .inl (by simpa using hT'.symm)
              · rw [if_neg e] at hT'
                exact .inr ⟨T, by simpa using hT', Ty.le.refl T⟩
      | false =>
        obtain ⟨g1, g2, g3, g4⟩ := hTi.2 hdi
        have notd : ∀ d, (∀ j p, ops.toList[j]? = some p → p.dst = some d → isD j = false) → Env.get Γd d = none := fun d hall => by
          cases e : Env.get Γd d with
          | none => rfl
          | some T =>
            obtain ⟨j, o, h1, h2, h3⟩ := hdd s Γd Δ d T hinv e
            rw [hall j o h2 h3] at h1; cases h1
        have look : ∀ d T, (d ∈ tmpsOf ops[i] ∨ d ∈ guardSlot ops.toList ops[i]) → Env.get (envs Γ ops.toList Φ i) d = some T → Env.get (Γd ++ envL Γ ops.toList Φ L) d = some T := by
          intro d T hsl hT'
          rw [get_append, notd d (fun j p hp hpd => (hok.reads i _ d j p hdi ho hp hsl hpd).1)]
          have := same L i d T hL hT' (fun j p _ hp hpd => hbits j (hok.reads i _ d j p hdi ho hp hsl hpd).2.2) (fun j p hp hpd _ => (hok.reads i _ d j p hdi ho hp hsl hpd).2.1)
          rw [this]; rfl
        have hwant : Region.wanted ops[i] (yielded ops a.tmps) = Φ[i].2 := by
          cases hg : ops[i].guard with
          | none =>
            refine g1.eq (m := m) (fun j want d T hj => ?_)
            rw [hg] at hj; cases hj
          | some p =>
            obtain ⟨jg, want⟩ := p
            have g1' := g1
            unfold Wanted at g1'
            simp only [hg] at g1'
            obtain ⟨d, t, q1, q2, _⟩ := g1'
            have hsl : d ∈ guardSlot ops.toList ops[i] := by
              unfold guardSlot
              simp only [hg]
              rw [Array.getElem?_toList, q1]; simp
            have hty := hs.ty d _ (look d _ (.inr hsl) q2)
            refine g1.eq (m := m) (fun j' want' d' T hj hd hT' => ?_)
            rw [hg] at hj; cases hj
            rw [q1] at hd; cases hd
            rw [q2] at hT'; cases hT'
            exact hty
        have hnext : ∀ (T : Ty) (v : Value) (m' : GH) (w' : World), Φ[i].1 = T → Ext [] m w m' w' → Sat w' m' → T.p m' v → wpAnyIn (FW F.r) 1 F.C.P .any ops Q fuel (listed.setIfInBounds i true) (a.put ops[i].dst v) w' := by
          intro T v m' w' hTe hx hs' hTp
          refine ih (listed.setIfInBounds i true) (i :: L) s Γd Δ m' w' _ (by simpa using hsz) (by simp; omega) (List.nodup_cons.2 ⟨hiL, hnd⟩) hL' hl' hcl' (fun j => ?_) hinv ?_
          · rw [List.mem_cons, hsD j]
            constructor
            · rintro ⟨h, hd⟩; exact ⟨.inr h, hd⟩
            · rintro ⟨rfl | h, hd⟩
              · rw [hdi] at hd; cases hd
              · exact ⟨h, hd⟩
          · refine (hs.step hx hs' hTp g2).subAny (fun d U hU => .inr ⟨U, ?_, Ty.le.refl U⟩)
            rw [get_append] at hU
            simp only [envL, put_get, ho, Option.bind_some, List.getElem?_eq_getElem hΦi, Option.map_some, Option.getD_some, hTe] at hU
            rw [put_get, get_append]
            by_cases e : ops[i].dst = some d
            · rw [if_pos e]
              rw [if_pos e, notd d (fun j p hp hpd => by have := hok.dsts i j ops[i] p d ho hp e hpd; rw [← this]; exact hdi)] at hU
              exact hU
            · rw [if_neg e]; rw [if_neg e] at hU; exact hU
        unfold wpOpIn
        rw [Array.getElem?_eq_getElem hilt]
        dsimp only
        rw [hwant]
        cases hb : Φ[i].2 with
        | true =>
          rw [if_pos rfl]
          refine Gives.wpIn (g3 hb s Γd Δ hinv m w a hs.sat hs.g hs.own hs.apart ?_) (fun v m' w' hx hs' hTp => hnext _ v m' w' rfl hx hs' hTp)
          intro d hsm T hT'
          exact hs.ty d T (look d T (.inl (List.mem_filterMap.2 ⟨.tmp d, hsm, rfl⟩)) hT')
        | false =>
          rw [if_neg (by simp)]
          exact ⟨fun f _ => FW_fn _ f, hnext (Ty.val undef) undef m w (g4 hb) (Ext.refl _ _ _) hs.sat rfl⟩

def bitOf (ops : Array Oper) (i j : Nat) : Bool := ((befs ops.toList []).getD i 0).testBit j
/-- The slots that the operations of D yield to. -/
def dsts (ops : List Oper) (isD : Nat → Bool) : List Nat := ops.zipIdx.filterMap fun (o, i) => if isD i then o.dst else none
theorem dsts_spec {ops : List Oper} {isD : Nat → Bool} {d : Nat} (h : d ∈ dsts ops isD) : ∃ j o, isD j = true ∧ ops[j]? = some o ∧ o.dst = some d := by
  unfold dsts at h
  obtain ⟨⟨o, j⟩, h1, h2⟩ := List.mem_filterMap.1 h
  dsimp only at h2
  split at h2
  · rw [List.mem_zipIdx_iff_getElem?] at h1; exact ⟨j, o, by assumption, h1, h2⟩
  · cases h2
theorem JS_drawD {id : Nat} {cs : List Code} {Δ : List Res} (isD : Nat → Bool) (inv : List Nat → Env → List Res → Prop) (need : Nat → Env) (hm : F.C.P.follows .mixedOrders = true) (hok : okDrawD ops.toList isD = true)
    (hA : TLD F.C F.N ops isD inv 0 Γ ops.toList Γ') (h0 : inv [] [] Δ) (hdd : ∀ s Γd Δ d T, inv s Γd Δ → Env.get Γd d = some T → d ∈ dsts ops.toList isD)
    (hneed : ∀ i, isD i = true → i < ops.size → EnvSub Γ' (need i) ∧ (∀ s T, Env.get (need i) s = some T → Env.get Γ' s = some T) ∧ needOk ops.toList isD i ((need i).map (·.1)) = true)
    (hD : ∀ (Q1 : Post) (cs1 : List Code) i o s Γd Δ Γx, isD i = true → ops.toList[i]? = some o → i ∉ s → (∀ j, isD j = true → bitOf ops i j = true → j ∈ s) → inv s Γd Δ →
      (∀ Γd' Δ', inv (i :: s) Γd' Δ' → JS F Q1 (Γd' ++ (need i ++ Γx)) Δ' cs1) → JT F Q1 cs1 ops (Γd ++ (need i ++ Γx)) Δ [o])
    (hK : ∀ s Γd Δ, inv s Γd Δ → (∀ j, j < ops.size → isD j = true → j ∈ s) → JS F Q (Γd ++ Γ') Δ cs) : JS F Q Γ Δ (.region id ops true :: cs) := by
  intro m w a hs
  refine wpIn_region_any hm ?_
  have hok' := okDrawD_spec hok
  obtain ⟨Φ, h1, h2, h3⟩ := hA.asg
  have hsz : ops.toList.length = ops.size := by simp
  rw [hsz] at h2
  have need0 : ∀ i s T, isD i = true → i < ops.size → Env.get (need i) s = some T → Env.get Γ' s = some T := fun i s T h h' => (hneed i h h').2.1 s T
  refine draw_any (isD := isD) (inv := inv) (Φ := Φ) (Γ := Γ) hok' (by rw [h1, hsz]) (fun i => if isD i = true ∧ i < ops.size then need i else []) (fun i o T ho hT => by have := h3 i o T ho hT; rwa [Nat.zero_add] at this)
    (fun s Γd Δ d T hi hT => dsts_spec (hdd s Γd Δ d T hi hT)) (fun i d T hT => ?_) (fun i o d T hi ho hT j p hp hpd => ?_) (fun Q1 cs1 i o s Γd Δ Γx hi ho hn hb hinv hk => ?_) (fun s Γd Δ m w a hinv hall hst => ?_)
    ops.size (Array.replicate ops.size false) [] [] [] Δ m _ a (by simp) (by simp) (by simp) (by simp) (fun j hj => ?_) (by simp) (by simp) h0 (by exact hs.draw _)
  · split at hT
    · rename_i h; rw [← h2]; exact need0 i d T h.1 h.2 hT
    · simp [Env.get] at hT
  · have hlt : i < ops.size := by have := (List.getElem?_eq_some_iff.1 ho).1; simpa using this
    rw [if_pos ⟨hi, hlt⟩] at hT
    have hno := (hneed i hi hlt).2.2
    unfold needOk at hno
    rw [List.all_eq_true] at hno
    have hmem : d ∈ (need i).map (·.1) := by
      have : ∀ (Γ : Env), Env.get Γ d = some T → d ∈ Γ.map (·.1) := by
        intro Γ
        induction Γ with
        | nil => intro h; simp [Env.get] at h
        | cons x Γ ih =>
          obtain ⟨k, U⟩ := x
          intro h
          rw [Env.get_cons] at h
          by_cases e : k = d
          · simp [e]
          · rw [if_neg e] at h; simp [ih h]
      exact this _ hT
    have := hno d hmem
    rw [List.all_eq_true] at this
    have := this _ (mem_zipIdx' hp)
    simp [hpd] at this
    exact this
  · have hlt : i < ops.size := by have := (List.getElem?_eq_some_iff.1 ho).1; simpa using this
    have e : (if isD i = true ∧ i < ops.size then need i else []) = need i := if_pos ⟨hi, hlt⟩
    simp only [e] at hk ⊢
    exact hD Q1 cs1 i o s Γd Δ Γx hi ho hn hb hinv hk
  · rw [← h2] at hst
    exact hK s Γd Δ hinv hall m w a hst
  · rw [Array.getD_eq_getD_getElem?, Array.getElem?_replicate]; simp [hj]
theorem pick_get (Γ : Env) : ∀ (ss : List Nat) (s : Nat) (T : Ty), Env.get (pick Γ ss) s = some T → s ∈ ss ∧ Env.get Γ s = some T
  | [], s, T, h => by simp [pick, Env.get] at h
  | x :: ss, s, T, h => by
    unfold pick at h
    cases e : Env.get Γ x with
    | none =>
      rw [e] at h
      have := pick_get Γ ss s T h
      exact ⟨List.mem_cons_of_mem _ this.1, this.2⟩
    | some U =>
      rw [e] at h
      simp only [Env.get_cons] at h
      by_cases e2 : x = s
      · rw [if_pos e2] at h; cases h; subst e2; exact ⟨by simp, e⟩
      · rw [if_neg e2] at h
        have := pick_get Γ ss s T h
        exact ⟨List.mem_cons_of_mem _ this.1, this.2⟩
theorem pick_keys (Γ : Env) : ∀ (ss : List Nat), ∀ s ∈ (pick Γ ss).map (·.1), s ∈ ss
  | [], s, h => by simp [pick] at h
  | x :: ss, s, h => by
    unfold pick at h
    cases e : Env.get Γ x with
    | none => rw [e] at h; exact List.mem_cons_of_mem _ (pick_keys Γ ss s h)
    | some U =>
      rw [e] at h
      simp only [List.map_cons] at h
      rcases List.mem_cons.1 h with h | h
      · rw [h]; exact List.mem_cons_self
      · exact List.mem_cons_of_mem _ (pick_keys Γ ss s h)
theorem JS_drawP {id : Nat} {cs : List Code} {Δ : List Res} (D : List Nat) (inv : List Res → List Nat → Env → List Res → Prop) (slots : Nat → List Nat) (hm : F.C.P.follows .mixedOrders = true) (hok : okDrawD ops.toList (fun i => D.elem i) = true)
    (hA : TLD F.C F.N ops (fun i => D.elem i) (inv Δ) 0 Γ ops.toList Γ') (h0 : inv Δ [] [] Δ) (hdd : ∀ s Γd Δ', inv Δ s Γd Δ' → (Γd.all fun x => (dsts ops.toList (fun i => D.elem i)).elem x.1) = true)
    (hno : (D.all fun i => needOk ops.toList (fun i => D.elem i) i (slots i)) = true)
    (hD : ∀ (Q1 : Post) (cs1 : List Code) i o s Γd Δ' Γx, i ∈ D → ops.toList[i]? = some o → i ∉ s → (∀ j, D.elem j = true → bitOf ops i j = true → j ∈ s) → inv Δ s Γd Δ' →
      (∀ Γd' Δ'', inv Δ (i :: s) Γd' Δ'' → JS F Q1 (Γd' ++ (pick Γ' (slots i) ++ Γx)) Δ'' cs1) → JT F Q1 cs1 ops (Γd ++ (pick Γ' (slots i) ++ Γx)) Δ' [o])
    (hK : ∀ s Γd Δ', inv Δ s Γd Δ' → (∀ j, j < ops.size → D.elem j = true → j ∈ s) → JS F Q (Γd ++ Γ') Δ' cs) : JS F Q Γ Δ (.region id ops true :: cs) := by
  refine JS_drawD (fun i => D.elem i) (inv Δ) (fun i => pick Γ' (slots i)) hm hok hA h0 (fun s Γd Δ' d T hi hT => ?_) (fun i hi hlt => ⟨pick_sub Γ' _, fun s T h => (pick_get Γ' _ s T h).2, ?_⟩) (fun Q1 cs1 i o s Γd Δ' Γx hi => hD Q1 cs1 i o s Γd Δ' Γx (by simpa using hi)) hK
  · have h := hdd s Γd Δ' hi
    have : ∀ (Γ : Env), Env.get Γ d = some T → ∃ x ∈ Γ, x.1 = d := by
      intro Γ
      induction Γ with
      | nil => intro h; simp [Env.get] at h
      | cons x Γ ih =>
        obtain ⟨k, U⟩ := x
        intro h
        rw [Env.get_cons] at h
        by_cases e : k = d
        · exact ⟨(k, U), by simp, e⟩
        · rw [if_neg e] at h
          obtain ⟨x, h1, h2⟩ := ih h
          exact ⟨x, List.mem_cons_of_mem _ h1, h2⟩
    obtain ⟨x, h1, h2⟩ := this Γd hT
    have := List.all_eq_true.1 h x h1
    rw [h2] at this; simpa using this
  · have := List.all_eq_true.1 hno i (by simpa using hi)
    unfold needOk at this ⊢
    rw [List.all_eq_true] at this ⊢
    intro s hs
    exact this s (pick_keys Γ' _ s hs)
/-- The typing of the operations that change no block; what is asked of the frame behind it comes last. -/
def TD (C : Ctx) (N : Nat) (ops : Array Oper) (isD : Nat → Bool) (inv : List Nat → Env → List Res → Prop) (i : Nat) (Γ : Env) (l : List Oper) (K : Env → Prop) : Prop := ∃ Γ', TLD C N ops isD inv i Γ l Γ' ∧ K Γ'
section td
variable {C : Ctx} {N : Nat} {iv : List Nat → Env → List Res → Prop} {i : Nat} {o : Oper} {T : Ty} {rest : List Oper} {K : Env → Prop}
theorem dOp (ht : ∀ s Γd Δ, iv s Γd Δ → TOp C Δ Γ o T) (hi : isD i = false) (hw : Wanted Γ ops o true) (hd : dstOk N o.dst = true) (h : TD C N ops isD iv (i + 1) (Env.put Γ o.dst T) rest K) : TD C N ops isD iv i Γ (o :: rest) K := by
  obtain ⟨G, h1, h2⟩ := h
  exact ⟨G, .op hi hw hd ht h1, h2⟩
theorem dOpA (ht : ∀ Δ, TOp C Δ Γ o T) (hi : isD i = false) (hw : Wanted Γ ops o true) (hd : dstOk N o.dst = true) (h : TD C N ops isD iv (i + 1) (Env.put Γ o.dst T) rest K) : TD C N ops isD iv i Γ (o :: rest) K := dOp (fun _ _ Δ _ => ht Δ) hi hw hd h
theorem dSkip (hi : isD i = false) (hw : Wanted Γ ops o false) (hd : dstOk N o.dst = true) (h : TD C N ops isD iv (i + 1) (Env.put Γ o.dst (Ty.val undef)) rest K) : TD C N ops isD iv i Γ (o :: rest) K := by
  obtain ⟨G, h1, h2⟩ := h
  exact ⟨G, .skip hi hw hd h1, h2⟩
theorem dDyn (hi : isD i = true) (h : TD C N ops isD iv (i + 1) (Env.put Γ o.dst Ty.any) rest K) : TD C N ops isD iv i Γ (o :: rest) K := by
  obtain ⟨G, h1, h2⟩ := h
  exact ⟨G, .dyn hi h1, h2⟩
theorem dEnd (h : K Γ) : TD C N ops isD iv i Γ [] K := ⟨Γ, .nil _ _, h⟩
end td
theorem JS_drawT {id : Nat} {cs : List Code} {Δ : List Res} (D : List Nat) (inv : List Res → List Nat → Env → List Res → Prop) (slots : Nat → List Nat) (hm : F.C.P.follows .mixedOrders = true) (hok : okDrawD ops.toList (fun i => D.elem i) = true)
    (hno : (D.all fun i => needOk ops.toList (fun i => D.elem i) i (slots i)) = true) (h0 : inv Δ [] [] Δ) (hdd : ∀ s Γd Δ', inv Δ s Γd Δ' → (Γd.all fun x => (dsts ops.toList (fun i => D.elem i)).elem x.1) = true)
    (h : TD F.C F.N ops (fun i => D.elem i) (inv Δ) 0 Γ ops.toList (fun Γ' =>
      (∀ (Q1 : Post) (cs1 : List Code) i o s Γd Δ' Γx, i ∈ D → ops.toList[i]? = some o → i ∉ s → (∀ j, D.elem j = true → bitOf ops i j = true → j ∈ s) → inv Δ s Γd Δ' →
        (∀ Γd' Δ'', inv Δ (i :: s) Γd' Δ'' → JS F Q1 (Γd' ++ (pick Γ' (slots i) ++ Γx)) Δ'' cs1) → JT F Q1 cs1 ops (Γd ++ (pick Γ' (slots i) ++ Γx)) Δ' [o]) ∧
      (∀ s Γd Δ', inv Δ s Γd Δ' → (∀ j, j < ops.size → D.elem j = true → j ∈ s) → JS F Q (Γd ++ Γ') Δ' cs))) : JS F Q Γ Δ (.region id ops true :: cs) := by
  obtain ⟨G, h1, h2, h3⟩ := h
  exact JS_drawP D inv slots hm hok h1 h0 hdd hno h2 h3
end draw
end Go.Proofs.YtknflgfkhkdomaaGreatDoor.Mono

/-! WkD -/
set_option linter.unusedVariables false
set_option linter.unusedSimpArgs false
set_option maxRecDepth 4000
set_option maxHeartbeats 4000000
namespace Go.Proofs.YtknflgfkhkdomaaGreatDoor.Mono
open Go Go.RowKit

theorem it146 {l : List Int} : ∀ (m : GH) (lb : Array Value), TyAll m [Ty.place (Seg.of (Kd.slice (Kd.int .u32)) l)] lb.toList → IterOk CC 146 lb l.length (fun k => [Ty.val (.int .i64 ((l.length : Int) - 1 - k)), Ty.val (.int .u32 (l.getD (l.length - 1 - k) 0))]) m := by
  refine iter_of_JS Tryz.func146 rfl (Nat.le_of_ble_eq_true rfl) (fun lp X ΔJ good bad x0 gh0 wd0 hY hg0 => ?_)
  refine JS_bound_pl (s := 1) rfl (fun b1 => ?_)
  unfold maxLen at b1
  refine JS_seq ?_
  -- region 0
  refine sR ?_
  refine kO (T_ld rfl rfl ti81) rfl ?_
  refine kO (T_len_slice rfl rfl u81 rfl) rfl ?_
  refine kO (T_subI rfl rfl rfl (wrap_i64 (by omega) (by omega))) rfl ?_
  refine kA rfl rfl ?_
  refine kE ?_
  refine JS_block ?_
  refine sLoopD2 (fun (k : Nat) (x : X) => [(3, Ty.val (.int .i64 ((l.length : Int) - 1 - k)))]) [0, 1] (fun (k : Nat) (x : X) => ΔJ x) (fun (k : Nat) (x : X) => k ≤ l.length ∧ good k x) (fun (k : Nat) (x : X) => l.length - k) 0 x0 (⟨Nat.zero_le _, hg0⟩) rfl (EnvSub.consLe rfl (int_eq (by omega)) (EnvSub.nil _)) (fun k x (hI : k ≤ l.length ∧ good k x) => ?_)
  refine JS_seq ?_
  refine JS_seq ?_
  -- region 1
  refine sR ?_
  refine kM rfl rfl ?_
  refine kO (T_ge rfl rfl rfl) rfl ?_
  refine kE ?_
  refine JS_if rfl (fun c8 => ?_) (fun c8 => ?_)
  · refine JS_skip ?_
    refine JS_seq ?_
    refine JS_block ?_
    refine JS_seq ?_
    -- region 3
    refine sR ?_
    refine kM rfl rfl ?_
    refine kM rfl rfl ?_
    refine kO (T_ld rfl rfl ti81) rfl ?_
    refine kM rfl rfl ?_
    refine kO (T_ix rfl rfl rfl u81 ti126 (by omega) (by omega) (getD_at (l.length - 1 - k) (by omega) _)) rfl ?_
    refine kO (T_load_int rfl ti126 rfl) rfl ?_
    refine kT ?_
    refine JT_yieldR [] k x rfl rfl rfl rfl hY (by omega) (oa (ol rfl (Ty.le.refl _)) (oa (ol rfl (Ty.le.refl _)) oa0)) hI.2 rfl (fun x1 hx1 => ?_) (fun x2 hx2 => ?_)
    · refine jO (T_not rfl rfl) rfl ?_
      refine JT_done ?_
      refine JS_cf rfl ?_
      refine JS_skip ?_
      refine JS_end_inB ?_
      -- region 2
      refine sR ?_
      refine kM rfl rfl ?_
      refine kO (T_subI rfl rfl rfl (wrap_i64 (by omega) (by omega))) rfl ?_
      refine kA rfl rfl ?_
      refine kE ?_
      exact JS_round ((k + 1), x1) (by try dsimp only; exact (⟨by omega, hx1⟩)) (by try dsimp only; exact ((by omega))) rfl (EnvSub.consLe rfl (int_eq (by omega)) (EnvSub.pick1 rfl (EnvSub.pick1 rfl (EnvSub.nil _))))
    · refine jO (T_not rfl rfl) rfl ?_
      refine JT_done ?_
      refine JS_ct rfl ?_
      exact JS_ret (JE_inB_ret (JE_loop_ret (JE_inB_ret (JE_iter x2 (.inr hx2) rfl rfl rfl rfl rfl))))
  · refine JS_exit (JE_loop_exit (JE_inB_here ?_))
    exact JS_nil (JE_normal (JE_iter x (.inl (by obtain rfl : k = l.length := (by omega); exact hI.2)) rfl rfl rfl rfl rfl))

theorem en146 : Enters Tryz.prog 146 := enters_fn Tryz.func146 (by kernel_rfl) rfl

theorem w129 {l : List Int} : Spec CC 129 [Ty.of (Kd.slice (Kd.int .u32)) l] (Ty.iter CC l.length (fun k => [Ty.val (.int .i64 ((l.length : Int) - 1 - k)), Ty.val (.int .u32 (l.getD (l.length - 1 - k) 0))])) := by
  refine spec_of_JS Tryz.func129 rfl (Nat.le_of_ble_eq_true rfl) (fun gh0 wd0 => ?_)
  refine JS_bound (s := 0) rfl (fun b0 => ?_)
  unfold maxLen at b0
  refine JS_seq ?_
  -- region 0
  refine sR ?_
  refine kO (T_box rfl (ol rfl (Ty.le.refl _))) rfl ?_
  refine kA rfl rfl ?_
  refine kE ?_
  refine JS_seq ?_
  -- region 1
  refine sR ?_
  refine kO (T_iter rfl en146 (it146 ) (oa (ol rfl (Ty.le.refl _)) oa0)) rfl ?_
  refine kA rfl rfl ?_
  refine kE ?_
  exact JS_ret (JE_ret_one rfl rfl (.tmp rfl .nil) (Ty.le.refl _))

theorem lval_le1 {l : List Int} {k : Nat} (hok : LOk l) (hk : k ≤ 1) : lval (l.drop (l.length - k)) < 1000000000 := by
  have h := lval_lt (hok.drop (l.length - k))
  refine Nat.lt_of_lt_of_le h ?_
  have : (l.drop (l.length - k)).length ≤ 1 := by rw [List.length_drop]; omega
  exact Nat.le_trans (Nat.pow_le_pow_right (by decide) this) (by decide)

theorem z32 : ZeroOf Tryz.prog 32 (.int .u64 (0)) := by unfold ZeroOf; kernel_rfl

theorem sz32 : (Tryz.prog.info? 32).map (·.size) = some 1 := by kernel_rfl

theorem en129 : Enters Tryz.prog 129 := enters_fn Tryz.func129 (by kernel_rfl) rfl

theorem ti32 : TI Tryz.prog 32 false 1 := ⟨by kernel_rfl, by kernel_rfl⟩

theorem w98 {l : List Int} (hok : LOk l) (hl : l.length ≤ 2) : Spec CC 98 [Ty.of (Kd.slice (Kd.int .u32)) l] (Ty.val (.int .u64 (lval l))) := by
  refine spec_of_JSM Tryz.func98 rfl (Nat.le_of_ble_eq_true rfl) (fun gh0 wd0 => ?_)
  refine JS_bound (s := 0) rfl (fun b0 => ?_)
  unfold maxLen at b0
  refine JS_seq ?_
  -- region 0
  refine sR ?_
  refine kA rfl rfl ?_
  refine kE ?_
  refine JS_seq ?_
  -- region 1
  refine sR ?_
  refine kT ?_
  refine JT_alloc (S0 := Seg.of (Kd.int .u64) 0) rfl rfl rfl rfl z32 (fun _ => rfl) (fun g3 => ?_)
  refine JT_store (i := 0) rfl rfl rfl rfl rfl (ol rfl (val_int _ _)) (Upd.self _ _ rfl) sz32 ?_
  refine JT_done ?_
  refine JS_seq ?_
  refine JS_seq ?_
  -- region 2
  refine sR ?_
  refine kM rfl rfl ?_
  refine kO (T_callL rfl en129 (w129 ) (oa (ol rfl (Ty.le.refl _)) oa0)) rfl ?_
  refine kE ?_
  refine JS_block ?_
  refine JS_rf1 (fun (j : Nat) => [(0, Res.box g3 32 (Seg.of (Kd.int .u64) (lval (l.drop (l.length - j)))))]) (fun (k : Nat) (j : Nat) => j = k) (fun (c : Code) (j : Nat) => False) 0 rfl rfl (fun _ => rfl) rfl (rfl) (by rw [show l.drop (l.length - 0) = [] by simp]; rfl) (fun k j gh1 wd1 lq rq hk (hI : j = k) hrd hgh => ?_) (fun j mk hD => ?_) (fun c j mk hS => ?_)
  · obtain rfl := hI
    have hst := lval_drop_step hok hk
    have hb := lval_le1 (k := j) hok (by omega)
    have gx := hok.get (l.length - 1 - j)
    -- region 3
    refine sR ?_
    refine kA rfl rfl ?_
    refine kE ?_
    refine JS_begin (i := 0) rfl hrd ?_
    refine JS_block ?_
    -- region 4
    refine sR ?_
    refine kO (T_load_own_int (i := 1) rfl rfl rfl (Sub.self _) ti32) rfl ?_
    refine kO (T_mul rfl rfl rfl (wrap_u64 (by omega) (by omega))) rfl ?_
    refine kM rfl rfl ?_
    refine kO (T_conv rfl u126 u32 rfl (wrap_u64 (by omega) (by omega))) rfl ?_
    refine kO (T_add rfl rfl rfl (wrap_u64 (by omega) (by omega))) rfl ?_
    refine kT ?_
    refine JT_store (i := 1) rfl rfl rfl rfl rfl (ol rfl (val_int _ _)) (Upd.self _ _ rfl) sz32 ?_
    refine JT_done ?_
    refine JS_end_inB ?_
    exact JS_roundEnd (j + 1) (rfl) (by rw [hst]; rfl)
  · skip
    obtain rfl : j = l.length := hD
    refine JS_end_inBD ?_
    refine JS_seq ?_
    -- region 5
    refine sR ?_
    refine kO (T_load_own_int (i := 1) rfl rfl rfl (Sub.self _) ti32) rfl ?_
    refine kA rfl rfl ?_
    refine kE ?_
    exact JS_ret (JE_unmark (i := 0) rfl (JE_unmarked (JE_ret_one rfl rfl (.tmp rfl .nil) ((int_eq (by simp))))))
  · exact hS.elim

theorem z81 : ZeroOf Tryz.prog 81 (.slice none 0 0) := by unfold ZeroOf; kernel_rfl

theorem sz81 : (Tryz.prog.info? 81).map (·.size) = some 1 := by kernel_rfl

theorem w125 {l : List Int} {y : Int} (hok : LOk l) (hy : 0 < y ∧ y < 1000000000) (hl : l.length ≤ 4000000) : Spec CC 125 [Ty.of (Kd.slice (Kd.int .u32)) l, Ty.val (.int .u32 y)] (Ty.tup [Ty.of (Kd.slice (Kd.int .u32)) (shK l y l.length).1, Ty.val (.int .u32 (shK l y l.length).2)]) := by
  refine spec_of_JSM Tryz.func125 rfl (Nat.le_of_ble_eq_true rfl) (fun gh0 wd0 => ?_)
  refine JS_bound (s := 0) rfl (fun b0 => ?_)
  unfold maxLen at b0
  refine JS_seq ?_
  -- region 0
  refine sR ?_
  refine kO (T_box rfl (ol rfl (val_int _ _))) rfl ?_
  refine kA rfl rfl ?_
  refine kA rfl rfl ?_
  refine kE ?_
  refine JS_seq ?_
  -- region 1
  refine sR ?_
  refine kM rfl rfl ?_
  refine kO (T_len_slice rfl rfl u81 rfl) rfl ?_
  refine kT ?_
  refine JT_make (K := (Kd.int .u32)) (z0 := 0) rfl rfl rfl rfl u81 ei126 rfl (by decide) (fun _ => rfl) rfl rfl (by omega) (by omega) (by omega) (by omega) (fun v13 => ?_)
  refine JT_alloc (S0 := Seg.of (Kd.slice (Kd.int .u32)) []) rfl rfl rfl rfl z81 (z_slice _) (fun g6 => ?_)
  refine JT_one (i := 1) rfl (fun ov13 => ?_)
  refine JT_store (i := 0) rfl rfl rfl rfl rfl (ol rfl (to_kval ov13)) (Upd.self _ _ rfl) sz81 ?_
  refine JT_done ?_
  refine JS_seq ?_
  -- region 2
  refine sR ?_
  refine kT ?_
  refine JT_alloc (S0 := Seg.of (Kd.int .u64) 0) rfl rfl rfl rfl z32 (fun _ => rfl) (fun g7 => ?_)
  refine JT_store (i := 0) rfl rfl rfl rfl rfl (ol rfl (val_int _ _)) (Upd.self _ _ rfl) sz32 ?_
  refine JT_done ?_
  refine JS_seq ?_
  refine JS_seq ?_
  -- region 3
  refine sR ?_
  refine kM rfl rfl ?_
  refine kO (T_callL rfl en129 (w129 ) (oa (ol rfl (Ty.le.refl _)) oa0)) rfl ?_
  refine kE ?_
  refine JS_block ?_
  refine JS_rf1 (fun (j : Nat) => [(2, Res.sl v13 126 (Kd.int .u32) (shK l y j).1), (0, Res.box g7 32 (Seg.of (Kd.int .u64) (shK l y j).2))]) (fun (k : Nat) (j : Nat) => j = k) (fun (c : Code) (j : Nat) => False) 0 rfl rfl (fun _ => rfl) rfl (rfl) rfl (fun k j gh1 wd1 lq rq hk (hI : j = k) hrd hgh => ?_) (fun j mk hD => ?_) (fun c j mk hS => ?_)
  · obtain rfl := hI
    obtain ⟨h1, h2, h3, _, _⟩ := shK_law hok hy j (by omega)
    have gx := hok.get (l.length - 1 - j)
    have hlen := shK_len l y j
    have hb := div_bd hy ⟨h2, h3⟩ gx
    refine JS_seq ?_
    -- region 4
    refine sR ?_
    refine kA rfl rfl ?_
    refine kE ?_
    -- region 5
    refine sR ?_
    refine kA rfl rfl ?_
    refine kE ?_
    refine JS_begin (i := 0) rfl hrd ?_
    refine JS_block ?_
    refine JS_seq ?_
    -- region 6
    refine sR ?_
    refine kO (T_load_own_int (i := 1) rfl rfl rfl (Sub.self _) ti32) rfl ?_
    refine kO (T_mul rfl rfl rfl (wrap_u64 (by omega) (by omega))) rfl ?_
    refine kM rfl rfl ?_
    refine kO (T_conv rfl u126 u32 rfl (wrap_u64 (by omega) (by omega))) rfl ?_
    refine kO (T_add rfl rfl rfl (wrap_u64 (by omega) (by omega))) rfl ?_
    refine kA rfl rfl ?_
    refine kE ?_
    -- region 7
    refine JS_drawT [12, 13] (fun (Δ0 : List Res) (sd : List Nat) (Γd : Env) (Δ1 : List Res) => (sd = [] ∧ Γd = [] ∧ Δ1 = Δ0) ∨ (sd = [12] ∧ Γd = [] ∧ Δ1 = Δ0.set 3 (Res.sl v13 126 (Kd.int .u32) ((shK l y j).1.set ((l.length : Int) - 1 - (j : Int)).toNat (((shK l y j).2 * 1000000000 + l.getD (l.length - 1 - j) 0) / y)))) ∨ (sd = [13, 12] ∧ Γd = [] ∧ Δ1 = (Δ0.set 3 (Res.sl v13 126 (Kd.int .u32) ((shK l y j).1.set ((l.length : Int) - 1 - (j : Int)).toNat (((shK l y j).2 * 1000000000 + l.getD (l.length - 1 - j) 0) / y)))).set 1 (Res.box g7 32 (Seg.of (Kd.int .u64) (((shK l y j).2 * 1000000000 + l.getD (l.length - 1 - j) 0) % y))))) (fun i => if i = 12 then [29, 34] else if i = 13 then [7, 33] else []) mixed (by decide) (by decide) (.inl ⟨rfl, rfl, rfl⟩) (fun sd Γd Δ1 hs => by rcases hs with ⟨rfl, rfl, rfl⟩ | ⟨rfl, rfl, rfl⟩ | ⟨rfl, rfl, rfl⟩ <;> rfl) ?_
    refine dOp (T := Ty.val v13) (fun sd Γd Δ1 hs => by rcases hs with ⟨rfl, rfl, rfl⟩ | ⟨rfl, rfl, rfl⟩ | ⟨rfl, rfl, rfl⟩ <;> exact (T_load_own_val (i := 2) rfl rfl rfl (Sub.self _) ti81)) rfl rfl rfl ?_
    refine dOpA (fun _ => T_move (.inl rfl) rfl) rfl rfl rfl ?_
    refine dOpA (fun _ => T_move (.inl rfl) rfl) rfl rfl rfl ?_
    refine dOpA (fun _ => T_load_int rfl ti126 rfl) rfl rfl rfl ?_
    refine dOpA (fun _ => T_conv rfl u126 u32 rfl (wrap_u64 (by omega) (by omega))) rfl rfl rfl ?_
    refine dOpA (fun _ => T_quo rfl rfl rfl (by omega) (quo_u64 (by omega) (by omega) (by omega))) rfl rfl rfl ?_
    refine dOpA (fun _ => T_conv rfl u32 u126 rfl (wrap_u32 (by omega) (by omega))) rfl rfl rfl ?_
    refine dOpA (fun _ => T_move (.inl rfl) rfl) rfl rfl rfl ?_
    refine dOpA (fun _ => T_load_int rfl ti126 rfl) rfl rfl rfl ?_
    refine dOpA (fun _ => T_conv rfl u126 u32 rfl (wrap_u64 (by omega) (by omega))) rfl rfl rfl ?_
    refine dOpA (fun _ => T_rem rfl rfl rfl (by omega) (rem_nn (by omega))) rfl rfl rfl ?_
    refine dOp (T := Ty.val (eltPtr v13 (Kd.int .u32).sz ((l.length : Int) - 1 - (j : Int)).toNat)) (fun sd Γd Δ1 hs => by rcases hs with ⟨rfl, rfl, rfl⟩ | ⟨rfl, rfl, rfl⟩ | ⟨rfl, rfl, rfl⟩ <;> exact (T_ixo (ix := 3) (d := (Kd.int .u32)) rfl rfl rfl rfl u81 ti126 (by omega) (by first | omega | (simp only [List.length_set]; omega)))) rfl rfl rfl ?_
    refine dDyn rfl ?_
    refine dDyn rfl ?_
    refine dEnd ⟨?_, ?_⟩
    · intro Q1 cs1 i o sd Γd Δ1 Γx hi ho hn hb hinv hk
      simp only [List.mem_cons, List.not_mem_nil, or_false] at hi
      rcases hi with rfl | rfl
      · obtain rfl := Option.some.inj ho
        rcases hinv with ⟨rfl, rfl, rfl⟩ | ⟨rfl, rfl, rfl⟩ | ⟨rfl, rfl, rfl⟩
        · refine JT_store_elt (i := 3) rfl rfl rfl rfl rfl (by omega) (ol rfl (val_int _ _)) sz126 ?_
          exact JT_done (hk [] _ (.inr (.inl ⟨rfl, rfl, rfl⟩)))
        · exact absurd (by simp) hn
        · exact absurd (by simp) hn
      · obtain rfl := Option.some.inj ho
        rcases hinv with ⟨rfl, rfl, rfl⟩ | ⟨rfl, rfl, rfl⟩ | ⟨rfl, rfl, rfl⟩
        · exact absurd (hb 12 rfl (by decide)) (by simp)
        · refine JT_store (i := 1) rfl rfl rfl rfl rfl (ol rfl (val_int _ _)) (Upd.self _ _ rfl) sz32 ?_
          exact JT_done (hk [] _ (.inr (.inr ⟨rfl, rfl, rfl⟩)))
        · exact absurd (by simp) hn
    · intro sd Γd Δ1 hinv hall
      rcases hinv with ⟨rfl, rfl, rfl⟩ | ⟨rfl, rfl, rfl⟩ | ⟨rfl, rfl, rfl⟩
      · exact absurd (hall 12 (by decide) rfl) (by simp)
      · exact absurd (hall 13 (by decide) rfl) (by simp)
      · refine JS_end_inB ?_
        exact JS_roundEnd (j + 1) (rfl) (by have e : ((l.length : Int) - 1 - (j : Int)).toNat = l.length - 1 - j := (by omega); simp only [e]; rfl)
  · skip
    obtain rfl : j = l.length := hD
    obtain ⟨_, h2, h3, _, _⟩ := shK_law hok hy l.length (Nat.le_refl _)
    refine JS_end_inBD ?_
    refine JS_seq ?_
    -- region 8
    refine sRD mixed ?_
    refine kO (T_load_own_val (i := 2) rfl rfl rfl (Sub.self _) ti81) rfl ?_
    refine kO (T_load_own_int (i := 1) rfl rfl rfl (Sub.self _) ti32) rfl ?_
    refine kO (T_conv rfl u32 u126 rfl (wrap_u32 (by omega) (by omega))) rfl ?_
    refine kA rfl rfl ?_
    refine kA rfl rfl ?_
    refine kD (by decide) ?_
    refine JS_freeze_sl (i := 3) (s := 4) rfl rfl ?_
    exact JS_ret (JE_unmark (i := 0) rfl (JE_unmarked (JE_ret_many rfl (by decide) (.le (.tmp rfl (.le (.tmp rfl .nil) (int_eq (rfl)))) (of_eq (rfl))))))
  · exact hS.elim

end Go.Proofs.YtknflgfkhkdomaaGreatDoor.Mono

/-! MonoE -/
set_option linter.unusedVariables false
set_option linter.unusedSimpArgs false
namespace Go.Proofs.YtknflgfkhkdomaaGreatDoor.Mono
open Go Go.RowKit

/-- A fresh slice of the callee's, taken for good. -/
theorem spec_of_own {C : Ctx} {f : FuncId} {ins : List Ty} {α : Type} {e : TypeId} {d : Kd α} {xs : List α} (h : SpecM C f ins [] (fun v : Value => Ty.val v) (fun v => [Res.sl v e d xs])) : Spec C f ins (Ty.of (Kd.slice d) xs) := fun m w args hs hg ht => by
  refine (h m w args hs hg ht ⟨by simp, by simp, by simp⟩).mono ?_
  rintro en w' ⟨v, m', rfl, h1, h2, y, h3, h4, h5⟩
  have hv : v = y := h3
  subst hv
  have hp := h4.own (Res.sl v e d xs) (by simp)
  cases hob : v.ownBlock with
  | none => exact ⟨v, m', rfl, h1, h2, ⟨[v], ⟨v, rfl, sl_slice (ob := default) hp (fun g hgg => by rw [hob] at hgg; cases hgg)⟩, rfl⟩⟩
  | some g =>
    have hfp : g ∈ (Res.sl v e d xs).fp := by simp [Res.sl, hob]
    have hlt := (Res.sl v e d xs).ex hp g hfp
    have hheap : w'.heap[g]? = some w'.heap[g] := Array.getElem?_eq_getElem hlt
    have hn : m' g = none := h4.apart _ (by simp) g hfp
    have hle := GH.lay_le (o := w'.heap[g]) hn
    have hge : w.heap.size ≤ g := by
      rcases h5 g (mem_fps.2 ⟨_, by simp, hfp⟩) with h | h
      · exact h
      · simp [fps] at h
    refine ⟨v, m'.lay g w'.heap[g], rfl, ⟨h1.le.trans hle, fun k hk hk0 => ?_, h1.size, h1.same, h1.os, h1.tape, h1.out⟩, fun k o hk => ?_, ⟨[v], ⟨v, rfl, sl_slice (ob := default) ((Res.sl v e d xs).up hle (fun _ _ => rfl) hp) (fun g' hgg => ?_)⟩, rfl⟩⟩
    · unfold GH.lay at hk
      by_cases e : k = g
      · subst e; exact .inl hge
      · rw [if_neg e] at hk; exact h1.new k hk hk0
    · unfold GH.lay at hk
      by_cases e : k = g
      · subst e; simp at hk; subst hk; exact hheap
      · rw [if_neg e] at hk; exact h2 k o hk
    · rw [hob] at hgg; cases hgg
      rw [GH.lay_same, hheap]

/-- A part of a slice, from an element on. -/
def subv (v : Value) (sz i : Nat) : Value :=
  match v with
  | .slice (some a) n c => .slice (some (a.add (i * sz))) (n - i) (c - i)
  | v => v

section rules
variable {F : Fr} {Q : Post} {Γ : Env} {Δ : List Res} {cs : List Code} {ops : Array Oper} {o : Oper} {l : List Oper} {C : Ctx}

theorem T_slo_l {t e e' : TypeId} {x y : Operand} {k : IntKind} {n : Int} {α : Type} {d : Kd α} {xs : List α} {v : Value} {ix : Nat} (ho : o.op = .slice t x (some y) none none) (hx : Opd Γ x (Ty.val v)) (hix : Δ[ix]? = some (Res.sl v e' d xs)) (hy : Opd Γ y (Ty.val (.int k n))) (hu : C.P.underlying t = some (.slice e)) (hti : TI C.P e d.agg d.sz) (h0 : 0 ≤ n) (hlt : n.toNat < xs.length) : TOp C Δ Γ o (Ty.val (subv v d.sz n.toNat)) := by
  intro m w ac hs _ hown _ htt
  have h1 : ac.eval x = v := hx.p htt (by simp [ho, Op.operands])
  have h2 : ac.eval y = .int k n := hy.p htt (by simp [ho, Op.operands])
  obtain ⟨cs, ⟨_, h3⟩, _⟩ := hown _ (List.mem_of_getElem? hix)
  rcases h3 with ⟨_, h3⟩ | ⟨g, cap, cur, rfl, _, _, hle, hmax, _⟩
  · omega
  · have hr := run_bounds (P := C.P) (w := w) (isS := true) (k := k) (k' := k) (n := xs.length) (cap := cap) (lo := some n) (hi := none) ⟨(fun l hl => by cases hl; exact h0), (fun h' hh => by cases hh), by simp only [loOf, hiOf]; omega, Nat.le_refl _⟩ hle
    refine Gives.value (v := subv (.slice (some ⟨g, 0, none⟩) xs.length cap) d.sz n.toNat) (by simp [ho]) ?_ hs rfl
    simp only [Option.map_some, Option.map_none, loOf, hiOf] at hr
    simp only [execOp, ho, Instr.sliceAt, Sem.run_bind, Go.underlying, run_program, Result.andThen_ok, hu, Sem.run_pure, Instr.slice, h1, h2, Option.map_some, Option.map_none, hr, hti.size w]
    rw [if_neg (by omega)]
    rfl
theorem T_len_sub {t e e' : TypeId} {ts : Array TypeId} {x : Operand} {α : Type} {d : Kd α} {xs : List α} {v : Value} {i j : Nat} (ho : o.op = .call { callee := .builtin .len, args := #[x], argTypes := ts }) (ht : ts[0]? = some t) (hu : C.P.underlying t = some (.slice e))
    (hx : Opd Γ x (Ty.val (subv v d.sz j))) (hi : Δ[i]? = some (Res.sl v e' d xs)) (hj : j ≤ xs.length) : TOp C Δ Γ o (Ty.val (.int .i64 ((xs.length : Int) - j))) := by
  intro m w a hs _ hown _ htt
  have h1 : a.eval x = subv v d.sz j := hx.p htt (by simp [ho, Op.operands, Call.operands])
  obtain ⟨ad, cap, rfl, _, _⟩ := sl_form (hown _ (List.mem_of_getElem? hi))
  have e : ((xs.length : Int) - j) = ((xs.length - j : Nat) : Int) := by omega
  rw [e]
  cases ad with
  | none =>
    obtain ⟨cs, ⟨_, h3⟩, _⟩ := hown _ (List.mem_of_getElem? hi)
    have hx0 : xs.length = 0 := by
      rcases h3 with ⟨h3, h4⟩ | ⟨g, c, cur, h3, _⟩
      · exact h4
      · cases h3
    exact Gives.value (v := .int .i64 ((xs.length - j : Nat) : Int)) (by simp [ho]) (by simp [execOp, ho, resolve, invoke, builtin, Builtin.len_, h1, subv, ht, Go.underlying, hu, goInt, hx0]) hs rfl
  | some ad => exact Gives.value (by simp [ho]) (by simp [execOp, ho, resolve, invoke, builtin, Builtin.len_, h1, subv, ht, Go.underlying, hu, goInt]) hs rfl
theorem T_ix_sub {t e e' : TypeId} {x i : Operand} {k : IntKind} {n : Int} {α : Type} {d : Kd α} {xs : List α} {v : Value} {ix j : Nat} (ho : o.op = .indexAddr t x i) (hx : Opd Γ x (Ty.val (subv v d.sz j))) (hix : Δ[ix]? = some (Res.sl v e' d xs)) (hi : Opd Γ i (Ty.val (.int k n))) (hu : C.P.underlying t = some (.slice e)) (hti : TI C.P e d.agg d.sz) (h0 : 0 ≤ n) (hlt : j + n.toNat < xs.length) : TOp C Δ Γ o (Ty.val (eltPtr v d.sz (j + n.toNat))) := by
  intro m w a hs _ hown _ htt
  have h1 : a.eval x = subv v d.sz j := hx.p htt (by simp [ho, Op.operands])
  have hi' : a.eval i = .int k n := hi.p htt (by simp [ho, Op.operands])
  obtain ⟨cs, ⟨_, h2⟩, _⟩ := hown _ (List.mem_of_getElem? hix)
  rcases h2 with ⟨_, h2⟩ | ⟨g, cap, cur, rfl, _⟩
  · omega
  · refine Gives.value (v := eltPtr (.slice (some ⟨g, 0, none⟩) xs.length cap) d.sz (j + n.toNat)) (by simp [ho]) ?_ hs rfl
    have hlt' : n < ((xs.length - j : Nat) : Int) := by omega
    simp [execOp, ho, Instr.indexAt, hi', h1, subv, asIntOf, Go.underlying, hu, h0, hlt', hti.size w, eltPtr, add_none, Nat.add_mul]

theorem T_min {ts : Array TypeId} {x y : Operand} {k : IntKind} {a b : Int} (ho : o.op = .call { callee := .builtin .min, args := #[x, y], argTypes := ts }) (hx : Opd Γ x (Ty.val (.int k a))) (hy : Opd Γ y (Ty.val (.int k b))) : TOp C Δ Γ o (Ty.val (.int k (min a b))) := by
  intro m w ac hs _ _ _ htt
  have h1 : ac.eval x = .int k a := hx.p htt (by simp [ho, Op.operands, Call.operands])
  have h2 : ac.eval y = .int k b := hy.p htt (by simp [ho, Op.operands, Call.operands])
  have e : (if b < a then b else a) = min a b := by split <;> omega
  exact Gives.value (by simp [ho]) (by simp [execOp, ho, resolve, invoke, builtin, Builtin.min_, Builtin.min2, h1, h2, e]) hs rfl
theorem T_max {ts : Array TypeId} {x y : Operand} {k : IntKind} {a b : Int} (ho : o.op = .call { callee := .builtin .max, args := #[x, y], argTypes := ts }) (hx : Opd Γ x (Ty.val (.int k a))) (hy : Opd Γ y (Ty.val (.int k b))) : TOp C Δ Γ o (Ty.val (.int k (max a b))) := by
  intro m w ac hs _ _ _ htt
  have h1 : ac.eval x = .int k a := hx.p htt (by simp [ho, Op.operands, Call.operands])
  have h2 : ac.eval y = .int k b := hy.p htt (by simp [ho, Op.operands, Call.operands])
  have e : (if a < b then b else a) = max a b := by split <;> omega
  exact Gives.value (by simp [ho]) (by simp [execOp, ho, resolve, invoke, builtin, Builtin.max_, Builtin.max2, h1, h2, e]) hs rfl
theorem T_fld {s i off ft : Nat} {x : Operand} {S S' : Seg} (ho : o.op = .field s x i) (hx : Opd Γ x (Ty.seg S)) (hsub : Sub S off S') (hagg : S.agg = true) (hu : ((C.P.underlying s).bind fun d => match d with | .struct fs => (fs[i]?).map fun f => (f.offset, f.type) | _ => none) = some (off, ft)) (hti : TI C.P ft S'.agg S'.sz) : TOp C Δ Γ o (Ty.seg S') := T_field ho hu hti hagg hsub hx
/-- A datum of which only something is known. -/
def Ty.exs {α : Type} (d : Kd α) (p : α → Prop) : Ty := ⟨fun m v => ∃ x, p x ∧ (Ty.of d x).p m v, fun hm ⟨x, h1, h2⟩ => ⟨x, h1, (Ty.of d x).up hm h2⟩⟩
theorem ex_le {α : Type} {d : Kd α} {p : α → Prop} {x : α} (h : p x) : Ty.le (Ty.of d x) (Ty.exs d p) := fun m v hv => ⟨x, h, hv⟩
theorem JS_ex {α : Type} {d : Kd α} {p : α → Prop} {s : Nat} (hg : Env.get Γ s = some (Ty.exs d p)) (h : ∀ x, p x → JS F Q ((s, Ty.of d x) :: Γ) Δ cs) : JS F Q Γ Δ cs := fun m w a hs => by
  obtain ⟨x, h1, h2⟩ := hs.ty s _ hg
  exact h x h1 m w a (hs.retype hg h2)
theorem CatP.set {m m' : GH} (hm : GH.le m m') {T : Seg} : ∀ {Ss : List Seg} {cs : List Value} {k : Nat} {S : Seg}, CatP m Ss cs → Ss[k]? = some S → (∀ c, S.p m c → T.p m' c) → CatP m' (Ss.set k T) cs
  | [], _, k, _, _, h, _ => by simp at h
  | U :: Ss, cs, 0, S, ⟨c, r, h1, h2, h3⟩, h, hT => by
    simp only [List.getElem?_cons_zero, Option.some.injEq] at h
    subst h
    exact ⟨c, r, h1, hT c h2, h3.up hm⟩
  | U :: Ss, cs, k + 1, S, ⟨c, r, h1, h2, h3⟩, h, hT => ⟨c, r, h1, U.up hm h2, CatP.set hm h3 (by simpa using h) hT⟩
/-- A slice of one's own that lies in a field of a box of one's own, taken for good. -/
theorem JS_freeze_fld {α : Type} {i j k : Nat} {g : Nat} {t e : TypeId} {Ss : List Seg} {v : Value} {d : Kd α} {xs : List α} (hi : Δ[i]? = some (Res.box g t (Seg.cat Ss))) (hk : Ss[k]? = some (Seg.of Kd.val v)) (hj : Δ[j]? = some (Res.sl v e d xs)) (hij : Nat.beq i j = false)
    (h : JS F Q Γ ((Δ.set i (Res.box g t (Seg.cat (Ss.set k (Seg.of (Kd.slice d) xs))))).eraseIdx j) cs) : JS F Q Γ Δ cs := fun m w a hs => by
  have hne : i ≠ j := by rintro rfl; simp at hij
  have hbox := hs.own _ (List.mem_of_getElem? hi)
  obtain ⟨vs, hb1, hb2⟩ := hbox
  have hp := hs.own _ (List.mem_of_getElem? hj)
  have upd : ∀ {m' : GH}, GH.le m m' → SliceAt m' d xs v → St F Γ Δ m' w a → St F Γ (Δ.set i (Res.box g t (Seg.cat (Ss.set k (Seg.of (Kd.slice d) xs))))) m' w a := fun {m'} hle hsl hst => by
    have := hst.own_step (dst := none) (T := Ty.any) (v := undef) (r' := Res.box g t (Seg.cat (Ss.set k (Seg.of (Kd.slice d) xs)))) hi rfl trivial ⟨GH.le.refl m', fun k h h' => absurd h' h, Nat.le_refl _, fun _ _ _ => rfl, rfl, rfl, rfl⟩ ⟨vs, hb1, CatP.set hle hb2 hk (fun c hc => ⟨v, hc.1, hsl⟩)⟩ (fun k hk => .inl hk)
    exact this
  cases hob : v.ownBlock with
  | none => exact h m w a ((upd (GH.le.refl m) (sl_slice (ob := default) hp (fun g hgg => by rw [hob] at hgg; cases hgg)) hs).drop)
  | some b =>
    have hfp : b ∈ (Res.sl v e d xs).fp := by simp [Res.sl, hob]
    have hlt := (Res.sl v e d xs).ex hp b hfp
    have hheap : w.heap[b]? = some w.heap[b] := Array.getElem?_eq_getElem hlt
    have hle := GH.lay_le (o := w.heap[b]) (hs.apart _ (List.mem_of_getElem? hj) b hfp)
    have hsl : SliceAt (m.lay b w.heap[b]) d xs v := sl_slice (ob := default) ((Res.sl v e d xs).up hle (fun _ _ => rfl) hp) (fun g' hgg => by rw [hob] at hgg; cases hgg; rw [GH.lay_same, hheap])
    -- the box is said anew first, under the greater map
    have hf := hs.freeze hj hfp hheap
    have hi' : (Δ.eraseIdx j)[if i < j then i else i - 1]? = some (Res.box g t (Seg.cat Ss)) := by
      rw [List.getElem?_eraseIdx]
      rcases Nat.lt_or_ge i j with h1 | h1
      · rw [if_pos h1, if_pos h1]; exact hi
      · have h2 : ¬ i < j := by omega
        rw [if_neg h2, if_neg (by omega), show i - 1 + 1 = i by omega]; exact hi
    have := hf.own_step (dst := none) (T := Ty.any) (v := undef) (r' := Res.box g t (Seg.cat (Ss.set k (Seg.of (Kd.slice d) xs)))) hi' rfl trivial ⟨GH.le.refl _, fun k h h' => absurd h' h, Nat.le_refl _, fun _ _ _ => rfl, rfl, rfl, rfl⟩ ⟨vs, hb1, CatP.set hle hb2 hk (fun c hc => ⟨v, hc.1, hsl⟩)⟩ (fun k hk => .inl hk)
    refine h (m.lay b w.heap[b]) w a ?_
    have e : (Δ.set i (Res.box g t (Seg.cat (Ss.set k (Seg.of (Kd.slice d) xs))))).eraseIdx j = (Δ.eraseIdx j).set (if i < j then i else i - 1) (Res.box g t (Seg.cat (Ss.set k (Seg.of (Kd.slice d) xs)))) := by
      refine List.ext_getElem? (fun x => ?_)
      have hlti := (List.getElem?_eq_some_iff.1 hi).1
      have hltj := (List.getElem?_eq_some_iff.1 hj).1
      have hl : (Δ.eraseIdx j).length = Δ.length - 1 := by rw [List.length_eraseIdx, if_pos hltj]
      rcases Nat.lt_or_ge i j with h1 | h1
      · rw [show (if i < j then i else i - 1) = i from if_pos h1]
        simp only [List.getElem?_eraseIdx, List.getElem?_set, hl]
        by_cases h2 : x < j
        · simp only [h2, if_true]
          by_cases h3 : i = x
          · subst h3; rw [if_pos rfl, if_pos rfl, if_pos hlti, if_pos (by omega)]
          · rw [if_neg h3, if_neg h3]
        · simp only [h2, if_false]
          rw [if_neg (by omega), if_neg (by omega)]
      · rw [show (if i < j then i else i - 1) = i - 1 from if_neg (by omega)]
        simp only [List.getElem?_eraseIdx, List.getElem?_set, hl]
        by_cases h2 : x < j
        · simp only [h2, if_true]
          rw [if_neg (by omega), if_neg (by omega)]
        · simp only [h2, if_false]
          by_cases h3 : i = x + 1
          · rw [if_pos h3, if_pos hlti, if_pos (by omega), if_pos (by omega)]
          · rw [if_neg h3, if_neg (by omega)]
    rw [e]
    exact this
theorem JT_callML {f : FuncId} {xs : Array Operand} {ts : Array TypeId} {ins : List Ty} {Y : Type} {out : Y → Ty} {Δout : Y → List Res} (ho : o.op = .call { callee := .value (.func f), args := xs, argTypes := ts }) (hw : Wanted Γ ops o true) (hd : dstOk F.N o.dst = true)
    (he : Enters F.C.P f) (hf : SpecM F.C f ins [] out Δout) (hx : OpdAllLe Γ xs.toList ins) (h : ∀ y, JT F Q cs ops (Env.put Γ o.dst (out y)) (Δout y ++ Δ) l) : JT F Q cs ops Γ Δ (o :: l) := by
  obtain ⟨Us, h1, h2, h3⟩ := hx.spec
  exact JT_callM ho hw hd he (hf.arg h2 h3) h1 (Δin := []) (Δr := Δ) rfl h
theorem perm_front {r : Res} {i : Nat} (h : Δ[i]? = some r) : Δ.Perm (r :: Δ.eraseIdx i) := by
  obtain ⟨hlt, rfl⟩ := List.getElem?_eq_some_iff.1 h
  rw [List.eraseIdx_eq_take_drop_succ]
  conv => lhs; rw [← List.take_append_drop i Δ, List.drop_eq_getElem_cons hlt]
  exact List.perm_middle
theorem JT_callM1 {f : FuncId} {xs : Array Operand} {ts : Array TypeId} {ins : List Ty} {r : Res} {i : Nat} {Y : Type} {out : Y → Ty} {Δout : Y → List Res} (ho : o.op = .call { callee := .value (.func f), args := xs, argTypes := ts }) (hw : Wanted Γ ops o true) (hd : dstOk F.N o.dst = true)
    (he : Enters F.C.P f) (hi : Δ[i]? = some r) (hf : SpecM F.C f ins [r] out Δout) (hx : OpdAllLe Γ xs.toList ins) (h : ∀ y, JT F Q cs ops (Env.put Γ o.dst (out y)) (Δout y ++ Δ.eraseIdx i) l) : JT F Q cs ops Γ Δ (o :: l) := by
  obtain ⟨Us, h1, h2, h3⟩ := hx.spec
  exact JT_perm (perm_front hi) (JT_callM ho hw hd he (hf.arg h2 h3) h1 (Δin := [r]) (Δr := Δ.eraseIdx i) rfl h)
theorem JE_retM1 {fn : Func} {Y : Type} {out : Y → Ty} {Δout : Y → List Res} {S : List Nat} {n : Nat} {r : ResultVar} {T : Ty} (y : Y) (hΔ : Δout y = Δ) (hr : fn.results = #[r]) (h : ResAll F.C.P Γ Δ [r] [T]) (hle : Ty.le T (out y)) (hS : F.S = S) (hn0 : F.w0.heap.size = n) (hD : F.D = []) : JE F (retQ F fn (ownOut out Δout S n)) Γ Δ .ret :=
  JE_retM y hS hn0 hD hΔ (Ts := [T]) (by rw [hr]; exact h) (fun m vs hv => by
    match vs, hv with
    | [v], hv => simpa using hle _ _ hv.1)
theorem JE_retM0 {fn : Func} {Y : Type} {Δout : Y → List Res} {S : List Nat} {n : Nat} (y : Y) (hΔ : Δout y = Δ) (hr : fn.results.toList = []) (hS : F.S = S) (hn0 : F.w0.heap.size = n) (hD : F.D = []) : JE F (retQ F fn (ownOut (fun _ => Ty.any) Δout S n)) Γ Δ .ret :=
  JE_retM y hS hn0 hD hΔ (Ts := []) (by rw [hr]; exact .nil) (fun _ _ _ => trivial)
theorem JE_retMN {fn : Func} {Y : Type} {out : Y → List Ty} {Δout : Y → List Res} {S : List Nat} {n : Nat} (y : Y) (hΔ : Δout y = Δ) (hn : fn.results.size ≠ 1) (h : ResAll F.C.P Γ Δ fn.results.toList (out y)) (hS : F.S = S) (hn0 : F.w0.heap.size = n) (hD : F.D = []) : JE F (retQ F fn (ownOut (fun y => Ty.tup (out y)) Δout S n)) Γ Δ .ret :=
  JE_retM y hS hn0 hD hΔ h (fun m vs hv => by
    have hl : vs.length = (out y).length := by
      have : ∀ (Ts : List Ty) (vs : List Value), TyAll m Ts vs → vs.length = Ts.length := by
        intro Ts
        induction Ts with
        | nil => intro vs h; cases vs with
          | nil => rfl
          | cons _ _ => exact h.elim
        | cons T Ts ih => intro vs h; cases vs with
          | nil => exact h.elim
          | cons v vs => simp [ih vs h.2]
      exact this _ _ hv
    have hrl : fn.results.toList.length = (out y).length := by
      have : ∀ (rs : List ResultVar) (Ts : List Ty), ResAll F.C.P Γ Δ rs Ts → rs.length = Ts.length := by
        intro rs Ts h
        induction h with
        | nil => rfl
        | tmp _ _ ih => simp [ih]
        | cell _ _ _ _ ih => simp [ih]
        | le _ _ ih => simpa using ih
      exact this _ _ h
    have : ¬ vs.toArray.size = 1 := by
      simp only [List.size_toArray, hl, ← hrl]; simpa using hn
    rw [dif_neg this]
    exact ⟨vs.toArray, rfl, by simpa using hv⟩)
end rules
end Go.Proofs.YtknflgfkhkdomaaGreatDoor.Mono

/-! MonoT -/
set_option linter.unusedVariables false
set_option linter.unusedSimpArgs false
namespace Go.Proofs.YtknflgfkhkdomaaGreatDoor.Mono
open Go Go.RowKit

/-- The list, the carry, the borrow. -/
def loseK (xs o : List Int) (p : Nat) (t : Int) : Nat → List Int × Int × Int
  | 0 => (xs, 0, 0)
  | i + 1 => ((loseK xs o p t i).1.set (p + i) (((loseK xs o p t i).1.getD (p + i) 0 - ((loseK xs o p t i).2.1 + t * o.getD i 0) % 1000000000 - (loseK xs o p t i).2.2) % 1000000000),
      ((loseK xs o p t i).2.1 + t * o.getD i 0) / 1000000000,
      if (loseK xs o p t i).1.getD (p + i) 0 - ((loseK xs o p t i).2.1 + t * o.getD i 0) % 1000000000 - (loseK xs o p t i).2.2 < 0 then 1 else 0)
theorem loseK_law {xs o : List Int} {p : Nat} {t : Int} (hx : LOk xs) (ho : LOk o) (ht : 0 ≤ t ∧ t < 1000000000) (hp : p + o.length < xs.length) (i : Nat) (hi : i ≤ o.length + 1) :
    LOk (loseK xs o p t i).1 ∧ (loseK xs o p t i).1.length = xs.length ∧ (0 ≤ (loseK xs o p t i).2.1 ∧ (loseK xs o p t i).2.1 < 1000000000) ∧ (0 ≤ (loseK xs o p t i).2.2 ∧ (loseK xs o p t i).2.2 ≤ 1) ∧
    (∀ j, j < p ∨ p + i ≤ j → (loseK xs o p t i).1.getD j 0 = xs.getD j 0) ∧
    lval (loseK xs o p t i).1 + 1000000000 ^ p * (t.toNat * lval (o.take i)) = lval xs + 1000000000 ^ (p + i) * ((loseK xs o p t i).2.1.toNat + (loseK xs o p t i).2.2.toNat) := by
  induction i with
  | zero => exact ⟨hx, rfl, by simp [loseK], by simp [loseK], fun j _ => rfl, by simp [loseK, lval]⟩
  | succ i ih =>
    obtain ⟨h1, h2, h3, h4, h5, h6⟩ := ih (by omega)
    have g1 := ho.get i
    have g2 := h1.get (p + i)
    have g3 := mul_bd ht g1
    have hs := lval_set (loseK xs o p t i).1 (p + i) (((loseK xs o p t i).1.getD (p + i) 0 - ((loseK xs o p t i).2.1 + t * o.getD i 0) % 1000000000 - (loseK xs o p t i).2.2) % 1000000000) (by omega)
    rw [lval_take_succ]
    simp only [loseK]
    refine ⟨h1.set _ (by omega) (by omega), by simp [h2], by omega, by split <;> omega, fun j hj => ?_, ?_⟩
    · rw [lgetD_set, if_neg (by omega)]; exact h5 j (by omega)
    · generalize (loseK xs o p t i).1.set (p + i) _ = l' at *
      generalize (loseK xs o p t i).1 = l at *
      generalize (loseK xs o p t i).2.1 = c at *
      generalize (loseK xs o p t i).2.2 = b at *
      generalize o.getD i 0 = y at *
      generalize l.getD (p + i) 0 = z at *
      obtain ⟨T, rfl⟩ := Int.eq_ofNat_of_zero_le ht.1
      obtain ⟨Y, rfl⟩ := Int.eq_ofNat_of_zero_le g1.1
      obtain ⟨Z, rfl⟩ := Int.eq_ofNat_of_zero_le g2.1
      obtain ⟨C, rfl⟩ := Int.eq_ofNat_of_zero_le h3.1
      obtain ⟨B, rfl⟩ := Int.eq_ofNat_of_zero_le h4.1
      have q : ((T : Int) * (Y : Int)) = ((T * Y : Nat) : Int) := by push_cast; rfl
      rw [q] at g3 hs ⊢
      rw [Int.toNat_natCast] at h6 hs ⊢
      rw [Int.toNat_natCast, Int.toNat_natCast] at h6
      have e2 : (((C : Int) + (T * Y : Nat)) / 1000000000).toNat = (C + T * Y) / 1000000000 := by omega
      rw [e2]
      have e4 : 1000000000 ^ p * (T * (lval (o.take i) + 1000000000 ^ i * Y)) = 1000000000 ^ p * (T * lval (o.take i)) + 1000000000 ^ (p + i) * (T * Y) := by
        rw [Nat.mul_add, Nat.mul_add, Nat.pow_add]
        congr 1
        rw [Nat.mul_left_comm T, Nat.mul_assoc]
      rw [Int.toNat_natCast, e4, ← Nat.add_assoc, show p + (i + 1) = (p + i) + 1 from rfl, Nat.pow_succ]
      have e5 : (C + T * Y) / 1000000000 * 1000000000 + (C + T * Y) % 1000000000 = C + T * Y := by omega
      by_cases hneg : (Z : Int) - ((C : Int) + (T * Y : Nat)) % 1000000000 - B < 0
      · rw [if_pos hneg]
        have e1 : (((Z : Int) - ((C : Int) + (T * Y : Nat)) % 1000000000 - B) % 1000000000).toNat + (C + T * Y) % 1000000000 + B = Z + 1000000000 := by omega
        rw [Int.toNat_one]
        generalize (((Z : Int) - ((C : Int) + (T * Y : Nat)) % 1000000000 - B) % 1000000000).toNat = D at *
        have e3 : 1000000000 ^ (p + i) * D + 1000000000 ^ (p + i) * C + 1000000000 ^ (p + i) * (T * Y) + 1000000000 ^ (p + i) * B = 1000000000 ^ (p + i) * Z + 1000000000 ^ (p + i) * 1000000000 * ((C + T * Y) / 1000000000 + 1) := by
          rw [Nat.mul_assoc, ← Nat.mul_add, ← Nat.mul_add, ← Nat.mul_add, ← Nat.mul_add]; congr 1; omega
        rw [Nat.mul_add] at h6
        omega
      · rw [if_neg hneg]
        have e1 : (((Z : Int) - ((C : Int) + (T * Y : Nat)) % 1000000000 - B) % 1000000000).toNat + (C + T * Y) % 1000000000 + B = Z := by omega
        rw [Int.toNat_zero, Nat.add_zero]
        generalize (((Z : Int) - ((C : Int) + (T * Y : Nat)) % 1000000000 - B) % 1000000000).toNat = D at *
        have e3 : 1000000000 ^ (p + i) * D + 1000000000 ^ (p + i) * C + 1000000000 ^ (p + i) * (T * Y) + 1000000000 ^ (p + i) * B = 1000000000 ^ (p + i) * Z + 1000000000 ^ (p + i) * 1000000000 * ((C + T * Y) / 1000000000) := by
          rw [Nat.mul_assoc, ← Nat.mul_add, ← Nat.mul_add, ← Nat.mul_add, ← Nat.mul_add]; congr 1; omega
        rw [Nat.mul_add] at h6
        omega

/-- The list, the carry. -/
def gainK (xs o : List Int) (p : Nat) : Nat → List Int × Int
  | 0 => (xs, 0)
  | i + 1 => ((gainK xs o p i).1.set (p + i) (((gainK xs o p i).1.getD (p + i) 0 + (gainK xs o p i).2 + o.getD i 0) % 1000000000), ((gainK xs o p i).1.getD (p + i) 0 + (gainK xs o p i).2 + o.getD i 0) / 1000000000)
theorem gainK_law {xs o : List Int} {p : Nat} (hx : LOk xs) (ho : LOk o) (hp : p + o.length < xs.length) (i : Nat) (hi : i ≤ o.length + 1) :
    LOk (gainK xs o p i).1 ∧ (gainK xs o p i).1.length = xs.length ∧ (0 ≤ (gainK xs o p i).2 ∧ (gainK xs o p i).2 ≤ 1) ∧
    (∀ j, j < p ∨ p + i ≤ j → (gainK xs o p i).1.getD j 0 = xs.getD j 0) ∧
    lval (gainK xs o p i).1 + 1000000000 ^ (p + i) * (gainK xs o p i).2.toNat = lval xs + 1000000000 ^ p * lval (o.take i) := by
  induction i with
  | zero => exact ⟨hx, rfl, by simp [gainK], fun j _ => rfl, by simp [gainK, lval]⟩
  | succ i ih =>
    obtain ⟨h1, h2, h3, h5, h6⟩ := ih (by omega)
    have g1 := ho.get i
    have g2 := h1.get (p + i)
    have hs := lval_set (gainK xs o p i).1 (p + i) (((gainK xs o p i).1.getD (p + i) 0 + (gainK xs o p i).2 + o.getD i 0) % 1000000000) (by omega)
    rw [lval_take_succ]
    simp only [gainK]
    refine ⟨h1.set _ (by omega) (by omega), by simp [h2], by omega, fun j hj => ?_, ?_⟩
    · rw [lgetD_set, if_neg (by omega)]; exact h5 j (by omega)
    · generalize (gainK xs o p i).1.set (p + i) _ = l' at *
      generalize (gainK xs o p i).1 = l at *
      generalize (gainK xs o p i).2 = c at *
      generalize o.getD i 0 = y at *
      generalize l.getD (p + i) 0 = z at *
      obtain ⟨Y, rfl⟩ := Int.eq_ofNat_of_zero_le g1.1
      obtain ⟨Z, rfl⟩ := Int.eq_ofNat_of_zero_le g2.1
      obtain ⟨C, rfl⟩ := Int.eq_ofNat_of_zero_le h3.1
      rw [Int.toNat_natCast] at h6 hs ⊢
      have e1 : (((Z : Int) + C + Y) % 1000000000).toNat = (Z + C + Y) % 1000000000 := by omega
      have e2 : (((Z : Int) + C + Y) / 1000000000).toNat = (Z + C + Y) / 1000000000 := by omega
      rw [e1] at hs
      have e3 : 1000000000 ^ (p + i) * ((Z + C + Y) % 1000000000) + 1000000000 ^ (p + i) * 1000000000 * ((Z + C + Y) / 1000000000) = 1000000000 ^ (p + i) * Z + 1000000000 ^ (p + i) * C + 1000000000 ^ (p + i) * Y := by
        rw [Nat.mul_assoc, ← Nat.mul_add, ← Nat.mul_add, ← Nat.mul_add]; congr 1; omega
      rw [e2, show p + (i + 1) = (p + i) + 1 from rfl, Nat.pow_succ, Nat.mul_add, ← Nat.mul_assoc, ← Nat.pow_add]
      omega
end Go.Proofs.YtknflgfkhkdomaaGreatDoor.Mono

/-! WkE -/
set_option linter.unusedVariables false
set_option linter.unusedSimpArgs false
set_option maxRecDepth 4000
set_option maxHeartbeats 4000000
namespace Go.Proofs.YtknflgfkhkdomaaGreatDoor.Mono
open Go Go.RowKit

theorem m127 {v : Value} {xs o : List Int} {p : Nat} {t : Int} (hx : LOk xs) (ho : LOk o) (ht : 0 ≤ t ∧ t < 1000000000) (hp : p + o.length < xs.length) (hlen : xs.length ≤ 8000000) : SpecM CC 127 [Ty.val (subv v 1 p), Ty.of (Kd.slice (Kd.int .u32)) o, Ty.val (.int .u64 t)] [Res.sl v 126 (Kd.int .u32) xs] (Y := Unit) (fun _ => Ty.val (.bool (decide (0 < (loseK xs o p t (o.length + 1)).2.2)))) (fun _ => [Res.sl v 126 (Kd.int .u32) (loseK xs o p t (o.length + 1)).1]) := by
  refine specM_of_JS Tryz.func127 rfl (Nat.le_of_ble_eq_true rfl) (fun gh0 wd0 => ?_)
  refine JS_bound (s := 1) rfl (fun b1 => ?_)
  unfold maxLen at b1
  refine JS_seq ?_
  -- region 0
  refine sR ?_
  refine kA rfl rfl ?_
  refine kE ?_
  refine JS_seq ?_
  -- region 1
  refine sR ?_
  refine kA rfl rfl ?_
  refine kA rfl rfl ?_
  refine kE ?_
  refine JS_seq ?_
  refine JS_seq ?_
  -- region 2
  refine sR ?_
  refine kM rfl rfl ?_
  refine kO (T_len_slice rfl rfl u81 rfl) rfl ?_
  refine kO (T_add rfl rfl rfl (wrap_i64 (by omega) (by omega))) rfl ?_
  refine kM rfl rfl ?_
  refine kE ?_
  refine JS_block ?_
  refine sLoop1 (fun (i : Nat) => [(15, Ty.val (.int .i64 i)), (7, Ty.val (.int .u64 ((loseK xs o p t i).2.1))), (8, Ty.val (.int .i64 ((loseK xs o p t i).2.2)))]) [0, 1, 2, 14] (fun (i : Nat) => [(0, Res.sl v 126 (Kd.int .u32) (loseK xs o p t i).1)]) (fun (i : Nat) => i ≤ o.length + 1) (fun (i : Nat) => o.length + 1 - i) 0 (Nat.zero_le _) rfl (EnvSub.consLe rfl (int_eq (rfl)) (EnvSub.consLe rfl (int_eq (rfl)) (EnvSub.consLe rfl (int_eq (rfl)) (EnvSub.nil _)))) (fun i (hI : i ≤ o.length + 1) => ?_)
  obtain ⟨h1, h2, h3, h4, h5, h6⟩ := loseK_law hx ho ht hp i hI
  have g1 := ho.get i
  have g2 := h1.get (p + i)
  have g3 := mul_bd ht g1
  refine JS_seq ?_
  -- region 3
  refine sR ?_
  refine kO (T_lt rfl rfl rfl) rfl ?_
  refine kE ?_
  refine JS_seq ?_
  refine JS_if rfl (fun c16 => ?_) (fun c16 => ?_)
  · refine JS_skip ?_
    refine JS_seq ?_
    refine JS_block ?_
    refine JS_seq ?_
    -- region 4
    refine sR ?_
    refine kM rfl rfl ?_
    refine kA rfl rfl ?_
    refine kE ?_
    refine JS_seq ?_
    -- region 5
    refine sR ?_
    refine kM rfl rfl ?_
    refine kA rfl rfl ?_
    refine kE ?_
    refine JS_seq ?_
    refine JS_seq ?_
    -- region 6
    refine sR ?_
    refine kM rfl rfl ?_
    refine kM rfl rfl ?_
    refine kO (T_len_slice rfl rfl u81 rfl) rfl ?_
    refine kO (T_lt rfl rfl rfl) rfl ?_
    refine kE ?_
    refine JS_join1 (fun (n : Int) => [(10, Ty.val (.int .u64 n))]) [0, 1, 2, 8, 9, 14, 15] (fun (n : Int) => []) (fun (n : Int) => n = (loseK xs o p t i).2.1 + t * o.getD i 0) ?_ (fun n (hN : n = (loseK xs o p t i).2.1 + t * o.getD i 0) => ?_)
    · refine JS_if rfl (fun c22 => ?_) (fun c22 => ?_)
      · -- region 7
        refine sR ?_
        refine kM rfl rfl ?_
        refine kM rfl rfl ?_
        refine kM rfl rfl ?_
        refine kM rfl rfl ?_
        refine kO (T_ix rfl rfl rfl u81 ti126 (by omega) (by omega) (getD_at (i) (by omega) _)) rfl ?_
        refine kO (T_load_int rfl ti126 rfl) rfl ?_
        refine kO (T_conv rfl u126 u32 rfl (wrap_u64 (by omega) (by omega))) rfl ?_
        refine kO (T_mul rfl rfl rfl (wrap_u64 (by omega) (by omega))) rfl ?_
        refine kO (T_add rfl rfl rfl (wrap_u64 (by omega) (by omega))) rfl ?_
        refine kA rfl rfl ?_
        refine kE ?_
        exact JS_meet _ (rfl) rfl (EnvSub.consLe rfl (int_eq (rfl)) (EnvSub.pick1 rfl (EnvSub.pick1 rfl (EnvSub.pick1 rfl (EnvSub.pick1 rfl (EnvSub.pick1 rfl (EnvSub.pick1 rfl (EnvSub.pick1 rfl (EnvSub.nil _)))))))))
      · refine JS_skip ?_
        exact JS_meet _ (by rw [getD_out o i (by omega)]; simp) rfl (EnvSub.consLe rfl (int_eq (rfl)) (EnvSub.pick1 rfl (EnvSub.pick1 rfl (EnvSub.pick1 rfl (EnvSub.pick1 rfl (EnvSub.pick1 rfl (EnvSub.pick1 rfl (EnvSub.pick1 rfl (EnvSub.nil _)))))))))
    · refine JS_seq ?_
      -- region 8
      refine sR ?_
      refine kM rfl rfl ?_
      refine kO (T_quo rfl rfl rfl (by omega) (quo_u64 (by omega) (by omega) (by omega))) rfl ?_
      refine kA rfl rfl ?_
      refine kE ?_
      refine JS_seq ?_
      -- region 9
      refine sR ?_
      refine kM rfl rfl ?_
      refine kM rfl rfl ?_
      refine kO (T_ix_sub (ix := 0) (d := (Kd.int .u32)) rfl rfl rfl rfl u81 ti126 (by omega) (by omega)) rfl ?_
      refine kO (T_lde_int (i := 0) rfl rfl rfl ti126 (by omega) (getD_in (p + i) (by omega) _)) rfl ?_
      refine kO (T_conv rfl u126 u2 rfl (wrap_i64 (by omega) (by omega))) rfl ?_
      refine kM rfl rfl ?_
      refine kO (T_rem rfl rfl rfl (by omega) (rem_nn (by omega))) rfl ?_
      refine kO (T_conv rfl u32 u2 rfl (wrap_i64 (by omega) (by omega))) rfl ?_
      refine kO (T_subI rfl rfl rfl (wrap_i64 (by omega) (by omega))) rfl ?_
      refine kM rfl rfl ?_
      refine kO (T_subI rfl rfl rfl (wrap_i64 (by omega) (by omega))) rfl ?_
      refine kA rfl rfl ?_
      refine kE ?_
      refine JS_seq ?_
      -- region 10
      refine sR ?_
      refine kA rfl rfl ?_
      refine kE ?_
      refine JS_seq ?_
      refine JS_seq ?_
      -- region 11
      refine sR ?_
      refine kM rfl rfl ?_
      refine kO (T_lt rfl rfl rfl) rfl ?_
      refine kE ?_
      refine JS_join2 (fun (d : Int) (q : Int) => [(11, Ty.val (.int .i64 d)), (8, Ty.val (.int .i64 q))]) [0, 1, 2, 7, 9, 14, 15] (fun (d : Int) (q : Int) => []) (fun (d : Int) (q : Int) => d = ((loseK xs o p t i).1.getD (p + i) 0 - n % 1000000000 - (loseK xs o p t i).2.2) % 1000000000 ∧ q = if (loseK xs o p t i).1.getD (p + i) 0 - n % 1000000000 - (loseK xs o p t i).2.2 < 0 then 1 else 0) ?_ (fun d q (hP : d = ((loseK xs o p t i).1.getD (p + i) 0 - n % 1000000000 - (loseK xs o p t i).2.2) % 1000000000 ∧ q = if (loseK xs o p t i).1.getD (p + i) 0 - n % 1000000000 - (loseK xs o p t i).2.2 < 0 then 1 else 0) => ?_)
      · refine JS_if rfl (fun c46 => ?_) (fun c46 => ?_)
        · -- region 12
          refine sR ?_
          refine kM rfl rfl ?_
          refine kO (T_add rfl rfl rfl (wrap_i64 (by omega) (by omega))) rfl ?_
          refine kA rfl rfl ?_
          refine kA rfl rfl ?_
          refine kE ?_
          exact JS_meet (_, 1) (by try dsimp only; exact (⟨by omega, by rw [if_pos c46]⟩)) rfl (EnvSub.consLe rfl (int_eq (rfl)) (EnvSub.consLe rfl (int_eq (rfl)) (EnvSub.pick1 rfl (EnvSub.pick1 rfl (EnvSub.pick1 rfl (EnvSub.pick1 rfl (EnvSub.pick1 rfl (EnvSub.pick1 rfl (EnvSub.pick1 rfl (EnvSub.nil _))))))))))
        · refine JS_skip ?_
          exact JS_meet (_, 0) (by try dsimp only; exact (⟨by omega, by rw [if_neg c46]⟩)) rfl (EnvSub.consLe rfl (int_eq (rfl)) (EnvSub.consLe rfl (int_eq (rfl)) (EnvSub.pick1 rfl (EnvSub.pick1 rfl (EnvSub.pick1 rfl (EnvSub.pick1 rfl (EnvSub.pick1 rfl (EnvSub.pick1 rfl (EnvSub.pick1 rfl (EnvSub.nil _))))))))))
      · obtain ⟨rfl, rfl⟩ := hP
        -- region 13
        refine sR ?_
        refine kM rfl rfl ?_
        refine kM rfl rfl ?_
        refine kM rfl rfl ?_
        refine kO (T_conv rfl u2 u126 rfl (wrap_u32 (by omega) (by omega))) rfl ?_
        refine kO (T_ix_sub (ix := 0) (d := (Kd.int .u32)) rfl rfl rfl rfl u81 ti126 (by omega) (by omega)) rfl ?_
        refine kT ?_
        refine JT_store_elt (i := 0) rfl rfl rfl rfl rfl (by omega) (ol rfl (val_int _ _)) sz126 ?_
        refine JT_done ?_
        refine JS_end_inB ?_
        -- region 14
        refine sR ?_
        refine kO (T_add rfl rfl rfl (wrap_i64 (by omega) (by omega))) rfl ?_
        refine kM rfl rfl ?_
        refine kE ?_
        exact JS_round (i + 1) ((by omega)) ((by omega)) (by have e : p + ((i : Int)).toNat = p + i := (by omega); simp only [e]; subst hN; rfl) (EnvSub.consLe rfl (int_eq (rfl)) (EnvSub.consLe rfl (int_eq (by subst hN; rfl)) (EnvSub.consLe rfl (int_eq (by subst hN; rfl)) (EnvSub.pick1 rfl (EnvSub.pick1 rfl (EnvSub.pick1 rfl (EnvSub.pick1 rfl (EnvSub.nil _))))))))
  · have hi : i = o.length + 1 := by omega
    subst hi
    refine JS_exit (JE_loop_exit (JE_inB_here ?_))
    refine JS_seq ?_
    -- region 15
    refine sR ?_
    refine kM rfl rfl ?_
    refine kO (T_gt rfl rfl rfl) rfl ?_
    refine kA rfl rfl ?_
    refine kE ?_
    exact JS_ret (JE_retM1 () rfl rfl (.tmp rfl .nil) (dec_eq (Iff.rfl)) rfl rfl rfl)

theorem m128 {v : Value} {xs o : List Int} {p : Nat} (hx : LOk xs) (ho : LOk o) (hp : p + o.length < xs.length) (hlen : xs.length ≤ 8000000) : SpecM CC 128 [Ty.val (subv v 1 p), Ty.of (Kd.slice (Kd.int .u32)) o] [Res.sl v 126 (Kd.int .u32) xs] (Y := Unit) (fun _ => Ty.any) (fun _ => [Res.sl v 126 (Kd.int .u32) (gainK xs o p (o.length + 1)).1]) := by
  refine specM_of_JS Tryz.func128 rfl (Nat.le_of_ble_eq_true rfl) (fun gh0 wd0 => ?_)
  refine JS_bound (s := 1) rfl (fun b1 => ?_)
  unfold maxLen at b1
  refine JS_seq ?_
  -- region 0
  refine sR ?_
  refine kA rfl rfl ?_
  refine kE ?_
  refine JS_seq ?_
  -- region 1
  refine sR ?_
  refine kM rfl rfl ?_
  refine kO (T_len_slice rfl rfl u81 rfl) rfl ?_
  refine kO (T_add rfl rfl rfl (wrap_i64 (by omega) (by omega))) rfl ?_
  refine kM rfl rfl ?_
  refine kE ?_
  refine JS_block ?_
  refine sLoop1 (fun (i : Nat) => [(10, Ty.val (.int .i64 i)), (4, Ty.val (.int .u32 ((gainK xs o p i).2)))]) [0, 1, 9] (fun (i : Nat) => [(0, Res.sl v 126 (Kd.int .u32) (gainK xs o p i).1)]) (fun (i : Nat) => i ≤ o.length + 1) (fun (i : Nat) => o.length + 1 - i) 0 (Nat.zero_le _) rfl (EnvSub.consLe rfl (int_eq (rfl)) (EnvSub.consLe rfl (int_eq (rfl)) (EnvSub.nil _))) (fun i (hI : i ≤ o.length + 1) => ?_)
  obtain ⟨h1, h2, h3, h5, h6⟩ := gainK_law hx ho hp i hI
  have g1 := ho.get i
  have g2 := h1.get (p + i)
  refine JS_seq ?_
  -- region 2
  refine sR ?_
  refine kO (T_lt rfl rfl rfl) rfl ?_
  refine kE ?_
  refine JS_seq ?_
  refine JS_if rfl (fun c11 => ?_) (fun c11 => ?_)
  · refine JS_skip ?_
    refine JS_seq ?_
    refine JS_block ?_
    refine JS_seq ?_
    -- region 3
    refine sR ?_
    refine kM rfl rfl ?_
    refine kA rfl rfl ?_
    refine kE ?_
    refine JS_seq ?_
    -- region 4
    refine sR ?_
    refine kM rfl rfl ?_
    refine kM rfl rfl ?_
    refine kO (T_ix_sub (ix := 0) (d := (Kd.int .u32)) rfl rfl rfl rfl u81 ti126 (by omega) (by omega)) rfl ?_
    refine kO (T_lde_int (i := 0) rfl rfl rfl ti126 (by omega) (getD_in (p + i) (by omega) _)) rfl ?_
    refine kM rfl rfl ?_
    refine kO (T_add rfl rfl rfl (wrap_u32 (by omega) (by omega))) rfl ?_
    refine kA rfl rfl ?_
    refine kE ?_
    refine JS_seq ?_
    refine JS_seq ?_
    -- region 5
    refine sR ?_
    refine kM rfl rfl ?_
    refine kM rfl rfl ?_
    refine kO (T_len_slice rfl rfl u81 rfl) rfl ?_
    refine kO (T_lt rfl rfl rfl) rfl ?_
    refine kE ?_
    refine JS_join1 (fun (n : Int) => [(6, Ty.val (.int .u32 n))]) [0, 1, 5, 9, 10] (fun (n : Int) => []) (fun (n : Int) => n = (gainK xs o p i).1.getD (p + i) 0 + (gainK xs o p i).2 + o.getD i 0) ?_ (fun n (hN : n = (gainK xs o p i).1.getD (p + i) 0 + (gainK xs o p i).2 + o.getD i 0) => ?_)
    · refine JS_if rfl (fun c22 => ?_) (fun c22 => ?_)
      · -- region 6
        refine sR ?_
        refine kM rfl rfl ?_
        refine kM rfl rfl ?_
        refine kM rfl rfl ?_
        refine kO (T_ix rfl rfl rfl u81 ti126 (by omega) (by omega) (getD_at (i) (by omega) _)) rfl ?_
        refine kO (T_load_int rfl ti126 rfl) rfl ?_
        refine kO (T_add rfl rfl rfl (wrap_u32 (by omega) (by omega))) rfl ?_
        refine kA rfl rfl ?_
        refine kE ?_
        exact JS_meet _ (rfl) rfl (EnvSub.consLe rfl (int_eq (rfl)) (EnvSub.pick1 rfl (EnvSub.pick1 rfl (EnvSub.pick1 rfl (EnvSub.pick1 rfl (EnvSub.pick1 rfl (EnvSub.nil _)))))))
      · refine JS_skip ?_
        exact JS_meet _ (by rw [getD_out o i (by omega)]; simp) rfl (EnvSub.consLe rfl (int_eq (rfl)) (EnvSub.pick1 rfl (EnvSub.pick1 rfl (EnvSub.pick1 rfl (EnvSub.pick1 rfl (EnvSub.pick1 rfl (EnvSub.nil _)))))))
    · -- region 7
      refine sR ?_
      refine kM rfl rfl ?_
      refine kM rfl rfl ?_
      refine kM rfl rfl ?_
      refine kO (T_rem rfl rfl rfl (by omega) (rem_nn (by omega))) rfl ?_
      refine kM rfl rfl ?_
      refine kO (T_quo rfl rfl rfl (by omega) (quo_u32 (by omega) (by omega) (by omega))) rfl ?_
      refine kO (T_ix_sub (ix := 0) (d := (Kd.int .u32)) rfl rfl rfl rfl u81 ti126 (by omega) (by omega)) rfl ?_
      refine kT ?_
      refine JT_store_elt (i := 0) rfl rfl rfl rfl rfl (by omega) (ol rfl (val_int _ _)) sz126 ?_
      refine jA rfl rfl ?_
      refine JT_done ?_
      refine JS_end_inB ?_
      -- region 8
      refine sR ?_
      refine kO (T_add rfl rfl rfl (wrap_i64 (by omega) (by omega))) rfl ?_
      refine kM rfl rfl ?_
      refine kE ?_
      exact JS_round (i + 1) ((by omega)) ((by omega)) (by have e : p + ((i : Int)).toNat = p + i := (by omega); simp only [e]; subst hN; rfl) (EnvSub.consLe rfl (int_eq (rfl)) (EnvSub.consLe rfl (int_eq (by subst hN; rfl)) (EnvSub.pick1 rfl (EnvSub.pick1 rfl (EnvSub.pick1 rfl (EnvSub.nil _))))))
  · have hi : i = o.length + 1 := by omega
    subst hi
    refine JS_exit (JE_loop_exit (JE_inB_here ?_))
    exact JS_nil (JE_normal (JE_retM0 () rfl rfl rfl rfl rfl))

end Go.Proofs.YtknflgfkhkdomaaGreatDoor.Mono

/-! MonoQ -/
set_option linter.unusedVariables false
set_option linter.unusedSimpArgs false
namespace Go.Proofs.YtknflgfkhkdomaaGreatDoor.Mono
open Go Go.RowKit

/-! The guess -/
section guess
variable {P b0 b1 b2 w0 w1 w2 w3 : Nat}
theorem guess_first (hP : 0 < P) (hw0 : w0 < P) (hw3 : w3 < 1000000000) (hb1 : 0 < b1) {b W : Nat} (hb : b = b0 + P * (b2 + 1000000000 * b1)) (hW : W = w0 + P * (w3 + 1000000000 * (w1 * 1000000000 + w2))) : W / b ≤ (w1 * 1000000000 + w2) / b1 := by
  rw [Nat.le_div_iff_mul_le hb1]
  have h1 : W / b * b ≤ W := Nat.div_mul_le_self W b
  generalize W / b = q at *
  generalize w1 * 1000000000 + w2 = t at *
  have h2 : q * (P * 1000000000 * b1) ≤ q * b := Nat.mul_le_mul_left q (by rw [hb, Nat.mul_add, Nat.mul_assoc]; omega)
  have h3 : W < P * 1000000000 * (t + 1) := by
    have : P * (w3 + 1) ≤ P * 1000000000 := Nat.mul_le_mul_left P (by omega)
    rw [hW, Nat.mul_add, Nat.mul_add, ← Nat.mul_assoc]
    rw [Nat.mul_add] at this
    omega
  have h4 : P * 1000000000 * (q * b1) < P * 1000000000 * (t + 1) := by
    rw [← Nat.mul_left_comm]; omega
  have := Nat.lt_of_mul_lt_mul_left h4
  omega
theorem guess_less (hw0 : w0 < P) {g b W : Nat} (hb : b = b0 + P * (b2 + 1000000000 * b1)) (hW : W = w0 + P * (w3 + 1000000000 * (w1 * 1000000000 + w2))) (hg : g * b1 ≤ w1 * 1000000000 + w2)
    (h : (w1 * 1000000000 + w2 - g * b1) * 1000000000 + w3 < g * b2) : W / b < g := by
  obtain ⟨t, ht⟩ : ∃ t, w1 * 1000000000 + w2 = t := ⟨_, rfl⟩
  rw [ht] at hW hg h
  have h1 : w3 + 1000000000 * t + 1 ≤ g * (b2 + 1000000000 * b1) := by
    rw [Nat.mul_add, Nat.mul_left_comm g]
    rw [Nat.sub_mul] at h
    omega
  have h2 : P * (w3 + 1000000000 * t + 1) ≤ P * (g * (b2 + 1000000000 * b1)) := Nat.mul_le_mul_left P h1
  have h3 : P * (g * (b2 + 1000000000 * b1)) ≤ g * b := by
    rw [Nat.mul_left_comm P]
    exact Nat.mul_le_mul_left g (by rw [hb]; omega)
  have h4 : W < g * b := by rw [hW]; rw [Nat.mul_add] at h2; omega
  by_cases hb0 : b = 0
  · rw [hb0] at h4; simp at h4
  · exact (Nat.div_lt_iff_lt_mul (by omega)).2 h4
theorem guess_last (hb0 : b0 < P) (hb1 : 0 < b1) {g b W : Nat} (hb : b = b0 + P * (b2 + 1000000000 * b1)) (hW : W = w0 + P * (w3 + 1000000000 * (w1 * 1000000000 + w2))) (hg : g * b1 ≤ w1 * 1000000000 + w2) (hgB : g < 1000000000)
    (h : g * b2 ≤ (w1 * 1000000000 + w2 - g * b1) * 1000000000 + w3) : g ≤ W / b + 1 := by
  obtain ⟨t, ht⟩ : ∃ t, w1 * 1000000000 + w2 = t := ⟨_, rfl⟩
  rw [ht] at hW hg h
  have hbp : 0 < b := by
    have := Nat.mul_pos (show 0 < P by omega) (show 0 < b2 + 1000000000 * b1 by omega)
    rw [hb]; omega
  have h1 : g * (b2 + 1000000000 * b1) ≤ w3 + 1000000000 * t := by
    rw [Nat.mul_add, Nat.mul_left_comm g]
    rw [Nat.sub_mul] at h
    omega
  cases g with
  | zero => exact Nat.zero_le _
  | succ g =>
    refine Nat.succ_le_succ ((Nat.le_div_iff_mul_le hbp).2 ?_)
    have h2 : g * b ≤ g * (P * (b2 + 1000000000 * b1 + 1)) := Nat.mul_le_mul_left g (by rw [hb, Nat.mul_succ]; omega)
    have h3 : g * (P * (b2 + 1000000000 * b1 + 1)) ≤ P * (w3 + 1000000000 * t) := by
      rw [Nat.mul_left_comm]
      refine Nat.mul_le_mul_left P ?_
      rw [Nat.mul_add, Nat.mul_one]
      rw [Nat.succ_mul] at h1
      omega
    rw [hW]; omega
end guess

/-! Parts of lists -/
theorem lval_split (l : List Int) (i : Nat) (h : i ≤ l.length) : lval l = lval (l.take i) + 1000000000 ^ i * lval (l.drop i) := by
  conv => lhs; rw [← List.take_append_drop i l]
  rw [lval_append, List.length_take, Nat.min_eq_left h]
theorem getD_drop (l : List Int) (i j : Nat) : (l.drop i).getD j 0 = l.getD (i + j) 0 := by simp [List.getD_eq_getElem?_getD, List.getElem?_drop]
theorem list_ext_getD {l k : List Int} (h : l.length = k.length) (hg : ∀ j, j < l.length → l.getD j 0 = k.getD j 0) : l = k := by
  refine List.ext_getElem h (fun j h1 h2 => ?_)
  have := hg j h1
  rwa [getD_nat l j h1, getD_nat k j h2] at this
theorem take_same {l k : List Int} {i : Nat} (hl : l.length = k.length) (h : ∀ j, j < i → l.getD j 0 = k.getD j 0) : l.take i = k.take i := by
  refine list_ext_getD (by simp [hl]) (fun j hj => ?_)
  have hj' : j < i := by simp at hj; omega
  have e : ∀ (l : List Int), (l.take i).getD j 0 = l.getD j 0 := fun l => by simp [List.getD_eq_getElem?_getD, List.getElem?_take, hj']
  rw [e, e, h j hj']
theorem drop_same {l k : List Int} {i : Nat} (hl : l.length = k.length) (h : ∀ j, i ≤ j → l.getD j 0 = k.getD j 0) : l.drop i = k.drop i := by
  refine list_ext_getD (by simp [hl]) (fun j hj => ?_)
  rw [getD_drop, getD_drop, h _ (by omega)]

/-- The window on the limbs from i on. -/
theorem window_lt {a b : List Int} {i : Nat} (ha : LOk a) (hb : LOk b) (hlen : i + b.length < a.length) (hR : lval (a.drop (i + 1)) < lval b) :
    lval (a.drop (i + b.length + 1)) = 0 ∧ lval (a.drop i) < 1000000000 ^ (b.length + 1) ∧ lval (a.drop i) < 1000000000 * lval b := by
  have h1 := lval_lt hb
  have h2 := lval_split (a.drop (i + 1)) b.length (by simp; omega)
  rw [List.drop_drop, show i + 1 + b.length = i + b.length + 1 by omega] at h2
  have h3 : lval (a.drop (i + b.length + 1)) = 0 := by
    rcases Nat.eq_zero_or_pos (lval (a.drop (i + b.length + 1))) with h | h
    · exact h
    · have := Nat.mul_le_mul_left (1000000000 ^ b.length) h
      omega
  have h4 : a.drop i = a[i]'(by omega) :: a.drop (i + 1) := List.drop_eq_getElem_cons (by omega)
  have h5 := ha.get i
  rw [getD_nat a i (by omega)] at h5
  refine ⟨h3, ?_, ?_⟩
  · rw [h4, lval, Nat.pow_succ, Nat.mul_comm (1000000000 ^ b.length)]
    have := Nat.mul_le_mul_left 1000000000 (show lval (a.drop (i + 1)) + 1 ≤ 1000000000 ^ b.length by omega)
    omega
  · rw [h4, lval]; omega
/-- The three limbs at the top of a window, the two of the divisor. -/
theorem window_top {a b : List Int} {i n : Nat} (ha : LOk a) (hb : LOk b) (hn : b.length = n + 2) (hlen : i + (n + 2) < a.length) (hR : lval (a.drop (i + 1)) < lval b) :
    lval b = lval (b.take n) + 1000000000 ^ n * ((b.getD n 0).toNat + 1000000000 * (b.getD (n + 1) 0).toNat) ∧ lval (b.take n) < 1000000000 ^ n ∧
    lval (a.drop i) = lval ((a.drop i).take n) + 1000000000 ^ n * ((a.getD (i + n) 0).toNat + 1000000000 * ((a.getD (i + (n + 2)) 0).toNat * 1000000000 + (a.getD (i + (n + 1)) 0).toNat)) ∧ lval ((a.drop i).take n) < 1000000000 ^ n := by
  have e1 := lval_take_succ b n
  have e2 := lval_take_succ b (n + 1)
  rw [show n + 1 + 1 = b.length by omega, List.take_length] at e2
  obtain ⟨h3, _, _⟩ := window_lt ha hb (by omega) hR
  rw [hn] at h3
  have f1 := lval_take_succ (a.drop i) n
  have f2 := lval_take_succ (a.drop i) (n + 1)
  have f3 := lval_take_succ (a.drop i) (n + 2)
  have f4 := lval_split (a.drop i) (n + 2 + 1) (by simp; omega)
  rw [List.drop_drop, show i + (n + 2 + 1) = i + (n + 2) + 1 by omega, h3, Nat.mul_zero, Nat.add_zero] at f4
  rw [getD_drop] at f1 f2 f3
  have t1 := lval_lt (hb.take n)
  have t2 := lval_lt ((ha.drop i).take n)
  rw [List.length_take, Nat.min_eq_left (by omega)] at t1
  rw [List.length_take, List.length_drop, Nat.min_eq_left (by omega)] at t2
  generalize (b.getD n 0).toNat = u0 at *
  generalize (b.getD (n + 1) 0).toNat = u1 at *
  generalize (a.getD (i + n) 0).toNat = x0 at *
  generalize (a.getD (i + (n + 1)) 0).toNat = x1 at *
  generalize (a.getD (i + (n + 2)) 0).toNat = x2 at *
  have p1 : 1000000000 ^ (n + 1) = 1000000000 ^ n * 1000000000 := Nat.pow_succ ..
  have p2 : 1000000000 ^ (n + 2) = 1000000000 ^ n * 1000000000 * 1000000000 := by rw [Nat.pow_succ, Nat.pow_succ]
  refine ⟨?_, t1, ?_, t2⟩
  · rw [e2, e1, p1, Nat.mul_add, Nat.mul_assoc]; omega
  · rw [f4, f3, f2, f1, p1, p2]
    have q1 : 1000000000 ^ n * 1000000000 * 1000000000 * x2 = 1000000000 ^ n * (1000000000 * (x2 * 1000000000)) := by rw [Nat.mul_assoc, Nat.mul_assoc, Nat.mul_comm x2]
    have q2 : 1000000000 ^ n * 1000000000 * x1 = 1000000000 ^ n * (1000000000 * x1) := Nat.mul_assoc ..
    have q3 : 1000000000 ^ n * (x0 + 1000000000 * (x2 * 1000000000 + x1)) = 1000000000 ^ n * x0 + 1000000000 ^ n * (1000000000 * (x2 * 1000000000)) + 1000000000 ^ n * (1000000000 * x1) := by
      rw [Nat.mul_add, Nat.mul_add, Nat.mul_add, Nat.add_assoc]
    rw [q1, q2, q3]; omega

/-! Taking off, adding back -/
theorem lose_fin {a b : List Int} {i : Nat} {g : Int} (ha : LOk a) (hb : LOk b) (hg : 0 ≤ g ∧ g < 1000000000) (hlen : i + b.length < a.length) (hR : lval (a.drop (i + 1)) < lval b) :
    LOk (loseK a b i g (b.length + 1)).1 ∧ (loseK a b i g (b.length + 1)).1.length = a.length ∧ (loseK a b i g (b.length + 1)).1.take i = a.take i ∧ lval ((loseK a b i g (b.length + 1)).1.drop (i + b.length + 1)) = 0 ∧
    lval ((loseK a b i g (b.length + 1)).1.drop i) < 1000000000 ^ (b.length + 1) ∧
    lval ((loseK a b i g (b.length + 1)).1.drop i) + g.toNat * lval b = lval (a.drop i) + 1000000000 ^ (b.length + 1) * (if 0 < (loseK a b i g (b.length + 1)).2.2 then 1 else 0) := by
  obtain ⟨h1, h2, h3, h4, h5, h6⟩ := loseK_law ha hb hg hlen (b.length + 1) (Nat.le_refl _)
  obtain ⟨_, _, k3, _, _, _⟩ := loseK_law ha hb hg hlen b.length (by omega)
  have hc : (loseK a b i g (b.length + 1)).2.1 = 0 := by
    simp only [loseK]
    rw [getD_out b b.length (Nat.le_refl _), Int.mul_zero, Int.add_zero]
    omega
  obtain ⟨w1, w2, _⟩ := window_lt ha hb hlen hR
  rw [hc] at h6
  have hbor : (loseK a b i g (b.length + 1)).2.2.toNat = if 0 < (loseK a b i g (b.length + 1)).2.2 then 1 else 0 := by split <;> omega
  rw [hbor] at h6
  generalize (if 0 < (loseK a b i g (b.length + 1)).2.2 then 1 else 0) = bor at *
  generalize hs : (loseK a b i g (b.length + 1)).1 = s at *
  have e1 : s.take i = a.take i := take_same h2 (fun j hj => h5 j (.inl hj))
  have e2 : s.drop (i + b.length + 1) = a.drop (i + b.length + 1) := drop_same h2 (fun j hj => h5 j (.inr (by omega)))
  have e3 : lval (s.drop (i + b.length + 1)) = 0 := by rw [e2]; exact w1
  have e4 := lval_split (s.drop i) (b.length + 1) (by simp; omega)
  rw [List.drop_drop, show i + (b.length + 1) = i + b.length + 1 by omega, e3, Nat.mul_zero, Nat.add_zero] at e4
  have e5 := lval_lt ((h1.drop i).take (b.length + 1))
  rw [List.length_take, List.length_drop, Nat.min_eq_left (by omega)] at e5
  refine ⟨h1, h2, e1, e3, by rw [e4]; exact e5, ?_⟩
  rw [lval_split s i (by omega), lval_split a i (by omega), e1, lval_take b (by omega), show i + (b.length + 1) = i + (b.length + 1) from rfl, Nat.pow_add] at h6
  have h7 : 1000000000 ^ i * (lval (s.drop i) + g.toNat * lval b) = 1000000000 ^ i * (lval (a.drop i) + 1000000000 ^ (b.length + 1) * bor) := by
    rw [Nat.mul_add, Nat.mul_add]
    have : 1000000000 ^ i * 1000000000 ^ (b.length + 1) * ((0 : Int).toNat + bor) = 1000000000 ^ i * (1000000000 ^ (b.length + 1) * bor) := by rw [Int.toNat_zero, Nat.zero_add, Nat.mul_assoc]
    omega
  exact Nat.eq_of_mul_eq_mul_left (pow9_pos i) h7
theorem gain_fin {s b : List Int} {i : Nat} (hs : LOk s) (hb : LOk b) (hlen : i + b.length < s.length) (h0 : lval (s.drop (i + b.length + 1)) = 0) :
    LOk (gainK s b i (b.length + 1)).1 ∧ (gainK s b i (b.length + 1)).1.length = s.length ∧ (gainK s b i (b.length + 1)).1.take i = s.take i ∧ lval ((gainK s b i (b.length + 1)).1.drop i) < 1000000000 ^ (b.length + 1) ∧
    ∃ c, c ≤ 1 ∧ lval ((gainK s b i (b.length + 1)).1.drop i) + 1000000000 ^ (b.length + 1) * c = lval (s.drop i) + lval b := by
  obtain ⟨h1, h2, h3, h5, h6⟩ := gainK_law hs hb hlen (b.length + 1) (Nat.le_refl _)
  generalize hc : (gainK s b i (b.length + 1)).2 = c at *
  generalize hr : (gainK s b i (b.length + 1)).1 = r at *
  have e1 : r.take i = s.take i := take_same h2 (fun j hj => h5 j (.inl hj))
  have e2 : r.drop (i + b.length + 1) = s.drop (i + b.length + 1) := drop_same h2 (fun j hj => h5 j (.inr (by omega)))
  have e3 : lval (r.drop (i + b.length + 1)) = 0 := by rw [e2]; exact h0
  have e4 := lval_split (r.drop i) (b.length + 1) (by simp; omega)
  rw [List.drop_drop, show i + (b.length + 1) = i + b.length + 1 by omega, e3, Nat.mul_zero, Nat.add_zero] at e4
  have e5 := lval_lt ((h1.drop i).take (b.length + 1))
  rw [List.length_take, List.length_drop, Nat.min_eq_left (by omega)] at e5
  refine ⟨h1, h2, e1, by rw [e4]; exact e5, c.toNat, by omega, ?_⟩
  rw [lval_split r i (by omega), lval_split s i (by omega), e1, lval_take b (by omega), Nat.pow_add] at h6
  have h7 : 1000000000 ^ i * (lval (r.drop i) + 1000000000 ^ (b.length + 1) * c.toNat) = 1000000000 ^ i * (lval (s.drop i) + lval b) := by
    rw [Nat.mul_add, Nat.mul_add, ← Nat.mul_assoc]; omega
  exact Nat.eq_of_mul_eq_mul_left (pow9_pos i) h7
/-- What a digit of the quotient leaves. -/
structure Digit (a r b : List Int) (i q : Nat) : Prop where
  ok : LOk r
  len : r.length = a.length
  quo : q = lval (a.drop i) / lval b
  lt : lval (r.drop i) < lval b
  eq : lval r + 1000000000 ^ i * (q * lval b) = lval a
theorem left_of {a r b : List Int} {i q : Nat} (hi : i ≤ a.length) (hok : LOk r) (hl : r.length = a.length) (ht : r.take i = a.take i) (hlt : lval (r.drop i) < lval b) (he : lval (r.drop i) + q * lval b = lval (a.drop i)) : Digit a r b i q := by
  refine ⟨hok, hl, ?_, hlt, ?_⟩
  · rw [← he, Nat.add_mul_div_right _ _ (by omega), Nat.div_eq_of_lt hlt]; omega
  · rw [lval_split r i (by omega), lval_split a i (by omega), ht, ← he, Nat.mul_add]; omega
/-- The guess was right. -/
theorem left_lose {a b : List Int} {i : Nat} {g : Int} (ha : LOk a) (hb : LOk b) (hg : 0 ≤ g ∧ g < 1000000000) (hlen : i + b.length < a.length) (hR : lval (a.drop (i + 1)) < lval b) (h1 : lval (a.drop i) / lval b ≤ g.toNat) (hbor : ¬ 0 < (loseK a b i g (b.length + 1)).2.2) :
    Digit a (loseK a b i g (b.length + 1)).1 b i g.toNat := by
  obtain ⟨k1, k2, k3, k4, k5, k6⟩ := lose_fin ha hb hg hlen hR
  rw [if_neg hbor, Nat.mul_zero, Nat.add_zero] at k6
  have hbp : 0 < lval b := by omega
  refine left_of (by omega) k1 k2 k3 ?_ k6
  have h2 := Nat.div_add_mod (lval (a.drop i)) (lval b)
  have h3 := Nat.mod_lt (lval (a.drop i)) hbp
  have h4 := Nat.mul_le_mul_right (lval b) h1
  rw [Nat.mul_comm (lval b)] at h2
  omega
/-- It was one too many: added back. -/
theorem left_gain {a b : List Int} {i : Nat} {g : Int} (ha : LOk a) (hb : LOk b) (hg : 0 ≤ g ∧ g < 1000000000) (hlen : i + b.length < a.length) (hR : lval (a.drop (i + 1)) < lval b) (h1 : g.toNat ≤ lval (a.drop i) / lval b + 1) (hbor : 0 < (loseK a b i g (b.length + 1)).2.2) :
    1 ≤ g ∧ Digit a (gainK (loseK a b i g (b.length + 1)).1 b i (b.length + 1)).1 b i (g - 1).toNat := by
  obtain ⟨k1, k2, k3, k4, k5, k6⟩ := lose_fin ha hb hg hlen hR
  rw [if_pos hbor, Nat.mul_one] at k6
  obtain ⟨j1, j2, j3, j4, c, j5, j6⟩ := gain_fin k1 hb (by omega) k4
  obtain ⟨_, w2, _⟩ := window_lt ha hb hlen hR
  have hbp : 0 < lval b := by omega
  have hbl := lval_lt hb
  have h2 := Nat.div_add_mod (lval (a.drop i)) (lval b)
  have h3 := Nat.mod_lt (lval (a.drop i)) hbp
  rw [Nat.mul_comm (lval b)] at h2
  generalize hq : lval (a.drop i) / lval b = q at *
  -- the guess is q + 1
  have hgq : g.toNat = q + 1 := by
    rcases Nat.lt_or_ge q g.toNat with h | h
    · omega
    · have := Nat.mul_le_mul_right (lval b) h
      omega
  have hpow : 1000000000 ^ b.length ≤ 1000000000 ^ (b.length + 1) := Nat.pow_le_pow_right (by decide) (by omega)
  rw [hgq, Nat.succ_mul] at k6
  have hc : c = 1 := by
    match c, j5 with
    | 0, _ => rw [Nat.mul_zero, Nat.add_zero] at j6; omega
    | 1, _ => rfl
  subst hc
  rw [Nat.mul_one] at j6
  refine ⟨by omega, left_of (by omega) j1 (by omega) (j3.trans k3) (by omega) ?_⟩
  rw [show (g - 1).toNat = q by omega]
  omega
end Go.Proofs.YtknflgfkhkdomaaGreatDoor.Mono

/-! MonoN -/
set_option linter.unusedVariables false
set_option linter.unusedSimpArgs false
namespace Go.Proofs.YtknflgfkhkdomaaGreatDoor.Mono
open Go Go.RowKit

theorem lims_len_lval {l : List Int} (hok : LOk l) : (lims (lval l)).length ≤ l.length := by
  rcases Nat.lt_or_ge l.length (lims (lval l)).length with h | h
  · have h1 := lval_lt hok
    have h2 := lval_ge (lims_ok (lval l)) (lims_top (lval l)) (by intro e; rw [e] at h; simp at h)
    rw [lval_lims] at h2
    have h3 : 1000000000 ^ l.length ≤ 1000000000 ^ ((lims (lval l)).length - 1) := Nat.pow_le_pow_right (by decide) (by omega)
    omega
  · exact h
theorem lims_one {B : Nat} (h : ((lims B).length : Int) = 1) : (lims B).getD 0 0 = B ∧ 0 < (lims B).getD 0 0 ∧ (lims B).getD 0 0 < 1000000000 := by
  have hv := lval_lims B
  have hok := lims_ok B
  have ht := lims_top B
  match hl : lims B, h with
  | [x], _ =>
    rw [hl] at hv hok ht
    have h1 := hok x (by simp)
    have h2 := ht x (by simp)
    simp only [lval] at hv
    simp only [List.getD_cons_zero]
    omega
  | [], h => simp at h
  | _ :: _ :: _, h => simp at h; omega
/-- The greatest limb, the unit. -/
theorem unit_bd {B : Nat} (h : 2 ≤ (lims B).length) : 0 < (lims B).getD ((lims B).length - 1) 0 ∧ (lims B).getD ((lims B).length - 1) 0 < 1000000000 ∧ 1 ≤ 1000000000 / ((lims B).getD ((lims B).length - 1) 0 + 1) ∧ 1000000000 / ((lims B).getD ((lims B).length - 1) 0 + 1) ≤ 500000000 := by
  have h1 := (lims_ok B).get ((lims B).length - 1)
  have h2 : (lims B).getD ((lims B).length - 1) 0 ≠ 0 := by
    have := lims_top B ((lims B).getD ((lims B).length - 1) 0)
    refine this ?_
    rw [List.getLast?_eq_getElem?, List.getElem?_eq_getElem (by omega), getD_nat _ _ (by omega)]
  generalize (lims B).getD ((lims B).length - 1) 0 = t at *
  refine ⟨by omega, h1.2, (Int.le_ediv_iff_mul_le (by omega)).2 (by omega), ?_⟩
  have := Int.ediv_lt_of_lt_mul (show 0 < t + 1 by omega) (show (1000000000 : Int) < 500000001 * (t + 1) by omega)
  omega
/-- The divisor in its scale. -/
theorem scaled_div {B : Nat} {u : Int} (h : 2 ≤ (lims B).length) (hu : u = 1000000000 / ((lims B).getD ((lims B).length - 1) 0 + 1)) {b : List Int} (hb : b = (scaL (lims B) u).take (lims B).length) : LOk b ∧ b.length = (lims B).length ∧ lval b = B * u.toNat ∧ 0 < b.getD ((lims B).length - 1) 0 := by
  have hub := unit_bd h
  have hn : lims B ≠ [] := by intro e; rw [e] at h; simp at h
  have hge := lval_ge (lims_ok B) (lims_top B) hn
  rw [lval_lims] at hge
  have hsp := lval_take_succ (lims B) ((lims B).length - 1)
  rw [show (lims B).length - 1 + 1 = (lims B).length by omega, List.take_length, lval_lims] at hsp
  have hlt := lval_lt ((lims_ok B).take ((lims B).length - 1))
  rw [List.length_take, Nat.min_eq_left (by omega)] at hlt
  have hmul : u * ((lims B).getD ((lims B).length - 1) 0 + 1) ≤ 1000000000 := by rw [hu]; exact Int.ediv_mul_le _ (by omega)
  rw [← hu] at hub
  obtain ⟨k1, k2, k3⟩ := scaL_law (lims_ok B) (y := u) (by omega)
  rw [lval_lims] at k3
  generalize (lims B).getD ((lims B).length - 1) 0 = t at *
  obtain ⟨t, rfl⟩ := Int.eq_ofNat_of_zero_le (Int.le_of_lt hub.1)
  obtain ⟨u, rfl⟩ := Int.eq_ofNat_of_zero_le (show 0 ≤ u by omega)
  rw [Int.toNat_natCast] at hsp k3 ⊢
  have hmul' : u * (t + 1) ≤ 1000000000 := by
    have q : ((u : Int) * ((t : Int) + 1)) = ((u * (t + 1) : Nat) : Int) := by rw [Int.natCast_mul, Int.natCast_add]; rfl
    rw [q] at hmul
    omega
  generalize hL : (lims B).length = L at *
  have hp : 1000000000 ^ L = 1000000000 ^ (L - 1) * 1000000000 := by rw [← Nat.pow_succ]; congr 1; omega
  have hsm : B * u < 1000000000 ^ L := by
    have h1 : B < 1000000000 ^ (L - 1) * (t + 1) := by rw [Nat.mul_succ]; omega
    have h2 : B * u < 1000000000 ^ (L - 1) * (t + 1) * u := Nat.mul_lt_mul_of_pos_right h1 (by omega)
    have h3 : 1000000000 ^ (L - 1) * (u * (t + 1)) ≤ 1000000000 ^ (L - 1) * 1000000000 := Nat.mul_le_mul_left _ hmul'
    rw [Nat.mul_assoc, Nat.mul_comm (t + 1)] at h2
    omega
  have hts := lval_take_succ (scaL (lims B) (u : Int)) L
  rw [List.take_of_length_le (by omega), k3] at hts
  have hz : (scaL (lims B) (u : Int)).getD L 0 = 0 ∨ 1 ≤ ((scaL (lims B) (u : Int)).getD L 0).toNat := by
    have := (k1.get L).1
    omega
  have hbv : lval b = B * u := by
    rw [hb]
    rcases hz with h0 | h0
    · rw [h0] at hts; simp at hts; omega
    · have := Nat.mul_le_mul_left (1000000000 ^ L) h0
      omega
  have hbok : LOk b := by rw [hb]; exact k1.take _
  have hbl : b.length = L := by rw [hb, List.length_take]; omega
  refine ⟨hbok, hbl, hbv, ?_⟩
  have h4 := lval_take_succ b (L - 1)
  rw [show L - 1 + 1 = L by omega, List.take_of_length_le (by omega)] at h4
  have h5 := lval_lt (hbok.take (L - 1))
  rw [List.length_take, Nat.min_eq_left (by omega)] at h5
  have h6 : B ≤ B * u := Nat.le_mul_of_pos_right B (by omega)
  have h7 := (hbok.get (L - 1)).1
  rcases Int.lt_or_eq_of_le h7 with h8 | h8
  · exact h8
  · rw [← h8] at h4; simp at h4; omega
/-- The dividend in its scale: the top window is small enough. -/
theorem scaled_top {A B : Nat} {u : Int} (h : 2 ≤ (lims B).length) (hAB : B ≤ A) (hu : 0 < u ∧ u < 1000000000) {b : List Int} (hbv : lval b = B * u.toNat) :
    lval ((scaL (lims A) u).drop ((lims A).length + 1 - (lims B).length)) < lval b := by
  have hl := lims_len_le hAB
  obtain ⟨k1, k2, k3⟩ := scaL_law (lims_ok A) (y := u) (by omega)
  rw [lval_lims] at k3
  have hs := lval_split (scaL (lims A) u) ((lims A).length + 1 - (lims B).length) (by omega)
  have hA := lval_lt (lims_ok A)
  have hB := lval_ge (lims_ok B) (lims_top B) (by intro e; rw [e] at h; simp at h)
  rw [lval_lims] at hA hB
  obtain ⟨u, rfl⟩ := Int.eq_ofNat_of_zero_le (Int.le_of_lt hu.1)
  rw [Int.toNat_natCast] at k3 hbv
  rw [hbv]
  generalize lval ((scaL (lims A) (u : Int)).drop ((lims A).length + 1 - (lims B).length)) = D at *
  have hp : 1000000000 ^ (lims A).length = 1000000000 ^ ((lims A).length + 1 - (lims B).length) * 1000000000 ^ ((lims B).length - 1) := by rw [← Nat.pow_add]; congr 1; omega
  refine Nat.lt_of_mul_lt_mul_left (a := 1000000000 ^ ((lims A).length + 1 - (lims B).length)) ?_
  have h1 : A * u < 1000000000 ^ (lims A).length * u := Nat.mul_lt_mul_of_pos_right hA (by omega)
  have h2 : 1000000000 ^ ((lims A).length + 1 - (lims B).length) * (1000000000 ^ ((lims B).length - 1) * u) ≤ 1000000000 ^ ((lims A).length + 1 - (lims B).length) * (B * u) := Nat.mul_le_mul_left _ (Nat.mul_le_mul_right u hB)
  rw [hp, Nat.mul_assoc] at h1
  omega
theorem rep_ok (n : Nat) : LOk (List.replicate n 0) := fun x hx => by rw [List.eq_of_mem_replicate hx]; omega
theorem rep_get (n k : Nat) : (List.replicate n (0 : Int)).getD k 0 = 0 := by
  simp only [List.getD_eq_getElem?_getD, List.getElem?_replicate]; split <;> rfl
section guess
variable {a b : List Int} {i n : Nat} (ha : LOk a) (hb : LOk b) (hn : b.length = n + 2) (hlen : i + (n + 2) < a.length) (hR : lval (a.drop (i + 1)) < lval b) (hb1 : 0 < b.getD (n + 1) 0)
include ha hb hn hlen hR hb1
/-- The first guess. -/
theorem guess0 {t g : Int} (ht : t = a.getD (i + (n + 2)) 0 * 1000000000 + a.getD (i + (n + 1)) 0) (hg : g = min (t / b.getD (n + 1) 0) 999999999) :
    0 ≤ g ∧ g < 1000000000 ∧ g * b.getD (n + 1) 0 ≤ t ∧ t - g * b.getD (n + 1) 0 < 2000000000 ∧ lval (a.drop i) / lval b ≤ g.toNat := by
  obtain ⟨t1, t2, t3, t4⟩ := window_top ha hb hn hlen hR
  obtain ⟨_, _, t5⟩ := window_lt ha hb (by omega) hR
  have g0 := ha.get (i + (n + 2)); have g1 := ha.get (i + (n + 1)); have g2 := ha.get (i + n)
  have d1 := hb.get (n + 1); have d2 := hb.get n
  have hP := pow9_pos n
  have hbp : 0 < lval b := by omega
  have hq := guess_first hP t4 (by omega : (a.getD (i + n) 0).toNat < 1000000000) (by omega : 0 < (b.getD (n + 1) 0).toNat) t1 t3
  have hq2 : lval (a.drop i) / lval b < 1000000000 := Nat.div_lt_of_lt_mul (by rw [Nat.mul_comm]; exact t5)
  -- the window's top limb is at most the divisor's
  have hw : (a.getD (i + (n + 2)) 0).toNat ≤ (b.getD (n + 1) 0).toNat := by
    rcases Nat.lt_or_ge (b.getD (n + 1) 0).toNat (a.getD (i + (n + 2)) 0).toNat with h | h
    · exfalso
      generalize (a.getD (i + (n + 2)) 0).toNat = x0 at *
      generalize (a.getD (i + (n + 1)) 0).toNat = x1 at *
      generalize (a.getD (i + n) 0).toNat = x2 at *
      have h1 : lval b < 1000000000 ^ n * (1000000000 * ((b.getD (n + 1) 0).toNat + 1)) := by
        have : 1000000000 ^ n * ((b.getD n 0).toNat + 1000000000 * (b.getD (n + 1) 0).toNat + 1) ≤ 1000000000 ^ n * (1000000000 * ((b.getD (n + 1) 0).toNat + 1)) := Nat.mul_le_mul_left _ (by omega)
        rw [Nat.mul_succ] at this
        omega
      have h2 : 1000000000 ^ n * (1000000000 * ((b.getD (n + 1) 0).toNat + 1)) ≤ 1000000000 ^ n * (1000000000 * x0) := Nat.mul_le_mul_left _ (by omega)
      have h3 : 1000000000 * (1000000000 ^ n * (1000000000 * x0)) ≤ 1000000000 ^ n * (x2 + 1000000000 * (x0 * 1000000000 + x1)) := by
        rw [Nat.mul_left_comm]
        exact Nat.mul_le_mul_left _ (by omega)
      omega
    · exact h
  generalize hv : b.getD (n + 1) 0 = v at *
  have h1 : t / v * v ≤ t := Int.ediv_mul_le _ (by omega)
  have h2 : t < (t / v + 1) * v := Int.lt_ediv_add_one_mul_self _ hb1
  have h3 : 0 ≤ t / v := Int.ediv_nonneg (by omega) (by omega)
  have h4 : (t / v).toNat = ((a.getD (i + (n + 2)) 0).toNat * 1000000000 + (a.getD (i + (n + 1)) 0).toNat) / v.toNat := by
    have e1 : t = (((a.getD (i + (n + 2)) 0).toNat * 1000000000 + (a.getD (i + (n + 1)) 0).toNat : Nat) : Int) := by omega
    have e2 : v = ((v.toNat : Nat) : Int) := by omega
    rw [e1, e2, ← Int.natCast_ediv, Int.toNat_natCast, Int.toNat_natCast]
  rw [← h4] at hq
  rw [Int.add_mul, Int.one_mul] at h2
  rcases Int.le_total (t / v) 999999999 with h | h
  · rw [Int.min_eq_left h] at hg
    subst hg
    exact ⟨h3, by omega, h1, by omega, hq⟩
  · rw [Int.min_eq_right h] at hg
    subst hg
    have h5 : 999999999 * v ≤ t / v * v := Int.mul_le_mul_of_nonneg_right h (by omega)
    exact ⟨by omega, by omega, by omega, by omega, by omega⟩
/-- One less. -/
theorem guess1 {t g : Int} (ht : t = a.getD (i + (n + 2)) 0 * 1000000000 + a.getD (i + (n + 1)) 0) (h0 : 0 ≤ g) (h1 : g * b.getD (n + 1) 0 ≤ t) (h : (t - g * b.getD (n + 1) 0) * 1000000000 + a.getD (i + n) 0 < g * b.getD n 0) : lval (a.drop i) / lval b < g.toNat := by
  obtain ⟨t1, t2, t3, t4⟩ := window_top ha hb hn hlen hR
  have g0 := ha.get (i + (n + 2)); have g1 := ha.get (i + (n + 1)); have g2 := ha.get (i + n)
  have d2 := hb.get n
  obtain ⟨g, rfl⟩ := Int.eq_ofNat_of_zero_le h0
  obtain ⟨v, hv⟩ := Int.eq_ofNat_of_zero_le (Int.le_of_lt hb1)
  obtain ⟨u, hu⟩ := Int.eq_ofNat_of_zero_le d2.1
  rw [hv] at h1 h
  rw [hu] at h
  have q1 : ((g : Int) * (v : Int)) = ((g * v : Nat) : Int) := (Int.natCast_mul g v).symm
  have q2 : ((g : Int) * (u : Int)) = ((g * u : Nat) : Int) := (Int.natCast_mul g u).symm
  rw [q1] at h1 h
  rw [q2] at h
  refine guess_less t4 t1 t3 ?_ ?_
  · rw [hv, Int.toNat_natCast, Int.toNat_natCast]; omega
  · rw [hv, hu, Int.toNat_natCast, Int.toNat_natCast, Int.toNat_natCast]; omega
/-- The last guess. -/
theorem guess2 {t g : Int} (ht : t = a.getD (i + (n + 2)) 0 * 1000000000 + a.getD (i + (n + 1)) 0) (h0 : 0 ≤ g ∧ g < 1000000000) (h1 : g * b.getD (n + 1) 0 ≤ t) (h : ¬ ((t - g * b.getD (n + 1) 0) * 1000000000 + a.getD (i + n) 0 < g * b.getD n 0) ∨ ¬ (t - g * b.getD (n + 1) 0 < 1000000000)) : g.toNat ≤ lval (a.drop i) / lval b + 1 := by
  obtain ⟨t1, t2, t3, t4⟩ := window_top ha hb hn hlen hR
  have g0 := ha.get (i + (n + 2)); have g1 := ha.get (i + (n + 1)); have g2 := ha.get (i + n)
  have d2 := hb.get n
  have gp := mul_bd h0 d2
  obtain ⟨g, rfl⟩ := Int.eq_ofNat_of_zero_le h0.1
  obtain ⟨v, hv⟩ := Int.eq_ofNat_of_zero_le (Int.le_of_lt hb1)
  obtain ⟨u, hu⟩ := Int.eq_ofNat_of_zero_le d2.1
  rw [hv] at h1 h
  rw [hu] at h gp
  have q1 : ((g : Int) * (v : Int)) = ((g * v : Nat) : Int) := (Int.natCast_mul g v).symm
  have q2 : ((g : Int) * (u : Int)) = ((g * u : Nat) : Int) := (Int.natCast_mul g u).symm
  rw [q1] at h1 h
  rw [q2] at h gp
  refine guess_last t2 (by omega) t1 t3 ?_ (by omega) ?_
  · rw [hv, Int.toNat_natCast, Int.toNat_natCast]; omega
  · rw [hv, hu, Int.toNat_natCast, Int.toNat_natCast, Int.toNat_natCast]; omega
end guess
theorem digit_step {a r b q : List Int} {i K AU : Nat} {d : Int} (hL : Digit a r b i d.toNat) (hd : 0 ≤ d ∧ d < 1000000000) (hq : LOk q) (hql : q.length = K) (hi : i < K) (hinv : lval a + lval b * lval q = AU) (hz : ∀ k, k < i + 1 → q.getD k 0 = 0) :
    LOk r ∧ r.length = a.length ∧ LOk (q.set i d) ∧ (q.set i d).length = K ∧ lval (r.drop i) < lval b ∧ lval r + lval b * lval (q.set i d) = AU ∧ ∀ k, k < i → (q.set i d).getD k 0 = 0 := by
  have hs := lval_set q i d (by omega)
  rw [hz i (by omega), Int.toNat_zero, Nat.mul_zero, Nat.add_zero] at hs
  refine ⟨hL.ok, hL.len, hq.set i hd.1 hd.2, by simp [hql], hL.lt, ?_, fun k hk => ?_⟩
  · rw [hs, Nat.mul_add, ← hinv, ← hL.eq]
    have : lval b * (1000000000 ^ i * d.toNat) = 1000000000 ^ i * (d.toNat * lval b) := by rw [Nat.mul_left_comm, Nat.mul_comm (lval b)]
    omega
  · rw [lgetD_set, if_neg (by omega)]; exact hz k (by omega)
theorem div_fin {A B u s Q : Nat} (hu : 0 < u) (h : s + B * u * Q = A * u) (hlt : s < B * u) : Q = A / B ∧ s / u = A % B := by
  have h1 : s = u * (A - B * Q) := by
    rw [Nat.mul_sub, Nat.mul_comm u A, ← h]
    have : u * (B * Q) = B * u * Q := by rw [Nat.mul_left_comm, Nat.mul_assoc]
    omega
  have h2 : B * Q ≤ A := by
    have : B * u * Q ≤ A * u := by omega
    rw [Nat.mul_right_comm] at this
    exact Nat.le_of_mul_le_mul_right this hu
  have h3 : A - B * Q < B := by
    rw [h1, Nat.mul_comm B u] at hlt
    exact Nat.lt_of_mul_lt_mul_left hlt
  have hB : 0 < B := by omega
  have e : A = (A - B * Q) + Q * B := by rw [Nat.mul_comm Q B]; omega
  constructor
  · rw [e, Nat.add_mul_div_right _ _ hB, Nat.div_eq_of_lt h3]; omega
  · rw [h1, Nat.mul_div_cancel_left _ hu]
    conv => rhs; rw [e]
    rw [Nat.add_mul_mod_self_right, Nat.mod_eq_of_lt h3]
end Go.Proofs.YtknflgfkhkdomaaGreatDoor.Mono
