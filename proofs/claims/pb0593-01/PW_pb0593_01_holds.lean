import PyProof.Rows.All
import Wide.All
import OpenK.AllK
import Wide.FinOn
import PyProof.FactsBase
import PyProof.FactsTree
import PyProof.CollectWalk
import PySem.Challenge.RW_pb0593_01
set_option Elab.async false
namespace Mine
section
open PySem PySem.W PySem.W.X PyProof.Rows
set_option autoImplicit false
set_option linter.unusedVariables false
/-- a call of a plain def: its frame's check taken as done where the limit is the usual one -/
noncomputable def callWithB (bnd : {α β : Type} → Sem α → (α → Sem β) → Sem β) (fld : Value → Nat → Sem Value) (ba : FuncData → Args → Sem (List (Str × Value)))
    (nfe : Scope → Addr → List (Str × Addr) → List (Str × Value) → Str → Option Addr → Value → Option Env → Addr → Sem Env) (lim : Sem Nat)
    (self : Addr) (fd : FuncData) (args : Args) : Sem Fin :=
  let jp := fun q : Str => bnd (ba fd args) fun bs =>
    bnd (nfe fd.scope fd.globals fd.closure bs (q ++ ".<locals>.") (some self) fd.code none fd.builtins) fun env =>
    bnd lim fun l =>
    match Nat.beq l recursionLimit with
    | false => .unsupported "another limit"
    | true => match fd.scope.isGenerator, fd.scope.isCoroutine, fd.body with
      | false, false, .stmts b => .pure (.again (.func b env))
      | _, _, _ => .unsupported "no plain def"
  match fd.code with
    | .none => jp fd.qualname
    | c => bnd (fld c 1) fun v => match v with | .str q _ => jp q | _ => jp fd.qualname
noncomputable def callFn : Addr → FuncData → Args → Sem Fin := callWithB Sem.bind field bindArgs (@newFunctionEnv) currentRecursionLimit
noncomputable def callFnT : Addr → FuncData → Args → Sem Fin :=
  callWithB R.bindR PySem.W.Fast.tw6609576154772507232 PySem.W.Fast.tw9782568553167038054 @PySem.W.Fast.tw11113344188204177931 PySem.W.Fast.tw2211186353215096513
theorem callFn_eq : callFn = callFnT := by
  unfold callFn callFnT
  rw [← PySem.W.Fast.te6609576154772507232, ← PySem.W.Fast.te9782568553167038054, ← PySem.W.Fast.te11113344188204177931, ← PySem.W.Fast.te2211186353215096513, ← R.bindR_eq]
noncomputable def denT : Code → Sem Fin := PySem.W.Fast.tw11892475500146522536 treeTable
theorem denT_eq : denote table = denT := by
  unfold denT
  rw [← PySem.W.Fast.te11892475500146522536, table_eq_tree]
section
variable {prog : Program} {w : World} {A : Around} {E : Value → Shared → Prop} {s : Shared}
theorem limit_enter {α : Type} {Γ : PySem.Ctx} {p : Pos} {s : Shared} {Y : Sem α} {Q : α → Pos → Shared → Prop} {E : Value → Pos → Shared → Prop} (hΓ : Γ.In A) (hd : A.depth < recursionLimit)
    (h : Sem.wp (model prog w) Γ (currentRecursionLimit >>= fun l => match Nat.beq l recursionLimit with | false => .unsupported "another limit" | true => Y) Q E p s) :
    Sem.wp (model prog w) Γ (enterFrame >>= fun _ => Y) Q E p s := by
  rw [Sem.wp_bind'] at h
  rw [Sem.wp_bind']
  have hsum : ((((Γ.code, p) :: Γ.below).map (·.1)).map (·.frames)).sum + ((((Γ.code, p) :: Γ.below).map (·.1)).filter Code.isCreation).length < recursionLimit := by
    have hge := frameCount_ge ((Γ.code, p) :: Γ.below)
    rw [frameCount_cons] at hge
    have := hΓ.2.1
    omega
  simp only [enterFrame, Sem.wp_bind']
  show Sem.wp (model prog w) Γ currentRecursionLimit _ _ p s
  refine Sem.wp_mono _ Γ _ (fun l p' s' h' => ?_) (fun _ _ _ h' => h') p s h
  cases hl : Nat.beq l recursionLimit with
  | false => rw [hl] at h'; exact h'.elim
  | true =>
    rw [hl] at h'
    have e := Nat.eq_of_beq_eq_true hl
    subst e
    show Sem.wp _ Γ (if nearTheLimitUnderAClaim (((Γ.code, p) :: Γ.below).map (·.1)) (((((Γ.code, p) :: Γ.below).map (·.1)).map (·.frames)).sum + ((((Γ.code, p) :: Γ.below).map (·.1)).filter Code.isCreation).length) recursionLimit = true then _ else _) _ _ p' s'
    rw [if_neg (by rw [not_nearTheLimit hΓ hd]; exact Bool.false_ne_true)]
    show Sem.wp _ Γ (if ((((Γ.code, p) :: Γ.below).map (·.1)).map (·.frames)).sum ≥ recursionLimit then _ else _) _ _ p' s'
    rw [if_neg (by omega)]
    show Sem.wp _ Γ (if ((((Γ.code, p) :: Γ.below).map (·.1)).map (·.frames)).sum + ((((Γ.code, p) :: Γ.below).map (·.1)).filter Code.isCreation).length ≥ recursionLimit then _ else _) _ _ p' s'
    rw [if_neg (by omega)]; exact h'
theorem call_bypass {a : Addr} {o : Obj} {fd : FuncData} {args : Args} {Q : PySem.Fin → Shared → Prop} (hd : A.depth < recursionLimit) (ho : s.heap.get? a = some o) (hf : o.data = .func fd)
    (h : wpAny (model prog w) A (callFn a fd args) Q E s) : wpAny (model prog w) A (denote table (.call (.ref a) args)) Q E s := by
  show wpAny (model prog w) A (callAny (.ref a) args) Q E s
  unfold callAny
  refine wpAny_bind (wpAny_load ho ?_)
  rw [hf]
  show wpAny (model prog w) A (callFunction a fd args) Q E s
  have key : ∀ (q : Str) Γ p s, Γ.In A → Sem.wp (model prog w) Γ ((bindArgs fd args) >>= fun bs =>
      (newFunctionEnv fd.scope fd.globals fd.closure bs (q ++ ".<locals>.") (some a) fd.code none fd.builtins) >>= fun env =>
      currentRecursionLimit >>= fun l => match Nat.beq l recursionLimit with
      | false => .unsupported "another limit"
      | true => match fd.scope.isGenerator, fd.scope.isCoroutine, fd.body with
        | false, false, .stmts b => .pure (.again (.func b env))
        | _, _, _ => .unsupported "no plain def") (fun a _ s => Q a s) (fun e _ s => E e s) p s →
      Sem.wp (model prog w) Γ ((bindArgs fd args) >>= fun bs =>
      (newFunctionEnv fd.scope fd.globals fd.closure bs (q ++ ".<locals>.") (some a) fd.code none fd.builtins) >>= fun env =>
      enterFrame >>= fun _ => (match fd.scope.isGenerator, fd.scope.isCoroutine with
        | false, false => again (match fd.body with | .stmts b => .func b env | .expr e => .expr e env)
        | true, false => (newGenerator (match fd.body with | .stmts b => .func b env | .expr e => .expr e env) fd.name fd.qualname) >>= ret
        | false, true => (newCoroutine (match fd.body with | .stmts b => .func b env | .expr e => .expr e env) fd.name fd.qualname) >>= ret
        | true, true => (newAsyncGenerator (match fd.body with | .stmts b => .func b env | .expr e => .expr e env) fd.name fd.qualname) >>= ret)) (fun a _ s => Q a s) (fun e _ s => E e s) p s := by
    intro q Γ p s hΓ h'
    rw [Sem.wp_bind'] at h' ⊢
    refine Sem.wp_mono _ Γ _ (fun bs p' s' h' => ?_) (fun _ _ _ h' => h') p s h'
    rw [Sem.wp_bind'] at h' ⊢
    refine Sem.wp_mono _ Γ _ (fun env p' s' h' => ?_) (fun _ _ _ h' => h') p' s' h'
    refine limit_enter hΓ hd ?_
    rw [Sem.wp_bind'] at h' ⊢
    refine Sem.wp_mono _ Γ _ (fun l p' s' h' => ?_) (fun _ _ _ h' => h') p' s' h'
    cases hl : Nat.beq l recursionLimit with
    | false => rw [hl] at h'; exact h'.elim
    | true =>
      rw [hl] at h'
      cases hg : fd.scope.isGenerator <;> cases hc : fd.scope.isCoroutine <;> cases hb : fd.body <;> rw [hg, hc, hb] at h' <;> first | exact h' | exact h'.elim
  intro Γ p hΓ
  have h' := h Γ p hΓ
  unfold callFn callWithB at h'
  unfold callFunction
  cases hc : fd.code
  case none => simp only [hc] at h' key ⊢; exact key _ Γ p s hΓ h'
  all_goals
    simp only [hc] at h' key ⊢
    rw [Sem.wp_bind'] 
    change Sem.wp (model prog w) Γ (field _ 1 >>= _) _ _ p s at h'
    rw [Sem.wp_bind'] at h'
    refine Sem.wp_mono _ Γ _ (fun v p' s' h' => ?_) (fun _ _ _ h' => h') p s h'
    cases v <;> exact key _ Γ p' s' hΓ h'
end
end
section
open PySem PySem.W PySem.W.X PyProof.Rows
set_option autoImplicit false
set_option linter.unusedVariables false
/-- a store by number: what was put last -/
noncomputable def tput : Nat → KT → Nat → Obj → KT
  | 0, _, _, _ => .nil
  | n + 1, t, i, o => match t with
    | .nil => match Nat.beq i 0 with
      | true => .node (some o) .nil .nil
      | false => match Nat.beq (i % 2) 1 with
        | true => .node none (tput n .nil (i / 2) o) .nil
        | false => .node none .nil (tput n .nil (i / 2 - 1) o)
    | .node v l r => match Nat.beq i 0 with
      | true => .node (some o) l r
      | false => match Nat.beq (i % 2) 1 with
        | true => .node v (tput n l (i / 2) o) r
        | false => .node v l (tput n r (i / 2 - 1) o)
theorem tput_get (o : Obj) : ∀ (n : Nat) (t : KT) (i j : Nat) (o' : Obj), (tput n t i o).get j = some o' → if j = i then o' = o else t.get j = some o'
  | 0, _, _, _, _, h => by cases h
  | n + 1, t, i, j, o', h => by
    have ih := tput_get o n
    cases t with
    | nil =>
      unfold tput at h
      dsimp only at h
      rw [BT.beq_eq, BT.beq_eq] at h
      by_cases h0 : i = 0
      · subst h0
        simp only [decide_true] at h
        rw [KT.get_node] at h
        by_cases hj : j = 0
        · rw [if_pos hj] at h; rw [if_pos hj]; cases h; rfl
        · rw [if_neg hj] at h; split at h <;> cases h
      · rw [decide_eq_false h0] at h
        by_cases hp : i % 2 = 1
        · rw [decide_eq_true hp] at h
          dsimp only at h
          rw [KT.get_node] at h
          by_cases hj : j = 0
          · rw [if_pos hj] at h; cases h
          · rw [if_neg hj] at h
            by_cases hq : j % 2 = 1
            · rw [if_pos hq] at h
              have := ih .nil _ _ _ h
              by_cases e : j / 2 = i / 2
              · rw [if_pos e] at this; rw [if_pos (by omega)]; exact this
              · rw [if_neg e] at this; cases this
            · rw [if_neg hq] at h; cases h
        · rw [decide_eq_false hp] at h
          dsimp only at h
          rw [KT.get_node] at h
          by_cases hj : j = 0
          · rw [if_pos hj] at h; cases h
          · rw [if_neg hj] at h
            by_cases hq : j % 2 = 1
            · rw [if_pos hq] at h; cases h
            · rw [if_neg hq] at h
              have := ih .nil _ _ _ h
              by_cases e : j / 2 - 1 = i / 2 - 1
              · rw [if_pos e] at this; rw [if_pos (by omega)]; exact this
              · rw [if_neg e] at this; cases this
    | node v l r =>
      unfold tput at h
      dsimp only at h
      rw [BT.beq_eq, BT.beq_eq] at h
      rw [KT.get_node]
      by_cases h0 : i = 0
      · subst h0
        simp only [decide_true] at h
        rw [KT.get_node] at h
        by_cases hj : j = 0
        · rw [if_pos hj] at h ⊢; cases h; rfl
        · rw [if_neg hj] at h ⊢; rw [if_neg hj]; exact h
      · rw [decide_eq_false h0] at h
        by_cases hp : i % 2 = 1
        · rw [decide_eq_true hp] at h
          dsimp only at h
          rw [KT.get_node] at h
          by_cases hj : j = 0
          · rw [if_pos hj] at h; rw [if_neg (by omega), if_pos hj]; exact h
          · rw [if_neg hj] at h
            by_cases hq : j % 2 = 1
            · rw [if_pos hq] at h
              have := ih l _ _ _ h
              by_cases e : j / 2 = i / 2
              · rw [if_pos e] at this; rw [if_pos (by omega)]; exact this
              · rw [if_neg e] at this; rw [if_neg (by omega), if_neg hj, if_pos hq]; exact this
            · rw [if_neg hq] at h; rw [if_neg (by omega), if_neg hj, if_neg hq]; exact h
        · rw [decide_eq_false hp] at h
          dsimp only at h
          rw [KT.get_node] at h
          by_cases hj : j = 0
          · rw [if_pos hj] at h; rw [if_neg (by omega), if_pos hj]; exact h
          · rw [if_neg hj] at h
            by_cases hq : j % 2 = 1
            · rw [if_pos hq] at h; rw [if_neg (by omega), if_neg hj, if_pos hq]; exact h
            · rw [if_neg hq] at h
              have := ih r _ _ _ h
              by_cases e : j / 2 - 1 = i / 2 - 1
              · rw [if_pos e] at this; rw [if_pos (by omega)]; exact this
              · rw [if_neg e] at this; rw [if_neg (by omega), if_neg hj, if_neg hq]; exact this
/-- the addresses by number: below N0 the number itself, then the given ones, then the new ones from n on -/
noncomputable def adr2 (n : Nat) : List Nat → Nat → Nat
  | [], k => n + k
  | b :: bs, k => match k with
    | 0 => b
    | k + 1 => adr2 n bs k
noncomputable def adr (N0 n : Nat) (bs : List Nat) (j : Nat) : Nat := match Nat.blt j N0 with
  | true => j
  | false => adr2 n bs (j - N0)
theorem adr2_new (n : Nat) : ∀ (bs : List Nat) (k : Nat), bs.length ≤ k → adr2 n bs k = n + (k - bs.length)
  | [], k, _ => rfl
  | b :: bs, 0, h => by simp at h
  | b :: bs, k + 1, h => by
    show adr2 n bs k = _
    rw [adr2_new n bs k (by simpa using h), List.length_cons]; omega
theorem adr2_old (n : Nat) : ∀ (bs : List Nat) (k : Nat), k < bs.length → adr2 n bs k ∈ bs
  | [], _, h => by simp at h
  | b :: bs, 0, _ => List.mem_cons_self
  | b :: bs, k + 1, h => List.mem_cons_of_mem _ (adr2_old n bs k (by simpa using h))
theorem adr2_inj (n : Nat) : ∀ (bs : List Nat), bs.Nodup → (∀ b ∈ bs, b < n) → ∀ i j, adr2 n bs i = adr2 n bs j → i = j
  | [], _, _, i, j, h => by simpa [adr2] using h
  | b :: bs, hn, hb, i, j, h => by
    rw [List.nodup_cons] at hn
    have ih := adr2_inj n bs hn.2 fun c hc => hb c (List.mem_cons_of_mem _ hc)
    have key : ∀ k, adr2 n bs k ≠ b := fun k e => by
      by_cases hk : k < bs.length
      · exact hn.1 (e ▸ adr2_old n bs k hk)
      · rw [adr2_new n bs k (by omega)] at e
        have := hb b List.mem_cons_self
        omega
    cases i <;> cases j
    · rfl
    · exact absurd h.symm (key _)
    · exact absurd h (key _)
    · exact congrArg (· + 1) (ih _ _ h)
end
section
open PySem PySem.W PySem.W.X PyProof.Rows
set_option autoImplicit false
set_option linter.unusedVariables false
structure HV where
  prog : Program
  w : World
  A : Around
  Q : PySem.Fin → Shared → Prop
  E : Value → Shared → Prop
  kt : KT
  N0 : Nat
  n : Nat
  bs : List Nat
  h₀ : Heap
  t₀ : Nat
  g : Array GenState
  d : Drawn
  os : OsState
  orc : Code → Option (Addr × (Obj → Option Value) × Code)
/-- what waits for the code at hand -/
inductive KK where
  | base
  | ret (c : Code) (hd : Option Value) (k : Result → Sem PySem.Fin) (κ : KK)
noncomputable abbrev Stk := List (Code × Pos)
structure HS where
  T : KT
  q : Nat
  i : Nat
  hs : List Nat
  acc : List (Nat × Nat)
  ks : List (Code × Code)
inductive HO where
  | done (f : PySem.Fin) (S : HS)
  | err (e : Value) (S : HS)
  | stop (why a : Nat)
inductive Nx where
  | go (c : Code) (κ : KK) (t : Sem PySem.Fin) (S : HS)
  | out (o : HO)
noncomputable def klen : KK → Nat
  | .base => 0
  | .ret _ _ _ κ => klen κ + 1
noncomputable def hOf : KK → Option Value
  | .base => none
  | .ret _ hd _ κ => match hd with
    | some v => some v
    | none => hOf κ
noncomputable def callerCode : Nat := PySem.code "claim.caller"
noncomputable def nc : Code → Bool
  | .builtin id _ => !Nat.beq (PySem.code id) callerCode
  | _ => true
noncomputable def HV.adr (V : HV) : Nat → Nat := Mine.adr V.N0 V.n V.bs
noncomputable def look (V : HV) (S : HS) (j : Nat) : Option Obj := match Nat.blt j V.N0 with
  | true => V.kt.get j
  | false => S.T.get (j - V.N0)
noncomputable def take (V : HV) (S : HS) (a : Nat) (f : Obj → Nat → HS → Nx) : Nx := match S.hs with
  | [] => .out (.stop 1 a)
  | j :: hs => match look V S j with
    | none => .out (.stop 2 j)
    | some o => f o j ⟨S.T, S.q, S.i, hs, (a, V.adr j) :: S.acc, S.ks⟩
noncomputable def plainGo (V : HV) (c : Code) (κ : KK) (S : HS) : Nx := match V.orc c with
  | some (a, chk, c') => match Nat.blt (klen κ) 60 with
    | true => take V S a fun o _ S' => match chk o with
      | some v => .go c κ (.pure (.done (.ret v))) ⟨S'.T, S'.q, S'.i, S'.hs, S'.acc, (c, c') :: S'.ks⟩
      | none => .go c κ (denT c) S'
    | false => .out (.stop 4 0)
  | none => .go c κ (denT c) S
noncomputable def enter (V : HV) (c : Code) (κ : KK) (S : HS) : Nx := match nc c with
  | false => .out (.stop 3 0)
  | true => match c with
    | .call f args => match f with
      | .ref a => take V S a fun o _ S' => match o.data with
        | .func fd => match Nat.blt (klen κ) 60 with
          | true => .go c κ (callFnT a fd args) S'
          | false => .out (.stop 4 0)
        | _ => .go c κ (denT c) S'
      | _ => .go c κ (denT c) S
    | .func _ _ => plainGo V c κ S
    | _ => .go c κ (denT c) S
noncomputable def upd (V : HV) (c : Code) (κ : KK) (f : Obj → Obj) (k : Unit → Sem PySem.Fin) (o : Obj) (j : Nat) (S' : HS) : Nx := match Nat.blt j V.N0 with
  | true => .out (.stop 7 j)
  | false => match (f o).isFreed with
    | true => .out (.stop 6 0)
    | false => .go c κ (k ()) ⟨tput 40 S'.T (j - V.N0) (f o), S'.q, S'.i, S'.hs, S'.acc, S'.ks⟩
noncomputable def step (V : HV) (c : Code) (κ : KK) (t : Sem PySem.Fin) (S : HS) : Nx := match t with
  | .pure fin => match κ with
    | .base => .out (.done fin S)
    | .ret c' _ k κ' => match fin with
      | .done f => .go c' κ' (k (.ok f)) S
      | .again c'' => match c''.quiet with
        | true => enter V c'' κ S
        | false => .out (.stop 5 0)
  | .raise e => match κ with
    | .base => .out (.err e S)
    | .ret c' _ k κ' => .go c' κ' (k (.error e)) S
  | .rule _ k => .go c κ (k ()) S
  | .at _ k => .go c κ (k ()) S
  | .point _ k => .go c κ (k ()) S
  | .ask k => .go c κ (k ⟨V.prog, V.w.params⟩) S
  | .load a _ k => take V S a fun o _ S' => .go c κ (k o) S'
  | .loadIfAlive a k => take V S a fun o _ S' => .go c κ (k (some o)) S'
  | .alloc o k => match o.isFreed with
    | true => .out (.stop 6 0)
    | false => .go c κ (k (V.adr S.q)) ⟨tput 40 S.T (S.q - V.N0) o, S.q + 1, S.i, S.hs, S.acc, S.ks⟩
  | .update a _ f k => take V S a (upd V c κ f k)
  | .fresh k => .go c κ (k (V.t₀ + S.i)) ⟨S.T, S.q, S.i + 1, S.hs, S.acc, S.ks⟩
  | .handled own k => match own with
    | false => .go c κ (k (hOf κ)) S
    | true => .out (.stop 8 0)
  | .stack _ => .out (.stop 11 0)
  | .call c' hd _ _ k => match okMark hd with
    | true => enter V c' (.ret c hd k κ) S
    | false => .out (.stop 9 0)
  | _ => .out (.stop 10 0)
noncomputable def hsim (V : HV) : Nat → Code → KK → Sem PySem.Fin → HS → HO
  | 0 => fun _ _ _ _ => .stop 0 0
  | n + 1 => fun c κ t S => match step V c κ t S with
    | .out o => o
    | .go c κ t S => hsim V n c κ t S
noncomputable def HS.Good (S : HS) : Prop := (∀ p ∈ S.acc, p.1 = p.2) ∧ ∀ k ∈ S.ks, k.1 = k.2
theorem HS.Good.mono {S S' : HS} (h : S'.Good) (ha : ∀ p ∈ S.acc, p ∈ S'.acc) (hk : ∀ k ∈ S.ks, k ∈ S'.ks) : S.Good := ⟨fun p hp => h.1 p (ha p hp), fun k hk' => h.2 k (hk k hk')⟩
/-- what a step keeps of the two lists -/
noncomputable def Nx.From (S : HS) : Nx → Prop
  | .go _ _ _ S' => (∀ p ∈ S.acc, p ∈ S'.acc) ∧ ∀ k ∈ S.ks, k ∈ S'.ks
  | .out (.done _ S') => (∀ p ∈ S.acc, p ∈ S'.acc) ∧ ∀ k ∈ S.ks, k ∈ S'.ks
  | .out (.err _ S') => (∀ p ∈ S.acc, p ∈ S'.acc) ∧ ∀ k ∈ S.ks, k ∈ S'.ks
  | .out (.stop _ _) => True
theorem from_self {S : HS} (c κ t) : (Nx.go c κ t S).From S := ⟨fun _ h => h, fun _ h => h⟩
theorem Nx.From.mono {S S' : HS} {x : Nx} (h : x.From S') (ha : ∀ p ∈ S.acc, p ∈ S'.acc) (hk : ∀ k ∈ S.ks, k ∈ S'.ks) : x.From S := by
  cases x with
  | go => exact ⟨fun p hp => h.1 p (ha p hp), fun k hk' => h.2 k (hk k hk')⟩
  | out o => cases o with
    | done => exact ⟨fun p hp => h.1 p (ha p hp), fun k hk' => h.2 k (hk k hk')⟩
    | err => exact ⟨fun p hp => h.1 p (ha p hp), fun k hk' => h.2 k (hk k hk')⟩
    | stop => trivial
theorem take_from {V : HV} {S : HS} {a : Nat} {f : Obj → Nat → HS → Nx} (h : ∀ o j S', (f o j S').From S') : (take V S a f).From S := by
  unfold take
  cases S.hs with
  | nil => trivial
  | cons j hs =>
    dsimp only
    cases look V S j with
    | none => trivial
    | some o => exact (h o j _).mono (fun _ hp => List.mem_cons_of_mem _ hp) fun _ hk => hk
theorem plain_from {V : HV} {c : Code} {κ : KK} {S : HS} : (plainGo V c κ S).From S := by
  unfold plainGo
  cases V.orc c with
  | none => exact from_self _ _ _
  | some p =>
    obtain ⟨a, chk, c'⟩ := p
    dsimp only
    cases Nat.blt (klen κ) 60 with
    | false => trivial
    | true =>
      refine take_from fun o j S' => ?_
      cases chk o with
      | some v => exact ⟨fun _ h => h, fun _ h => List.mem_cons_of_mem _ h⟩
      | none => exact from_self _ _ _
theorem enter_from {V : HV} {c : Code} {κ : KK} {S : HS} : (enter V c κ S).From S := by
  unfold enter
  cases nc c with
  | false => trivial
  | true =>
    dsimp only
    cases c with
    | call f args =>
      cases f with
      | ref a =>
        refine take_from fun o j S' => ?_
        obtain ⟨cl, di, da, sl⟩ := o
        cases da with
        | func fd =>
          dsimp only
          cases Nat.blt (klen κ) 60 with
          | true => exact from_self _ _ _
          | false => trivial
        | _ => exact from_self _ _ _
      | _ => exact from_self _ _ _
    | func b e => exact plain_from
    | _ => exact from_self _ _ _
theorem step_from {V : HV} {c : Code} {κ : KK} {t : Sem PySem.Fin} {S : HS} : (step V c κ t S).From S := by
  cases t with
  | pure fin =>
    cases κ with
    | base => exact ⟨fun _ h => h, fun _ h => h⟩
    | ret c' hd k κ' =>
      cases fin with
      | done f => exact from_self _ _ _
      | again c'' =>
        show Nx.From S (match c''.quiet with | true => enter V c'' (.ret c' hd k κ') S | false => .out (.stop 5 0))
        cases c''.quiet with
        | true => exact enter_from
        | false => trivial
  | raise e =>
    cases κ with
    | base => exact ⟨fun _ h => h, fun _ h => h⟩
    | ret c' hd k κ' => exact from_self _ _ _
  | load a p k => exact take_from fun _ _ _ => from_self _ _ _
  | loadIfAlive a k => exact take_from fun _ _ _ => from_self _ _ _
  | alloc o k =>
    show Nx.From S (match o.isFreed with | true => _ | false => _)
    cases o.isFreed with
    | true => trivial
    | false => exact ⟨fun _ h => h, fun _ h => h⟩
  | update a p f k =>
    refine take_from (f := upd V c κ f k) fun o j S' => ?_
    unfold upd
    cases Nat.blt j V.N0 with
    | true => trivial
    | false =>
      dsimp only
      cases (f o).isFreed with
      | true => trivial
      | false => exact ⟨fun _ h => h, fun _ h => h⟩
  | handled own k =>
    cases own with
    | false => exact from_self _ _ _
    | true => trivial
  | call c' hd g l k =>
    show Nx.From S (match okMark hd with | true => _ | false => _)
    cases okMark hd with
    | true => exact enter_from
    | false => trivial
  | fresh k => exact ⟨fun _ h => h, fun _ h => h⟩
  | rule _ k => exact from_self _ _ _
  | «at» _ k => exact from_self _ _ _
  | point _ k => exact from_self _ _ _
  | ask k => exact from_self _ _ _
  | _ => trivial
theorem hsim_from {V : HV} : ∀ n c κ t S, (Nx.out (hsim V n c κ t S)).From S
  | 0, _, _, _, _ => trivial
  | n + 1, c, κ, t, S => by
    have h := @step_from V c κ t S
    unfold hsim
    revert h
    cases step V c κ t S with
    | out o => exact fun z => z
    | go c κ t S' =>
      intro h
      have z := hsim_from (V := V) n c κ t S'
      dsimp only
      revert z
      cases hsim V n c κ t S' with
      | done => exact fun z => ⟨fun p hp => z.1 p (h.1 p hp), fun k hk => z.2 k (h.2 k hk)⟩
      | err => exact fun z => ⟨fun p hp => z.1 p (h.1 p hp), fun k hk => z.2 k (h.2 k hk)⟩
      | stop => exact fun _ => trivial
end
section
open PySem PySem.W PySem.W.X PyProof.Rows
set_option autoImplicit false
set_option linter.unusedVariables false
noncomputable def aIn (A : Around) : Code → KK → Around
  | _, .base => A
  | c', .ret c hd _ κ => ((aIn A c κ).mark hd).under c'
noncomputable def ncOk : Code → KK → Prop
  | _, .base => True
  | c', .ret c _ _ κ => c'.isCaller = false ∧ ncOk c κ
theorem nc_sound {c : Code} (h : nc c = true) : c.isCaller = false := by
  cases c with
  | builtin id args =>
    unfold nc at h
    cases q : (Code.builtin id args).isCaller with
    | false => rfl
    | true =>
      exfalso
      have e : id = "claim.caller" := by
        unfold Code.isCaller at q
        split at q
        · rename_i e; cases e; rfl
        · cases q
      subst e
      have h' : (!Nat.beq (PySem.code "claim.caller") (PySem.code "claim.caller")) = true := h
      rw [show Nat.beq (PySem.code "claim.caller") (PySem.code "claim.caller") = true from Nat.beq_refl _] at h'
      cases h'
  | _ => rfl
theorem weight_le {c : Code} (h : c.isCaller = false) : c.weight ≤ 5 := by
  have hf : c.frames ≤ 3 := by
    unfold Code.frames
    split <;> first | omega | (split <;> omega)
  unfold Code.weight
  rw [h]
  split <;> split <;> simp <;> omega
theorem units_le (c : Code) : c.cUnits ≤ 10 := by
  have hf : c.frames ≤ 3 := by
    unfold Code.frames
    split <;> first | omega | (split <;> omega)
  unfold Code.cUnits
  split <;> omega
theorem aIn_depth (A : Around) : ∀ (κ : KK) (c : Code), ncOk c κ → (aIn A c κ).depth ≤ A.depth + 5 * klen κ
  | .base, _, _ => by simp [aIn, klen]
  | .ret c hd k κ, c', h => by
    have := aIn_depth A κ c h.2
    have w := weight_le h.1
    show (aIn A c κ).depth + c'.weight ≤ A.depth + 5 * (klen κ + 1)
    omega
theorem aIn_units (A : Around) : ∀ (κ : KK) (c : Code), (aIn A c κ).units ≤ A.units + 10 * klen κ
  | .base, _ => by simp [aIn, klen]
  | .ret c hd k κ, c' => by
    have := aIn_units A κ c
    have w := units_le c'
    show (aIn A c κ).units + c'.cUnits ≤ A.units + 10 * (klen κ + 1)
    omega
theorem aIn_handled (A : Around) (hA : A.handled = none) : ∀ (κ : KK) (c : Code), (aIn A c κ).handled = hOf κ
  | .base, _ => hA
  | .ret c hd k κ, c' => by
    show hd.or (aIn A c κ).handled = _
    rw [aIn_handled A hA κ c]
    cases hd <;> rfl
structure HV.Ok (V : HV) : Prop where
  nodup : V.bs.Nodup
  lo : ∀ b ∈ V.bs, V.N0 ≤ b ∧ b < V.n
  n0 : V.N0 ≤ V.n
  hsz : V.h₀.objs.size = V.n
  hand : V.A.handled = none
  depth : V.A.depth + 310 < recursionLimit
  units : V.A.units + 700 < cLine
  orc : ∀ (c : Code) (a : Addr) (chk : Obj → Option Value) (c' : Code) (o : Obj) (v : Value) (A : Around) (Q : PySem.Fin → Shared → Prop) (E : Value → Shared → Prop) (s : Shared), V.orc c = some (a, chk, c') → chk o = some v → c = c' → s.heap.get? a = some o →
    (∀ b ob, b < V.N0 → V.kt.get b = some ob → s.heap.get? b = some ob) → A.units + 100 < cLine → Q (.done (.ret v)) s → wpAny (model V.prog V.w) A (denote table c) Q E s
structure Inv (V : HV) (S : HS) (h : Heap) : Prop where
  le : V.N0 + V.bs.length ≤ S.q
  size : h.objs.size = V.adr S.q
  top : ∀ a o, a < V.N0 → V.kt.get a = some o → h.get? a = some o
  own : ∀ j o, S.T.get j = some o → V.N0 + j < S.q ∧ h.get? (V.adr (V.N0 + j)) = some o
  keep : ∀ b o, V.h₀.get? b = some o → b ∉ V.bs → h.get? b = some o
section
variable {V : HV}
theorem adr_low {j : Nat} (h : j < V.N0) : V.adr j = j := by
  unfold HV.adr adr
  rw [(Z.blt_iff (m := j) (n := V.N0)).mpr h]
theorem adr_high {j : Nat} (h : V.N0 ≤ j) : V.adr j = adr2 V.n V.bs (j - V.N0) := by
  unfold HV.adr adr
  rw [show Nat.blt j V.N0 = false from Z.bool_no Z.blt_iff (by omega)]
theorem adr_new {j : Nat} (h : V.N0 + V.bs.length ≤ j) : V.adr j = V.n + (j - V.N0 - V.bs.length) := by
  rw [adr_high (by omega), adr2_new _ _ _ (by omega)]
theorem adr_ge (O : V.Ok) {j : Nat} (h : V.N0 ≤ j) : V.N0 ≤ V.adr j := by
  by_cases hk : j - V.N0 < V.bs.length
  · rw [adr_high h]; exact (O.lo _ (adr2_old V.n V.bs _ hk)).1
  · rw [adr_new (by omega)]; have := O.n0; omega
theorem adr_inj (O : V.Ok) {i j : Nat} (hi : V.N0 ≤ i) (hj : V.N0 ≤ j) (h : V.adr i = V.adr j) : i = j := by
  rw [adr_high hi, adr_high hj] at h
  have := adr2_inj V.n V.bs O.nodup (fun b hb => (O.lo b hb).2) _ _ h
  omega
theorem look_sound {S : HS} {h : Heap} (I : Inv V S h) {j : Nat} {o : Obj} (e : look V S j = some o) : h.get? (V.adr j) = some o := by
  unfold look at e
  cases q : Nat.blt j V.N0 with
  | true =>
    rw [q] at e
    have hj := Z.blt_iff.mp q
    rw [adr_low hj]
    exact I.top j o hj e
  | false =>
    rw [q] at e
    have hj : V.N0 ≤ j := by
      apply Nat.le_of_not_lt; intro z
      rw [Z.blt_iff.mpr z] at q; cases q
    have := (I.own _ _ e).2
    rwa [Nat.add_sub_cancel' hj] at this
noncomputable def PK (V : HV) : KK → (PySem.Fin → Shared → Prop) × (Value → Shared → Prop)
  | .base => (V.Q, V.E)
  | .ret c hd k κ => (fun fin s => match fin with
      | .done f => wpAny (model V.prog V.w) (aIn V.A c κ) (k (.ok f)) (PK V κ).1 (PK V κ).2 s
      | .again c'' => c''.quiet = true ∧ codeAny (model V.prog V.w) ((aIn V.A c κ).mark hd) c'' (fun r s' => wpAny (model V.prog V.w) (aIn V.A c κ) (k r) (PK V κ).1 (PK V κ).2 s') s,
    fun e s => wpAny (model V.prog V.w) (aIn V.A c κ) (k (.error e)) (PK V κ).1 (PK V κ).2 s)
noncomputable def HV.st (V : HV) (h : Heap) (i : Nat) : Shared := ⟨h, V.g, V.d, V.t₀ + i, V.os⟩
noncomputable def W (V : HV) (c : Code) (κ : KK) (t : Sem PySem.Fin) (h : Heap) (S : HS) : Prop :=
  wpAny (model V.prog V.w) (aIn V.A c κ) t (PK V κ).1 (PK V κ).2 (V.st h S.i)
noncomputable def Nx.Holds (V : HV) (R : Prop) : Nx → Prop
  | .go c κ t S => S.Good → (∀ h, Inv V S h → ncOk c κ → W V c κ t h S) → R
  | .out (.done f S) => S.Good → (∀ h, Inv V S h → V.Q f (V.st h S.i)) → R
  | .out (.err e S) => S.Good → (∀ h, Inv V S h → V.E e (V.st h S.i)) → R
  | .out (.stop _ _) => True
theorem take_sound {S : HS} {h : Heap} (I : Inv V S h) {a : Nat} {f : Obj → Nat → HS → Nx} {R : Prop} (hfrom : ∀ o j S', (f o j S').From S')
    (hf : ∀ o j S', S'.T = S.T → S'.q = S.q → S'.i = S.i → a = V.adr j → h.get? a = some o → look V S j = some o → (f o j S').Holds V R) : (take V S a f).Holds V R := by
  unfold take
  cases S.hs with
  | nil => trivial
  | cons j hs =>
    dsimp only
    cases e : look V S j with
    | none => trivial
    | some o =>
      dsimp only
      have hF := hfrom o j ⟨S.T, S.q, S.i, hs, (a, V.adr j) :: S.acc, S.ks⟩
      have hH := hf o j ⟨S.T, S.q, S.i, hs, (a, V.adr j) :: S.acc, S.ks⟩ rfl rfl rfl
      have hg : ∀ S₁ : HS, S₁.Good → (∀ p ∈ (a, V.adr j) :: S.acc, p ∈ S₁.acc) → a = V.adr j := fun S₁ g m => g.1 (a, V.adr j) (m _ List.mem_cons_self)
      have hl := look_sound I e
      cases hx : f o j ⟨S.T, S.q, S.i, hs, (a, V.adr j) :: S.acc, S.ks⟩ with
      | go c κ t S₁ =>
        rw [hx] at hF hH
        intro g
        have ea := hg S₁ g hF.1
        exact hH ea (ea ▸ hl) e g
      | out x =>
        rw [hx] at hF hH
        cases x with
        | done fin S₁ => intro g; have ea := hg S₁ g hF.1; exact hH ea (ea ▸ hl) e g
        | err v S₁ => intro g; have ea := hg S₁ g hF.1; exact hH ea (ea ▸ hl) e g
        | stop => trivial
theorem Inv.same {S S' : HS} {h : Heap} (I : Inv V S h) (hT : S'.T = S.T) (hq : S'.q = S.q) : Inv V S' h := by
  obtain ⟨a, b, c, d, e⟩ := I
  exact ⟨by rw [hq]; exact a, by rw [hq]; exact b, c, by rw [hT, hq]; exact d, e⟩
theorem plain_sound (O : V.Ok) {c : Code} {κ : KK} {S : HS} {h : Heap} (I : Inv V S h) (N : ncOk c κ) : (plainGo V c κ S).Holds V (W V c κ (denT c) h S) := by
  unfold plainGo
  cases ho : V.orc c with
  | none => exact fun _ hW => hW h I N
  | some p =>
    obtain ⟨a, chk, c'⟩ := p
    dsimp only
    cases hb : Nat.blt (klen κ) 60 with
    | false => trivial
    | true =>
      have hlt := Z.blt_iff.mp hb
      refine take_sound I (fun o j S' => ?_) (fun o j S' hT hq hi ha hob _ => ?_)
      · cases chk o with
        | some v => exact ⟨fun _ h => h, fun _ h => List.mem_cons_of_mem _ h⟩
        | none => exact from_self _ _ _
      · cases hc : chk o with
        | none =>
          intro _ hW
          have z := hW h (I.same hT hq) N
          unfold W at z ⊢
          rwa [hi] at z
        | some v =>
          intro g hW
          have e := g.2 (c, c') List.mem_cons_self
          have z := hW h (I.same hT hq) N
          unfold W at z ⊢
          dsimp only at z
          rw [hi] at z
          rw [← denT_eq]
          have hu := aIn_units V.A κ c
          have hU := O.units
          exact fun Γ p hΓ => O.orc c a chk c' o v _ _ _ _ ho hc e hob I.top (by omega) (z Γ p hΓ) Γ p hΓ
theorem Nx.Holds.imp {R R' : Prop} {x : Nx} (h : x.Holds V R) (hi : R → R') : x.Holds V R' := by
  cases x with
  | go => exact fun g hW => hi (h g hW)
  | out o => cases o with
    | done => exact fun g hW => hi (h g hW)
    | err => exact fun g hW => hi (h g hW)
    | stop => trivial
theorem enter_sound (O : V.Ok) {c c₀ : Code} {hd : Option Value} {k : Result → Sem PySem.Fin} {κ₀ : KK} {S : HS} {h : Heap} (I : Inv V S h) (N : ncOk c₀ κ₀) :
    (enter V c (.ret c₀ hd k κ₀) S).Holds V (codeAny (model V.prog V.w) ((aIn V.A c₀ κ₀).mark hd) c (fun r s' => wpAny (model V.prog V.w) (aIn V.A c₀ κ₀) (k r) (PK V κ₀).1 (PK V κ₀).2 s') (V.st h S.i)) := by
  unfold enter
  cases hn : nc c with
  | false => trivial
  | true =>
    have hN : ncOk c (.ret c₀ hd k κ₀) := ⟨nc_sound hn, N⟩
    have plain : ∀ S₁ : HS, S₁.T = S.T → S₁.q = S.q → S₁.i = S.i → (Nx.go c (.ret c₀ hd k κ₀) (denT c) S₁).Holds V (codeAny (model V.prog V.w) ((aIn V.A c₀ κ₀).mark hd) c
        (fun r s' => wpAny (model V.prog V.w) (aIn V.A c₀ κ₀) (k r) (PK V κ₀).1 (PK V κ₀).2 s') (V.st h S.i)) := by
      intro S₁ hT hq hi _ hW
      have z := hW h (I.same hT hq) hN
      unfold W at z
      rw [hi, ← denT_eq] at z
      exact x_code (wpAny_mono z (fun fin s' y => by cases fin <;> exact y) fun _ _ y => y)
    dsimp only
    cases c with
    | call f args =>
      cases f with
      | ref a =>
        refine take_sound I (fun o j S' => ?_) (fun o j S' hT hq hi ha ho _ => ?_)
        · obtain ⟨cl, di, da, sl⟩ := o
          cases da with
          | func fd =>
            dsimp only
            cases Nat.blt (klen (.ret c₀ hd k κ₀)) 60 with
            | true => exact from_self _ _ _
            | false => trivial
          | _ => exact from_self _ _ _
        · obtain ⟨cl, di, da, sl⟩ := o
          cases da with
          | func fd =>
            dsimp only
            cases hb : Nat.blt (klen (.ret c₀ hd k κ₀)) 60 with
            | false => trivial
            | true =>
              intro _ hW
              have hlt := Z.blt_iff.mp hb
              have z := hW h (I.same hT hq) hN
              unfold W at z
              rw [hi, ← callFn_eq] at z
              have hdep := aIn_depth V.A (.ret c₀ hd k κ₀) (.call (.ref a) args) hN
              have hD := O.depth
              exact x_code (wpAny_mono (call_bypass (A := aIn V.A (.call (.ref a) args) (.ret c₀ hd k κ₀)) (by omega) ho rfl z) (fun fin s' y => by cases fin <;> exact y) fun _ _ y => y)
          | _ => exact plain _ hT hq hi
      | _ => exact plain _ rfl rfl rfl
    | func b e =>
      refine (plain_sound O (κ := .ret c₀ hd k κ₀) I hN).imp fun z => ?_
      unfold W at z
      rw [← denT_eq] at z
      exact x_code (wpAny_mono z (fun fin s' y => by cases fin <;> exact y) fun _ _ y => y)
    | _ => exact plain _ rfl rfl rfl
end
end
section
open PySem PySem.W PySem.W.X PyProof.Rows
set_option autoImplicit false
set_option linter.unusedVariables false
section
variable {V : HV}
theorem inv_alloc (O : V.Ok) {S : HS} {h : Heap} (I : Inv V S h) {o : Obj} (hf : o.isFreed = false) (hs : List Nat) (acc : List (Nat × Nat)) (ks : List (Code × Code)) (i : Nat) :
    Inv V ⟨tput 40 S.T (S.q - V.N0) o, S.q + 1, i, hs, acc, ks⟩ (h.push o) := by
  have hq : V.N0 ≤ S.q := Nat.le_trans (Nat.le_add_right _ _) I.le
  refine ⟨Nat.le_succ_of_le I.le, ?_, fun a o' ha e => Heap.get?_push_of_some _ (I.top a o' ha e), fun j o' e => ?_, fun b o' e hb => Heap.get?_push_of_some _ (I.keep b o' e hb)⟩
  · rw [Heap.size_push, I.size]
    show V.adr S.q + 1 = V.adr (S.q + 1)
    rw [adr_new I.le, adr_new (Nat.le_succ_of_le I.le)]
    have := I.le
    omega
  · have z := tput_get o 40 S.T (S.q - V.N0) j o' e
    by_cases hj : j = S.q - V.N0
    · rw [if_pos hj] at z
      subst hj; subst z
      refine ⟨by show V.N0 + (S.q - V.N0) < S.q + 1; omega, ?_⟩
      rw [Nat.add_sub_cancel' hq, ← I.size]
      exact Heap.get?_push_size _ hf
    · rw [if_neg hj] at z
      have y := I.own j o' z
      exact ⟨Nat.lt_succ_of_lt y.1, Heap.get?_push_of_some _ y.2⟩
theorem inv_update (O : V.Ok) {S : HS} {h : Heap} (I : Inv V S h) {f : Obj → Obj} {o : Obj} {j : Nat} (hj : V.N0 ≤ j) (e : look V S j = some o) (hf : (f o).isFreed = false) (hs : List Nat) (acc : List (Nat × Nat))
    (ks : List (Code × Code)) (i : Nat) : Inv V ⟨tput 40 S.T (j - V.N0) (f o), S.q, i, hs, acc, ks⟩ (h.update (V.adr j) f) := by
  have hl := look_sound I e
  have sb : Heap.SameBut (V.adr j) h (h.update (V.adr j) f) := Heap.SameBut.update ..
  have hjq : j < S.q := by
    unfold look at e
    rw [show Nat.blt j V.N0 = false from Z.bool_no Z.blt_iff (by omega)] at e
    have := (I.own _ _ e).1
    omega
  have ge := adr_ge O hj
  refine ⟨I.le, by rw [sb.1]; exact I.size, fun a o' ha q => (sb.2 a (Nat.ne_of_lt (Nat.lt_of_lt_of_le ha ge))).trans (I.top a o' ha q), fun i' o' q => ?_, fun b o' q hb => ?_⟩
  · have z := tput_get (f o) 40 S.T (j - V.N0) i' o' q
    by_cases hi : i' = j - V.N0
    · rw [if_pos hi] at z
      subst hi; subst z
      refine ⟨by show V.N0 + (j - V.N0) < S.q; omega, ?_⟩
      rw [Nat.add_sub_cancel' hj]
      first | exact Heap.get?_update_self f hl hf | exact Heap.get?_update_self _ hl hf
    · rw [if_neg hi] at z
      have y := I.own i' o' z
      refine ⟨y.1, (sb.2 _ fun w => hi ?_).trans y.2⟩
      have := adr_inj O (Nat.le_add_right _ _) hj w
      omega
  · refine (sb.2 b fun w => ?_).trans (I.keep b o' q hb)
    subst w
    by_cases hk : j - V.N0 < V.bs.length
    · rw [adr_high hj] at hb; exact hb (adr2_old _ _ _ hk)
    · have := Heap.lt_size q
      rw [O.hsz, adr_new (by omega)] at this
      exact absurd this (Nat.not_lt.mpr (Nat.le_add_right _ _))
theorem step_sound (O : V.Ok) {c : Code} {κ : KK} {t : Sem PySem.Fin} {S : HS} {h : Heap} (I : Inv V S h) (N : ncOk c κ) : (step V c κ t S).Holds V (W V c κ t h S) := by
  cases t with
  | pure fin =>
    cases κ with
    | base => intro _ hW; exact wpAny_pure (hW h I)
    | ret c' hd k κ' =>
      cases fin with
      | done f => intro _ hW; exact wpAny_pure (hW h I N.2)
      | again c'' =>
        show Nx.Holds V _ (match c''.quiet with | true => enter V c'' (.ret c' hd k κ') S | false => .out (.stop 5 0))
        cases hq : c''.quiet with
        | false => trivial
        | true =>
          have z := enter_sound (c := c'') (hd := hd) (k := k) O I N.2
          dsimp only
          revert z
          cases enter V c'' (.ret c' hd k κ') S with
          | go c₁ κ₁ t₁ S₁ => exact fun z g hW => wpAny_pure ⟨hq, z g hW⟩
          | out x => cases x with
            | done => exact fun z g hW => wpAny_pure ⟨hq, z g hW⟩
            | err => exact fun z g hW => wpAny_pure ⟨hq, z g hW⟩
            | stop => exact fun _ => trivial
  | raise e =>
    cases κ with
    | base => intro _ hW; exact wpAny_throw (hW h I)
    | ret c' hd k κ' => intro _ hW; exact wpAny_throw (hW h I N.2)
  | rule tag k => intro _ hW; exact wpAny_bind (m := PySem.rule tag) (f := k) (wpAny_rule (hW h I N))
  | «at» p k => intro _ hW; exact wpAny_bind (m := PySem.standAt p) (f := k) (wpAny_standAt (hW h I N))
  | point l k => intro _ hW; exact fun Γ p hΓ => hW h I N Γ p hΓ
  | ask k => intro _ hW; exact wpAny_bind (m := PySem.ask) (f := k) (wpAny_askSetting (hW h I N))
  | load a p k =>
    refine take_sound I (fun _ _ _ => from_self _ _ _) fun o j S' hT hq hi ha ho _ => ?_
    intro _ hW
    have z := hW h (I.same hT hq) N
    unfold W at z
    rw [hi] at z
    exact wpAny_bind (m := PySem.loadPart a p) (f := k) (wpAny_loadPart ho z)
  | loadIfAlive a k =>
    refine take_sound I (fun _ _ _ => from_self _ _ _) fun o j S' hT hq hi ha ho _ => ?_
    intro _ hW
    have z := hW h (I.same hT hq) N
    unfold W at z
    rw [hi] at z
    intro Γ p hΓ
    show Sem.wp _ _ (k (h.get? a)) _ _ _ _
    rw [ho]; exact z Γ p hΓ
  | alloc o k =>
    show Nx.Holds V _ (match o.isFreed with | true => _ | false => _)
    cases hf : o.isFreed with
    | true => trivial
    | false =>
      intro _ hW
      have z := hW _ (inv_alloc O I hf S.hs S.acc S.ks S.i) N
      refine wpAny_bind (m := PySem.alloc o) (f := k) (wpAny_alloc ?_)
      show wpAny _ _ (k h.objs.size) _ _ _
      rw [I.size]
      exact z
  | update a p f k =>
    refine take_sound I (f := upd V c κ f k) (fun o j S' => ?_) fun o j S' hT hq hi ha ho hl => ?_
    · unfold upd
      cases Nat.blt j V.N0 with
      | true => trivial
      | false =>
        dsimp only
        cases (f o).isFreed with
        | true => trivial
        | false => exact ⟨fun _ h => h, fun _ h => h⟩
    · unfold upd
      cases hb : Nat.blt j V.N0 with
      | true => trivial
      | false =>
        dsimp only
        cases hf : (f o).isFreed with
        | true => trivial
        | false =>
          intro _ hW
          have hj : V.N0 ≤ j := by
            apply Nat.le_of_not_lt; intro z
            rw [Z.blt_iff.mpr z] at hb; cases hb
          have I' := inv_update O I hj hl hf S'.hs S'.acc S'.ks S'.i
          rw [← hT, ← hq] at I'
          have z := hW _ I' N
          unfold W at z
          dsimp only at z
          rw [hi, ← ha] at z
          exact wpAny_bind (m := PySem.updatePart a p f) (f := k) (wpAny_updatePart ho z)
  | fresh k =>
    intro _ hW
    have z := hW h (I.same rfl rfl) N
    exact wpAny_bind (m := PySem.fresh) (f := k) (wpAny_fresh z)
  | handled own k =>
    cases own with
    | true => trivial
    | false =>
      intro _ hW
      refine wpAny_bind (m := PySem.handled) (f := k) (wpAny_handled ?_)
      rw [aIn_handled V.A O.hand κ c]
      exact hW h I N
  | call c' hd g l k =>
    show Nx.Holds V _ (match okMark hd with | true => _ | false => _)
    cases hm : okMark hd with
    | false => trivial
    | true =>
      have hnb : hd ≠ some byPass := by
        intro e
        subst e
        revert hm
        decide
      have z := enter_sound (c := c') (hd := hd) (k := k) O I N
      dsimp only
      revert z
      cases enter V c' (.ret c hd k κ) S with
      | go c₁ κ₁ t₁ S₁ => exact fun z g hW => x_call (z g hW) hnb
      | out x => cases x with
        | done => exact fun z g hW => x_call (z g hW) hnb
        | err => exact fun z g hW => x_call (z g hW) hnb
        | stop => exact fun _ => trivial
  | _ => trivial
/-- the run tells what the tree does -/
theorem hsim_sound (O : V.Ok) : ∀ (n : Nat) (c : Code) (κ : KK) (t : Sem PySem.Fin) (S : HS) (h : Heap), Inv V S h → ncOk c κ → (Nx.out (hsim V n c κ t S)).Holds V (W V c κ t h S)
  | 0, _, _, _, _, _, _, _ => trivial
  | n + 1, c, κ, t, S, h, I, N => by
    have z := step_sound (t := t) O I N
    unfold hsim
    revert z
    cases step V c κ t S with
    | out o => exact fun z => z
    | go c₁ κ₁ t₁ S₁ =>
      intro z
      dsimp only
      have F := hsim_from (V := V) n c₁ κ₁ t₁ S₁
      have y := fun h I N => hsim_sound O n c₁ κ₁ t₁ S₁ h I N
      revert F y
      cases hsim V n c₁ κ₁ t₁ S₁ with
      | done f S₂ => exact fun F y g hQ => z (g.mono F.1 F.2) fun h I N => y h I N g hQ
      | err e S₂ => exact fun F y g hQ => z (g.mono F.1 F.2) fun h I N => y h I N g hQ
      | stop => exact fun _ _ => trivial
end
end
section
open PySem PySem.W PySem.Calls PyProof.Rows
set_option autoImplicit false
set_option linter.unusedVariables false
/-- plain data -/
inductive D where
  | none
  | bool (b : Bool)
  | int (i : Int)
  | str (s : Str)
  | tup (l : List D)
  | lst (l : List D)
  | obj (a : Addr)
mutual
/-- a value bears a datum; nothing of it lies at an address of X -/
inductive Rep (X : Addr → Prop) (h : Heap) : Value → D → Prop where
  | none : Rep X h .none .none
  | bool (b : Bool) : Rep X h (.bool b) (.bool b)
  | int (i : Int) (t : Tok) : Rep X h (.int i t) (.int i)
  | str (s : Str) (t : Tok) : Rep X h (.str s t) (.str s)
  | obj (a : Addr) : Rep X h (.ref a) (.obj a)
  | tup {a : Addr} {vs : List Value} {l : List D} : IsTup h a vs.toArray → ¬ X a → RepL X h vs l → Rep X h (.ref a) (.tup l)
  | lst {a : Addr} {vs : List Value} {l : List D} : h.IsList a vs.toArray → ¬ X a → RepL X h vs l → Rep X h (.ref a) (.lst l)
inductive RepL (X : Addr → Prop) (h : Heap) : List Value → List D → Prop where
  | nil : RepL X h [] []
  | cons {v : Value} {d : D} {vs : List Value} {l : List D} : Rep X h v d → RepL X h vs l → RepL X h (v :: vs) (d :: l)
end
noncomputable abbrev Hk (h h' : Heap) : Prop := ∀ b o, h.get? b = some o → h'.get? b = some o
mutual
/-- all but what lies in X may be laid anew -/
theorem Rep.mono {X : Addr → Prop} {h h' : Heap} (hk : ∀ b o, ¬ X b → h.get? b = some o → h'.get? b = some o) : ∀ {v : Value} {d : D}, Rep X h v d → Rep X h' v d
  | _, _, .none => .none
  | _, _, .bool b => .bool b
  | _, _, .int i t => .int i t
  | _, _, .str s t => .str s t
  | _, _, .obj a => .obj a
  | _, _, .tup ht hx hl => .tup (let ⟨o, ho, r⟩ := ht; ⟨o, hk _ o hx ho, r⟩) hx (RepL.mono hk hl)
  | _, _, .lst ht hx hl => .lst (let ⟨o, ho, r⟩ := ht; ⟨o, hk _ o hx ho, r⟩) hx (RepL.mono hk hl)
theorem RepL.mono {X : Addr → Prop} {h h' : Heap} (hk : ∀ b o, ¬ X b → h.get? b = some o → h'.get? b = some o) : ∀ {vs : List Value} {l : List D}, RepL X h vs l → RepL X h' vs l
  | _, _, .nil => .nil
  | _, _, .cons a b => .cons (Rep.mono hk a) (RepL.mono hk b)
end
mutual
/-- what lives is not what is new -/
theorem Rep.avoid {X Y : Addr → Prop} {h : Heap} (hY : ∀ b, Y b → X b ∨ h.get? b = none) : ∀ {v : Value} {d : D}, Rep X h v d → Rep Y h v d
  | _, _, .none => .none
  | _, _, .bool b => .bool b
  | _, _, .int i t => .int i t
  | _, _, .str s t => .str s t
  | _, _, .obj a => .obj a
  | _, _, .tup ht hx hl => .tup ht (fun y => (hY _ y).elim hx fun e => by obtain ⟨o, ho, _⟩ := ht; rw [e] at ho; cases ho) (RepL.avoid hY hl)
  | _, _, .lst ht hx hl => .lst ht (fun y => (hY _ y).elim hx fun e => by obtain ⟨o, ho, _⟩ := ht; rw [e] at ho; cases ho) (RepL.avoid hY hl)
theorem RepL.avoid {X Y : Addr → Prop} {h : Heap} (hY : ∀ b, Y b → X b ∨ h.get? b = none) : ∀ {vs : List Value} {l : List D}, RepL X h vs l → RepL Y h vs l
  | _, _, .nil => .nil
  | _, _, .cons a b => .cons (Rep.avoid hY a) (RepL.avoid hY b)
end
section
variable {X : Addr → Prop} {h h' : Heap}
theorem Rep.keep {v : Value} {d : D} (r : Rep X h v d) (hk : Hk h h') : Rep X h' v d := r.mono fun b o _ => hk b o
theorem RepL.keep {vs : List Value} {l : List D} (r : RepL X h vs l) (hk : Hk h h') : RepL X h' vs l := r.mono fun b o _ => hk b o
theorem RepL.length : ∀ {vs : List Value} {l : List D}, RepL X h vs l → vs.length = l.length
  | _, _, .nil => rfl
  | _, _, .cons _ b => by rw [List.length_cons, List.length_cons, RepL.length b]
theorem RepL.get : ∀ {vs : List Value} {l : List D}, RepL X h vs l → ∀ {i : Nat} {d : D}, l[i]? = some d → ∃ v, vs[i]? = some v ∧ Rep X h v d
  | _, _, .nil, _, _, e => by simp at e
  | _, _, .cons a b, 0, _, e => by simp at e; subst e; exact ⟨_, rfl, a⟩
  | _, _, .cons a b, i + 1, _, e => by simpa using RepL.get b (i := i) (by simpa using e)
theorem RepL.append : ∀ {vs : List Value} {l : List D} {us : List Value} {k : List D}, RepL X h vs l → RepL X h us k → RepL X h (vs ++ us) (l ++ k)
  | _, _, _, _, .nil, r => r
  | _, _, _, _, .cons a b, r => .cons a (RepL.append b r)
theorem RepL.strs : ∀ {vs : List Value} {ss : List Str}, RepL X h vs (ss.map .str) → StrsAre vs ss
  | _, [], .nil => .nil
  | _, s :: ss, .cons (.str _ t) b => .cons s t (RepL.strs b)
theorem strs_rep : ∀ {vs : List Value} {ss : List Str}, StrsAre vs ss → RepL X h vs (ss.map .str)
  | _, _, .nil => .nil
  | _, _, .cons y t b => .cons (.str y t) (strs_rep b)
end
/-- what is known of the names and the objects of the text's top, as long as nothing of it is changed -/
structure Top0 where
  mg : Str → Option Value
  mb : Str → Option Value
  K : Addr → Option Obj
structure Top0.At (T : Top0) (h : Heap) : Prop where
  g : h.Ns mainGlobals T.mg
  b : h.Ns builtinsNs T.mb
  lim : h.NoLimit
  k : ∀ a o, T.K a = some o → h.get? a = some o
theorem Top0.At.keep {T : Top0} {h h' : Heap} (t : T.At h) (hk : Hk h h') : T.At h' := ⟨t.g.keeps hk, t.b.keeps hk, t.lim.keeps hk, fun a o e => hk a o (t.k a o e)⟩
/-- where a name of the frame at hand lies -/
noncomputable def Holds (env : Env) (h : Heap) (x : Str) (v : Value) : Prop :=
  (env.kindOf x = some .local ∧ ∃ m, h.Ns env.locals m ∧ m x = some v) ∨
  ((env.kindOf x = some .cell ∨ env.kindOf x = some .free) ∧ ∃ c, env.cells.lookup x = some c ∧ h.IsCell c (some v))
theorem Holds.keep {env : Env} {h h' : Heap} {x : Str} {v : Value} (a : Holds env h x v) (hk : Hk h h') : Holds env h' x v := by
  rcases a with ⟨a, m, b, c⟩ | ⟨a, c, b, d⟩
  · exact .inl ⟨a, m, b.keeps hk, c⟩
  · exact .inr ⟨a, c, b, d.keeps hk⟩
noncomputable abbrev Sg := Str → Option D
structure EnvR (T : Top0) (env : Env) (σ : Sg) (X : Addr → Prop) (h : Heap) : Prop where
  kind : env.scope.kind = .function
  glob : env.globals = mainGlobals
  blt : env.builtins = builtinsNs
  top : T.At h
  live : ∀ b, X b → ∃ o, h.get? b = some o
  topX : ∀ a o, T.K a = some o → ¬ X a
  get : ∀ x d, σ x = some d → x ≠ ("__debug__" : Str) ∧ x ≠ ("__classdict__" : Str) ∧ ∃ v, Holds env h x v ∧ Rep X h v d
theorem EnvR.keep {T : Top0} {env : Env} {σ : Sg} {X : Addr → Prop} {h h' : Heap} (e : EnvR T env σ X h) (hk : Hk h h') : EnvR T env σ X h' :=
  ⟨e.kind, e.glob, e.blt, e.top.keep hk, fun b hb => let ⟨o, ho⟩ := e.live b hb; ⟨o, hk b o ho⟩, e.topX, fun x d hx => let ⟨a, b, v, c, r⟩ := e.get x d hx; ⟨a, b, v, c.keep hk, r.keep hk⟩⟩
/-- what no step of ours touches -/
noncomputable abbrev outer (s : Shared) := (s.gens, s.os)
/-- all that was still stands -/
structure Kp (a b : Shared) : Prop where
  eq : outer b = outer a
  hk : Hk a.heap b.heap
theorem Kp.refl (s : Shared) : Kp s s := ⟨rfl, fun _ _ e => e⟩
theorem Kp.trans {a b c : Shared} (x : Kp a b) (y : Kp b c) : Kp a c := ⟨by rw [y.eq, x.eq], fun q o e => y.hk q o (x.hk q o e)⟩
theorem Kp.push (s : Shared) (o : Obj) (t : Nat) : Kp s { s with heap := s.heap.push o, toks := t } := ⟨rfl, fun _ _ e => Heap.get?_push_of_some _ e⟩
theorem Kp.tok (s : Shared) (t : Nat) : Kp s { s with toks := t } := ⟨rfl, fun _ _ e => e⟩
theorem Kp.of {s : Shared} {h : Heap} (t : Nat) (hk : Hk s.heap h) : Kp s { s with heap := h, toks := t } := ⟨rfl, hk⟩
theorem Kp.ofKeeps {a b : Shared} (x : Keeps a b) : Kp a b := by
  obtain ⟨h, t, rfl, k⟩ := x
  exact ⟨rfl, k⟩
section
variable (prog : Program) (w : World) (T : Top0) (A : Around) (env : Env) (σ : Sg)
/-- an expression bears a datum, and changes nothing -/
structure Ev (e : PySem.Expr) (d : D) : Prop where
  run : ∀ (X : Addr → Prop) (s : Shared), EnvR T env σ X s.heap →
  wpAny (model prog w) A (eval e env) (fun v s' => Kp s s' ∧ Rep X s'.heap v d) (fun _ _ => False) s
structure Evs (es : List PySem.Expr) (ds : List D) : Prop where
  run : ∀ (X : Addr → Prop) (pos : Pos) (s : Shared), EnvR T env σ X s.heap →
  wpAny (model prog w) A (spliced (backTo pos (starEach es env))) (fun vs s' => Kp s s' ∧ RepL X s'.heap vs ds) (fun _ _ => False) s
/-- a test -/
structure EvT (e : PySem.Expr) (b : Bool) : Prop where
  run : ∀ (X : Addr → Prop) (s : Shared), EnvR T env σ X s.heap →
  wpAny (model prog w) A (isTrue e env (eval e env)) (fun c s' => Kp s s' ∧ c = b) (fun _ _ => False) s
end
section
variable {prog : Program} {w : World} {T : Top0} {A : Around} {env : Env} {σ : Sg}
theorem ev_name {x : Str} {p : Pos} {d : D} (h : σ x = some d) : Ev prog w T A env σ (.Name x p) d := by
  refine .mk fun X s e => ?_
  obtain ⟨hd, hc, v, hv, r⟩ := e.get x d h
  have hd' : (x == ("__debug__" : Str)) = false := by simpa using hd
  have hc' : (x == ("__classdict__" : Str)) = false := by simpa using hc
  rcases hv with ⟨a, m, b, c⟩ | ⟨a | a, c, b, q⟩
  · exact wpAny_Name (wpAny_loadName_local e.kind a b c ⟨.refl s, r⟩) hd'
  · exact wpAny_Name (wpAny_loadName_cell e.kind a b q ⟨.refl s, r⟩) hd'
  · exact wpAny_Name (wpAny_loadName_free e.kind a b q ⟨.refl s, r⟩ hc') hd'
theorem ev_none {k : Nat} {p : Pos} : Ev prog w T A env σ (.Constant .none k p) .none := .mk fun X s _ => wpAny_Constant_none ⟨.refl s, .none⟩
theorem ev_bool {b : Bool} {k : Nat} {p : Pos} : Ev prog w T A env σ (.Constant (.bool b) k p) (.bool b) := .mk fun X s _ => wpAny_Constant_bool ⟨.refl s, .bool b⟩
theorem ev_int {i : Int} {k : Nat} {p : Pos} : Ev prog w T A env σ (.Constant (.int i) k p) (.int i) := .mk fun X s _ => wpAny_Constant_int ⟨.tok _ _, .int _ _⟩
theorem ev_str {x : Str} {k : Nat} {p : Pos} : Ev prog w T A env σ (.Constant (.str x) k p) (.str x) := .mk fun X s _ => wpAny_Constant_str ⟨.tok _ _, .str _ _⟩
theorem evs_nil : Evs prog w T A env σ [] [] := .mk fun X pos s _ => args_nil ⟨.refl s, .nil⟩
theorem evs_cons {e : PySem.Expr} {es : List PySem.Expr} {d : D} {ds : List D} (hne : starEach (e :: es) env = (false, eval e env) :: starEach es env) (h : Ev prog w T A env σ e d) (hs : Evs prog w T A env σ es ds) :
    Evs prog w T A env σ (e :: es) (d :: ds) := .mk fun X pos s E => by
  refine args_cons ?_ hne
  refine wpAny_mono (h.run X s E) (fun v s₁ ⟨k₁, r₁⟩ => ?_) (fun _ _ f => f)
  exact wpAny_mono (hs.run X pos s₁ (E.keep k₁.hk)) (fun vs s₂ ⟨k₂, r₂⟩ => ⟨k₁.trans k₂, .cons (r₁.keep k₂.hk) r₂⟩) (fun _ _ f => f)
theorem EnvR.fresh {X : Addr → Prop} {h : Heap} (E : EnvR T env σ X h) {a : Addr} (ha : h.objs.size ≤ a) : ¬ X a := fun x => by
  obtain ⟨o, ho⟩ := E.live a x
  exact absurd (Heap.lt_size ho) (Nat.not_lt.mpr ha)
theorem ev_tuple {es : List PySem.Expr} {ds : List D} {k : Nat} {p : Pos} (h : Evs prog w T A env σ es ds) (hl : ds.length ≤ sizeLine) : Ev prog w T A env σ (.Tuple es k p) (.tup ds) := .mk fun X s E => by
  refine wpAny_Tuple ?_
  refine wpAny_mono (h.run X p s E) (fun vs s₁ ⟨k₁, r₁⟩ => ?_) (fun _ _ f => f)
  refine ⟨by rw [r₁.length]; exact hl, k₁.trans (.push _ _ _), ?_⟩
  exact .tup (IsTup.new _ _) ((E.keep k₁.hk).fresh (Nat.le_refl _)) (r₁.keep (Kp.push s₁ _ s₁.toks).hk)
theorem ev_list {es : List PySem.Expr} {ds : List D} {p : Pos} (h : Evs prog w T A env σ es ds) (hl : ds.length ≤ sizeLine) : Ev prog w T A env σ (.List es p) (.lst ds) := .mk fun X s E => by
  refine wpAny_List ?_
  refine wpAny_mono (h.run X p s E) (fun vs s₁ ⟨k₁, r₁⟩ => ?_) (fun _ _ f => f)
  refine ⟨by rw [r₁.length]; exact hl, k₁.trans (.push _ _ _), ?_⟩
  exact .lst ⟨_, Heap.get?_push_size _ rfl, rfl, _, rfl⟩ ((E.keep k₁.hk).fresh (Nat.le_refl _)) (r₁.keep (Kp.push s₁ _ s₁.toks).hk)
theorem ev_ifexp {t b o : PySem.Expr} {c : Bool} {d : D} {p : Pos} (ht : EvT prog w T A env σ t c) (hb : c = true → Ev prog w T A env σ b d) (ho : c = false → Ev prog w T A env σ o d) :
    Ev prog w T A env σ (.IfExp t b o p) d := .mk fun X s E => by
  refine wpAny_IfExp ?_
  refine wpAny_mono (ht.run X s E) (fun c' s₁ ⟨k₁, e⟩ => ?_) (fun _ _ f => f)
  subst e
  cases c' with
  | true => exact wpAny_mono ((hb rfl).run X s₁ (E.keep k₁.hk)) (fun v s₂ ⟨k₂, r⟩ => ⟨k₁.trans k₂, r⟩) (fun _ _ f => f)
  | false => exact wpAny_mono ((ho rfl).run X s₁ (E.keep k₁.hk)) (fun v s₂ ⟨k₂, r⟩ => ⟨k₁.trans k₂, r⟩) (fun _ _ f => f)
end
end
section
open PySem PySem.W PySem.Calls PyProof.Rows PySem.SeqAt
set_option autoImplicit false
set_option linter.unusedVariables false
mutual
noncomputable def D.py : D → PyData
  | .none => .none
  | .bool b => .bool b
  | .int i => .int i
  | .str s => .str s
  | .tup l => .tuple (pyL l)
  | .lst l => .list (pyL l)
  | .obj _ => .none
noncomputable def pyL : List D → List PyData
  | [] => []
  | d :: l => d.py :: pyL l
end
mutual
noncomputable def D.plain : D → Bool
  | .none => true
  | .bool _ => true
  | .int _ => true
  | .str _ => true
  | .tup l => plainL l
  | .lst l => plainL l
  | .obj _ => false
noncomputable def plainL : List D → Bool
  | [] => true
  | d :: l => d.plain && plainL l
end
mutual
theorem Rep.reads {X : Addr → Prop} {h : Heap} : ∀ {v : Value} {d : D}, Rep X h v d → d.plain = true → ∃ as, Reads h v d.py as
  | _, _, .none, _ => ⟨_, .none⟩
  | _, _, .bool b, _ => ⟨_, .bool b⟩
  | _, _, .int i t, _ => ⟨_, .int i t⟩
  | _, _, .str s t, _ => ⟨_, .str s t⟩
  | _, _, .tup ht hx hl, p => by
    obtain ⟨as, r⟩ := RepL.reads hl (by simpa only [D.plain] using p)
    obtain ⟨o, ho, hc, n, hd⟩ := ht
    exact ⟨_, by rw [D.py]; exact .tuple ho hc hd r⟩
  | _, _, .lst ht hx hl, p => by
    obtain ⟨as, r⟩ := RepL.reads hl (by simpa only [D.plain] using p)
    obtain ⟨o, ho, hc, n, hd⟩ := ht
    exact ⟨_, by rw [D.py]; exact .list ho hc hd r⟩
theorem RepL.reads {X : Addr → Prop} {h : Heap} : ∀ {vs : List Value} {l : List D}, RepL X h vs l → plainL l = true → ∃ as, ReadsAll h vs (pyL l) as
  | _, _, .nil, _ => ⟨_, .nil⟩
  | _, _, .cons a b, p => by
    rw [plainL, Bool.and_eq_true] at p
    obtain ⟨as, r⟩ := Rep.reads a p.1
    obtain ⟨bs, r'⟩ := RepL.reads b p.2
    exact ⟨_, .cons r r'⟩
end
/-- room for what a text calls -/
structure Room (n : Nat) (A : Around) : Prop where
  hand : A.handled = none
  depth : A.depth + n < recursionLimit
  units : A.units + 10 * n + 100 < cLine
theorem Room.deeper {n : Nat} {A : Around} (R : Room (n + 1) A) (env : Env) : Room n (A.deeper env) :=
  ⟨R.hand, by have := R.depth; show A.depth + 1 + n < recursionLimit; omega, by have := R.units; show A.units + 3 + 10 * n + 100 < cLine; omega⟩
theorem Room.less {n m : Nat} {A : Around} (R : Room n A) (h : m ≤ n) : Room m A := ⟨R.hand, by have := R.depth; omega, by have := R.units; omega⟩
section
variable {prog : Program} {w : World} {T : Top0} {A : Around} {env : Env} {σ : Sg} {n : Nat}
/-- two data compared -/
structure Cmp (prog : Program) (w : World) (A : Around) (op : CmpOp) (d d' : D) (b : Bool) : Prop where
  run : ∀ (X : Addr → Prop) (s : Shared) (v v' : Value), Rep X s.heap v d → Rep X s.heap v' d' →
  wpAny (model prog w) A (compareOp op v v') (fun r s' => Kp s s' ∧ r = .bool b) (fun _ _ => False) s
theorem cmp_is_none {d : D} : Cmp prog w A .Is d .none (match d with | .none => true | _ => false) := by
  refine .mk fun X s v v' r r' => ?_
  cases r'
  refine is_none ⟨.refl s, ?_⟩
  cases r <;> rfl
theorem cmp_isnot_none {d : D} : Cmp prog w A .IsNot d .none (match d with | .none => false | _ => true) := by
  refine .mk fun X s v v' r r' => ?_
  cases r'
  refine isNot_none ⟨.refl s, ?_⟩
  cases r <;> rfl
theorem cmp_eq (R : Room n A) {d d' : D} (p : d.plain = true) (p' : d'.plain = true) (h : shaped d.py = true) (h' : shaped d'.py = true) : Cmp prog w A .Eq d d' (PyData.eqv d.py d'.py) := by
  refine .mk fun X s v v' r r' => ?_
  obtain ⟨as, ra⟩ := r.reads p
  obtain ⟨bs, rb⟩ := r'.reads p'
  exact compareEq_shaped ra rb h h' (by have := R.units; omega) ⟨.refl s, rfl⟩
theorem cmp_ne (R : Room n A) {d d' : D} (p : d.plain = true) (p' : d'.plain = true) (h : shaped d.py = true) (h' : shaped d'.py = true) : Cmp prog w A .NotEq d d' (!PyData.eqv d.py d'.py) := by
  refine .mk fun X s v v' r r' => ?_
  obtain ⟨as, ra⟩ := r.reads p
  obtain ⟨bs, rb⟩ := r'.reads p'
  exact compareNe_shaped ra rb h h' (by have := R.units; omega) ⟨.refl s, rfl⟩
theorem cmp_eq_str {a b : Str} : Cmp prog w A .Eq (.str a) (.str b) (a == b) := by
  refine .mk fun X s v v' r r' => ?_
  cases r; cases r'
  refine P.eq_str ⟨.refl s, ?_⟩
  rw [eq_meets]
theorem cmp_ne_str {a b : Str} : Cmp prog w A .NotEq (.str a) (.str b) (!(a == b)) := by
  refine .mk fun X s v v' r r' => ?_
  cases r; cases r'
  refine P.ne_str ⟨.refl s, ?_⟩
  show Value.bool (!(a.cps.toList == b.cps.toList)) = _
  rw [eq_meets]
theorem cmp_eq_int {a b : Int} : Cmp prog w A .Eq (.int a) (.int b) (a == b) := by
  refine .mk fun X s v v' r r' => ?_
  cases r; cases r'
  exact PyProof.Rows.eq_int ⟨.refl s, rfl⟩
theorem cmp_ne_bool {a b : Bool} (R : Room n A) : Cmp prog w A .NotEq (.bool a) (.bool b) (!(a == b)) := by
  have h := @cmp_ne prog w A n R (.bool a) (.bool b) rfl rfl (by cases a <;> rfl) (by cases b <;> rfl)
  have e : PyData.eqv (D.bool a).py (D.bool b).py = (a == b) := by cases a <;> cases b <;> rfl
  rwa [e] at h
theorem cmp_in_tup {a : Str} {ss : List Str} : Cmp prog w A .In (.str a) (.tup (ss.map .str)) (ss.any (· == a)) := by
  refine .mk fun X s v v' r r' => ?_
  cases r
  cases r' with
  | tup ht hx hl => exact in_tuple_strs ht hl.strs ⟨.refl s, rfl⟩
theorem cmp_notin_tup {a : Str} {ss : List Str} : Cmp prog w A .NotIn (.str a) (.tup (ss.map .str)) (!ss.any (· == a)) := by
  refine .mk fun X s v v' r r' => ?_
  cases r
  cases r' with
  | tup ht hx hl => exact notin_tuple_strs ht hl.strs ⟨.refl s, rfl⟩
theorem cmp_in_lst {a : Str} {ss : List Str} : Cmp prog w A .In (.str a) (.lst (ss.map .str)) (ss.any (· == a)) := by
  refine .mk fun X s v v' r r' => ?_
  cases r
  cases r' with
  | lst ht hx hl => exact in_list_strs ht hl.strs ⟨.refl s, rfl⟩
theorem cmp_notin_lst {a : Str} {ss : List Str} : Cmp prog w A .NotIn (.str a) (.lst (ss.map .str)) (!ss.any (· == a)) := by
  refine .mk fun X s v v' r r' => ?_
  cases r
  cases r' with
  | lst ht hx hl => exact notin_list_strs ht hl.strs ⟨.refl s, rfl⟩
theorem ev_cmp {l r : PySem.Expr} {op : CmpOp} {p : Pos} {d d' : D} {b : Bool} (hl : Ev prog w T A env σ l d) (hr : Ev prog w T A env σ r d') (hc : Cmp prog w A op d d' b) (hm : behindInMarks op r = false) :
    Ev prog w T A env σ (.Compare l [op] [r] p) (.bool b) := .mk fun X s E => by
  refine wpAny_Compare1 ?_ hm
  refine wpAny_mono (hl.run X s E) (fun v s₁ ⟨k₁, r₁⟩ => ?_) (fun _ _ f => f)
  refine wpAny_mono (hr.run X s₁ (E.keep k₁.hk)) (fun v' s₂ ⟨k₂, r₂⟩ => ?_) (fun _ _ f => f)
  refine wpAny_mono (hc.run X s₂ v v' (r₁.keep k₂.hk) r₂) (fun x s₃ ⟨k₃, e⟩ => ?_) (fun _ _ f => f)
  subst e
  exact ⟨(k₁.trans k₂).trans k₃, .bool b⟩
theorem evT_cmp {l r : PySem.Expr} {op : CmpOp} {p : Pos} {d d' : D} {b : Bool} (hl : Ev prog w T A env σ l d) (hr : Ev prog w T A env σ r d') (hc : Cmp prog w A op d d' b) (hm : behindInMarks op r = false) :
    EvT prog w T A env σ (.Compare l [op] [r] p) b := .mk fun X s E => by
  refine wpAny_isTrue_Compare1 ?_ hm
  refine wpAny_mono (hl.run X s E) (fun v s₁ ⟨k₁, r₁⟩ => ?_) (fun _ _ f => f)
  refine wpAny_mono (hr.run X s₁ (E.keep k₁.hk)) (fun v' s₂ ⟨k₂, r₂⟩ => ?_) (fun _ _ f => f)
  refine wpAny_mono (hc.run X s₂ v v' (r₁.keep k₂.hk) r₂) (fun x s₃ ⟨k₃, e⟩ => ?_) (fun _ _ f => f)
  subst e
  exact wpAny_truthy_bool ⟨(k₁.trans k₂).trans k₃, rfl⟩
theorem evT_bool {e : PySem.Expr} {b : Bool} (h : Ev prog w T A env σ e (.bool b)) (he : ∀ whole, isTrue e env whole = (do let v ← whole; standAt e.pos; holding [v] (truthy v))) : EvT prog w T A env σ e b := .mk fun X s E => by
  refine wpAny_isTrue_value ?_ (he _)
  refine wpAny_mono (h.run X s E) (fun v s₁ ⟨k₁, r₁⟩ => ?_) (fun _ _ f => f)
  cases r₁
  exact wpAny_truthy_bool ⟨k₁, rfl⟩
theorem evT_or {x : PySem.Expr} {es : List PySem.Expr} {p : Pos} {a b : Bool} (hx : EvT prog w T A env σ x a) (hr : a = false → EvT prog w T A env σ (.BoolOp .Or es p) b) : EvT prog w T A env σ (.BoolOp .Or (x :: es) p) (a || b) := .mk fun X s E => by
  refine wpAny_isTrue_BoolOp (wpAny_allTrue_Or_cons ?_)
  refine wpAny_mono (hx.run X s E) (fun c s₁ ⟨k₁, e⟩ => ?_) (fun _ _ f => f)
  subst e
  cases c with
  | true => exact ⟨k₁, rfl⟩
  | false =>
    have z := (hr rfl).run X s₁ (E.keep k₁.hk)
    have e' : isTrue (.BoolOp .Or es p) env (eval (.BoolOp .Or es p) env) = allTrue .Or es env := by rw [arm_isTrue_BoolOp]
    rw [e'] at z
    exact wpAny_mono z (fun c s₂ ⟨k₂, e⟩ => ⟨k₁.trans k₂, e⟩) (fun _ _ f => f)
theorem evT_or_nil {p : Pos} : EvT prog w T A env σ (.BoolOp .Or [] p) false := .mk fun X s E => wpAny_isTrue_BoolOp (wpAny_allTrue_Or_nil ⟨.refl s, rfl⟩)
theorem evT_and {x : PySem.Expr} {es : List PySem.Expr} {p : Pos} {a b : Bool} (hx : EvT prog w T A env σ x a) (hr : a = true → EvT prog w T A env σ (.BoolOp .And es p) b) : EvT prog w T A env σ (.BoolOp .And (x :: es) p) (a && b) := .mk fun X s E => by
  refine wpAny_isTrue_BoolOp (wpAny_allTrue_And_cons ?_)
  refine wpAny_mono (hx.run X s E) (fun c s₁ ⟨k₁, e⟩ => ?_) (fun _ _ f => f)
  subst e
  cases c with
  | false => exact ⟨k₁, rfl⟩
  | true =>
    have z := (hr rfl).run X s₁ (E.keep k₁.hk)
    have e' : isTrue (.BoolOp .And es p) env (eval (.BoolOp .And es p) env) = allTrue .And es env := by rw [arm_isTrue_BoolOp]
    rw [e'] at z
    exact wpAny_mono z (fun c s₂ ⟨k₂, e⟩ => ⟨k₁.trans k₂, e⟩) (fun _ _ f => f)
theorem evT_and_nil {p : Pos} : EvT prog w T A env σ (.BoolOp .And [] p) true := .mk fun X s E => wpAny_isTrue_BoolOp (wpAny_allTrue_And_nil ⟨.refl s, rfl⟩)
/-- a name of the top -/
theorem ev_glob {x : Str} {p : Pos} {d : D} {v : Value} (hk : env.kindOf x = some .globalImplicit) (hx : T.mg x = some v) (hd : (x == ("__debug__" : Str)) = false) (hr : ∀ (X : Addr → Prop) h, T.At h → (∀ a o, T.K a = some o → ¬ X a) → Rep X h v d) : Ev prog w T A env σ (.Name x p) d := .mk fun X s E => by
  refine Name_function_global E.kind hk (loadGlobal_global (by rw [E.glob]; exact E.top.g) hx ⟨.refl s, ?_⟩) hd
  exact hr X _ E.top E.topX
end
end
section
open PySem PySem.W PySem.Calls PyProof.Rows PySem.SeqAt PySem.Spec
set_option autoImplicit false
set_option linter.unusedVariables false
/-- texts in order, each put where it belongs -/
noncomputable def putS (x : Str) : List Str → List Str
  | [] => [x]
  | y :: r => if ltCps y.cps.toList x.cps.toList then y :: putS x r else x :: y :: r
noncomputable def srt : List Str → List Str
  | [] => []
  | x :: r => putS x (srt r)
section
variable {prog : Program} {w : World} {T : Top0} {A : Around} {env : Env} {σ : Sg} {n : Nat}
/-- what a call gives back -/
structure CallC (prog : Program) (w : World) (T : Top0) (n : Nat) (f : Value) (ds : List D) (d : D) : Prop where
  run : ∀ (A : Around) (X : Addr → Prop) (s : Shared) (vs : List Value), Room n A → T.At s.heap →
  (∀ b, X b → ∃ o, s.heap.get? b = some o) → (∀ a o, T.K a = some o → ¬ X a) → RepL X s.heap vs ds → wpAny (model prog w) A (call f vs) (fun v s' => Kp s s' ∧ Rep X s'.heap v d) (fun _ _ => False) s
theorem live_fresh {X : Addr → Prop} {h : Heap} (L : ∀ b, X b → ∃ o, h.get? b = some o) {a : Addr} (ha : h.objs.size ≤ a) : ¬ X a := fun x => by
  obtain ⟨o, ho⟩ := L a x
  exact absurd (Heap.lt_size ho) (Nat.not_lt.mpr ha)
theorem hk_size {h h' : Heap} {a : Addr} (hk : Hk h h') (ha : h'.get? a = none) (X : Addr → Prop) (L : ∀ b, X b → ∃ o, h.get? b = some o) : ¬ X a := fun x => by
  obtain ⟨o, ho⟩ := L a x
  rw [hk a o ho] at ha; cases ha
theorem c_tuple_lst {l : List D} (hl : l.length ≤ sizeLine) : CallC prog w T n (.type "tuple") [.lst l] (.tup l) := by
  refine .mk fun A X s vs R t L tx r => ?_
  cases r with
  | cons r r' =>
    cases r'
    cases r with
    | lst ht hx hr =>
      rename_i a us
      refine call_tuple_list ht (fun h' hk => ?_) (by rw [List.size_toArray, hr.length]; exact hl)
      have hk' : Hk s.heap (h'.push { cls := .type "tuple", data := .seq us.toArray }) := fun b o e => Heap.get?_push_of_some _ (hk b o e)
      exact ⟨⟨rfl, hk'⟩, .tup (IsTup.new _ _) (hk_size hk (Heap.get?_none_of_le (Nat.le_refl _)) X L) (hr.keep hk')⟩
theorem c_tuple_tup {l : List D} : CallC prog w T n (.type "tuple") [.tup l] (.tup l) := by
  refine .mk fun A X s vs R t L tx r => ?_
  cases r with
  | cons r r' =>
    cases r'
    cases r with
    | tup ht hx hr => exact call_tuple_tup ht ⟨.refl s, .tup ht hx hr⟩
theorem c_list_lst {l : List D} (hl : l.length ≤ sizeLine) : CallC prog w T n (.type "list") [.lst l] (.lst l) := by
  refine .mk fun A X s vs R t L tx r => ?_
  cases r with
  | cons r r' =>
    cases r'
    cases r with
    | lst ht hx hr =>
      obtain ⟨o, ho, hc, n, hd⟩ := ht
      refine call_list_seq (hsz := by rw [List.size_toArray, hr.length]; exact hl) _ (.inl rfl) ho hc hd fun h' c' hk hD => ?_
      exact ⟨⟨rfl, hk⟩, .lst ⟨_, hD, rfl, c', rfl⟩ (live_fresh L (Nat.le_refl _)) (hr.keep hk)⟩
theorem c_list_tup {l : List D} (hl : l.length ≤ sizeLine) : CallC prog w T n (.type "list") [.tup l] (.lst l) := by
  refine .mk fun A X s vs R t L tx r => ?_
  cases r with
  | cons r r' =>
    cases r'
    cases r with
    | tup ht hx hr =>
      obtain ⟨o, ho, hc, n, hd⟩ := ht
      refine call_list_seq (hsz := by rw [List.size_toArray, hr.length]; exact hl) _ (.inr rfl) ho hc hd fun h' c' hk hD => ?_
      exact ⟨⟨rfl, hk⟩, .lst ⟨_, hD, rfl, c', rfl⟩ (live_fresh L (Nat.le_refl _)) (hr.keep hk)⟩
theorem c_bool {b : Bool} : CallC prog w T n (.type "bool") [.bool b] (.bool b) := by
  refine .mk fun A X s vs R t L tx r => ?_
  cases r with
  | cons r r' =>
    cases r'
    cases r
    exact call_bool_bool ⟨.refl s, .bool b⟩
theorem ev_callF {x : Str} {p pos : Pos} {f : Addr} {o : Obj} {fd : FuncData} {e : PySem.Expr} {es : List PySem.Expr} {ds : List D} {d : D} (R : Room n A) (hk : env.kindOf x = some .globalImplicit) (hx : T.mg x = some (.ref f))
    (ho : T.K f = some o) (hdat : o.data = .func fd) (he : Evs prog w T A env σ (e :: es) ds) (hne : starEach (e :: es) env = (false, eval e env) :: starEach es env) (hc : CallC prog w T n (.ref f) ds d)
    (hd : (x == ("__debug__" : Str)) = false := by decide) : Ev prog w T A env σ (.Call (.Name x p) (e :: es) [] pos) d := .mk fun X s E => by
  refine Call_ ?_
  refine Name_function_global E.kind hk (loadGlobal_global (by rw [E.glob]; exact E.top.g) hx ?_) hd
  refine callWith_def hdat ?_ hne
  refine wpAny_mono (he.run X pos s E) (fun vs s₁ ⟨k₁, r₁⟩ => ?_) (fun _ _ f => f)
  have E₁ := E.keep k₁.hk
  refine ⟨E₁.top.k _ _ ho, ?_⟩
  exact wpAny_mono (hc.run A X s₁ vs R E₁.top E₁.live E₁.topX r₁) (fun v s₂ ⟨k₂, r₂⟩ => ⟨k₁.trans k₂, r₂⟩) (fun _ _ f => f)
theorem ev_callT {x : Str} {p pos : Pos} {t : String} {e : PySem.Expr} {ds : List D} {d : D} (R : Room n A) (hk : env.kindOf x = some .globalImplicit) (hg : T.mg x = none) (hx : T.mb x = some (.type t))
    (he : Evs prog w T A env σ [e] ds) (hne : starEach [e] env = (false, eval e env) :: starEach [] env) (hc : CallC prog w T n (.type t) ds d)
    (hd : (x == ("__debug__" : Str)) = false := by decide) : Ev prog w T A env σ (.Call (.Name x p) [e] [] pos) d := .mk fun X s E => by
  refine Call_ ?_
  refine Name_function_global E.kind hk (loadGlobal_builtin (by rw [E.glob]; exact E.top.g) hg (by rw [E.blt]; exact E.top.b) hx ?_) hd
  refine PyProof.Rows.callWith_type1 ?_ hne
  refine wpAny_mono (he.run X pos s E) (fun vs s₁ ⟨k₁, r₁⟩ => ?_) (fun _ _ f => f)
  have E₁ := E.keep k₁.hk
  exact wpAny_mono (hc.run A X s₁ vs R E₁.top E₁.live E₁.topX r₁) (fun v s₂ ⟨k₂, r₂⟩ => ⟨k₁.trans k₂, r₂⟩) (fun _ _ f => f)
theorem ev_callB {x : Str} {p pos : Pos} {t : String} {e : PySem.Expr} {ds : List D} {d : D} (R : Room n A) (hk : env.kindOf x = some .globalImplicit) (hg : T.mg x = none) (hx : T.mb x = some (.builtin t))
    (he : Evs prog w T A env σ [e] ds) (hne : starEach [e] env = (false, eval e env) :: starEach [] env) (hc : CallC prog w T n (.builtin t) ds d)
    (hd : (x == ("__debug__" : Str)) = false := by decide) : Ev prog w T A env σ (.Call (.Name x p) [e] [] pos) d := .mk fun X s E => by
  refine Call_ ?_
  refine Name_function_global E.kind hk (loadGlobal_builtin (by rw [E.glob]; exact E.top.g) hg (by rw [E.blt]; exact E.top.b) hx ?_) hd
  refine callWith_builtin1 ?_ hne
  refine wpAny_mono (he.run X pos s E) (fun vs s₁ ⟨k₁, r₁⟩ => ?_) (fun _ _ f => f)
  have E₁ := E.keep k₁.hk
  exact wpAny_mono (hc.run A X s₁ vs R E₁.top E₁.live E₁.topX r₁) (fun v s₂ ⟨k₂, r₂⟩ => ⟨k₁.trans k₂, r₂⟩) (fun _ _ f => f)
end
end
section
open PySem PySem.W PySem.Calls PyProof.Rows PySem.SeqAt PySem.Spec
set_option autoImplicit false
set_option linter.unusedVariables false
noncomputable def leS (a b : Str) : Prop := ltCps b.cps.toList a.cps.toList = false
theorem leS_iff (a b : Str) : leS a b ↔ a.cps.toList ≤ b.cps.toList := by
  unfold leS
  rw [ltCps_eq, decide_eq_false_iff_not, List.not_lt]
theorem leS_trans {a b c : Str} (h : leS a b) (h' : leS b c) : leS a c := by
  rw [leS_iff] at *
  exact List.le_trans h h'
theorem leS_antisymm {a b : Str} (h : leS a b) (h' : leS b a) : a = b := by
  rw [leS_iff] at *
  have := List.le_antisymm h h'
  cases a; cases b
  simp only [Str.mk.injEq]
  exact Array.toList_inj.mp this
theorem leS_total {a b : Str} (h : ¬ leS a b) : leS b a := by
  unfold leS at *
  rw [ltCps_eq] at *
  simp only [decide_eq_false_iff_not, Classical.not_not] at h
  simp only [decide_eq_false_iff_not]
  intro z
  exact List.lt_irrefl _ (List.lt_trans h z)
theorem putS_mem {x y : Str} : ∀ {l : List Str}, y ∈ putS x l ↔ y = x ∨ y ∈ l
  | [] => by simp [putS]
  | z :: r => by
    unfold putS
    split
    · rw [List.mem_cons, putS_mem, List.mem_cons]
      constructor
      · rintro (h | h | h)
        · exact .inr (.inl h)
        · exact .inl h
        · exact .inr (.inr h)
      · rintro (h | h | h)
        · exact .inr (.inl h)
        · exact .inl h
        · exact .inr (.inr h)
    · rw [List.mem_cons]
theorem putS_perm (x : Str) : ∀ l : List Str, (putS x l).Perm (x :: l)
  | [] => .refl _
  | z :: r => by
    unfold putS
    split
    · exact ((putS_perm x r).cons z).trans (.swap x z r)
    · exact .refl _
theorem putS_sorted (x : Str) : ∀ l : List Str, l.Pairwise leS → (putS x l).Pairwise leS
  | [], _ => by simp [putS]
  | z :: r, h => by
    rw [List.pairwise_cons] at h
    unfold putS
    split
    · rename_i hz
      rw [List.pairwise_cons]
      refine ⟨fun y hy => ?_, putS_sorted x r h.2⟩
      rcases putS_mem.mp hy with rfl | hy
      · refine leS_total fun q => ?_
        unfold leS at q; rw [hz] at q; cases q
      · exact h.1 y hy
    · rename_i hz
      have hz' : leS x z := by unfold leS; simpa using hz
      rw [List.pairwise_cons]
      refine ⟨fun y hy => ?_, List.pairwise_cons.mpr h⟩
      rcases List.mem_cons.mp hy with rfl | hy
      · exact hz'
      · exact leS_trans hz' (h.1 y hy)
theorem srt_perm : ∀ l : List Str, (srt l).Perm l
  | [] => .refl _
  | x :: r => (putS_perm x (srt r)).trans ((srt_perm r).cons x)
theorem srt_sorted : ∀ l : List Str, (srt l).Pairwise leS
  | [] => .nil
  | x :: r => putS_sorted x _ (srt_sorted r)
theorem rising_pairwise : ∀ (r : List Str) (x : Str), risingS x r = true → (x :: r).Pairwise leS
  | [], x, _ => by simp
  | y :: r, x, h => by
    rw [risingS, Bool.and_eq_true] at h
    have hp := rising_pairwise r y h.2
    rw [List.pairwise_cons]
    have hxy : leS x y := by unfold leS; simpa using h.1
    refine ⟨fun z hz => ?_, hp⟩
    rcases List.mem_cons.mp hz with rfl | hz
    · exact hxy
    · exact leS_trans hxy ((List.pairwise_cons.mp hp).1 z hz)
theorem sortedS_pairwise {l : List Str} (h : sortedS l = true) : l.Pairwise leS := by
  cases l with
  | nil => exact .nil
  | cons x r => exact rising_pairwise r x h
theorem srt_unique {l l' : List Str} (p : l'.Perm l) (h : l'.Pairwise leS) : l' = srt l :=
  List.Perm.eq_of_pairwise (le := leS) (fun a b _ _ => leS_antisymm) h (srt_sorted l) (p.trans (srt_perm l).symm)
theorem srt_of_perm {l l' : List Str} (p : l'.Perm l) : srt l' = srt l := srt_unique ((srt_perm l').trans p) (srt_sorted l')
section
variable {prog : Program} {w : World} {T : Top0} {A : Around} {env : Env} {σ : Sg} {n : Nat}
theorem c_sorted {ss : List Str} (hl : ss.length < 64) : CallC prog w T n (.builtin "sorted") [.lst (ss.map .str)] (.lst ((srt ss).map .str)) := by
  refine .mk fun A X s vs R t L tx r => ?_
  cases r with
  | cons r r' =>
    cases r'
    cases r with
    | lst ht hx hr =>
      rename_i a us
      refine sorted_strs ht hr.strs (by rw [hr.length, List.length_map]; exact hl) fun out ss' a1 a2 a3 => ?_
      obtain ⟨e, he⟩ := sortedAll_at s.heap us out
      have hk : Hk s.heap (sortedAll s.heap us out) := fun b o q => sortedAll_old q
      have := srt_unique a2 (sortedS_pairwise a3)
      subst this
      exact ⟨⟨rfl, hk⟩, .lst (vs := out.toList) ⟨_, he, rfl, e, rfl⟩ (live_fresh L (Nat.le_succ _)) (strs_rep a1)⟩
end
end
section
open PySem PySem.W PySem.Calls PyProof.Rows PySem.SeqAt PySem.Spec
set_option autoImplicit false
set_option linter.unusedVariables false
/-- all but some places still stands -/
noncomputable def Bt (l : List Addr) (h h' : Heap) : Prop := ∀ b o, b ∉ l → h.get? b = some o → h'.get? b = some o
theorem Bt.trans {l : List Addr} {a b c : Heap} (x : Bt l a b) (y : Bt l b c) : Bt l a c := fun q o hq e => y q o hq (x q o hq e)
theorem Bt.of {l : List Addr} {a b : Heap} (x : Hk a b) : Bt l a b := fun q o _ e => x q o e
theorem Bt.same {l : List Addr} {a b : Heap} {p : Addr} (hp : p ∈ l) (x : Heap.SameBut p a b) : Bt l a b := fun q o hq e => x.extBut q o (fun h => hq (h ▸ hp)) e
theorem Bt.sub {l l' : List Addr} {a b : Heap} (x : Bt l a b) (h : ∀ q ∈ l, q ∈ l') : Bt l' a b := fun q o hq e => x q o (fun z => hq (h q z)) e
noncomputable def wth (X : Addr → Prop) (l : List Addr) : Addr → Prop := fun b => X b ∨ b ∈ l
theorem Rep.under {X : Addr → Prop} {l : List Addr} {B h : Heap} {v : Value} {d : D} (r : Rep X B v d) (hl : ∀ b ∈ l, B.get? b = Option.none) (hb : Bt l B h) : Rep (wth X l) h v d :=
  (r.avoid (Y := wth X l) fun b hb' => hb'.elim .inl fun m => .inr (hl b m)).mono fun b o hx e => hb b o (fun m => hx (.inr m)) e
theorem RepL.under {X : Addr → Prop} {l : List Addr} {B h : Heap} {v : List Value} {d : List D} (r : RepL X B v d) (hl : ∀ b ∈ l, B.get? b = Option.none) (hb : Bt l B h) : RepL (wth X l) h v d :=
  (r.avoid (Y := wth X l) fun b hb' => hb'.elim .inl fun m => .inr (hl b m)).mono fun b o hx e => hb b o (fun m => hx (.inr m)) e
theorem Rep.drop {X : Addr → Prop} {l : List Addr} {h : Heap} {v : Value} {d : D} (r : Rep (wth X l) h v d) : Rep X h v d := r.avoid fun b hb => .inl (.inl hb)
theorem RepL.drop {X : Addr → Prop} {l : List Addr} {h : Heap} {v : List Value} {d : List D} (r : RepL (wth X l) h v d) : RepL X h v d := r.avoid fun b hb => .inl (.inl hb)
theorem Rep.past {X : Addr → Prop} {l : List Addr} {h h' : Heap} {v : Value} {d : D} (r : Rep (wth X l) h v d) (hb : Bt l h h') : Rep (wth X l) h' v d := r.mono fun b o hx e => hb b o (fun m => hx (.inr m)) e
theorem RepL.past {X : Addr → Prop} {l : List Addr} {h h' : Heap} {v : List Value} {d : List D} (r : RepL (wth X l) h v d) (hb : Bt l h h') : RepL (wth X l) h' v d := r.mono fun b o hx e => hb b o (fun m => hx (.inr m)) e
/-- a name's place: the frame's dict, or a cell -/
structure Slot1 (env : Env) (x : Str) (pl : Addr) (h : Heap) : Prop where
  kind : env.scope.kind = .function
  at_ : (env.kindOf x = some .local ∧ pl = env.locals ∧ ∃ m, h.Ns pl m) ∨ (env.kindOf x = some .cell ∧ env.cells.lookup x = some pl ∧ ∃ v, h.IsCell pl v)
theorem Slot1.keep {env : Env} {x : Str} {pl : Addr} {h h' : Heap} (a : Slot1 env x pl h) (hk : ∀ o, h.get? pl = some o → h'.get? pl = some o) : Slot1 env x pl h' :=
  ⟨a.kind, a.at_.imp (fun ⟨a, b, m, c⟩ => ⟨a, b, m, c.at' hk⟩) fun ⟨a, b, v, c⟩ => ⟨a, b, v, (let ⟨o, ho, hd⟩ := c; ⟨o, hk o ho, hd⟩)⟩⟩
section
variable {prog : Program} {w : World} {T : Top0} {A : Around} {env : Env} {σ : Sg} {n : Nat}
theorem store1 {x : Str} {pl : Addr} {v : Value} {s : Shared} {Q : Unit → Shared → Prop} {E : Value → Shared → Prop} (a : Slot1 env x pl s.heap)
    (h : ∀ h' tk, Heap.SameBut pl s.heap h' → Holds env h' x v → Slot1 env x pl h' → Q () { s with heap := h', toks := tk }) : wpAny (model prog w) A (storeName env x v) Q E s := by
  obtain ⟨hk, ⟨a, b, m, c⟩ | ⟨a, b, v₀, c⟩⟩ := a
  · subst b
    refine wpAny_storeName_local a c (fun h' hn hs => h h' _ hs (.inl ⟨a, _, hn, by simp⟩) ⟨hk, .inl ⟨a, rfl, _, hn⟩⟩) ?_
    rw [hk]; rfl
  · exact wpAny_storeName_cell hk a b c fun h' hc hs => h h' _ hs (.inr ⟨.inl a, pl, b, hc⟩) ⟨hk, .inr ⟨a, b, _, hc⟩⟩
/-- the tests of a comprehension -/
structure EvTs (prog : Program) (w : World) (T : Top0) (A : Around) (env : Env) (σ : Sg) (ifs : List PySem.Expr) (b : Bool) : Prop where
  run : ∀ (X : Addr → Prop) (s : Shared), EnvR T env σ X s.heap →
  wpAny (model prog w) A (forIn ifs true fun c r => if r = true then do let ok ← isTrue c env (eval c env); pure (ForInStep.yield ok) else pure (ForInStep.yield r)) (fun ok s' => Kp s s' ∧ ok = b) (fun _ _ => False) s
theorem evTs_nil : EvTs prog w T A env σ [] true := .mk fun X s E => wpAny_tests_nil ⟨.refl s, rfl⟩
theorem evTs_one {c : PySem.Expr} {b : Bool} (h : EvT prog w T A env σ c b) : EvTs prog w T A env σ [c] b := .mk fun X s E => wpAny_tests_one (h.run X s E)
/-- what a sequence's iterator asks -/
structure IterAt (prog : Program) (w : World) (A : Around) (I ax : Addr) (items : List Value) (St : Nat → Heap → Prop) : Prop where
  walks : Walks prog w A I [I, ax] [I] items.length (fun i v => items[i]? = some v) St
  live : ∀ i h, St i h → ∃ o, h.get? I = some o ∧ (o.cls = .type "list_iterator" ∨ o.cls = .type "tuple_iterator")
theorem pyIter_seq {X : Addr → Prop} {v : Value} {d : D} {ds : List D} {s : Shared} {Q : Value → Shared → Prop} {E : Value → Shared → Prop} (hA : A.handled = none) (hd : d = .lst ds ∨ d = .tup ds) (r : Rep X s.heap v d)
    (h : ∀ (I ax : Addr) (items : List Value) (o o' : Obj) (St : Nat → Heap → Prop), s.heap.get? I = none → s.heap.get? ax = some o → (I = s.heap.objs.size ∧ ¬ X ax) → RepL X s.heap items ds → IterAt prog w A I ax items St → o'.isFreed = false →
      St 0 (s.heap.push o') → Q (.ref I) { s with heap := s.heap.push o' }) : wpAny (model prog w) A (pyIter v) Q E s := by
  rcases hd with rfl | rfl
  · cases r with
    | lst ht hx hr =>
      rename_i ax us
      obtain ⟨o, ho, hc, k, hd⟩ := id ht
      have hlt : ax ≠ s.heap.objs.size := Nat.ne_of_lt (Heap.lt_size ho)
      refine wpAny_pyIter_list ht (h _ ax us o _ (fun i h => h.IsListIter s.heap.objs.size ax i ∧ h.IsList ax us.toArray) (Heap.get?_none_of_le (Nat.le_refl _)) ho ⟨rfl, hx⟩ hr ⟨by simpa using Walks.list hA s.heap.objs.size ax hlt us.toArray, fun i h st => let ⟨⟨o, ho, hc', _⟩, _⟩ := st; ⟨o, ho, .inl hc'⟩⟩ rfl ?_)
      exact ⟨⟨_, Heap.get?_push_size _ rfl, rfl, rfl⟩, ⟨o, Heap.get?_push_of_some _ ho, hc, k, hd⟩⟩
  · cases r with
    | tup ht hx hr =>
      rename_i ax us
      obtain ⟨o, ho, hc, k, hd⟩ := id ht
      have hlt : ax ≠ s.heap.objs.size := Nat.ne_of_lt (Heap.lt_size ho)
      refine wpAny_pyIter_tuple ht (h _ ax us o _ (fun i h => h.IsTupleIter s.heap.objs.size ax i ∧ h.IsTuple ax us.toArray) (Heap.get?_none_of_le (Nat.le_refl _)) ho ⟨rfl, hx⟩ hr ⟨by simpa using Walks.tuple hA s.heap.objs.size ax hlt us.toArray, fun i h st => let ⟨⟨o, ho, hc', _⟩, _⟩ := st; ⟨o, ho, .inr hc'⟩⟩ rfl ?_)
      exact ⟨⟨_, Heap.get?_push_size _ rfl, rfl, rfl⟩, ⟨o, Heap.get?_push_of_some _ ho, hc, k, hd⟩⟩
end
end
section
open PySem PySem.W PySem.Calls PyProof.Rows PySem.SeqAt PySem.Spec
set_option autoImplicit false
set_option linter.unusedVariables false
noncomputable def upS (σ : Sg) (x : Str) (d : D) : Sg := fun y => if y = x then some d else σ y
noncomputable def noS (σ : Sg) (x : Str) : Sg := fun y => if y = x then none else σ y
theorem upS_self (σ : Sg) (x : Str) (d : D) : upS σ x d x = some d := if_pos rfl
theorem upS_ne (σ : Sg) {x y : Str} (d : D) (h : y ≠ x) : upS σ x d y = σ y := if_neg h
theorem Top0.At.bt {T : Top0} {l : List Addr} {h h' : Heap} (t : T.At h) (b : Bt l h h') (off : ∀ b ∈ l, T.K b = none ∧ b ≠ mainGlobals ∧ b ≠ builtinsNs ∧ b ≠ cStatics) : T.At h' := by
  refine ⟨t.g.at' fun o e => b _ o (fun z => (off _ z).2.1 rfl) e, t.b.at' fun o e => b _ o (fun z => (off _ z).2.2.1 rfl) e, ?_, fun a o e => b a o (fun z => by rw [(off _ z).1] at e; cases e) (t.k a o e)⟩
  obtain ⟨mc, h1, h2⟩ := t.lim
  exact ⟨mc, h1.at' fun o e => b _ o (fun z => (off _ z).2.2.2 rfl) e, h2⟩
/-- what is new is no object of the top -/
theorem off_new {T : Top0} {h : Heap} (t : T.At h) {b : Addr} (hb : h.get? b = none) : T.K b = none ∧ b ≠ mainGlobals ∧ b ≠ builtinsNs ∧ b ≠ cStatics := by
  have hnl : ∀ c o, h.get? c = some o → b ≠ c := fun c o e z => by rw [← z, hb] at e; cases e
  refine ⟨?_, ?_, ?_, ?_⟩
  · cases e : T.K b with
    | none => rfl
    | some o => exact absurd rfl (hnl b o (t.k b o e))
  · obtain ⟨o, _, _, ho, _⟩ := t.g; exact hnl _ o ho
  · obtain ⟨o, _, _, ho, _⟩ := t.b; exact hnl _ o ho
  · obtain ⟨_, ⟨o, _, _, ho, _⟩, _⟩ := t.lim; exact hnl _ o ho
/-- where a comprehension's name lies -/
noncomputable def InC (env : Env) (h : Heap) (m : Str → Option Value) (y : Str) (v : Value) : Prop :=
  (env.kindOf y = some .local ∧ m y = some v) ∨ ((env.kindOf y = some .cell ∨ env.kindOf y = some .free) ∧ ∃ c, env.cells.lookup y = some c ∧ c ≠ env.locals ∧ h.IsCell c (some v))
/-- a comprehension's frame at work: B what stood when it began, L the places that may change -/
structure CF (T : Top0) (env : Env) (B : Shared) (X : Addr → Prop) (L : List Addr) (σ : Sg) (s : Shared) : Prop where
  same : outer s = outer B
  keep : Bt L B.heap s.heap
  kind : env.scope.kind = .function
  glob : env.globals = mainGlobals
  blt : env.builtins = builtinsNs
  top : T.At B.heap
  tx : ∀ a o, T.K a = some o → ¬ X a
  live : ∀ b, X b → ∃ o, B.heap.get? b = some o
  off : ∀ b ∈ L, T.K b = none ∧ b ≠ mainGlobals ∧ b ≠ builtinsNs ∧ b ≠ cStatics
  liveL : ∀ b ∈ L, ∃ o, s.heap.get? b = some o
  loc : env.locals ∈ L
  cells : ∀ y c, env.cells.lookup y = some c → c ≠ env.locals ∧ ∃ v, s.heap.IsCell c v
  ns : ∃ m, s.heap.Ns env.locals m ∧ ∀ y d, σ y = some d → (y ≠ ("__debug__" : Str) ∧ y ≠ ("__classdict__" : Str)) ∧ ∃ v, Rep (wth X L) s.heap v d ∧ InC env s.heap m y v
section
variable {prog : Program} {w : World} {T : Top0} {A : Around} {n : Nat} {env : Env} {B s s' : Shared} {X : Addr → Prop} {L : List Addr} {σ σ' : Sg}
theorem CF.topS (F : CF T env B X L σ s) : T.At s.heap := F.top.bt F.keep F.off
theorem CF.envR (F : CF T env B X L σ s) : EnvR T env σ (wth X L) s.heap := by
  obtain ⟨m, hm, hg⟩ := F.ns
  refine ⟨F.kind, F.glob, F.blt, F.topS, fun b hb => ?_, fun a o e z => z.elim (F.tx a o e) (fun q => by rw [(F.off a q).1] at e; cases e), fun y d hy => ?_⟩
  · by_cases hl : b ∈ L
    · exact F.liveL b hl
    · rcases hb with hb | hb
      · obtain ⟨o, ho⟩ := F.live b hb; exact ⟨o, F.keep b o hl ho⟩
      · exact absurd hb hl
  · obtain ⟨⟨a1, a2⟩, v, r, ⟨a3, a4⟩ | ⟨a3, c, a4, _, a5⟩⟩ := hg y d hy
    · exact ⟨a1, a2, v, .inl ⟨a3, m, hm, a4⟩, r⟩
    · exact ⟨a1, a2, v, .inr ⟨a3, c, a4, a5⟩, r⟩
theorem CF.sub (F : CF T env B X L σ s) (h : ∀ y d, σ' y = some d → σ y = some d) : CF T env B X L σ' s := by
  obtain ⟨m, hm, hg⟩ := F.ns
  exact { F with ns := ⟨m, hm, fun y d hy => hg y d (h y d hy)⟩ }
/-- some places were laid anew -/
theorem CF.touch {l : List Addr} (F : CF T env B X L σ s) (he : outer s' = outer s) (hl : ∀ b ∈ l, b ∈ L) (hb : Bt l s.heap s'.heap) (hv : ∀ b ∈ l, ∃ o, s'.heap.get? b = some o)
    (hn : env.locals ∉ l) (hc : ∀ y c, env.cells.lookup y = some c → c ∉ l) : CF T env B X L σ s' := by
  obtain ⟨m, hm, hg⟩ := F.ns
  have bL : Bt L s.heap s'.heap := hb.sub hl
  refine { F with same := he.trans F.same, keep := F.keep.trans bL, liveL := fun b hb' => ?_, cells := fun y c hy => ?_, ns := ⟨m, hm.at' fun o e => hb _ o hn e, fun y d hy => ?_⟩ }
  · by_cases q : b ∈ l
    · exact hv b q
    · obtain ⟨o, ho⟩ := F.liveL b hb'; exact ⟨o, hb b o q ho⟩
  · obtain ⟨a, v, o, ho, hd⟩ := F.cells y c hy
    exact ⟨a, v, o, hb c o (hc y c hy) ho, hd⟩
  · obtain ⟨a, v, r, x⟩ := hg y d hy
    refine ⟨a, v, r.past bL, x.imp id ?_⟩
    rintro ⟨a3, c, a4, a6, o, ho, hd⟩
    exact ⟨a3, c, a4, a6, o, hb c o (hc y c a4) ho, hd⟩
theorem CF.keeps (F : CF T env B X L σ s) (k : Kp s s') : CF T env B X L σ s' :=
  F.touch (l := []) k.eq (fun b h => nomatch h) (.of k.hk) (fun b h => nomatch h) (fun h => nomatch h) (fun _ _ _ h => nomatch h)
/-- a name's place -/
structure SlotC (env : Env) (x : Str) (pl : Addr) : Prop where
  dbg : x ≠ ("__debug__" : Str) ∧ x ≠ ("__classdict__" : Str)
  at_ : (env.kindOf x = some .local ∧ pl = env.locals) ∨ (env.kindOf x = some .cell ∧ env.cells.lookup x = some pl ∧ ∀ y c, y ≠ x → env.cells.lookup y = some c → c ≠ pl)
theorem CF.store {x : Str} {pl : Addr} {v : Value} {d : D} {Q : Unit → Shared → Prop} {E : Value → Shared → Prop} (F : CF T env B X L σ s) (S : SlotC env x pl) (hp : pl ∈ L) (r : Rep (wth X L) s.heap v d)
    (h : ∀ s', outer s' = outer s → CF T env B X L (upS σ x d) s' → Bt [pl] s.heap s'.heap → Q () s') : wpAny (model prog w) A (storeName env x v) Q E s := by
  obtain ⟨m, hm, hg⟩ := F.ns
  rcases S.at_ with ⟨hk, rfl⟩ | ⟨hk, hc, ho⟩
  · refine wpAny_storeName_local hk hm (fun h' hn hs => ?_) (by rw [F.kind]; rfl)
    have bt : Bt [env.locals] s.heap h' := .same (by simp) hs
    have bL : Bt L s.heap h' := .same hp hs
    refine h _ rfl { F with same := F.same, keep := F.keep.trans bL, liveL := fun b hb => ?_, cells := fun y c hy => ?_, ns := ⟨_, hn, fun y d' hy => ?_⟩ } bt
    · by_cases e : b = env.locals
      · obtain ⟨o, _, _, ho, _⟩ := hn; exact ⟨o, e ▸ ho⟩
      · obtain ⟨o, ho⟩ := F.liveL b hb; exact ⟨o, hs.extBut b o e ho⟩
    · obtain ⟨a, v, hv⟩ := F.cells y c hy; exact ⟨a, v, hv.sameBut hs a⟩
    · unfold upS at hy
      by_cases e : y = x
      · subst e
        rw [if_pos rfl] at hy
        cases hy
        exact ⟨S.dbg, v, r.past bL, .inl ⟨hk, if_pos rfl⟩⟩
      · rw [if_neg e] at hy
        obtain ⟨a, u, ru, z⟩ := hg y d' hy
        refine ⟨a, u, ru.past bL, z.imp (fun ⟨a, b⟩ => ⟨a, by show (if y = x then _ else _) = _; rw [if_neg e]; exact b⟩) fun ⟨a, c, b, q, hv⟩ => ⟨a, c, b, q, hv.sameBut hs q⟩⟩
  · obtain ⟨hcl, v₀, hv₀⟩ := F.cells x pl hc
    refine wpAny_storeName_cell F.kind hk hc hv₀ fun h' hc' hs => ?_
    have bt : Bt [pl] s.heap h' := .same (by simp) hs
    have bL : Bt L s.heap h' := .same hp hs
    refine h _ rfl { F with same := F.same, keep := F.keep.trans bL, liveL := fun b hb => ?_, cells := fun y c hy => ?_, ns := ⟨_, hm.sameBut hs (Ne.symm hcl), fun y d' hy => ?_⟩ } bt
    · by_cases e : b = pl
      · obtain ⟨o, ho, _⟩ := hc'; exact ⟨o, e ▸ ho⟩
      · obtain ⟨o, ho⟩ := F.liveL b hb; exact ⟨o, hs.extBut b o e ho⟩
    · obtain ⟨a, u, hu⟩ := F.cells y c hy
      by_cases e : c = pl
      · subst e; exact ⟨a, _, hc'⟩
      · exact ⟨a, u, hu.sameBut hs e⟩
    · unfold upS at hy
      by_cases e : y = x
      · subst e
        rw [if_pos rfl] at hy
        cases hy
        exact ⟨S.dbg, v, r.past bL, .inr ⟨.inl hk, pl, hc, hcl, hc'⟩⟩
      · rw [if_neg e] at hy
        obtain ⟨a, u, ru, z⟩ := hg y d' hy
        exact ⟨a, u, ru.past bL, z.imp id fun ⟨a, c, b, q, hv⟩ => ⟨a, c, b, q, hv.sameBut hs (ho y c e b)⟩⟩
/-- a place more -/
theorem CF.more {I : Addr} (F : CF T env B X L σ s) (k : Kp s s') (hI : s.heap.get? I = none) (hI' : ∃ o, s'.heap.get? I = some o) : CF T env B X (I :: L) σ s' := by
  obtain ⟨m, hm, hg⟩ := F.ns
  refine { F with same := k.eq.trans F.same, keep := fun b o hb e => k.hk b o (F.keep b o (fun z => hb (List.mem_cons_of_mem _ z)) e), off := fun b hb => ?_, liveL := fun b hb => ?_, loc := List.mem_cons_of_mem _ F.loc, cells := fun y c hy => ?_, ns := ⟨m, hm.keeps k.hk, fun y d hy => ?_⟩ }
  · rcases List.mem_cons.mp hb with rfl | hb
    · exact off_new F.topS hI
    · exact F.off b hb
  · rcases List.mem_cons.mp hb with rfl | hb
    · exact hI'
    · obtain ⟨o, ho⟩ := F.liveL b hb; exact ⟨o, k.hk b o ho⟩
  · obtain ⟨a, v, hv⟩ := F.cells y c hy; exact ⟨a, v, hv.keeps k.hk⟩
  · obtain ⟨a, v, r, x⟩ := hg y d hy
    refine ⟨a, v, (r.avoid fun b hb => ?_).keep k.hk, x.imp id fun ⟨a, c, b, q, hv⟩ => ⟨a, c, b, q, hv.keeps k.hk⟩⟩
    rcases hb with hb | hb
    · exact .inl (.inl hb)
    · rcases List.mem_cons.mp hb with rfl | hb
      · exact .inr hI
      · exact .inl (.inr hb)
/-- a place fewer -/
theorem CF.less {I : Addr} (F : CF T env B X (I :: L) σ s) (hB : B.heap.get? I = none) (hn : env.locals ∈ L) : CF T env B X L σ s := by
  obtain ⟨m, hm, hg⟩ := F.ns
  refine { F with keep := fun b o hb e => F.keep b o (fun z => ?_) e, off := fun b hb => F.off b (List.mem_cons_of_mem _ hb), liveL := fun b hb => F.liveL b (List.mem_cons_of_mem _ hb), loc := hn, ns := ⟨m, hm, fun y d hy => ?_⟩ }
  · rcases List.mem_cons.mp z with rfl | z
    · rw [hB] at e; cases e
    · exact hb z
  · obtain ⟨a, v, r, x⟩ := hg y d hy
    exact ⟨a, v, r.avoid fun b hb => .inl (hb.imp id (List.mem_cons_of_mem _)), x⟩
/-- a place fewer, that was laid anew -/
theorem CF.fin {I : Addr} (F : CF T env B X (I :: L) σ s) (hB : B.heap.get? I = none) (hn : env.locals ∈ L) (hIc : I ≠ env.locals) (hIy : ∀ y c, env.cells.lookup y = some c → c ≠ I) (hI : I ∉ L) (he : outer s' = outer s)
    (hb : ∀ b o, b ≠ I → s.heap.get? b = some o → s'.heap.get? b = some o) : CF T env B X L σ s' := by
  obtain ⟨m, hm, hg⟩ := F.ns
  refine { F with same := he.trans F.same, keep := fun b o hb' e => ?_, off := fun b hb => F.off b (List.mem_cons_of_mem _ hb), liveL := fun b hb' => ?_, loc := hn, cells := fun y c hy => ?_, ns := ⟨m, hm.at' fun o e => hb _ o (Ne.symm hIc) e, fun y d hy => ?_⟩ }
  · have hbI : b ≠ I := fun z => by rw [z, hB] at e; cases e
    exact hb b o hbI (F.keep b o (fun z => (List.mem_cons.mp z).elim hbI hb') e)
  · obtain ⟨o, ho⟩ := F.liveL b (List.mem_cons_of_mem _ hb')
    exact ⟨o, hb b o (fun z => hI (z ▸ hb')) ho⟩
  · obtain ⟨a, v, o, ho, hd⟩ := F.cells y c hy
    exact ⟨a, v, o, hb c o (hIy y c hy) ho, hd⟩
  · obtain ⟨a, v, r, x⟩ := hg y d hy
    have r' : Rep (wth X (I :: L)) s'.heap v d := r.mono fun b o hx e => hb b o (fun z => hx (.inr (z ▸ List.mem_cons_self))) e
    refine ⟨a, v, r'.avoid fun b hb => .inl (hb.imp id (List.mem_cons_of_mem _)), x.imp id ?_⟩
    rintro ⟨a3, c, a4, a6, o, ho, hd⟩
    exact ⟨a3, c, a4, a6, o, hb c o (hIy y c a4) ho, hd⟩
theorem codeAny_compLoop_G {elt : PySem.Expr} {gens : List Comprehension} {scope : Scope} {pos p : Pos} {k : Nat} {target : PySem.Expr} {ifs : List PySem.Expr} {it acc : Value} {env : Env} {emit : Sem Unit} {R : Result → Shared → Prop} {s : Shared}
    (hturn : compTurn (.ListComp elt gens scope pos) k it acc env = (do
        standAt p
        match ← pyNext it with
        | none => pure (.done .next)
        | some v =>
          letOwnedTupleGo target it v
          assign target env v
          let mut ok := true
          for c in ifs do
            if ok then ok ← isTrue c env (eval c env)
          if ok then emit
          again (.compLoop (.ListComp elt gens scope pos) k it acc env)))
    (I : Nat → Shared → Prop)
    (turn : ∀ n s, I n s → wpAny (model prog w) A (pyNext it) (fun r s₁ => match r with
      | none => R (.ok .next) s₁
      | some v => wpAny (model prog w) A (assign target env v) (fun _ s₂ =>
          wpAny (model prog w) A (forIn ifs true fun c r => if r = true then do let ok ← isTrue c env (eval c env); pure (ForInStep.yield ok) else pure (ForInStep.yield r)) (fun ok s₃ =>
            if ok = true then wpAny (model prog w) A emit (fun _ s₅ => ∃ m, m < n ∧ I m s₅) (notedBy (model prog w) A env fun e s' => R (.error e) s') s₃
            else ∃ m, m < n ∧ I m s₃) (notedBy (model prog w) A env fun e s' => R (.error e) s') s₂) (notedBy (model prog w) A env fun e s' => R (.error e) s') s₁) (notedBy (model prog w) A env fun e s' => R (.error e) s') s)
    (n : Nat) (h : I n s) (ht : ∀ v, letOwnedTupleGo target it v = pure () := by intro _; rfl) :
    codeAny (model prog w) A (.compLoop (.ListComp elt gens scope pos) k it acc env) R s := by
  refine codeAny_loop rfl I (fun n s hI => ?_) n h
  show wpAny _ A ((compTurn (.ListComp elt gens scope pos) k it acc env).onRaise (fun x => do noteFrame x env; theTreesLotGoes x)) _ _ s
  refine wpAny_noted ?_
  rw [hturn]
  refine wpAny_bind (wpAny_standAt (wpAny_bind (wpAny_mono (turn n s hI) (fun r s₁ h₁ => ?_) fun _ _ h' => h')))
  cases r with
  | none => exact wpAny_pure h₁
  | some v =>
    refine wpAny_bind (wpAny_of_eq (ht v) ?_)
    refine wpAny_bind (wpAny_mono h₁ (fun _ s₂ h₂ => wpAny_bind (wpAny_mono h₂ (fun ok s₃ h₃ => ?_) fun _ _ h' => h')) fun _ _ h' => h')
    cases ok with
    | false => exact wpAny_pure ⟨rfl, h₃⟩
    | true => exact wpAny_bind (wpAny_mono h₃ (fun _ s₅ h₅ => wpAny_pure ⟨rfl, h₅⟩) fun _ _ h' => h')
/-- a comprehension's loop over a sequence that stands -/
theorem cf_loop {elt : PySem.Expr} {gens : List Comprehension} {scope : Scope} {pos p : Pos} {k : Nat} {x : Str} {px : Pos} {ifs : List PySem.Expr} {acc : Value} {I pl : Addr} {emit : Sem Unit} {R : Result → Shared → Prop} {fp : List Addr} {P : Nat → Value → Prop} {St : Nat → Heap → Prop} {ds : List D}
    (hturn : compTurn (.ListComp elt gens scope pos) k (.ref I) acc env = (do
        standAt p
        match ← pyNext (.ref I) with
        | none => pure (.done .next)
        | some v =>
          letOwnedTupleGo (.Name x px) (.ref I) v
          assign (.Name x px) env v
          let mut ok := true
          for c in ifs do
            if ok then ok ← isTrue c env (eval c env)
          if ok then emit
          again (.compLoop (.ListComp elt gens scope pos) k (.ref I) acc env)))
    (W : Walks prog w A I fp [I] ds.length P St) (hP : ∀ i v, P i v → ∃ d, ds[i]? = some d ∧ ∀ h, Bt (I :: L) B.heap h → Rep (wth X (I :: L)) h v d)
    (S : SlotC env x pl) (hB : B.heap.get? I = none) (hIL : I ∉ L) (hn : env.locals ∈ L) (mp : pl ∈ L) (hfp : pl ∉ fp) (hIc : I ≠ env.locals) (hIy : ∀ y c, env.cells.lookup y = some c → c ≠ I) (hlv : ∀ i h, St i h → ∃ o, h.get? I = some o)
    (J : Nat → Shared → Prop) (hJ : ∀ i s s', outer s' = outer s → (∀ b o, b ≠ I → b ≠ pl → s.heap.get? b = some o → s'.heap.get? b = some o) → J i s → J i s')
    (F0 : CF T env B X (I :: L) σ s) (hst : St 0 s.heap) (hJ0 : J 0 s)
    (hbody : ∀ i d s₂, ds[i]? = some d → CF T env B X (I :: L) (upS σ x d) s₂ → St (i + 1) s₂.heap → J i s₂ →
      wpAny (model prog w) A (forIn ifs true fun c r => if r = true then do let ok ← isTrue c env (eval c env); pure (ForInStep.yield ok) else pure (ForInStep.yield r)) (fun ok s₃ =>
        if ok = true then wpAny (model prog w) A emit (fun _ s₄ => CF T env B X (I :: L) σ s₄ ∧ St (i + 1) s₄.heap ∧ J (i + 1) s₄) (fun _ _ => False) s₃
        else CF T env B X (I :: L) σ s₃ ∧ St (i + 1) s₃.heap ∧ J (i + 1) s₃) (fun _ _ => False) s₂)
    (hR : ∀ s', CF T env B X L σ s' → J ds.length s' → R (.ok .next) s') :
    codeAny (model prog w) A (.compLoop (.ListComp elt gens scope pos) k (.ref I) acc env) R s := by
  have hpI : pl ≠ I := fun e => hfp (W.sub pl (by simp [e]))
  refine codeAny_compLoop_G hturn (fun m s' => ∃ i, i ≤ ds.length ∧ m = ds.length + 1 - i ∧ CF T env B X (I :: L) σ s' ∧ St i s'.heap ∧ J i s') ?_ (ds.length + 1) ⟨0, Nat.zero_le _, rfl, F0, hst, hJ0⟩
  rintro m s' ⟨i, hi, rfl, F, st, j⟩
  have nx : ∀ h₁ tk₁, (∃ o, h₁.get? I = some o) → (∀ b o, b ∉ [I] → s'.heap.get? b = some o → h₁.get? b = some o) → CF T env B X (I :: L) σ { s' with heap := h₁, toks := tk₁ } := fun h₁ tk₁ hv hk =>
    F.touch (l := [I]) rfl (by simp) hk (by simpa using hv) (by simpa using Ne.symm hIc) fun y c hy => by simpa using hIy y c hy
  by_cases hlt : i < ds.length
  · refine W.item i _ _ _ hlt st fun v h₁ tk₁ hv hst₁ hk₁ => ?_
    obtain ⟨d, hd, rv⟩ := hP i v hv
    have F₁ := nx h₁ tk₁ (hlv _ _ hst₁) hk₁
    refine wpAny_assign_Name (F₁.store S (List.mem_cons_of_mem _ mp) (rv _ F₁.keep) fun s₂ e₂ F₂ b₂ => ?_)
    have st₂ : St (i + 1) s₂.heap := W.frame _ _ _ hst₁ fun b hb o e => b₂ b o (by simp only [List.mem_singleton]; exact fun z => hfp (z ▸ hb)) e
    have j₂ : J i s₂ := hJ i s' s₂ e₂ (fun b o h1 h2 e => b₂ b o (by simpa using h2) (hk₁ b o (by simpa using h1) e)) j
    refine wpAny_mono (hbody i d s₂ hd F₂ st₂ j₂) (fun ok s₃ h₃ => ?_) fun _ _ f => f.elim
    cases ok with
    | false =>
      simp only [Bool.false_eq_true, if_false] at h₃ ⊢
      exact ⟨ds.length + 1 - (i + 1), by omega, i + 1, hlt, rfl, h₃⟩
    | true =>
      simp only [if_true] at h₃ ⊢
      exact wpAny_mono h₃ (fun _ s₄ h₄ => ⟨ds.length + 1 - (i + 1), by omega, i + 1, hlt, rfl, h₄⟩) fun _ _ f => f.elim
  · have hin : i = ds.length := by omega
    subst hin
    refine W.done _ _ _ st fun h₁ tk₁ hk₁ => ?_
    exact hR _ (F.fin (s' := { s' with heap := h₁, toks := tk₁ }) hB hn hIc hIy hIL rfl fun b o h e => hk₁ b o (by simpa using h) e) (hJ _ s' _ rfl (fun b o h1 h2 e => hk₁ b o (by simpa using h1) e) j)
end
end
section
open PySem PySem.W PySem.Calls PyProof.Rows PySem.SeqAt PySem.Spec
set_option autoImplicit false
set_option linter.unusedVariables false
section
variable {prog : Program} {w : World} {T : Top0} {A : Around} {n : Nat} {env : Env} {B s s' : Shared} {X : Addr → Prop} {L : List Addr} {σ σ' : Sg}
theorem take_filter_map {α β : Type} (pb : α → Bool) (f : α → β) (l : List α) (i : Nat) (d : α) (h : l[i]? = some d) :
    ((l.take (i + 1)).filter pb).map f = ((l.take i).filter pb).map f ++ (if pb d then [f d] else []) := by
  rw [List.take_add_one, h, List.filter_append, List.map_append]
  congr 1
  cases hp : pb d <;> simp [hp]
theorem take_filter_flatMap {α β : Type} (pb : α → Bool) (f : α → List β) (l : List α) (i : Nat) (d : α) (h : l[i]? = some d) :
    ((l.take (i + 1)).filter pb).flatMap f = ((l.take i).filter pb).flatMap f ++ (if pb d then f d else []) := by
  rw [List.take_add_one, h, List.filter_append, List.flatMap_append]
  congr 1
  cases hp : pb d <;> simp [hp]
theorem CF.rebase (F : CF T env B X L σ s) : CF T env s X L σ s :=
  { F with same := rfl, keep := fun _ _ _ e => e, top := F.topS, live := fun b hb => F.envR.live b (.inl hb) }
theorem CF.unbase (F : CF T env B X L σ s) (G : CF T env s X L σ' s') : CF T env B X L σ' s' :=
  { G with same := G.same.trans F.same, keep := F.keep.trans G.keep, top := F.top, live := F.live }
/-- an iterator laid aside -/
noncomputable def wI (X : Addr → Prop) (I : Addr) : Addr → Prop := fun b => X b ∨ b = I
theorem wI_to {I b : Addr} (h : wth (wI X I) L b) : wth X (I :: L) b := by
  rcases h with (h | rfl) | h
  · exact .inl h
  · exact .inr List.mem_cons_self
  · exact .inr (List.mem_cons_of_mem _ h)
theorem wI_of {I b : Addr} (h : wth X (I :: L) b) : wth (wI X I) L b := by
  rcases h with h | h
  · exact .inl (.inl h)
  · rcases List.mem_cons.mp h with rfl | h
    · exact .inl (.inr rfl)
    · exact .inr h
theorem CF.aside {I : Addr} (F : CF T env B X (I :: L) σ s) (hn : env.locals ∈ L) : CF T env s (wI X I) L σ s := by
  obtain ⟨m, hm, hg⟩ := F.ns
  refine { F with same := rfl, keep := fun _ _ _ e => e, top := F.topS, tx := fun a o e z => ?_, live := fun b hb => ?_, off := fun b hb => F.off b (List.mem_cons_of_mem _ hb), liveL := fun b hb => F.liveL b (List.mem_cons_of_mem _ hb), loc := hn, ns := ⟨m, hm, fun y d hy => ?_⟩ }
  · rcases z with z | rfl
    · exact F.tx a o e z
    · rw [(F.off _ List.mem_cons_self).1] at e; cases e
  · exact F.envR.live b (wI_to (.inl hb))
  · obtain ⟨a, v, r, x⟩ := hg y d hy
    exact ⟨a, v, r.avoid fun b hb => .inl (wI_to hb), x⟩
theorem CF.back {I : Addr} (F : CF T env B X (I :: L) σ s) (G : CF T env s (wI X I) L σ' s') : CF T env B X (I :: L) σ' s' := by
  obtain ⟨m, hm, hg⟩ := G.ns
  refine { G with same := G.same.trans F.same, keep := F.keep.trans (G.keep.sub fun b hb => List.mem_cons_of_mem _ hb), top := F.top, tx := F.tx, live := F.live, off := F.off, liveL := fun b hb => ?_, loc := List.mem_cons_of_mem _ G.loc, ns := ⟨m, hm, fun y d hy => ?_⟩ }
  · exact G.envR.live b (wI_of (.inr hb))
  · obtain ⟨a, v, r, x⟩ := hg y d hy
    exact ⟨a, v, r.avoid fun b hb => .inl (wI_of hb), x⟩
theorem up_sub {x : Str} {d : D} (h : σ x = none) : ∀ y d', σ y = some d' → upS σ x d y = some d' := fun y d' hy => by
  unfold upS
  rw [if_neg (fun e => by subst e; rw [h] at hy; cases hy)]
  exact hy
/-- a loop that appends -/
theorem cf_map {elt : PySem.Expr} {gens : List Comprehension} {scope : Scope} {pos p : Pos} {k : Nat} {x : Str} {px : Pos} {ifs : List PySem.Expr} {I pl ax D' : Addr} {R : Result → Shared → Prop} {items us₀ : List Value} {ds l₀ : List D} {St : Nat → Heap → Prop}
    {pb : D → Bool} {f : D → D}
    (hturn : compTurn (.ListComp elt gens scope pos) k (.ref I) (.ref D') env = (do
        standAt p
        match ← pyNext (.ref I) with
        | none => pure (.done .next)
        | some v =>
          letOwnedTupleGo (.Name x px) (.ref I) v
          assign (.Name x px) env v
          let mut ok := true
          for c in ifs do
            if ok then ok ← isTrue c env (eval c env)
          if ok then (do let _ ← call (.builtin "list.append") [.ref D', ← eval elt env])
          again (.compLoop (.ListComp elt gens scope pos) k (.ref I) (.ref D') env)))
    (hI : IterAt prog w A I ax items St) (hlen : l₀.length + ds.length ≤ sizeLine) (hr : RepL (wth X (I :: L)) B.heap items ds) (hax : ax ∉ I :: L)
    (S : SlotC env x pl) (hB : B.heap.get? I = none) (hIL : I ∉ L) (hn : env.locals ∈ L) (mp : pl ∈ L) (mD : D' ∈ L) (hIc : I ≠ env.locals) (hIy : ∀ y c, env.cells.lookup y = some c → c ≠ I) (hDp : D' ≠ pl) (hDc : D' ≠ env.locals) (hDy : ∀ y c, env.cells.lookup y = some c → c ≠ D')
    (F0 : CF T env B X (I :: L) σ s) (hst : St 0 s.heap) (hacc : s.heap.IsList D' us₀.toArray) (hus : RepL (wth X (I :: L)) s.heap us₀ l₀) (hσ : σ x = none)
    (ht : ∀ d ∈ ds, EvTs prog w T A env (upS σ x d) ifs (pb d)) (he : ∀ d ∈ ds, pb d = true → Ev prog w T A env (upS σ x d) elt (f d))
    (hR : ∀ s' us, CF T env B X L σ s' → s'.heap.IsList D' us.toArray → RepL (wth X (I :: L)) s'.heap us (l₀ ++ (ds.filter pb).map f) → R (.ok .next) s') :
    codeAny (model prog w) A (.compLoop (.ListComp elt gens scope pos) k (.ref I) (.ref D') env) R s := by
  have hlenI : items.length = ds.length := hr.length
  have hDI : D' ≠ I := fun e => hIL (e ▸ mD)
  have hpI : pl ≠ I := fun e => hIL (e ▸ mp)
  have W : Walks prog w A I [I, ax] [I] ds.length (fun i v => items[i]? = some v) St := hlenI ▸ hI.walks
  refine cf_loop (P := fun i v => items[i]? = some v) hturn W (fun i v hv => ?_) S hB hIL hn mp ?_ hIc hIy (fun i h st => let ⟨o, ho, _⟩ := hI.live i h st; ⟨o, ho⟩)
    (fun i s => ∃ us : List Value, s.heap.IsList D' us.toArray ∧ RepL (wth X (I :: L)) s.heap us (l₀ ++ ((ds.take i).filter pb).map f)) (fun i s s' _ hk ⟨us, h1, h2⟩ => ⟨us, h1.at fun o e => hk D' o hDI hDp e, h2.mono fun b o hb e => hk b o (fun z => hb (.inr (z ▸ List.mem_cons_self))) (fun z => hb (.inr (List.mem_cons_of_mem _ (z ▸ mp)))) e⟩)
    F0 hst ⟨us₀, hacc, by simpa using hus⟩ (fun i d s₂ hd F₂ st₂ j₂ => ?_) (fun s' F' ⟨us, h1, h2⟩ => hR s' us F' h1 (by rwa [List.take_length] at h2))
  · have hlt : i < ds.length := by
      rw [← hlenI]
      exact (List.getElem?_eq_some_iff.mp hv).1
    obtain ⟨v', hv', rv⟩ := hr.get (i := i) (d := ds[i]) (by simp [hlt])
    rw [hv] at hv'
    cases hv'
    exact ⟨ds[i], by simp [hlt], fun h hb => rv.mono fun b o hx e => hb b o (fun m => hx (.inr m)) e⟩
  · simp only [List.mem_cons, List.not_mem_nil, or_false, not_or]
    exact ⟨hpI, fun e => hax (List.mem_cons_of_mem _ (e ▸ mp))⟩
  have hdm : d ∈ ds := List.mem_of_getElem? hd
  refine wpAny_mono ((ht d hdm).run _ s₂ F₂.envR) (fun ok s₃ ⟨k₃, hok⟩ => ?_) fun _ _ e => e.elim
  subst hok
  have F₃ := F₂.keeps k₃
  have st₃ : St (i + 1) s₃.heap := W.frame _ _ _ st₂ fun b _ o e => k₃.hk b o e
  obtain ⟨us, h1, h2⟩ := j₂
  cases hp : pb d with
  | false =>
    simp only [Bool.false_eq_true, if_false]
    refine ⟨F₃.sub (up_sub hσ), st₃, us, h1.at fun o e => k₃.hk _ o e, ?_⟩
    rw [take_filter_map pb f ds i d hd, hp]
    simpa using h2.keep k₃.hk
  | true =>
    simp only [if_true]
    refine wpAny_bind (wpAny_mono ((he d hdm hp).run _ s₃ F₃.envR) (fun y s₄ ⟨k₄, ry⟩ => ?_) fun _ _ e => e.elim)
    have F₄ := F₃.keeps k₄
    have k24 := k₃.trans k₄
    have hsz : us.toArray.size ≤ sizeLine := by
      have e1 := h2.length
      rw [List.length_append, List.length_map] at e1
      have e2 := List.length_filter_le pb (ds.take i)
      rw [List.size_toArray]
      have e3 : (ds.take i).length ≤ ds.length := List.length_take_le' i ds
      omega
    refine wpAny_bind (wpAny_list_append (hsz := hsz) (h1.at fun o e => k24.hk _ o e) fun h₅ hl₅ hs₅ => wpAny_pure ?_)
    have bt : Bt [D'] s₄.heap h₅ := .same (by simp) hs₅
    refine ⟨(F₄.touch (s' := { s₄ with heap := h₅ }) (l := [D']) rfl (by simp [mD]) bt (by obtain ⟨o, ho, _⟩ := hl₅; simpa using ⟨o, ho⟩) (by simpa using Ne.symm hDc) fun y c hy => by simpa using hDy y c hy).sub (up_sub hσ), ?_, us ++ [y], by simpa using hl₅, ?_⟩
    · refine W.frame _ _ _ st₃ fun b hb o e => hs₅.extBut b o ?_ (k₄.hk b o e)
      simp only [List.mem_cons, List.not_mem_nil, or_false] at hb
      rcases hb with rfl | rfl
      · exact Ne.symm hDI
      · exact fun e => hax (List.mem_cons_of_mem _ (e ▸ mD))
    · rw [take_filter_map pb f ds i d hd, hp, ← List.append_assoc]
      have past : ∀ {v : Value} {d : D}, Rep (wth X (I :: L)) s₄.heap v d → Rep (wth X (I :: L)) h₅ v d := fun r => r.mono fun b o hb e => hs₅.extBut b o (fun z => hb (.inr (List.mem_cons_of_mem _ (z ▸ mD)))) e
      have pastL : RepL (wth X (I :: L)) h₅ us (l₀ ++ ((ds.take i).filter pb).map f) := (h2.keep k24.hk).mono fun b o hb e => hs₅.extBut b o (fun z => hb (.inr (List.mem_cons_of_mem _ (z ▸ mD)))) e
      exact pastL.append (.cons (past ry) .nil)
theorem codeAny_compStart_at1 {elt target iter ifs rest scope pos it acc env} {g₀ : Comprehension} {R : Result → Shared → Prop}
    (h0 : codeAny (model prog w) A (.compLoop (.ListComp elt (g₀ :: ⟨target, iter, ifs, 0⟩ :: rest) scope pos) 1 it acc env) R s)
    (h : wpAny (model prog w) A (pyIter it) (fun it' s' => codeAny (model prog w) A (.compLoop (.ListComp elt (g₀ :: ⟨target, iter, ifs, 0⟩ :: rest) scope pos) 1 it' acc env) R s')
      (notedBy (model prog w) A env fun x s' => R (.error x) s') s) :
    codeAny (model prog w) A (.compStart (.ListComp elt (g₀ :: ⟨target, iter, ifs, 0⟩ :: rest) scope pos) 1 it acc env) R s := by
  refine codeAny_of_tree ?_
  show wpAny _ _ ((compStart (.ListComp elt (g₀ :: ⟨target, iter, ifs, 0⟩ :: rest) scope pos) 1 it acc env).onRaise (fun x => do noteFrame x env; standAt theWindowsPlace)) _ _ s
  refine wpAny_notedAt ?_
  unfold compStart
  show wpAny _ _ (ask >>= _) _ _ s
  refine wpAny_bind (wpAny_askSetting (wpAny_ite ?_))
  split
  · first
      | exact wpAny_bind (wpAny_pure (wpAny_pure (And.intro rfl h0)))
      | exact wpAny_pure (And.intro rfl h0)
  · first
      | exact wpAny_bind (wpAny_rule (wpAny_bind (wpAny_standAt (wpAny_bind (wpAny_mono h (fun it' s' h' => wpAny_pure (And.intro rfl h')) fun _ _ x => x)))))
      | (refine wpAny_bind (wpAny_rule ?_); show wpAny _ _ (standAt iter.pos >>= _) _ _ s; exact wpAny_bind (wpAny_standAt (wpAny_bind (wpAny_mono h (fun it' s' h' => wpAny_pure (And.intro rfl h')) fun _ _ x => x))))
theorem compTurn_nest (elt iter iter' : PySem.Expr) (x x' : Str) (px px' : Pos) (ifs ifs' : List PySem.Expr) (scope : Scope) (pos : Pos) (it acc : Value) (env : Env) :
    compTurn (.ListComp elt [⟨.Name x px, iter, ifs, 0⟩, ⟨.Name x' px', iter', ifs', 0⟩] scope pos) 0 it acc env = (do
        standAt iter.pos
        match ← pyNext it with
        | none => pure (.done .next)
        | some v =>
          letOwnedTupleGo (.Name x px) it v
          assign (.Name x px) env v
          let mut ok := true
          for c in ifs do
            if ok then ok ← isTrue c env (eval c env)
          if ok then (do
            let y ← eval iter' env
            standAt iter'.pos
            let y ← foldedSetIterable iter' env y
            let _ ← runOwn (.compStart (.ListComp elt [⟨.Name x px, iter, ifs, 0⟩, ⟨.Name x' px', iter', ifs', 0⟩] scope pos) 1 (← holding [y] (pyIter y)) acc env) env)
          again (.compLoop (.ListComp elt [⟨.Name x px, iter, ifs, 0⟩, ⟨.Name x' px', iter', ifs', 0⟩] scope pos) 0 it acc env)) := by
  have h : compTurn (.ListComp elt [⟨.Name x px, iter, ifs, 0⟩, ⟨.Name x' px', iter', ifs', 0⟩] scope pos) 0 it acc env = (do
        standAt iter.pos
        match ← pyNext it with
        | none => pure (.done .next)
        | some v =>
          letOwnedTupleGo (.Name x px) it v
          assign (.Name x px) env v
          let mut ok := true
          for c in ifs do
            if ok then ok ← isTrue c env (eval c env)
          if ok then
            let y ← eval iter' env
            standAt iter'.pos
            let y ← foldedSetIterable iter' env y
            let _ ← runOwn (.compStart (.ListComp elt [⟨.Name x px, iter, ifs, 0⟩, ⟨.Name x' px', iter', ifs', 0⟩] scope pos) 1 (← holding [y] (pyIter y)) acc env) env
            again (.compLoop (.ListComp elt [⟨.Name x px, iter, ifs, 0⟩, ⟨.Name x' px', iter', ifs', 0⟩] scope pos) 0 it acc env)
          else again (.compLoop (.ListComp elt [⟨.Name x px, iter, ifs, 0⟩, ⟨.Name x' px', iter', ifs', 0⟩] scope pos) 0 it acc env)) := by rfl
  rw [h]
  simp only [bind_assoc, pure_bind]
/-- two loops, one in the other -/
theorem cf_nest {elt iter iter' : PySem.Expr} {scope : Scope} {pos : Pos} {x x' : Str} {px px' : Pos} {ifs ifs' : List PySem.Expr} {I pl pl' ax D' : Addr} {R : Result → Shared → Prop} {items : List Value} {ds : List D} {St : Nat → Heap → Prop}
    {pb : D → Bool} {dd : D → D} {dl : D → List D} {pb' : D → D → Bool} {f : D → D → D} {N : Nat} (hA : A.handled = none)
    (hI : IterAt prog w A I ax items St) (hlen : ds.length * N ≤ sizeLine) (hr : RepL (wth X (I :: L)) B.heap items ds) (hax : ax ∉ I :: L)
    (S : SlotC env x pl) (S' : SlotC env x' pl') (hB : B.heap.get? I = none) (hIL : I ∉ L) (hn : env.locals ∈ L) (mp : pl ∈ L) (mp' : pl' ∈ L) (mD : D' ∈ L) (hIc : I ≠ env.locals) (hIy : ∀ y c, env.cells.lookup y = some c → c ≠ I) (hDp : D' ≠ pl) (hDp' : D' ≠ pl') (hDc : D' ≠ env.locals) (hDy : ∀ y c, env.cells.lookup y = some c → c ≠ D')
    (F0 : CF T env B X (I :: L) σ s) (hst : St 0 s.heap) (hacc : s.heap.IsList D' #[]) (hσ : σ x = none) (hσ' : σ x' = none) (hxx : x' ≠ x)
    (ht : ∀ d ∈ ds, EvTs prog w T A env (upS σ x d) ifs (pb d)) (hi : ∀ d ∈ ds, pb d = true → Ev prog w T A env (upS σ x d) iter' (dd d)) (hdd : ∀ d, dd d = .lst (dl d) ∨ dd d = .tup (dl d)) (hdl : ∀ d, (dl d).length ≤ N)
    (hs : ∀ v, foldedSetIterable iter' env v = pure v)
    (ht' : ∀ d ∈ ds, pb d = true → ∀ d' ∈ dl d, EvTs prog w T A env (upS (upS σ x d) x' d') ifs' (pb' d d')) (he : ∀ d ∈ ds, pb d = true → ∀ d' ∈ dl d, pb' d d' = true → Ev prog w T A env (upS (upS σ x d) x' d') elt (f d d'))
    (hR : ∀ s' us, CF T env B X L σ s' → s'.heap.IsList D' us.toArray → RepL (wth X (I :: L)) s'.heap us ((ds.filter pb).flatMap fun d => ((dl d).filter (pb' d)).map (f d)) → R (.ok .next) s') :
    codeAny (model prog w) A (.compLoop (.ListComp elt [⟨.Name x px, iter, ifs, 0⟩, ⟨.Name x' px', iter', ifs', 0⟩] scope pos) 0 (.ref I) (.ref D') env) R s := by
  have hlenI : items.length = ds.length := hr.length
  have hDI : D' ≠ I := fun e => hIL (e ▸ mD)
  have hpI : pl ≠ I := fun e => hIL (e ▸ mp)
  have W : Walks prog w A I [I, ax] [I] ds.length (fun i v => items[i]? = some v) St := hlenI ▸ hI.walks
  have hflat : ∀ l : List D, (l.flatMap fun d => ((dl d).filter (pb' d)).map (f d)).length ≤ l.length * N := by
    intro l
    induction l with
    | nil => simp
    | cons d l ih =>
      rw [List.flatMap_cons, List.length_append, List.length_map, List.length_cons, Nat.succ_mul]
      have e1 := List.length_filter_le (pb' d) (dl d)
      have e2 := hdl d
      omega
  refine cf_loop (P := fun i v => items[i]? = some v) (compTurn_nest elt iter iter' x x' px px' ifs ifs' scope pos (.ref I) (.ref D') env) W (fun i v hv => ?_) S hB hIL hn mp ?_ hIc hIy (fun i h st => let ⟨o, ho, _⟩ := hI.live i h st; ⟨o, ho⟩)
    (fun i s => ∃ us : List Value, s.heap.IsList D' us.toArray ∧ RepL (wth X (I :: L)) s.heap us (((ds.take i).filter pb).flatMap fun d => ((dl d).filter (pb' d)).map (f d))) (fun i s s' _ hk ⟨us, h1, h2⟩ => ⟨us, h1.at fun o e => hk D' o hDI hDp e, h2.mono fun b o hb e => hk b o (fun z => hb (.inr (z ▸ List.mem_cons_self))) (fun z => hb (.inr (List.mem_cons_of_mem _ (z ▸ mp)))) e⟩)
    F0 hst ⟨[], hacc, by simpa using RepL.nil⟩ (fun i d s₂ hd F₂ st₂ j₂ => ?_) (fun s' F' ⟨us, h1, h2⟩ => hR s' us F' h1 (by rwa [List.take_length] at h2))
  · have hlt : i < ds.length := by
      rw [← hlenI]
      exact (List.getElem?_eq_some_iff.mp hv).1
    obtain ⟨v', hv', rv⟩ := hr.get (i := i) (d := ds[i]) (by simp [hlt])
    rw [hv] at hv'
    cases hv'
    exact ⟨ds[i], by simp [hlt], fun h hb => rv.mono fun b o hx e => hb b o (fun m => hx (.inr m)) e⟩
  · simp only [List.mem_cons, List.not_mem_nil, or_false, not_or]
    exact ⟨hpI, fun e => hax (List.mem_cons_of_mem _ (e ▸ mp))⟩
  have hdm : d ∈ ds := List.mem_of_getElem? hd
  have hlt : i < ds.length := (List.getElem?_eq_some_iff.mp hd).1
  refine wpAny_mono ((ht d hdm).run _ s₂ F₂.envR) (fun ok s₃ ⟨k₃, hok⟩ => ?_) fun _ _ e => e.elim
  subst hok
  have F₃ := F₂.keeps k₃
  have st₃ : St (i + 1) s₃.heap := W.frame _ _ _ st₂ fun b _ o e => k₃.hk b o e
  obtain ⟨us, h1, h2⟩ := j₂
  cases hp : pb d with
  | false =>
    simp only [Bool.false_eq_true, if_false]
    refine ⟨F₃.sub (up_sub hσ), st₃, us, h1.at fun o e => k₃.hk _ o e, ?_⟩
    rw [take_filter_flatMap pb _ ds i d hd, hp]
    simpa using h2.keep k₃.hk
  | true =>
    simp only [if_true]
    refine wpAny_bind (wpAny_mono ((hi d hdm hp).run _ s₃ F₃.envR) (fun y s₄ ⟨k₄, ry⟩ => ?_) fun _ _ e => e.elim)
    have F₄ := F₃.keeps k₄
    have k24 := k₃.trans k₄
    have st₄ : St (i + 1) s₄.heap := W.frame _ _ _ st₃ fun b _ o e => k₄.hk b o e
    refine wpAny_bind (wpAny_standAt (wpAny_bind (wpAny_of_eq (hs y) (wpAny_bind (wpAny_holding ?_)))))
    refine pyIter_seq hA (hdd d) ry fun I' ax' items' o o' St' hI' hax' ⟨hIe', haxX'⟩ hr' hIt' hfo hst' => ?_
    have kp : Kp s₄ { s₄ with heap := s₄.heap.push o' } := Kp.push s₄ o' s₄.toks
    have nI' : ∀ b ∈ I :: L, b ≠ I' := fun b hb e => by obtain ⟨o, ho⟩ := F₄.liveL b hb; rw [e, hI'] at ho; cases ho
    have cI' : ∀ y c, env.cells.lookup y = some c → c ≠ I' := fun y c hy e => by
      obtain ⟨_, v, o, ho, _⟩ := F₄.cells y c hy; rw [e, hI'] at ho; cases ho
    have hIL' : I' ∉ L := fun m => nI' I' (List.mem_cons_of_mem _ m) rfl
    have hflt : us.length ≤ i * N := by
      have e1 := h2.length
      have e2 := hflat ((ds.take i).filter pb)
      have e3 := List.length_filter_le pb (ds.take i)
      have e4 : (ds.take i).length ≤ i := List.length_take_le i ds
      have e5 : ((ds.take i).filter pb).length * N ≤ i * N := Nat.mul_le_mul_right N (by omega)
      omega
    have hsz : (((ds.take i).filter pb).flatMap fun d => ((dl d).filter (pb' d)).map (f d)).length + (dl d).length ≤ sizeLine := by
      have e1 := h2.length
      have e2 := hdl d
      have e3 : (i + 1) * N ≤ ds.length * N := Nat.mul_le_mul_right N hlt
      rw [Nat.succ_mul] at e3
      have e4 := hflat ((ds.take i).filter pb)
      omega
    have av : ∀ b, wth (wI X I) (I' :: L) b → wth X (I :: L) b ∨ s₄.heap.get? b = none := fun b hb => by
      rcases hb with hb | hb
      · exact .inl (wI_to (.inl hb))
      · rcases List.mem_cons.mp hb with rfl | hb
        · exact .inr hI'
        · exact .inl (.inr (List.mem_cons_of_mem _ hb))
    have inner : ∀ (Rr : Result → Shared → Prop), (∀ s' us', CF T env B X (I :: L) σ s' → St (i + 1) s'.heap → s'.heap.IsList D' us'.toArray → RepL (wth X (I :: L)) s'.heap us' ((((ds.take i).filter pb).flatMap fun d => ((dl d).filter (pb' d)).map (f d)) ++ ((dl d).filter (pb' d)).map (f d)) → Rr (.ok .next) s') →
        codeAny (model prog w) A (.compLoop (.ListComp elt [⟨.Name x px, iter, ifs, 0⟩, ⟨.Name x' px', iter', ifs', 0⟩] scope pos) 1 (.ref I') (.ref D') env) Rr { s₄ with heap := s₄.heap.push o' } := by
      intro Rr hRr
      refine cf_map (p := iter'.pos) (X := wI X I) (L := L) (B := s₄) (σ := upS σ x d) (pb := pb' d) (f := f d) (us₀ := us) (pl := pl') (ds := dl d) rfl hIt' hsz ((hr'.avoid av).keep (Kp.refl s₄).hk) ?_ S' hI' hIL' hn mp' mD (fun e => nI' env.locals (List.mem_cons_of_mem _ hn) e.symm) cI' hDp' hDc hDy
        ((F₄.aside hn).more kp hI' ⟨o', hIe' ▸ Heap.get?_push_size _ hfo⟩) hst' ((h1.at fun o e => k24.hk _ o e).at fun o e => kp.hk _ o e) (((h2.keep k24.hk).avoid av).keep kp.hk) (by unfold upS; rw [if_neg hxx]; exact hσ') (ht' d hdm hp) (he d hdm hp) fun s' us' G q1 q2 => ?_
      · simp only [List.mem_cons, not_or]
        exact ⟨fun e => (by rw [e, hI'] at hax'; cases hax'), fun m => haxX' (.inr (List.mem_cons_of_mem _ m))⟩
      · refine hRr s' us' ((F₄.back G).sub (up_sub hσ)) (W.frame _ _ _ st₄ fun b hb o e => G.keep b o ?_ e) q1 (q2.avoid fun b hb => .inl ?_)
        · simp only [List.mem_cons, List.not_mem_nil, or_false] at hb
          rcases hb with rfl | rfl
          · exact hIL
          · exact fun m => hax (List.mem_cons_of_mem _ m)
        · rcases wI_of hb with hb | hb
          · exact .inl hb
          · exact .inr (List.mem_cons_of_mem _ hb)
    have fin : ∀ s' us', CF T env B X (I :: L) σ s' → St (i + 1) s'.heap → s'.heap.IsList D' us'.toArray → RepL (wth X (I :: L)) s'.heap us' ((((ds.take i).filter pb).flatMap fun d => ((dl d).filter (pb' d)).map (f d)) ++ ((dl d).filter (pb' d)).map (f d)) →
        CF T env B X (I :: L) σ s' ∧ St (i + 1) s'.heap ∧ ∃ us, s'.heap.IsList D' us.toArray ∧ RepL (wth X (I :: L)) s'.heap us (((ds.take (i + 1)).filter pb).flatMap fun d => ((dl d).filter (pb' d)).map (f d)) := fun s' us' a b c e => by
      refine ⟨a, b, us', c, ?_⟩
      rw [take_filter_flatMap pb _ ds i d hd, hp]
      exact e
    refine wpAny_bind (wpAny_runOwn (h := none) (codeAny_compStart_at1 (inner _ fun s' us' a b c e => wpAny_pure (fin s' us' a b c e)) (hIt'.walks.self 0 _ _ _ hst' (inner _ fun s' us' a b c e => wpAny_pure (fin s' us' a b c e)))))
end
end
section
open PySem PySem.W PySem.Calls PyProof.Rows PySem.SeqAt PySem.Spec
set_option autoImplicit false
set_option linter.unusedVariables false
/-- the names in a comprehension: what it takes from around -/
noncomputable def capN (σ : Sg) (cap : List Str) : Sg := fun y => if cap.contains y then σ y else none
/-- its own one with them -/
noncomputable def capS (σ : Sg) (cap : List Str) (x : Str) (d : D) : Sg := fun y => if y = x then some d else if cap.contains y then σ y else none
theorem capS_eq (σ : Sg) (cap : List Str) (x : Str) (d : D) : upS (capN σ cap) x d = capS σ cap x d := rfl
noncomputable def envX (scope : Scope) (cs : List (Str × Addr)) (C : Addr) (env : Env) : Env :=
  { scope := relabel scope env, locals := C, globals := env.globals, cells := cs, qual := env.qual, func := none, code := env.code, frame := env.frame, builtins := env.builtins }
noncomputable def cellObj : Obj := { cls := .type "cell", data := .cell none }
theorem lookup_relabel_cell {env : Env} : ∀ {names : List (Str × NameKind)} {x : Str}, names.lookup x = some .cell →
    (names.map fun (n, k) => if (k == NameKind.free && env.scope.kind == .function && env.kindOf n == some .cell) then (n, NameKind.cell) else (n, k)).lookup x = some .cell
  | [], _, h => by simp at h
  | (n, k) :: r, x, h => by
    have ih := @lookup_relabel_cell env r x
    show List.lookup x ((if (k == NameKind.free && env.scope.kind == .function && env.kindOf n == some .cell) = true then (n, NameKind.cell) else (n, k)) :: _) = _
    cases hx : x == n with
    | true =>
      simp only [List.lookup_cons, hx] at h
      cases h
      simp [List.lookup_cons, hx]
    | false =>
      simp only [List.lookup_cons, hx] at h
      by_cases hc : (k == NameKind.free && env.scope.kind == .function && env.kindOf n == some .cell) = true
      · rw [if_pos hc]; simp only [List.lookup_cons, hx]; exact ih h
      · rw [if_neg hc]; simp only [List.lookup_cons, hx]; exact ih h
section
variable {prog : Program} {w : World} {T : Top0} {A : Around} {env : Env} {σ : Sg} {n : Nat}
theorem newEnv_comp {scope : Scope} {g : Addr} {cl : List (Str × Addr)} {q : Str} {s : Shared} {Q : Env → Shared → Prop} {E : Value → Shared → Prop}
    (h : Q { scope := scope, locals := s.heap.objs.size, globals := g, cells := cellsFrom (s.heap.objs.size + 1) scope.names cl, qual := q, func := none, code := env.code, frame := env.frame, builtins := env.builtins }
      { s with heap := pushCells (s.heap.push { cls := .type "dict", data := .dict #[] }) scope.names }) : wpAny (model prog w) A (newFunctionEnv scope g cl [] q none .none (some env)) Q E s := by
  simp only [newFunctionEnv, Option.isSome_some, if_true]
  refine wpAny_bind (wpAny_alloc ?_)
  refine wpAny_bind (wpAny_layCells _ (fun name kind cells => by cases hkc : kind == NameKind.cell <;> simp [hkc]) _ _ _ _ ?_)
  rw [show ({ s with heap := s.heap.push { cls := .type "dict", data := .dict #[] } } : Shared).heap.objs.size = s.heap.objs.size + 1 from Heap.size_push ..]
  exact wpAny_bind (wpAny_pure (wpAny_pure h))
/-- what is known of a comprehension's frame -/
structure CompOk (scope : Scope) (env : Env) (σ : Sg) (cl : List (Str × Addr)) (cap : List Str) (x : Str) : Prop where
  clos : closureFor scope env = pure cl
  kind : scope.kind = .function
  names : ∀ y ∈ scope.names, y.2 = .local → scope.names.lookup y.1 = some .local
  dbg : x ≠ ("__debug__" : Str) ∧ x ≠ ("__classdict__" : Str)
  capt : ∀ y ∈ cap, y ≠ x ∧ ((relabel scope env).names.lookup y = some .cell ∨ (relabel scope env).names.lookup y = some .free) ∧ env.kindOf y ≠ some .local ∧ (∃ c, cl.lookup y = some c ∧ env.cells.lookup y = some c) ∧ ∃ d, σ y = some d
  full : ∀ y c, cl.lookup y = some c → y ∈ cap
noncomputable def csOf (kx : Bool) (x : Str) (C : Addr) (cl : List (Str × Addr)) : List (Str × Addr) := if kx then (x, C + 1) :: cl else cl
noncomputable def LOf (kx : Bool) (D' C : Addr) : List Addr := if kx then [D', C, C + 1] else [D', C]
/-- a comprehension up to its loop -/
theorem comp_gen {x : Str} {px pos pos' : Pos} {elt iter : PySem.Expr} {ifs : List PySem.Expr} {rest : List Comprehension} {scope : Scope} {cl : List (Str × Addr)} {cap : List Str} {d₀ : D} {ds l : List D} {X : Addr → Prop} {s : Shared} (kx : Bool)
    {use : Option (Value → Sem Unit)} {Q : Value → Shared → Prop} {E' : Value → Shared → Prop} (E : EnvR T env σ X s.heap)
    (R : Room n A) (hd : d₀ = .lst ds ∨ d₀ = .tup ds) (hiter : Ev prog w T A env σ iter d₀) (hs : ∀ x, foldedSetIterable iter env x = pure x)
    (K : CompOk scope env σ cl cap x) (hcs : ∀ n, cellsFrom n scope.names cl = if kx then (x, n) :: cl else cl) (hps : ∀ h, pushCells h scope.names = if kx then h.push cellObj else h)
    (hx : scope.names.lookup x = some (if kx then .cell else .local))
    (hloop : ∀ (B s₃ : Shared) (I ax C D' : Addr) (items : List Value) (St : Nat → Heap → Prop), Kp s B → IterAt prog w A I ax items St → RepL X B.heap items ds → ax ∉ I :: LOf kx D' C → (∀ b ∈ I :: LOf kx D' C, B.heap.get? b = none) → I ∉ LOf kx D' C → D' ≠ C → D' ≠ C + 1 →
      (∀ y c, (csOf kx x C cl).lookup y = some c → c ≠ I ∧ c ≠ D') → SlotC (envX scope (csOf kx x C cl) C env) x (if kx then C + 1 else C) →
      St 0 s₃.heap → s₃.heap.IsList D' #[] → CF T (envX scope (csOf kx x C cl) C env) B X (I :: LOf kx D' C) (capN σ cap) s₃ →
      ∀ (Rr : Result → Shared → Prop), (∀ s' us, CF T (envX scope (csOf kx x C cl) C env) B X (LOf kx D' C) (capN σ cap) s' → s'.heap.IsList D' us.toArray → RepL (wth X (I :: LOf kx D' C)) s'.heap us l → Rr (.ok .next) s') →
      codeAny (model prog w) A (.compLoop (.ListComp elt (⟨.Name x px, iter, ifs, 0⟩ :: rest) scope pos) 0 (.ref I) (.ref D') (envX scope (csOf kx x C cl) C env)) Rr s₃)
    (hQ : ∀ s' C D' (us : List Value), Kp s s' → s.heap.get? C = none → s.heap.get? D' = none → D' ≠ C → s'.heap.IsList D' us.toArray → (∃ m, s'.heap.Ns C m) → RepL (wth X [C, D']) s'.heap us l → compPost (model prog w) A E' use Q (.ref D') C (.ok .next) s') :
    wpAny (model prog w) A (comprehension (.ListComp elt (⟨.Name x px, iter, ifs, 0⟩ :: rest) scope pos) scope env pos' (newList []) false (eval iter env) use) Q E' s := by
  refine wpAny_comprehension_free rfl hs K.clos K.kind K.names (wpAny_mono (hiter.run X s E) (fun xv s₁ ⟨k₁, r₁⟩ => ?_) fun _ _ e => e.elim)
  have E₁ := E.keep k₁.hk
  refine pyIter_seq R.hand hd r₁ fun I ax items o o' St hI hax ⟨hIe, haxX⟩ hr hIt hfo hst => ?_
  refine wpAny_newList ?_
  dsimp only
  generalize hH2 : s₁.heap.push o' = H2 at hst
  have z2 : H2.objs.size = s₁.heap.objs.size + 1 := by rw [← hH2, Heap.size_push]
  have k2 : Hk s₁.heap H2 := fun b q e => hH2 ▸ Heap.get?_push_of_some _ e
  refine newEnv_comp ?_
  dsimp only
  rw [hps, hcs]
  generalize hH3 : H2.push { cls := .type "list", dict := none, data := .seq ([] : List Value).toArray } = H3
  have z3 : H3.objs.size = s₁.heap.objs.size + 2 := by rw [← hH3, Heap.size_push, z2]
  have k3 : Hk H2 H3 := fun b q e => hH3 ▸ Heap.get?_push_of_some _ e
  subst hIe
  have hD : H3.IsList H2.objs.size #[] := ⟨_, by rw [← hH3]; exact Heap.get?_push_size _ rfl, rfl, _, rfl⟩
  have hio : H2.get? s₁.heap.objs.size = some o' := by rw [← hH2]; exact Heap.get?_push_size _ hfo
  -- the frame
  generalize hH4 : H3.push { cls := .type "dict", data := .dict #[] } = H4
  have z4 : H4.objs.size = s₁.heap.objs.size + 3 := by rw [← hH4, Heap.size_push, z3]
  have k4 : Hk H3 H4 := fun b q e => hH4 ▸ Heap.get?_push_of_some _ e
  have hns : H4.Ns H3.objs.size (fun _ => none) := by rw [← hH4]; exact Heap.Ns.new H3 (.type "dict")
  generalize hH5 : (if kx = true then H4.push cellObj else H4) = H5
  have k5 : Hk H4 H5 := fun b q e => by
    rw [← hH5]; split
    · exact Heap.get?_push_of_some _ e
    · exact e
  have hcell : kx = true → H5.IsCell (H3.objs.size + 1) none := fun h => by
    rw [← hH5, if_pos h]
    exact ⟨cellObj, by rw [show H3.objs.size + 1 = H4.objs.size by rw [z4, z3]]; exact Heap.get?_push_size _ rfl, rfl⟩
  have k15 : Hk s₁.heap H5 := fun b q e => k5 b q (k4 b q (k3 b q (k2 b q e)))
  have old : ∀ b q, s₁.heap.get? b = some q → b < s₁.heap.objs.size := fun b q e => Heap.lt_size e
  have memL : ∀ b, b ∈ LOf kx H2.objs.size H3.objs.size → b = H2.objs.size ∨ b = H3.objs.size ∨ (kx = true ∧ b = H3.objs.size + 1) := fun b hb => by
    unfold LOf at hb
    split at hb
    · rename_i h
      simp only [List.mem_cons, List.not_mem_nil, or_false] at hb
      exact hb.imp id (.imp id fun e => ⟨h, e⟩)
    · simp only [List.mem_cons, List.not_mem_nil, or_false] at hb
      exact hb.imp id .inl
  have lowL : ∀ b ∈ s₁.heap.objs.size :: LOf kx H2.objs.size H3.objs.size, @LE.le Nat _ s₁.heap.objs.size b := fun b hb => by
    rcases List.mem_cons.mp hb with rfl | hb
    · exact Nat.le_refl _
    · rcases memL b hb with rfl | rfl | ⟨_, rfl⟩ <;> omega
  have hBn : ∀ b ∈ s₁.heap.objs.size :: LOf kx H2.objs.size H3.objs.size, s₁.heap.get? b = none := fun b hb => Heap.get?_none_of_le (lowL b hb)
  have hIL : s₁.heap.objs.size ∉ LOf kx H2.objs.size H3.objs.size := fun m => by
    have : (s₁.heap.objs.size : Nat) = H2.objs.size ∨ (s₁.heap.objs.size : Nat) = H3.objs.size ∨ (kx = true ∧ (s₁.heap.objs.size : Nat) = H3.objs.size + 1) := memL _ m
    omega
  have mCL : H3.objs.size ∈ LOf kx H2.objs.size H3.objs.size := by unfold LOf; split <;> simp
  have mDL : H2.objs.size ∈ LOf kx H2.objs.size H3.objs.size := by unfold LOf; split <;> simp
  have capC : ∀ y ∈ cap, ∃ c v d, cl.lookup y = some c ∧ σ y = some d ∧ s₁.heap.IsCell c (some v) ∧ Rep X s₁.heap v d := fun y hy => by
    obtain ⟨_, _, hnl, ⟨c, hcl, hec⟩, d, hd⟩ := K.capt y hy
    obtain ⟨_, _, v, hv, rv⟩ := E₁.get y d hd
    rcases hv with ⟨a, _⟩ | ⟨_, c', hc', hv⟩
    · exact absurd a hnl
    · rw [hec] at hc'
      cases hc'
      exact ⟨c, v, d, hcl, hd, hv, rv⟩
  have clNe : ∀ y c, cl.lookup y = some c → ∃ v, s₁.heap.IsCell c (some v) := fun y c hy => by
    obtain ⟨c', v, d, h1, _, h3, _⟩ := capC y (K.full y c hy)
    rw [hy] at h1
    cases h1
    exact ⟨v, h3⟩
  have clLt : ∀ y c, cl.lookup y = some c → @LT.lt Nat _ c s₁.heap.objs.size := fun y c hy => by
    obtain ⟨v, o, ho, _⟩ := clNe y c hy; exact Heap.lt_size ho
  have csL : ∀ y c, (csOf kx x H3.objs.size cl).lookup y = some c → (kx = true ∧ y = x ∧ c = H3.objs.size + 1) ∨ cl.lookup y = some c := fun y c hy => by
    unfold csOf at hy
    split at hy
    · rename_i h
      rw [List.lookup_cons] at hy
      by_cases e : y == x
      · rw [e] at hy; cases hy; exact .inl ⟨h, beq_iff_eq.mp e, rfl⟩
      · rw [(by simpa using e : (y == x) = false)] at hy; exact .inr hy
    · exact .inr hy
  have l3 : ∀ c : Nat, c < s₁.heap.objs.size → c < H3.objs.size := fun c h => by omega
  have l2 : ∀ c : Nat, c < s₁.heap.objs.size → c < H2.objs.size := fun c h => by omega
  have l31 : ∀ c : Nat, c < s₁.heap.objs.size → c < H3.objs.size + 1 := fun c h => by omega
  have hIst : St 0 H5 := hIt.walks.frame _ _ _ hst fun b _ q e => k5 b q (k4 b q (k3 b q e))
  have F : CF T (envX scope (csOf kx x H3.objs.size cl) H3.objs.size env) s₁ X (s₁.heap.objs.size :: LOf kx H2.objs.size H3.objs.size) (capN σ cap) { s₁ with heap := H5 } := by
    refine ⟨rfl, .of k15, K.kind, E₁.glob, E₁.blt, E₁.top, E₁.topX, E₁.live, fun b hb => off_new E₁.top (hBn b hb), fun b hb => ?_, List.mem_cons_of_mem _ mCL, fun y c hy => ?_, _, hns.keeps k5, fun y d hy => ?_⟩
    · rcases List.mem_cons.mp hb with rfl | hb
      · exact ⟨_, k5 _ _ (k4 _ _ (k3 _ _ hio))⟩
      · rcases memL b hb with rfl | rfl | ⟨h, rfl⟩
        · obtain ⟨q, hq, _⟩ := hD; exact ⟨q, k5 _ _ (k4 _ _ hq)⟩
        · obtain ⟨q, _, _, hq, _⟩ := hns; exact ⟨q, k5 _ _ hq⟩
        · obtain ⟨q, hq, _⟩ := hcell h; exact ⟨q, hq⟩
    · show c ≠ H3.objs.size ∧ _
      rcases csL y c hy with ⟨h, rfl, rfl⟩ | hy
      · exact ⟨Nat.ne_of_gt (Nat.lt_succ_self _), none, hcell h⟩
      · obtain ⟨v, hv⟩ := clNe y c hy
        exact ⟨Nat.ne_of_lt (l3 c (clLt y c hy)), some v, hv.keeps k15⟩
    · unfold capN at hy
      by_cases hc : cap.contains y = true
      · rw [if_pos hc] at hy
        have hyc : y ∈ cap := by simpa using hc
        obtain ⟨hyx, hk, hnl, _, _⟩ := K.capt y hyc
        obtain ⟨c, v, d', hcl, hd', hv, rv⟩ := capC y hyc
        rw [hd'] at hy
        cases hy
        obtain ⟨a1, a2, _⟩ := E₁.get y d hd'
        refine ⟨⟨a1, a2⟩, v, (rv.avoid (Y := wth X _) fun b hb => hb.imp id fun m => hBn b m).keep k15, .inr ⟨hk, c, ?_, ?_, hv.keeps k15⟩⟩
        · show (csOf kx x H3.objs.size cl).lookup y = some c
          unfold csOf
          split
          · rw [List.lookup_cons, (by simpa using hyx : (y == x) = false)]; exact hcl
          · exact hcl
        · exact Nat.ne_of_lt (l3 c (clLt y c hcl))
      · rw [if_neg hc] at hy; cases hy
  have S : SlotC (envX scope (csOf kx x H3.objs.size cl) H3.objs.size env) x (if kx then H3.objs.size + 1 else H3.objs.size) := by
    refine ⟨K.dbg, ?_⟩
    cases kx with
    | false => exact .inl ⟨lookup_relabel_local hx, rfl⟩
    | true =>
      refine .inr ⟨lookup_relabel_cell hx, by show List.lookup x ((x, _) :: cl) = _; rw [List.lookup_cons, beq_self_eq_true]; rfl, fun y c hyx hy => ?_⟩
      rcases csL y c hy with ⟨_, e, _⟩ | hy
      · exact absurd e hyx
      · exact Nat.ne_of_lt (l31 c (clLt y c hy))
  have loop := hloop s₁ { s₁ with heap := H5 } s₁.heap.objs.size ax H3.objs.size H2.objs.size items St k₁ hIt hr (fun m => Nat.lt_irrefl _ (Nat.lt_of_lt_of_le (Heap.lt_size hax) (lowL ax m))) hBn hIL (Nat.ne_of_lt (by omega)) (Nat.ne_of_lt (show H2.objs.size < H3.objs.size + 1 by omega))
    (fun y c hy => by
      rcases csL y c hy with ⟨_, _, rfl⟩ | hy
      · exact ⟨Nat.ne_of_gt (by show s₁.heap.objs.size < H3.objs.size + 1; omega), Nat.ne_of_gt (show H2.objs.size < H3.objs.size + 1 by omega)⟩
      · have := clLt y c hy
        exact ⟨Nat.ne_of_lt this, Nat.ne_of_lt (l2 c this)⟩) S hIst (hD.at fun o e => k5 _ _ (k4 _ _ e)) F
  have post : ∀ (Rr : Result → Shared → Prop), (∀ s' us, CF T (envX scope (csOf kx x H3.objs.size cl) H3.objs.size env) s₁ X (LOf kx H2.objs.size H3.objs.size) (capN σ cap) s' → s'.heap.IsList H2.objs.size us.toArray → RepL (wth X (s₁.heap.objs.size :: LOf kx H2.objs.size H3.objs.size)) s'.heap us l → Rr (.ok .next) s') →
      codeAny (model prog w) A (.compStart (.ListComp elt (⟨.Name x px, iter, ifs, 0⟩ :: rest) scope pos) 0 (.ref s₁.heap.objs.size) (.ref H2.objs.size) (envX scope (csOf kx x H3.objs.size cl) H3.objs.size env)) Rr { s₁ with heap := H5 } := fun Rr h =>
    codeAny_compStart_list (loop Rr h) (hIt.walks.self 0 _ _ _ hIst (loop Rr h))
  refine post _ fun s' us F' hl hus => ?_
  obtain ⟨m, hm, _⟩ := F'.ns
  have none_s : ∀ a : Nat, s₁.heap.objs.size ≤ a → s.heap.get? a = none := fun a ha => by
    cases e : s.heap.get? a with
    | none => rfl
    | some q => exact absurd (Heap.lt_size (k₁.hk a q e)) (Nat.not_lt.mpr ha)
  refine hQ s' H3.objs.size H2.objs.size us ⟨F'.same.trans k₁.eq, fun b q e => ?_⟩ (none_s _ (by omega)) (none_s _ (by omega)) (Nat.ne_of_lt (show H2.objs.size < H3.objs.size by omega)) hl ⟨m, hm⟩ (hus.avoid fun b hb => .inl ?_)
  · have e1 := k₁.hk b q e
    have hb := old b q e1
    exact F'.keep b q (fun m => Nat.lt_irrefl _ (Nat.lt_of_lt_of_le hb (lowL b (List.mem_cons_of_mem _ m)))) e1
  · rcases hb with hb | hb
    · exact .inl hb
    · refine .inr ?_
      simp only [List.mem_cons, List.not_mem_nil, or_false] at hb
      rcases hb with rfl | rfl
      · exact List.mem_cons_of_mem _ mCL
      · exact List.mem_cons_of_mem _ mDL
/-- what a comprehension gives, whatever is done with its list -/
structure CompE (prog : Program) (w : World) (T : Top0) (A : Around) (env : Env) (σ : Sg) (e : PySem.Expr) (scope : Scope) (iter : PySem.Expr) (l : List D) : Prop where
  run : ∀ (X : Addr → Prop) (s : Shared) (pos' : Pos) (use : Option (Value → Sem Unit)) (Q : Value → Shared → Prop) (E' : Value → Shared → Prop), EnvR T env σ X s.heap →
    (∀ s' C D' (us : List Value), Kp s s' → s.heap.get? C = none → s.heap.get? D' = none → D' ≠ C → s'.heap.IsList D' us.toArray → (∃ m, s'.heap.Ns C m) → RepL (wth X [C, D']) s'.heap us l → compPost (model prog w) A E' use Q (.ref D') C (.ok .next) s') →
    wpAny (model prog w) A (comprehension e scope env pos' (newList []) false (eval iter env) use) Q E' s
theorem CompE.ev {elt iter : PySem.Expr} {x : PySem.Expr} {ifs : List PySem.Expr} {rest : List Comprehension} {scope : Scope} {pos : Pos} {l : List D} (c : CompE prog w T A env σ (.ListComp elt (⟨x, iter, ifs, 0⟩ :: rest) scope pos) scope iter l) :
    Ev prog w T A env σ (.ListComp elt (⟨x, iter, ifs, 0⟩ :: rest) scope pos) (.lst l) := .mk fun X s E => by
  rw [eval_ListComp]
  refine c.run X s _ none _ _ E fun s' C D' us k hC hD hDC hl ⟨m, hm⟩ hus => ⟨m, hm, fun h'' hs'' => ⟨⟨k.eq, fun b q e => ?_⟩, .lst (vs := us) (hl.extBut hs''.extBut hDC) ?_ (hus.mono (h' := h'') fun b o hb e => hs''.extBut b o (fun z => hb (.inr (z ▸ List.mem_cons_self))) e).drop⟩⟩
  · exact hs''.extBut b q (fun z => by subst z; rw [hC] at e; cases e) (k.hk b q e)
  · exact hk_size (fun b q e => e) hD X E.live
end
end
section
open PySem PySem.W PySem.Calls PyProof.Rows PySem.SeqAt PySem.Spec
set_option autoImplicit false
set_option linter.unusedVariables false
theorem cellsFrom_none : ∀ (names : List (Str × NameKind)) (n : Nat) (acc : List (Str × Addr)), (∀ y ∈ names, y.2 ≠ .cell) → cellsFrom n names acc = acc
  | [], _, _, _ => rfl
  | (x, k) :: r, n, acc, h => by
    have hk : (k == NameKind.cell) = false := by simpa using h (x, k) List.mem_cons_self
    rw [cellsFrom, hk]
    exact cellsFrom_none r n acc fun y hy => h y (List.mem_cons_of_mem _ hy)
theorem pushCells_none : ∀ (names : List (Str × NameKind)) (h : Heap), (∀ y ∈ names, y.2 ≠ .cell) → pushCells h names = h
  | [], _, _ => rfl
  | (x, k) :: r, n, h => by
    have hk : (k == NameKind.cell) = false := by simpa using h (x, k) List.mem_cons_self
    rw [pushCells, hk]
    exact pushCells_none r n fun y hy => h y (List.mem_cons_of_mem _ hy)
section
variable {prog : Program} {w : World} {T : Top0} {A : Around} {env : Env} {σ : Sg} {n : Nat}
theorem compOk_of {scope : Scope} {cl : List (Str × Addr)} {cap : List Str} {x : Str} (h1 : closureFor scope env = pure cl) (h2 : scope.kind = .function) (h3 : (scope.names.all fun y => y.2 != .local || scope.names.lookup y.1 == some .local) = true)
    (h4 : (x != ("__debug__" : Str) && x != ("__classdict__" : Str)) = true)
    (h5 : (cap.all fun y => y != x && ((relabel scope env).names.lookup y == some .cell || (relabel scope env).names.lookup y == some .free) && env.kindOf y != some .local) = true)
    (h6 : ∀ y ∈ cap, ∃ c, cl.lookup y = some c ∧ env.cells.lookup y = some c) (h7 : (cl.all fun p => cap.contains p.1) = true) (h8 : ∀ y ∈ cap, ∃ d, σ y = some d) : CompOk scope env σ cl cap x := by
  refine ⟨h1, h2, fun y hy hl => ?_, ?_, fun y hy => ?_, fun y c hy => ?_⟩
  · have := List.all_eq_true.mp h3 y hy
    simpa [hl] using this
  · simpa using h4
  · have := List.all_eq_true.mp h5 y hy
    simp only [Bool.and_eq_true, Bool.or_eq_true, bne_iff_ne, ne_eq, beq_iff_eq] at this
    exact ⟨this.1.1, this.1.2, this.2, h6 y hy, h8 y hy⟩
  · have := List.all_eq_true.mp h7 (y, c) (mem_of_lookup hy)
    simpa using this
theorem noCell_of {scope : Scope} (h : (scope.names.all fun y => y.2 != .cell) = true) : ∀ y ∈ scope.names, y.2 ≠ .cell := fun y hy => by
  have := List.all_eq_true.mp h y hy
  simpa using this
theorem capN_none {cap : List Str} {x : Str} {scope : Scope} {cl : List (Str × Addr)} (K : CompOk scope env σ cl cap x) : capN σ cap x = none := by
  unfold capN
  rw [if_neg]
  intro h
  exact (K.capt x (by simpa using h)).1 rfl
/-- one loop, whose name may be a cell -/
theorem ce_comp1 {x : Str} {px pos : Pos} {elt iter : PySem.Expr} {ifs : List PySem.Expr} {scope : Scope} {cl : List (Str × Addr)} {cap : List Str} {d₀ : D} {ds : List D} {pb : D → Bool} {f : D → D} (kx : Bool)
    (R : Room n A) (hd : d₀ = .lst ds ∨ d₀ = .tup ds) (hlen : ds.length ≤ sizeLine) (hiter : Ev prog w T A env σ iter d₀) (hs : ∀ x, foldedSetIterable iter env x = pure x)
    (K : CompOk scope env σ cl cap x) (hcs : ∀ n, cellsFrom n scope.names cl = if kx then (x, n) :: cl else cl) (hps : ∀ h, pushCells h scope.names = if kx then h.push cellObj else h) (hx : scope.names.lookup x = some (if kx then .cell else .local))
    (ht : ∀ C, ∀ d ∈ ds, EvTs prog w T A (envX scope (csOf kx x C cl) C env) (capS σ cap x d) ifs (pb d))
    (he : ∀ C, ∀ d ∈ ds, pb d = true → Ev prog w T A (envX scope (csOf kx x C cl) C env) (capS σ cap x d) elt (f d)) :
    CompE prog w T A env σ (.ListComp elt [⟨.Name x px, iter, ifs, 0⟩] scope pos) scope iter ((ds.filter pb).map f) := .mk fun X s pos' use Q E' E hQ => by
  refine comp_gen kx E R hd hiter hs K hcs hps hx (fun B s₃ I ax C D' items St kB hIt hr hax hBn hIL hDC hDC1 hcs' S hst hacc F Rr hRr => ?_) hQ
  have mC : C ∈ LOf kx D' C := by unfold LOf; split <;> simp
  have mD : D' ∈ LOf kx D' C := by unfold LOf; split <;> simp
  refine cf_map (p := iter.pos) (L := LOf kx D' C) (B := B) (us₀ := []) (l₀ := []) (pl := if kx then C + 1 else C) rfl hIt (by simpa using hlen) (hr.avoid fun b hb => hb.imp id fun m => hBn b m) hax S (hBn I List.mem_cons_self) hIL mC ?_ mD (fun e => hIL (e ▸ mC)) (fun y c hy => (hcs' y c hy).1) ?_ hDC (fun y c hy => (hcs' y c hy).2)
    F hst hacc .nil (capN_none K) (ht C) (he C) fun s' us a b c => hRr s' us a b (by simpa using c)
  · cases kx <;> simp [LOf]
  · cases kx
    · exact hDC
    · exact hDC1
theorem ce_comp {x : Str} {px pos : Pos} {elt iter : PySem.Expr} {ifs : List PySem.Expr} {scope : Scope} {cl : List (Str × Addr)} {cap : List Str} {d₀ : D} {ds : List D} {pb : D → Bool} {f : D → D}
    (R : Room n A) (hd : d₀ = .lst ds ∨ d₀ = .tup ds) (hlen : ds.length ≤ sizeLine) (hiter : Ev prog w T A env σ iter d₀) (hs : ∀ x, foldedSetIterable iter env x = pure x)
    (K : CompOk scope env σ cl cap x) (hcell : ∀ y ∈ scope.names, y.2 ≠ .cell) (hx : scope.names.lookup x = some .local)
    (ht : ∀ C, ∀ d ∈ ds, EvTs prog w T A (compEnvC scope cl C env) (capS σ cap x d) ifs (pb d))
    (he : ∀ C, ∀ d ∈ ds, pb d = true → Ev prog w T A (compEnvC scope cl C env) (capS σ cap x d) elt (f d)) :
    CompE prog w T A env σ (.ListComp elt [⟨.Name x px, iter, ifs, 0⟩] scope pos) scope iter ((ds.filter pb).map f) :=
  ce_comp1 false R hd hlen hiter hs K (fun n => cellsFrom_none _ n cl hcell) (fun h => pushCells_none _ h hcell) hx ht he
theorem CompE.cast {e iter : PySem.Expr} {scope : Scope} {l l' : List D} (c : CompE prog w T A env σ e scope iter l) (h : l = l') : CompE prog w T A env σ e scope iter l' := h ▸ c
theorem ev_compR {x : Str} {px pos : Pos} {elt iter : PySem.Expr} {ifs : List PySem.Expr} {scope : Scope} {cl : List (Str × Addr)} {cap : List Str} {d₀ : D} {ds l : List D} {pb : D → Bool} {f : D → D}
    (R : Room n A) (hd : d₀ = .lst ds ∨ d₀ = .tup ds) (hlen : ds.length ≤ sizeLine) (hiter : Ev prog w T A env σ iter d₀) (hs : ∀ x, foldedSetIterable iter env x = pure x)
    (K : CompOk scope env σ cl cap x) (hcell : ∀ y ∈ scope.names, y.2 ≠ .cell) (hx : scope.names.lookup x = some .local)
    (ht : ∀ C, ∀ d ∈ ds, EvTs prog w T A (compEnvC scope cl C env) (capS σ cap x d) ifs (pb d))
    (he : ∀ C, ∀ d ∈ ds, pb d = true → Ev prog w T A (compEnvC scope cl C env) (capS σ cap x d) elt (f d)) (hl : (ds.filter pb).map f = l) :
    Ev prog w T A env σ (.ListComp elt [⟨.Name x px, iter, ifs, 0⟩] scope pos) (.lst l) := ((ce_comp R hd hlen hiter hs K hcell hx ht he).cast hl).ev
/-- two loops, one in the other -/
theorem ce_comp2 {x x' : Str} {px px' pos : Pos} {elt iter iter' : PySem.Expr} {ifs ifs' : List PySem.Expr} {scope : Scope} {cl : List (Str × Addr)} {cap : List Str} {d₀ : D} {ds l : List D} {pb : D → Bool} {dd : D → D} {dl : D → List D} {pb' : D → D → Bool} {f : D → D → D} {N : Nat}
    (R : Room n A) (hd : d₀ = .lst ds ∨ d₀ = .tup ds) (hlen : ds.length * N ≤ sizeLine) (hiter : Ev prog w T A env σ iter d₀) (hs : ∀ x, foldedSetIterable iter env x = pure x)
    (K : CompOk scope env σ cl cap x) (hcell : ∀ y ∈ scope.names, y.2 ≠ .cell) (hx : scope.names.lookup x = some .local) (hx' : scope.names.lookup x' = some .local) (hxx : x' ≠ x) (hdb : x' ≠ ("__debug__" : Str) ∧ x' ≠ ("__classdict__" : Str)) (hxc : cap.contains x' = false)
    (ht : ∀ C, ∀ d ∈ ds, EvTs prog w T A (compEnvC scope cl C env) (capS σ cap x d) ifs (pb d))
    (hi : ∀ C, ∀ d ∈ ds, pb d = true → Ev prog w T A (compEnvC scope cl C env) (capS σ cap x d) iter' (dd d)) (hdd : ∀ d, dd d = .lst (dl d) ∨ dd d = .tup (dl d)) (hdl : ∀ d, (dl d).length ≤ N)
    (hs' : ∀ C v, foldedSetIterable iter' (compEnvC scope cl C env) v = pure v)
    (ht' : ∀ C, ∀ d ∈ ds, pb d = true → ∀ d' ∈ dl d, EvTs prog w T A (compEnvC scope cl C env) (upS (capS σ cap x d) x' d') ifs' (pb' d d'))
    (he : ∀ C, ∀ d ∈ ds, pb d = true → ∀ d' ∈ dl d, pb' d d' = true → Ev prog w T A (compEnvC scope cl C env) (upS (capS σ cap x d) x' d') elt (f d d'))
    (hl : ((ds.filter pb).flatMap fun d => ((dl d).filter (pb' d)).map (f d)) = l) :
    CompE prog w T A env σ (.ListComp elt [⟨.Name x px, iter, ifs, 0⟩, ⟨.Name x' px', iter', ifs', 0⟩] scope pos) scope iter l := .mk fun X s pos' use Q E' E hQ => by
  refine comp_gen false E R hd hiter hs K (fun n => cellsFrom_none _ n cl hcell) (fun h => pushCells_none _ h hcell) hx (fun B s₃ I ax C D' items St kB hIt hr hax hBn hIL hDC hDC1 hcs' S hst hacc F Rr hRr => ?_) hQ
  have mC : C ∈ LOf false D' C := by simp [LOf]
  have mD : D' ∈ LOf false D' C := by simp [LOf]
  refine cf_nest (N := N) (L := LOf false D' C) (B := B) (pl := C) (pl' := C) (dl := dl) (pb' := pb') (f := f) R.hand hIt hlen (hr.avoid fun b hb => hb.imp id fun m => hBn b m) hax S ⟨hdb, .inl ⟨lookup_relabel_local hx', rfl⟩⟩ (hBn I List.mem_cons_self) hIL mC mC mC mD (fun e => hIL (e ▸ mC)) (fun y c hy => (hcs' y c hy).1) hDC hDC hDC (fun y c hy => (hcs' y c hy).2)
    F hst hacc (capN_none K) ?_ hxx (ht C) (hi C) hdd hdl (hs' C) (ht' C) (he C) fun s' us a b c => hRr s' us a b (hl ▸ c)
  · unfold capN
    rw [if_neg (by rw [hxc]; decide)]
end
end
section
open PySem PySem.W PySem.Calls PyProof.Rows PySem.SeqAt PySem.Spec
set_option autoImplicit false
set_option linter.unusedVariables false
noncomputable def places (env : Env) (own : List Addr) : List Addr := env.locals :: (env.cells.map (·.2) ++ own)
noncomputable abbrev Ow := Option (Addr × Str × List Str)
/-- a frame at work: B what stood when it began, B₀ what stood before -/
structure FSm (T : Top0) (env : Env) (B₀ : Heap) (B : Shared) (X : Addr → Prop) (own : List Addr) (σ : Sg) (ow : Ow) (m cm : Str → Option Value) (s : Shared) : Prop where
  same : outer s = outer B
  keep : Bt (places env own) B.heap s.heap
  ns : s.heap.Ns env.locals m
  cell : ∀ n c, env.cells.lookup n = some c → s.heap.IsCell c (cm n)
  apart : env.cells.Pairwise fun x y => x.2 ≠ y.2
  above : ∀ n c, (n, c) ∈ env.cells → c ≠ env.locals
  kind : env.scope.kind = .function
  glob : env.globals = mainGlobals
  blt : env.builtins = builtinsNs
  old : Hk B₀ B.heap
  fresh : ∀ b ∈ places env own, B₀.get? b = none
  top : T.At B.heap
  off : ∀ b ∈ places env own, T.K b = none ∧ b ≠ mainGlobals ∧ b ≠ builtinsNs ∧ b ≠ cStatics
  live : ∀ b, X b → ∃ o, B.heap.get? b = some o
  xa : ∀ b ∈ places env own, ¬ X b
  tx : ∀ a o, T.K a = some o → ¬ X a
  liveP : ∀ b ∈ places env own, ∃ o, s.heap.get? b = some o
  ownA : ∀ b ∈ own, b ≠ env.locals ∧ b ∉ env.cells.map (·.2)
  get : ∀ x d, σ x = some d → x ≠ ("__debug__" : Str) ∧ x ≠ ("__classdict__" : Str) ∧
    ((env.kindOf x = some .local ∧ ∃ v, m x = some v ∧ Rep (wth X (places env own)) s.heap v d) ∨ (env.kindOf x = some .cell ∧ ∃ c v, env.cells.lookup x = some c ∧ cm x = some v ∧ Rep (wth X (places env own)) s.heap v d))
  mine : match ow with
    | none => True
    | some (a, x, ss) => a ∈ own ∧ (x ≠ ("__debug__" : Str) ∧ x ≠ ("__classdict__" : Str)) ∧ env.kindOf x = some .local ∧ m x = some (.ref a) ∧ ∃ us, PlainL s.heap a us ∧ StrsAre us.toList ss
noncomputable def FS (T : Top0) (env : Env) (B₀ : Heap) (B : Shared) (X : Addr → Prop) (own : List Addr) (σ : Sg) (ow : Ow) (s : Shared) : Prop := ∃ m cm, FSm T env B₀ B X own σ ow m cm s
section
variable {prog : Program} {w : World} {T : Top0} {A : Around} {env : Env} {σ σ' : Sg} {n : Nat} {B₀ : Heap} {B s s' : Shared} {X : Addr → Prop} {own : List Addr} {ow ow' : Ow} {m cm : Str → Option Value} {E' : Value → Shared → Prop}
theorem PlainL.at_ {h h' : Heap} {l : Addr} {its : Array Value} (x : PlainL h l its) (e : ∀ o, h.get? l = some o → h'.get? l = some o) : PlainL h' l its := let ⟨o, k, ho, r⟩ := x; ⟨o, k, e o ho, r⟩
theorem FSm.topS (F : FSm T env B₀ B X own σ ow m cm s) : T.At s.heap := F.top.bt F.keep F.off
theorem FSm.liveX (F : FSm T env B₀ B X own σ ow m cm s) : ∀ b, wth X (places env own) b → ∃ o, s.heap.get? b = some o := fun b hb => by
  by_cases hp : b ∈ places env own
  · exact F.liveP b hp
  · rcases hb with hb | hb
    · obtain ⟨o, ho⟩ := F.live b hb; exact ⟨o, F.keep b o hp ho⟩
    · exact absurd hb hp
theorem FS.envR (F : FS T env B₀ B X own σ ow s) : EnvR T env σ (wth X (places env own)) s.heap := by
  obtain ⟨m, cm, F⟩ := F
  refine ⟨F.kind, F.glob, F.blt, F.topS, F.liveX, fun a o e z => z.elim (F.tx a o e) (fun m => by rw [(F.off a m).1] at e; cases e), fun x d hx => ?_⟩
  obtain ⟨a1, a2, ⟨a3, v, hv, r⟩ | ⟨a3, c, v, hc, hv, r⟩⟩ := F.get x d hx
  · exact ⟨a1, a2, v, .inl ⟨a3, m, F.ns, hv⟩, r⟩
  · exact ⟨a1, a2, v, .inr ⟨.inl a3, c, hc, hv ▸ F.cell x c hc⟩, r⟩
theorem FS.fr (F : FS T env B₀ B X own σ ow s) {a : Addr} (ha : s.heap.objs.size ≤ a) : ¬ wth X (places env own) a := F.envR.fresh ha
theorem FS.keep (F : FS T env B₀ B X own σ ow s) (k : Kp s s') : FS T env B₀ B X own σ ow s' := by
  obtain ⟨m, cm, F⟩ := F
  refine ⟨m, cm, ?_, F.keep.trans (.of k.hk), F.ns.keeps k.hk, fun n c hc => (F.cell n c hc).keeps k.hk, F.apart, F.above, F.kind, F.glob, F.blt, F.old, F.fresh, F.top, F.off, F.live, F.xa, F.tx, fun b hb => let ⟨o, ho⟩ := F.liveP b hb; ⟨o, k.hk b o ho⟩, F.ownA, fun x d hx => ?_, ?_⟩
  · exact k.eq.trans F.same
  · obtain ⟨a1, a2, ⟨a3, v, hv, r⟩ | ⟨a3, c, v, hc, hv, r⟩⟩ := F.get x d hx
    · exact ⟨a1, a2, .inl ⟨a3, v, hv, r.keep k.hk⟩⟩
    · exact ⟨a1, a2, .inr ⟨a3, c, v, hc, hv, r.keep k.hk⟩⟩
  · have h := F.mine
    cases ow with
    | none => trivial
    | some p => obtain ⟨h1, h2, h3, h4, us, h5, h6⟩ := h; exact ⟨h1, h2, h3, h4, us, PlainL.at_ h5 fun o e => k.hk _ o e, h6⟩
theorem FS.kp (F : FS T env B₀ B X own σ ow s) : Hk B₀ s.heap ∧ outer s = outer B := by
  obtain ⟨m, cm, F⟩ := F
  exact ⟨fun b o e => F.keep b o (fun z => by rw [F.fresh b z] at e; cases e) (F.old b o e), F.same⟩
theorem FS.kpB (F : FS T env B.heap B X own σ ow s) : Kp B s := ⟨F.kp.2, F.kp.1⟩
theorem FS.sub (F : FS T env B₀ B X own σ ow s) (h : ∀ x d, σ' x = some d → σ x = some d) : FS T env B₀ B X own σ' ow s := by
  obtain ⟨m, cm, F⟩ := F
  exact ⟨m, cm, { F with get := fun x d hx => F.get x d (h x d hx) }⟩
/-- what a def gives back -/
theorem FS.back {v : Value} {d : D} (F : FS T env B.heap B X own σ ow s) (r : Rep (wth X (places env own)) s.heap v d) : Kp B s ∧ Rep X s.heap v d := ⟨F.kpB, r.drop⟩
/-- a place of its own more -/
theorem FS.more {I : Addr} (F : FS T env B₀ B X own σ ow s) (k : Kp s s') (hI : s.heap.get? I = none) (hI' : ∃ o, s'.heap.get? I = some o) : FS T env B₀ B X (I :: own) σ ow s' := by
  have E := (F.keep k).envR
  obtain ⟨m, cm, G⟩ := F.keep k
  obtain ⟨_, _, F'⟩ := id F
  have hp : ∀ b, b ∈ places env (I :: own) ↔ b = I ∨ b ∈ places env own := fun b => by
    simp only [places, List.mem_cons, List.mem_append]
    constructor
    · rintro (h | h | h | h)
      · exact .inr (.inl h)
      · exact .inr (.inr (.inl h))
      · exact .inl h
      · exact .inr (.inr (.inr h))
    · rintro (h | h | h | h)
      · exact .inr (.inr (.inl h))
      · exact .inl h
      · exact .inr (.inl h)
      · exact .inr (.inr (.inr h))
  have hnl : ∀ b o, s.heap.get? b = some o → b ≠ I := fun b o e z => by rw [z, hI] at e; cases e
  have hIp : I ∉ places env own := fun z => by obtain ⟨o, ho⟩ := F'.liveP I z; rw [hI] at ho; cases ho
  have tp := F'.topS
  have re : ∀ v d, Rep (wth X (places env own)) s.heap v d → Rep (wth X (places env (I :: own))) s'.heap v d := fun v d r => (r.avoid (fun b hb => by
    rcases hb with hb | hb
    · exact .inl (.inl hb)
    · rcases (hp b).mp hb with rfl | hb
      · exact .inr hI
      · exact .inl (.inr hb))).keep k.hk
  refine ⟨_, _, { F' with same := ?_, keep := fun b o hb e => k.hk b o (F'.keep b o (fun z => hb ((hp b).mpr (.inr z))) e), ns := F'.ns.keeps k.hk, cell := fun n c hc => (F'.cell n c hc).keeps k.hk, fresh := fun b hb => ?_, off := fun b hb => ?_, liveP := fun b hb => ?_, ownA := fun b hb => ?_, get := fun x d hx => ?_, mine := ?_, xa := fun b hb => ?_ }⟩
  · exact k.eq.trans F'.same
  · rcases (hp b).mp hb with rfl | hb
    · cases e : B₀.get? b with
      | none => rfl
      | some o => exact absurd rfl (hnl b o ((FS.kp ⟨_, _, F'⟩).1 b o e))
    · exact F'.fresh b hb
  · rcases (hp b).mp hb with rfl | hb
    · refine ⟨?_, fun z => ?_, fun z => ?_, fun z => ?_⟩
      · cases e : T.K b with
        | none => rfl
        | some o => exact absurd rfl (hnl b o (tp.k b o e))
      · obtain ⟨o, _, _, ho, _⟩ := tp.g; exact hnl _ o ho z.symm
      · obtain ⟨o, _, _, ho, _⟩ := tp.b; exact hnl _ o ho z.symm
      · obtain ⟨_, ⟨o, _, _, ho, _⟩, _⟩ := tp.lim; exact hnl _ o ho z.symm
    · exact F'.off b hb
  · rcases (hp b).mp hb with rfl | hb
    · intro z
      obtain ⟨o, ho⟩ := F'.liveX _ (.inl z); exact hnl _ o ho rfl
    · exact F'.xa b hb
  · rcases (hp b).mp hb with rfl | hb
    · exact hI'
    · obtain ⟨o, ho⟩ := F'.liveP b hb; exact ⟨o, k.hk b o ho⟩
  · rcases List.mem_cons.mp hb with rfl | hb
    · exact ⟨fun z => hIp (z ▸ List.mem_cons_self), fun z => hIp (List.mem_cons_of_mem _ (List.mem_append_left _ z))⟩
    · exact F'.ownA b hb
  · obtain ⟨a1, a2, ⟨a3, v, hv, r⟩ | ⟨a3, c, v, hc, hv, r⟩⟩ := F'.get x d hx
    · exact ⟨a1, a2, .inl ⟨a3, v, hv, re v d r⟩⟩
    · exact ⟨a1, a2, .inr ⟨a3, c, v, hc, hv, re v d r⟩⟩
  · have h := F'.mine
    cases ow with
    | none => trivial
    | some p => obtain ⟨h1, h2, h3, h4, us, h5, h6⟩ := h; exact ⟨List.mem_cons_of_mem _ h1, h2, h3, h4, us, PlainL.at_ h5 fun o e => k.hk _ o e, h6⟩
/-- a place of its own fewer -/
theorem FS.less {I : Addr} (F : FS T env B₀ B X (I :: own) σ ow s) (hI : I ∉ own) (hB : B.heap.get? I = none) (ho : ∀ p, ow = some p → p.1 ≠ I) : FS T env B₀ B X own σ ow s := by
  obtain ⟨m, cm, F⟩ := F
  have hp : ∀ b, b ∈ places env own → b ∈ places env (I :: own) := fun b hb => by
    simp only [places, List.mem_cons, List.mem_append] at hb ⊢
    rcases hb with h | h | h
    · exact .inl h
    · exact .inr (.inl h)
    · exact .inr (.inr (.inr h))
  have re : ∀ v d, Rep (wth X (places env (I :: own))) s.heap v d → Rep (wth X (places env own)) s.heap v d := fun v d r => r.avoid fun b hb => by
    rcases hb with hb | hb
    · exact .inl (.inl hb)
    · exact .inl (.inr (hp b hb))
  refine ⟨m, cm, { F with keep := fun b o hb e => F.keep b o (fun z => ?_) e, fresh := fun b hb => F.fresh b (hp b hb), off := fun b hb => F.off b (hp b hb), liveP := fun b hb => F.liveP b (hp b hb), xa := fun b hb => F.xa b (hp b hb), ownA := fun b hb => F.ownA b (List.mem_cons_of_mem _ hb), get := fun x d hx => ?_, mine := ?_ }⟩
  · simp only [places, List.mem_cons, List.mem_append] at hb z
    rcases z with z | z | z | z
    · exact hb (.inl z)
    · exact hb (.inr (.inl z))
    · rw [z, hB] at e; cases e
    · exact hb (.inr (.inr z))
  · obtain ⟨a1, a2, ⟨a3, v, hv, r⟩ | ⟨a3, c, v, hc, hv, r⟩⟩ := F.get x d hx
    · exact ⟨a1, a2, .inl ⟨a3, v, hv, re v d r⟩⟩
    · exact ⟨a1, a2, .inr ⟨a3, c, v, hc, hv, re v d r⟩⟩
  · have h := F.mine
    cases ow with
    | none => trivial
    | some p =>
      obtain ⟨h1, h2⟩ := h
      refine ⟨?_, h2⟩
      rcases List.mem_cons.mp h1 with z | z
      · exact absurd z (ho p rfl)
      · exact z
/-- an own place was laid anew -/
theorem FS.touch {I : Addr} (F : FS T env B₀ B X own σ ow s) (hI : I ∈ own) (ho : ∀ p, ow = some p → p.1 ≠ I) (he : outer s' = outer s) (hk : ∀ b o, b ≠ I → s.heap.get? b = some o → s'.heap.get? b = some o) (hl : ∃ o, s'.heap.get? I = some o) :
    FS T env B₀ B X own σ ow s' := by
  obtain ⟨m, cm, F⟩ := F
  have hIm : I ∈ places env own := List.mem_cons_of_mem _ (List.mem_append_right _ hI)
  have bt : Bt (places env own) s.heap s'.heap := fun b o hb e => hk b o (fun z => hb (z ▸ hIm)) e
  refine ⟨m, cm, { F with same := ?_, keep := F.keep.trans bt, ns := F.ns.at' fun o e => hk _ o (Ne.symm (F.ownA I hI).1) e, cell := fun n c hc => ?_, liveP := fun b hb => ?_, get := fun x d hx => ?_, mine := ?_ }⟩
  · exact he.trans F.same
  · obtain ⟨o, ho', hd⟩ := F.cell n c hc
    exact ⟨o, hk c o (fun z => (F.ownA I hI).2 (z ▸ List.mem_map.mpr ⟨(n, c), mem_of_lookup hc, rfl⟩)) ho', hd⟩
  · by_cases e : b = I
    · subst e; exact hl
    · obtain ⟨o, ho⟩ := F.liveP b hb; exact ⟨o, hk b o e ho⟩
  · obtain ⟨a1, a2, ⟨a3, v, hv, r⟩ | ⟨a3, c, v, hc, hv, r⟩⟩ := F.get x d hx
    · exact ⟨a1, a2, .inl ⟨a3, v, hv, r.past bt⟩⟩
    · exact ⟨a1, a2, .inr ⟨a3, c, v, hc, hv, r.past bt⟩⟩
  · have h := F.mine
    cases ow with
    | none => trivial
    | some p => obtain ⟨h1, h2, h3, h4, us, h5, h6⟩ := h; exact ⟨h1, h2, h3, h4, us, PlainL.at_ h5 fun o e => hk _ o (ho p rfl) e, h6⟩
theorem FSm.stLocal {x : Str} {v : Value} {Q : Unit → Shared → Prop} (F : FSm T env B₀ B X own σ ow m cm s) (hl : env.kindOf x = some .local)
    (h : ∀ s', (∀ v d, Rep (wth X (places env own)) s.heap v d → Rep (wth X (places env own)) s'.heap v d) → (∀ a ∈ own, ∀ o, s.heap.get? a = some o → s'.heap.get? a = some o) → FSm T env B₀ B X own (noS σ x) none (fun y => if y = x then some v else m y) cm s' → Q () s') :
    wpAny (model prog w) A (storeName env x v) Q E' s := by
  refine wpAny_storeName_local hl F.ns (fun h' hn hs => ?_) (by rw [F.kind]; rfl)
  have bt : Bt (places env own) s.heap h' := .same (by simp [places]) hs
  refine h _ (fun v d r => r.past bt) (fun a ha o e => hs.extBut a o (F.ownA a ha).1 e) { F with same := ?_, keep := F.keep.trans bt, ns := hn, cell := fun n c hc => ?_, liveP := fun b hb => ?_, get := fun y d' hy => ?_, mine := trivial }
  · exact F.same
  · exact (F.cell n c hc).sameBut hs (F.above n c (mem_of_lookup hc))
  · by_cases e : b = env.locals
    · obtain ⟨o, _, _, ho, _⟩ := hn; exact ⟨o, e ▸ ho⟩
    · obtain ⟨o, ho⟩ := F.liveP b hb; exact ⟨o, hs.extBut b o e ho⟩
  · unfold noS at hy
    by_cases hyx : y = x
    · rw [if_pos hyx] at hy; cases hy
    · rw [if_neg hyx] at hy
      obtain ⟨a1, a2, ⟨a3, u, hu, ru⟩ | ⟨a3, c, u, hc, hu, ru⟩⟩ := F.get y d' hy
      · exact ⟨a1, a2, .inl ⟨a3, u, by rw [if_neg hyx]; exact hu, ru.past bt⟩⟩
      · exact ⟨a1, a2, .inr ⟨a3, c, u, hc, hu, ru.past bt⟩⟩
theorem FS.storeR {x : Str} {v : Value} {d : D} {Q : Unit → Shared → Prop} (F : FS T env B₀ B X own σ ow s) (hk : env.kindOf x = some .local ∨ (env.kindOf x = some .cell ∧ ∃ c, env.cells.lookup x = some c))
    (hd : x ≠ ("__debug__" : Str) ∧ x ≠ ("__classdict__" : Str)) (ho : ∀ p, ow = some p → p.2.1 ≠ x) (r : Rep (wth X (places env own)) s.heap v d) (h : ∀ s', (∀ v d, Rep (wth X (places env own)) s.heap v d → Rep (wth X (places env own)) s'.heap v d) → FS T env B₀ B X own (upS σ x d) ow s' → Q () s') :
    wpAny (model prog w) A (storeName env x v) Q E' s := by
  obtain ⟨m, cm, F⟩ := F
  rcases hk with hl | ⟨hl, c, hc⟩
  · refine F.stLocal hl fun s' re ro G => h _ re ⟨_, _, { G with get := fun y d' hy => ?_, mine := ?_ }⟩
    · unfold upS at hy
      by_cases hyx : y = x
      · subst hyx
        rw [if_pos rfl] at hy
        cases hy
        exact ⟨hd.1, hd.2, .inl ⟨hl, v, by simp, re _ _ r⟩⟩
      · rw [if_neg hyx] at hy
        exact G.get y d' (by unfold noS; rw [if_neg hyx]; exact hy)
    · have hm := F.mine
      cases ow with
      | none => trivial
      | some p =>
        obtain ⟨h1, h2, h3, h4, us, h5, h6⟩ := hm
        refine ⟨h1, h2, h3, ?_, us, PlainL.at_ h5 fun o e => ro _ h1 o e, h6⟩
        show (if p.2.1 = x then _ else _) = _
        rw [if_neg (ho _ rfl)]; exact h4
  · have mc : c ∈ places env own := List.mem_cons_of_mem _ (List.mem_append_left _ (List.mem_map.mpr ⟨(x, c), mem_of_lookup hc, rfl⟩))
    refine wpAny_storeName_cell F.kind hl hc (F.cell x c hc) fun h' hc' hs => ?_
    have bt : Bt (places env own) s.heap h' := .same mc hs
    refine h _ (fun v d r => r.past bt) ?_
    have hcL := F.above x c (mem_of_lookup hc)
    refine ⟨m, (fun y => if y = x then some v else cm y), { F with same := ?_, keep := F.keep.trans bt, ns := F.ns.sameBut hs (Ne.symm hcL), cell := fun k c' hk' => ?_, liveP := fun b hb => ?_, get := fun y d' hy => ?_, mine := ?_ }⟩
    · exact F.same
    · by_cases hkn : k = x
      · subst hkn; rw [hc] at hk'; cases hk'; simpa using hc'
      · rw [if_neg hkn]
        exact (F.cell k c' hk').sameBut hs fun e => hkn (name_of_addr F.apart (mem_of_lookup hk') (e ▸ mem_of_lookup hc))
    · by_cases e : b = c
      · obtain ⟨o, ho, _⟩ := hc'; exact ⟨o, e ▸ ho⟩
      · obtain ⟨o, ho⟩ := F.liveP b hb; exact ⟨o, hs.extBut b o e ho⟩
    · unfold upS at hy
      by_cases hyx : y = x
      · subst hyx
        rw [if_pos rfl] at hy
        cases hy
        exact ⟨hd.1, hd.2, .inr ⟨hl, c, v, hc, by simp, r.past bt⟩⟩
      · rw [if_neg hyx] at hy
        obtain ⟨a1, a2, ⟨a3, u, hu, ru⟩ | ⟨a3, c₂, u, hc₂, hu, ru⟩⟩ := F.get y d' hy
        · exact ⟨a1, a2, .inl ⟨a3, u, hu, ru.past bt⟩⟩
        · exact ⟨a1, a2, .inr ⟨a3, c₂, u, hc₂, by rw [if_neg hyx]; exact hu, ru.past bt⟩⟩
    · have hm := F.mine
      cases ow with
      | none => trivial
      | some p =>
        obtain ⟨h1, h2, h3, h4, us, h5, h6⟩ := hm
        refine ⟨h1, h2, h3, h4, us, PlainL.at_ h5 fun o e => hs.extBut _ o (fun z => (F.ownA _ h1).2 ?_) e, h6⟩
        exact List.mem_map.mpr ⟨(x, c), mem_of_lookup hc, z.symm⟩
theorem FS.store {x : Str} {v : Value} {d : D} {Q : Unit → Shared → Prop} (F : FS T env B₀ B X own σ ow s) (hk : env.kindOf x = some .local ∨ (env.kindOf x = some .cell ∧ ∃ c, env.cells.lookup x = some c))
    (hd : x ≠ ("__debug__" : Str) ∧ x ≠ ("__classdict__" : Str)) (ho : ∀ p, ow = some p → p.2.1 ≠ x) (r : Rep (wth X (places env own)) s.heap v d) (h : ∀ s', FS T env B₀ B X own (upS σ x d) ow s' → Q () s') :
    wpAny (model prog w) A (storeName env x v) Q E' s := F.storeR hk hd ho r fun s' _ G => h s' G
/-- a name gets a list of its own -/
theorem FS.storeOwn {x : Str} {a : Addr} {us : Array Value} {ss : List Str} {Q : Unit → Shared → Prop} (F : FS T env B₀ B X own σ none s) (hl : env.kindOf x = some .local) (hd : x ≠ ("__debug__" : Str) ∧ x ≠ ("__classdict__" : Str))
    (ha : a ∈ own) (hp : PlainL s.heap a us) (hu : StrsAre us.toList ss) (h : ∀ s', FS T env B₀ B X own (noS σ x) (some (a, x, ss)) s' → Q () s') : wpAny (model prog w) A (storeName env x (.ref a)) Q E' s := by
  obtain ⟨m, cm, F⟩ := F
  exact F.stLocal hl fun s' re ro G => h _ ⟨_, _, { G with mine := ⟨ha, hd, hl, if_pos rfl, us, PlainL.at_ hp fun o e => ro _ ha o e, hu⟩ }⟩
/-- its own list was laid anew -/
theorem FS.mended {a : Addr} {x : Str} {ss ss' : List Str} {us : Array Value} (F : FS T env B₀ B X own σ (some (a, x, ss)) s) (he : outer s' = outer s) (hs : Heap.SameBut a s.heap s'.heap) (hp : PlainL s'.heap a us)
    (hu : StrsAre us.toList ss') : FS T env B₀ B X own σ (some (a, x, ss')) s' := by
  obtain ⟨m, cm, F⟩ := F
  obtain ⟨h1, h2, h3, h4, _⟩ := F.mine
  obtain ⟨m', cm', G⟩ := FS.touch (s' := s') (I := a) (ow := none) ⟨m, cm, { F with mine := trivial }⟩ h1 (by intro p hp; cases hp) he (fun b o hb e => hs.extBut b o hb e) (by obtain ⟨o, _, ho, _⟩ := hp; exact ⟨o, ho⟩)
  refine ⟨m, cm, { F with same := G.same, keep := G.keep, ns := F.ns.sameBut hs (Ne.symm (F.ownA a h1).1), cell := fun n c hc => ?_, liveP := G.liveP, get := fun y d hy => ?_, mine := ⟨h1, h2, h3, h4, us, hp, hu⟩ }⟩
  · exact (F.cell n c hc).sameBut hs fun z => (F.ownA a h1).2 (z ▸ List.mem_map.mpr ⟨(n, c), mem_of_lookup hc, rfl⟩)
  · have hIm : a ∈ places env own := List.mem_cons_of_mem _ (List.mem_append_right _ h1)
    have bt : Bt (places env own) s.heap s'.heap := .same hIm hs
    obtain ⟨a1, a2, ⟨a3, v, hv, r⟩ | ⟨a3, c, v, hc, hv, r⟩⟩ := F.get y d hy
    · exact ⟨a1, a2, .inl ⟨a3, v, hv, r.past bt⟩⟩
    · exact ⟨a1, a2, .inr ⟨a3, c, v, hc, hv, r.past bt⟩⟩
/-- its own list, taken as it stands -/
theorem FS.freeze {a : Addr} {x : Str} {ss : List Str} (F : FS T env B₀ B X (a :: own) σ (some (a, x, ss)) s) (ha : a ∉ own) (hB : B.heap.get? a = none) : FS T env B₀ B X own (upS σ x (.lst (ss.map .str))) none s := by
  obtain ⟨m, cm, F⟩ := F
  obtain ⟨h1, h2, h3, h4, us, h5, h6⟩ := F.mine
  obtain ⟨m', cm', G⟩ := FS.less (ow := none) ⟨m, cm, { F with mine := trivial }⟩ ha hB (by intro p hp; cases hp)
  have hna : ¬ wth X (places env own) a := by
    rintro (z | z)
    · exact F.xa a (List.mem_cons_of_mem _ (List.mem_append_right _ h1)) z
    · simp only [places, List.mem_cons, List.mem_append] at z
      rcases z with z | z | z
      · exact (F.ownA a h1).1 z
      · exact (F.ownA a h1).2 z
      · exact ha z
  have re : ∀ v d, Rep (wth X (places env (a :: own))) s.heap v d → Rep (wth X (places env own)) s.heap v d := fun v d r => r.avoid fun b hb => by
    rcases hb with hb | hb
    · exact .inl (.inl hb)
    · refine .inl (.inr ?_)
      simp only [places, List.mem_cons, List.mem_append] at hb ⊢
      rcases hb with h | h | h
      · exact .inl h
      · exact .inr (.inl h)
      · exact .inr (.inr (.inr h))
  refine ⟨m, cm, { F with keep := G.keep, fresh := G.fresh, off := G.off, liveP := G.liveP, ownA := G.ownA, xa := G.xa, get := fun y d hy => ?_, mine := trivial }⟩
  unfold upS at hy
  by_cases hyx : y = x
  · subst hyx
    rw [if_pos rfl] at hy
    cases hy
    obtain ⟨⟨us⟩, rfl⟩ : ∃ us', us = us' := ⟨us, rfl⟩
    exact ⟨h2.1, h2.2, .inl ⟨h3, _, h4, .lst (PlainL.isList h5) hna (strs_rep h6)⟩⟩
  · rw [if_neg hyx] at hy
    obtain ⟨a1, a2, ⟨a3, v, hv, r⟩ | ⟨a3, c, v, hc, hv, r⟩⟩ := F.get y d hy
    · exact ⟨a1, a2, .inl ⟨a3, v, hv, re v d r⟩⟩
    · exact ⟨a1, a2, .inr ⟨a3, c, v, hc, hv, re v d r⟩⟩
/-- what a test sees, the list of its own with it -/
theorem FS.envO {a : Addr} {x : Str} {ss : List Str} (F : FS T env B₀ B X own σ (some (a, x, ss)) s) (hn : own.Nodup) : ∃ X', EnvR T env (upS σ x (.lst (ss.map .str))) X' s.heap := by
  have E := F.envR
  obtain ⟨m, cm, F⟩ := F
  obtain ⟨h1, h2, h3, h4, us, h5, h6⟩ := F.mine
  refine ⟨wth X (places env (own.erase a)), E.kind, E.glob, E.blt, E.top, fun b hb => E.live b ?_, fun a' o e z => E.topX a' o e (z.imp id fun z => ?_), fun y d hy => ?_⟩
  · refine hb.imp id fun z => ?_
    simp only [places, List.mem_cons, List.mem_append] at z ⊢
    exact z.imp id fun z => z.imp id fun z => List.mem_of_mem_erase z
  · simp only [places, List.mem_cons, List.mem_append] at z ⊢
    exact z.imp id fun z => z.imp id fun z => List.mem_of_mem_erase z
  · have re : ∀ v d, Rep (wth X (places env own)) s.heap v d → Rep (wth X (places env (own.erase a))) s.heap v d := fun v d r => r.avoid fun b hb => .inl (hb.imp id fun z => by
      simp only [places, List.mem_cons, List.mem_append] at z ⊢
      exact z.imp id fun z => z.imp id fun z => List.mem_of_mem_erase z)
    unfold upS at hy
    by_cases hyx : y = x
    · subst hyx
      rw [if_pos rfl] at hy
      cases hy
      obtain ⟨⟨us⟩, rfl⟩ : ∃ us', us = us' := ⟨us, rfl⟩
      refine ⟨h2.1, h2.2, .ref a, .inl ⟨h3, m, F.ns, h4⟩, .lst (PlainL.isList h5) ?_ (strs_rep h6)⟩
      rintro (z | z)
      · exact F.xa a (List.mem_cons_of_mem _ (List.mem_append_right _ h1)) z
      · simp only [places, List.mem_cons, List.mem_append] at z
        rcases z with z | z | z
        · exact (F.ownA a h1).1 z
        · exact (F.ownA a h1).2 z
        · exact ((List.Nodup.mem_erase_iff hn).mp z).1 rfl
    · rw [if_neg hyx] at hy
      obtain ⟨a1, a2, v, hv, r⟩ := E.get y d hy
      exact ⟨a1, a2, v, hv, re v d r⟩
theorem FS.rebase (F : FS T env B₀ B X own σ ow s) : FS T env B₀ s X own σ ow s := by
  obtain ⟨m, cm, F⟩ := F
  refine ⟨m, cm, { F with same := rfl, keep := fun _ _ _ e => e, old := (FS.kp ⟨m, cm, F⟩).1, top := F.topS, live := fun b hb => F.liveX b (.inl hb) }⟩
theorem FS.unbase {σ₀ : Sg} {ow₀ : Ow} {s₀ : Shared} (F₀ : FS T env B₀ B X own σ₀ ow₀ s₀) (F : FS T env B₀ s X own σ ow s) (he : outer s = outer s₀) (hk : Bt (places env own) s₀.heap s.heap) : FS T env B₀ B X own σ ow s := by
  obtain ⟨m, cm, F⟩ := F
  obtain ⟨m₀, cm₀, F₀⟩ := F₀
  refine ⟨m, cm, { F with same := ?_, keep := F₀.keep.trans hk, old := F₀.old, top := F₀.top, live := F₀.live }⟩
  exact he.trans F₀.same
/-- an iterator laid aside -/
theorem FS.addX {I : Addr} (F : FS T env B₀ B X own σ ow s) (k : Kp s s') (hI : s.heap.get? I = none) (hI' : ∃ o, s'.heap.get? I = some o) : FS T env B₀ s' (wI X I) own σ ow s' := by
  have G := (F.keep k).rebase
  obtain ⟨_, _, F'⟩ := id F
  have hIp : I ∉ places env own := fun z => by obtain ⟨o, ho⟩ := F'.liveP I z; rw [hI] at ho; cases ho
  have re : ∀ v d, Rep (wth X (places env own)) s.heap v d → Rep (wth (wI X I) (places env own)) s'.heap v d := fun v d r => (r.avoid (fun b hb => by
    rcases hb with (hb | rfl) | hb
    · exact .inl (.inl hb)
    · exact .inr hI
    · exact .inl (.inr hb))).keep k.hk
  obtain ⟨m', cm', G⟩ := G
  refine ⟨_, _, { F' with same := rfl, keep := fun _ _ _ e => e, ns := F'.ns.keeps k.hk, cell := fun n c hc => (F'.cell n c hc).keeps k.hk, old := G.old, top := G.top, live := fun b hb => ?_, xa := fun b hb z => ?_, tx := fun a o e z => ?_, liveP := G.liveP, get := fun x d hx => ?_, mine := ?_ }⟩
  · rcases hb with hb | rfl
    · exact G.live b hb
    · exact hI'
  · rcases z with z | rfl
    · exact F'.xa b hb z
    · exact hIp hb
  · rcases z with z | rfl
    · exact F'.tx a o e z
    · rw [F'.topS.k a o e] at hI; cases hI
  · obtain ⟨a1, a2, ⟨a3, v, hv, r⟩ | ⟨a3, c, v, hc, hv, r⟩⟩ := F'.get x d hx
    · exact ⟨a1, a2, .inl ⟨a3, v, hv, re v d r⟩⟩
    · exact ⟨a1, a2, .inr ⟨a3, c, v, hc, hv, re v d r⟩⟩
  · have h := F'.mine
    cases ow with
    | none => trivial
    | some p => obtain ⟨h1, h2, h3, h4, us, h5, h6⟩ := h; exact ⟨h1, h2, h3, h4, us, PlainL.at_ h5 fun o e => k.hk _ o e, h6⟩
/-- what is laid aside was laid anew -/
theorem FS.touchX {I : Addr} (F : FS T env B₀ s X own σ ow s) (hI : X I) (hIt : ∀ o, s.heap.get? I = some o → T.K I = none ∧ I ≠ mainGlobals ∧ I ≠ builtinsNs ∧ I ≠ cStatics) (hB : B₀.get? I = none) (he : outer s' = outer s)
    (hk : ∀ b o, b ≠ I → s.heap.get? b = some o → s'.heap.get? b = some o) (hl : ∃ o, s'.heap.get? I = some o) : FS T env B₀ s' X own σ ow s' := by
  obtain ⟨m, cm, F⟩ := F
  have hIp : I ∉ places env own := fun z => F.xa I z hI
  have nI : ∀ b ∈ places env own, b ≠ I := fun b hb z => hIp (z ▸ hb)
  have re : ∀ v d, Rep (wth X (places env own)) s.heap v d → Rep (wth X (places env own)) s'.heap v d := fun v d r => r.mono fun b o hb e => hk b o (fun z => hb (.inl (z ▸ hI))) e
  obtain ⟨oI, hoI⟩ := F.live I hI
  have tI := hIt oI hoI
  refine ⟨m, cm, { F with same := rfl, keep := fun _ _ _ e => e, ns := F.ns.at' fun o e => hk _ o (nI _ List.mem_cons_self) e, cell := fun n c hc => ?_, old := fun b o e => ?_, top := ?_, live := fun b hb => ?_, liveP := fun b hb => ?_, get := fun x d hx => ?_, mine := ?_ }⟩
  · obtain ⟨o, ho', hd⟩ := F.cell n c hc
    exact ⟨o, hk c o (nI _ (List.mem_cons_of_mem _ (List.mem_append_left _ (List.mem_map.mpr ⟨(n, c), mem_of_lookup hc, rfl⟩)))) ho', hd⟩
  · exact hk b o (fun z => by rw [z, hB] at e; cases e) (F.old b o e)
  · exact Top0.At.bt (l := [I]) F.top (fun b o hb e => hk b o (by simpa using hb) e) (by intro b hb; simp at hb; subst hb; exact tI)
  · by_cases e : b = I
    · subst e; exact hl
    · obtain ⟨o, ho⟩ := F.live b hb; exact ⟨o, hk b o e ho⟩
  · obtain ⟨o, ho⟩ := F.liveP b hb; exact ⟨o, hk b o (nI b hb) ho⟩
  · obtain ⟨a1, a2, ⟨a3, v, hv, r⟩ | ⟨a3, c, v, hc, hv, r⟩⟩ := F.get x d hx
    · exact ⟨a1, a2, .inl ⟨a3, v, hv, re v d r⟩⟩
    · exact ⟨a1, a2, .inr ⟨a3, c, v, hc, hv, re v d r⟩⟩
  · have h := F.mine
    cases ow with
    | none => trivial
    | some p => obtain ⟨h1, h2, h3, h4, us, h5, h6⟩ := h; exact ⟨h1, h2, h3, h4, us, PlainL.at_ h5 fun o e => hk _ o (nI _ (List.mem_cons_of_mem _ (List.mem_append_right _ h1))) e, h6⟩
theorem FS.touchOff {I : Addr} (F : FS T env B₀ s (wI X I) own σ ow s) (hXI : ¬ X I) (hIt : T.K I = none ∧ I ≠ mainGlobals ∧ I ≠ builtinsNs ∧ I ≠ cStatics) (hB : B₀.get? I = none) (he : outer s' = outer s)
    (hk : ∀ b o, b ≠ I → s.heap.get? b = some o → s'.heap.get? b = some o) : FS T env B₀ s' X own σ ow s' := by
  obtain ⟨m, cm, F⟩ := F
  have hIp : I ∉ places env own := fun z => F.xa I z (.inr rfl)
  have nI : ∀ b ∈ places env own, b ≠ I := fun b hb z => hIp (z ▸ hb)
  have re : ∀ v d, Rep (wth (wI X I) (places env own)) s.heap v d → Rep (wth X (places env own)) s'.heap v d := fun v d r => (r.mono fun b o hb e => hk b o (fun z => hb (.inl (.inr z))) e).avoid fun b hb => .inl (hb.imp .inl id)
  refine ⟨m, cm, { F with same := rfl, keep := fun _ _ _ e => e, ns := F.ns.at' fun o e => hk _ o (nI _ List.mem_cons_self) e, cell := fun n c hc => ?_, old := fun b o e => ?_, top := ?_, live := fun b hb => ?_, xa := fun b hb z => F.xa b hb (.inl z), tx := fun a o e z => F.tx a o e (.inl z), liveP := fun b hb => ?_, get := fun x d hx => ?_, mine := ?_ }⟩
  · obtain ⟨o, ho', hd⟩ := F.cell n c hc
    exact ⟨o, hk c o (nI _ (List.mem_cons_of_mem _ (List.mem_append_left _ (List.mem_map.mpr ⟨(n, c), mem_of_lookup hc, rfl⟩)))) ho', hd⟩
  · exact hk b o (fun z => by rw [z, hB] at e; cases e) (F.old b o e)
  · exact Top0.At.bt (l := [I]) F.top (fun b o hb e => hk b o (by simpa using hb) e) (by intro b hb; simp at hb; subst hb; exact hIt)
  · obtain ⟨o, ho⟩ := F.live b (.inl hb); exact ⟨o, hk b o (fun z => hXI (z ▸ hb)) ho⟩
  · obtain ⟨o, ho⟩ := F.liveP b hb; exact ⟨o, hk b o (nI b hb) ho⟩
  · obtain ⟨a1, a2, ⟨a3, v, hv, r⟩ | ⟨a3, c, v, hc, hv, r⟩⟩ := F.get x d hx
    · exact ⟨a1, a2, .inl ⟨a3, v, hv, re v d r⟩⟩
    · exact ⟨a1, a2, .inr ⟨a3, c, v, hc, hv, re v d r⟩⟩
  · have h := F.mine
    cases ow with
    | none => trivial
    | some p => obtain ⟨h1, h2, h3, h4, us, h5, h6⟩ := h; exact ⟨h1, h2, h3, h4, us, PlainL.at_ h5 fun o e => hk _ o (nI _ (List.mem_cons_of_mem _ (List.mem_append_right _ h1))) e, h6⟩
theorem FS.lessX {I : Addr} (F : FS T env B₀ B (wI X I) own σ ow s) : FS T env B₀ B X own σ ow s := by
  obtain ⟨m, cm, F⟩ := F
  refine ⟨m, cm, { F with live := fun b hb => F.live b (.inl hb), xa := fun b hb z => F.xa b hb (.inl z), tx := fun a o e z => F.tx a o e (.inl z), get := fun x d hx => ?_ }⟩
  have re : ∀ v d, Rep (wth (wI X I) (places env own)) s.heap v d → Rep (wth X (places env own)) s.heap v d := fun v d r => r.avoid fun b hb => .inl (hb.imp .inl id)
  obtain ⟨a1, a2, ⟨a3, v, hv, r⟩ | ⟨a3, c, v, hc, hv, r⟩⟩ := F.get x d hx
  · exact ⟨a1, a2, .inl ⟨a3, v, hv, re v d r⟩⟩
  · exact ⟨a1, a2, .inr ⟨a3, c, v, hc, hv, re v d r⟩⟩
end
end
section
open PySem PySem.W PySem.Calls PyProof.Rows PySem.SeqAt PySem.Spec
set_option autoImplicit false
set_option linter.unusedVariables false
section
variable {prog : Program} {w : World} {T : Top0} {A : Around} {env : Env} {σ σ' : Sg} {n : Nat} {B₀ : Heap} {B s s' : Shared} {X : Addr → Prop} {own : List Addr} {ow ow' : Ow} {E' : Value → Shared → Prop} {P : Flow → Shared → Prop}
  {rest : List Stmt}
/-- what follows a statement -/
noncomputable def Then (prog : Program) (w : World) (A : Around) (env : Env) (rest : List Stmt) (P : Flow → Shared → Prop) (E' : Value → Shared → Prop) : Flow → Shared → Prop := fun f s' => match f with | .next => wpAny (model prog w) A (execs rest env) P E' s' | f => P f s'
theorem b_nil (h : P .next s) : wpAny (model prog w) A (execs [] env) P E' s := wpAny_execs_nil h
theorem b_assign {x : Str} {px p : Pos} {e : PySem.Expr} {d : D} (F : FS T env B₀ B X own σ ow s) (he : Ev prog w T A env σ e d) (hsw : swapsWith e (some (.Name x px)) p.line env = pure false)
    (hk : env.kindOf x = some .local ∨ (env.kindOf x = some .cell ∧ ∃ c, env.cells.lookup x = some c)) (hd : x ≠ ("__debug__" : Str) ∧ x ≠ ("__classdict__" : Str)) (ho : ∀ p, ow = some p → p.2.1 ≠ x)
    (h : ∀ s', FS T env B₀ B X own (upS σ x d) ow s' → wpAny (model prog w) A (execs rest env) P E' s') : wpAny (model prog w) A (execs (.Assign [.Name x px] e p :: rest) env) P E' s := by
  refine wpAny_execs_cons (wpAny_Assign_Name ?_ hsw)
  refine wpAny_mono (he.run _ s F.envR) (fun v s₁ ⟨k, r⟩ => ?_) (fun _ _ f => f.elim)
  exact (F.keep k).store hk hd ho r h
theorem b_if {t : PySem.Expr} {body orelse : List Stmt} {p : Pos} {b : Bool} (F : FS T env B₀ B X own σ ow s) (ht : EvT prog w T A env σ t b)
    (h1 : b = true → ∀ s', FS T env B₀ B X own σ ow s' → wpAny (model prog w) A (execs body env) (Then prog w A env rest P E') E' s')
    (h0 : b = false → ∀ s', FS T env B₀ B X own σ ow s' → wpAny (model prog w) A (execs orelse env) (Then prog w A env rest P E') E' s') :
    wpAny (model prog w) A (execs (.If t body orelse p :: rest) env) P E' s := by
  refine wpAny_execs_cons (wpAny_If ?_)
  refine wpAny_mono (ht.run _ s F.envR) (fun c s₁ ⟨k, e⟩ => ?_) (fun _ _ f => f.elim)
  subst e
  have F₁ := F.keep k
  cases c with
  | true => exact h1 rfl s₁ F₁
  | false => exact h0 rfl s₁ F₁
/-- a test that looks at the list of its own -/
theorem b_ifO {t : PySem.Expr} {body orelse : List Stmt} {p : Pos} {b : Bool} {a : Addr} {x : Str} {ss : List Str} (F : FS T env B₀ B X own σ (some (a, x, ss)) s) (hn : own.Nodup) (ht : EvT prog w T A env (upS σ x (.lst (ss.map .str))) t b)
    (h1 : b = true → ∀ s', FS T env B₀ B X own σ (some (a, x, ss)) s' → wpAny (model prog w) A (execs body env) (Then prog w A env rest P E') E' s')
    (h0 : b = false → ∀ s', FS T env B₀ B X own σ (some (a, x, ss)) s' → wpAny (model prog w) A (execs orelse env) (Then prog w A env rest P E') E' s') :
    wpAny (model prog w) A (execs (.If t body orelse p :: rest) env) P E' s := by
  refine wpAny_execs_cons (wpAny_If ?_)
  obtain ⟨X', Z⟩ := F.envO hn
  refine wpAny_mono (ht.run _ s Z) (fun c s₁ ⟨k, e⟩ => ?_) (fun _ _ f => f.elim)
  subst e
  have F₁ := F.keep k
  cases c with
  | true => exact h1 rfl s₁ F₁
  | false => exact h0 rfl s₁ F₁
theorem b_ret {e : PySem.Expr} {p : Pos} {d : D} (F : FS T env B₀ B X own σ ow s) (he : Ev prog w T A env σ e d) (h : ∀ v s', FS T env B₀ B X own σ ow s' → Rep (wth X (places env own)) s'.heap v d → P (.ret v) s') :
    wpAny (model prog w) A (execs (.Return (some e) p :: rest) env) P E' s := by
  refine wpAny_execs_cons (wpAny_Return_some ?_)
  exact wpAny_mono (he.run _ s F.envR) (fun v s₁ ⟨k, r⟩ => h v s₁ (F.keep k) r) (fun _ _ f => f.elim)
theorem b_append {x : Str} {px pa pc ps : Pos} {e : PySem.Expr} {a : Addr} {ss : List Str} {y : Str} (F : FS T env B₀ B X own σ (some (a, x, ss)) s) (he : Ev prog w T A env σ e (.str y)) (hsz : ss.length ≤ sizeLine)
    (hbase : attributeBase (.Name x px) "append" env (eval (.Name x px) env) = eval (.Name x px) env)
    (hfew : ((backTo pc (starEach [e] env)).all (fun x => !x.1) && (backToKw pc (keywordEach [] env)).all (fun x => x.1.isSome)
      && decide (([e] : List PySem.Expr).length + ([] : List Keyword).length + (if ([] : List Keyword).isEmpty then 0 else 1) < 30)) = true)
    (hline : (pa.endLine == pc.line) = true) (htrees : backTo pc (starEach [e] env) = [(false, eval e env)])
    (hi : interactive env = false) (hs : swapsWith (.Call (.Attribute (.Name x px) "append" pa) [e] [] pc) none ps.line env = pure false)
    (h : ∀ s', FS T env B₀ B X own σ (some (a, x, ss ++ [y])) s' → wpAny (model prog w) A (execs rest env) P E' s') :
    wpAny (model prog w) A (execs (.Expr (.Call (.Attribute (.Name x px) "append" pa) [e] [] pc) ps :: rest) env) P E' s := by
  refine wpAny_execs_cons (wpAny_Expr_any (wpAny_Call_append hbase hfew hline htrees ?_) hi hs)
  obtain ⟨m, cm, G⟩ := id F
  obtain ⟨h1, h2, h3, h4, us, h5, h6⟩ := G.mine
  refine wpAny_Name (wpAny_loadName_local G.kind h3 G.ns h4 ?_) (by simpa using h2.1)
  refine ⟨a, us, rfl, h5, ?_⟩
  refine wpAny_mono (he.run _ s F.envR) (fun v s₁ ⟨k, r⟩ => ?_) (fun _ _ f => f.elim)
  have F₁ := F.keep k
  cases r with
  | str _ t =>
    refine list_append_plainL (PlainL.at_ h5 fun o e => k.hk _ o e) (fun h' hp hs => ?_) (by rw [← Array.length_toList, h6.length]; exact hsz)
    refine h _ (F₁.mended (s' := { s₁ with heap := h' }) rfl hs hp ?_)
    rw [Array.toList_push]
    exact strsAre_append h6 (.cons y t .nil)
theorem b_newOwn {x : Str} {px pl p : Pos} (F : FS T env B₀ B X own σ none s) (hsw : swapsWith (.List [] pl) (some (.Name x px)) p.line env = pure false) (hl : env.kindOf x = some .local) (hd : x ≠ ("__debug__" : Str) ∧ x ≠ ("__classdict__" : Str))
    (h : ∀ a s', a ∉ own → B.heap.get? a = none → FS T env B₀ B X (a :: own) (noS σ x) (some (a, x, [])) s' → wpAny (model prog w) A (execs rest env) P E' s') :
    wpAny (model prog w) A (execs (.Assign [.Name x px] (.List [] pl) p :: rest) env) P E' s := by
  refine wpAny_execs_cons (wpAny_Assign_Name ?_ hsw)
  refine wpAny_List (args_nil ⟨Nat.zero_le _, ?_⟩)
  have hI : s.heap.get? s.heap.objs.size = none := Heap.get?_none_of_le (Nat.le_refl _)
  have F₁ := F.more (I := s.heap.objs.size) (Kp.push s { cls := .type "list", data := .seq #[] } s.toks) hI ⟨_, Heap.get?_push_size _ rfl⟩
  obtain ⟨m, cm, G⟩ := id F
  have hao : s.heap.objs.size ∉ own := fun z => by
    obtain ⟨o, ho⟩ := G.liveP _ (List.mem_cons_of_mem _ (List.mem_append_right _ z)); rw [hI] at ho; cases ho
  have hp : s.heap.objs.size ∉ places env own := fun z => by obtain ⟨o, ho⟩ := G.liveP _ z; rw [hI] at ho; cases ho
  have hB : B.heap.get? s.heap.objs.size = none := by
    cases e : B.heap.get? s.heap.objs.size with
    | none => rfl
    | some o => rw [G.keep _ o hp e] at hI; cases hI
  exact F₁.storeOwn hl hd List.mem_cons_self ⟨_, 0, Heap.get?_push_size _ rfl, rfl, rfl, rfl⟩ .nil fun s' F' => h _ s' hao hB F'
end
end
section
open PySem PySem.W PySem.Calls PyProof.Rows PySem.SeqAt PySem.Spec
set_option autoImplicit false
set_option linter.unusedVariables false
section
variable {prog : Program} {w : World} {T : Top0} {A : Around} {env : Env} {σ σ' : Sg} {n : Nat} {B₀ : Heap} {B s s' : Shared} {X : Addr → Prop} {own : List Addr} {ow ow' : Ow} {E' : Value → Shared → Prop} {P : Flow → Shared → Prop}
  {rest : List Stmt}
/-- how a loop's target takes an item -/
noncomputable def Takes (prog : Program) (w : World) (T : Top0) (A : Around) (env : Env) (target : PySem.Expr) (d : D) (σ σ' : Sg) (ow : Ow) : Prop := ∀ (B₀ : Heap) (B : Shared) (X : Addr → Prop) (own : List Addr) (I : Addr) (v : Value) (s : Shared) (Q : Unit → Shared → Prop) (E : Value → Shared → Prop),
  FS T env B₀ B X own σ ow s → Rep (wth X (places env own)) s.heap v d → (∃ o, s.heap.get? I = some o ∧ (o.cls = .type "list_iterator" ∨ o.cls = .type "tuple_iterator")) → (∀ s', FS T env B₀ B X own σ' ow s' → Q () s') →
  wpAny (model prog w) A (letOwnedTupleGo target (.ref I) v) (fun _ s₁ => wpAny (model prog w) A (assign target env v) Q E s₁) E s
theorem takes_name {x : Str} {px : Pos} {d : D} (hk : env.kindOf x = some .local ∨ (env.kindOf x = some .cell ∧ ∃ c, env.cells.lookup x = some c)) (hd : x ≠ ("__debug__" : Str) ∧ x ≠ ("__classdict__" : Str)) (ho : ∀ p, ow = some p → p.2.1 ≠ x) :
    Takes prog w T A env (.Name x px) d σ (upS σ x d) ow := by
  intro B₀ B X own I v s Q E F r hI h
  exact wpAny_pure (wpAny_assign_Name (F.store hk hd ho r h))
theorem b_for {target iter : PySem.Expr} {body : List Stmt} {p : Pos} {d₀ : D} {ds : List D} (σs : Nat → Sg) (σt : Nat → Sg) (ows : Nat → Ow) (Rd : D → Prop) (Pi : Nat → Prop) (hp0 : Pi 0)
    (F : FS T env B₀ B X own (σs 0) (ows 0) s) (hA : A.handled = none) (hd : d₀ = .lst ds ∨ d₀ = .tup ds) (hi : Ev prog w T A env (σs 0) iter d₀) (hsi : ∀ x, foldedSetIterable iter env x = pure x)
    (htk : ∀ i d, ds[i]? = some d → Takes prog w T A env target d (σs i) (σt i) (ows i))
    (hbody : ∀ i d, ds[i]? = some d → Pi i → ∀ B' I s₂, FS T env B₀ B' (wI X I) own (σt i) (ows i) s₂ →
      wpAny (model prog w) A (execs body env) (fun f s₃ => match f with
        | .next | .cont => FS T env B₀ B' (wI X I) own (σs (i + 1)) (ows (i + 1)) s₃ ∧ Pi (i + 1)
        | .brk => False
        | .ret v => ∃ dv σ' ow', FS T env B₀ B' (wI X I) own σ' ow' s₃ ∧ Rep (wth (wI X I) (places env own)) s₃.heap v dv ∧ Rd dv) (fun _ _ => False) s₂)
    (hrest : Pi ds.length → ∀ s', FS T env B₀ B X own (σs ds.length) (ows ds.length) s' → wpAny (model prog w) A (execs rest env) P E' s')
    (hret : ∀ v s' dv σ' ow', FS T env B₀ B X own σ' ow' s' → Rep (wth X (places env own)) s'.heap v dv → Rd dv → P (.ret v) s') :
    wpAny (model prog w) A (execs (.For target iter body [] p :: rest) env) P E' s := by
  refine wpAny_execs_cons (wpAny_For ?_ hsi)
  refine wpAny_mono (hi.run _ s F.envR) (fun v s₁ ⟨k, r⟩ => ?_) (fun _ _ f => f.elim)
  have F₁ := F.keep k
  refine pyIter_seq hA hd r fun I ax items o o' St hI hax ⟨hIe, haxX⟩ hr hIt hfo hst => ?_
  have F₂ := F₁.addX (I := I) (Kp.push s₁ o' s₁.toks) hI ⟨o', hIe ▸ Heap.get?_push_size _ hfo⟩
  have tI : T.K I = none ∧ I ≠ mainGlobals ∧ I ≠ builtinsNs ∧ I ≠ cStatics := by
    obtain ⟨m, cm, G⟩ := F₁
    have tp := G.topS
    have hnl : ∀ b o, s₁.heap.get? b = some o → b ≠ I := fun b o e z => by rw [z, hI] at e; cases e
    refine ⟨?_, fun z => ?_, fun z => ?_, fun z => ?_⟩
    · cases e : T.K I with
      | none => rfl
      | some o => exact absurd rfl (hnl I o (tp.k I o e))
    · obtain ⟨o, _, _, ho, _⟩ := tp.g; exact hnl _ o ho z.symm
    · obtain ⟨o, _, _, ho, _⟩ := tp.b; exact hnl _ o ho z.symm
    · obtain ⟨_, ⟨o, _, _, ho, _⟩, _⟩ := tp.lim; exact hnl _ o ho z.symm
  have bI : B₀.get? I = none := by
    cases e : B₀.get? I with
    | none => rfl
    | some o => rw [F₁.kp.1 I o e] at hI; cases hI
  have hIp : I ∉ places env own := fun z => by
    obtain ⟨m, cm, G⟩ := F₁
    obtain ⟨o, ho⟩ := G.liveP I z; rw [hI] at ho; cases ho
  have hne : ax ≠ I := fun z => by rw [z, hI] at hax; cases hax
  have haxp : ax ∉ places env own := fun z => haxX (.inr z)
  have hr2 : RepL (wth (wI X I) (places env own)) (s₁.heap.push o') items ds :=
    (hr.avoid (Y := wth (wI X I) (places env own)) fun b hb => by
      rcases hb with (hb | rfl) | hb
      · exact .inl (.inl hb)
      · exact .inr hI
      · exact .inl (.inr hb)).keep fun b q e => Heap.get?_push_of_some _ e
  have hlen : items.length = ds.length := hr.length
  have link : ∀ s' : Shared, outer s' = outer s₁ → Bt (places env own) s₁.heap s'.heap → ∀ {σ' ow'}, FS T env B₀ s' (wI X I) own σ' ow' s' → FS T env B₀ B X own σ' ow' s' := fun s' he hb σ' ow' G => F₁.unbase G.lessX he hb
  refine codeAny_forLoop_any (fun k s' => ∃ i, (i ≤ ds.length ∧ Pi i) ∧ k = ds.length + 1 - i ∧ FS T env B₀ s' (wI X I) own (σs i) (ows i) s' ∧ RepL (wth (wI X I) (places env own)) s'.heap items ds ∧ St i s'.heap ∧
    outer s' = outer s₁ ∧ Bt (places env own) s₁.heap s'.heap) ?_ (ds.length + 1) ⟨0, ⟨Nat.zero_le _, hp0⟩, rfl, F₂, hr2, hst, rfl, .of fun b q e => Heap.get?_push_of_some _ e⟩
  rintro k s' ⟨i, ⟨hi', hpi⟩, rfl, F', hr', st', he', hb'⟩
  have toB : ∀ {h' : Heap}, (∀ b o, b ∉ [I] → s'.heap.get? b = some o → h'.get? b = some o) → Bt (places env own) s₁.heap h' := fun {h'} hk b q hb e =>
    hk b q (by simp only [List.mem_singleton]; exact fun z => by rw [z, hI] at e; cases e) (hb' b q hb e)
  by_cases hlt : i < ds.length
  · refine hIt.walks.item i _ _ _ (by rw [hlen]; exact hlt) st' fun v h₁ tk₁ hv hst₁ hk₁ => ?_
    obtain ⟨d, hd⟩ : ∃ d, ds[i]? = some d := ⟨ds[i], by simp [hlt]⟩
    have F₃ := F'.touchX (s' := { s' with heap := h₁, toks := tk₁ }) (I := I) (.inr rfl) (fun _ _ => tI) bI rfl (fun b o hb e => hk₁ b o (by simpa using hb) e) (let ⟨o, ho, _⟩ := hIt.live _ _ hst₁; ⟨o, ho⟩)
    have hr₃ : RepL (wth (wI X I) (places env own)) h₁ items ds := hr'.mono fun b o hb e => hk₁ b o (by simp only [List.mem_singleton]; exact fun z => hb (.inl (.inr z))) e
    obtain ⟨v', hv', rv⟩ := hr₃.get hd
    rw [hv] at hv'
    cases hv'
    refine wpAny_mono (htk i d hd B₀ _ _ own I v _ (fun _ s₂ => FS T env B₀ { s' with heap := h₁, toks := tk₁ } (wI X I) own (σt i) (ows i) s₂) (fun _ _ => False) F₃ rv (hIt.live _ _ hst₁) fun s₂ G => G) (fun _ s₁' h' => ?_) (fun _ _ f => f.elim)
    refine wpAny_mono h' (fun _ s₂ G => ?_) (fun _ _ f => f.elim)
    refine wpAny_mono (hbody i d hd hpi _ I s₂ G) (fun f s₃ h₃ => ?_) (fun _ _ f => f.elim)
    have cont : ∀ {σ' ow'}, FS T env B₀ { s' with heap := h₁, toks := tk₁ } (wI X I) own σ' ow' s₃ → FS T env B₀ s₃ (wI X I) own σ' ow' s₃ ∧ RepL (wth (wI X I) (places env own)) s₃.heap items ds ∧ St (i + 1) s₃.heap ∧
        outer s₃ = outer s₁ ∧ Bt (places env own) s₁.heap s₃.heap := fun {σ' ow'} H => by
      have e₃ := H.kp.2
      obtain ⟨m, cm, H'⟩ := id H
      refine ⟨H.rebase, hr₃.past H'.keep, hIt.walks.frame _ _ _ hst₁ fun b hb o e => H'.keep b o ?_ e, by rw [e₃]; show _ = _; rw [he'], (toB hk₁).trans H'.keep⟩
      simp only [List.mem_cons, List.not_mem_nil, or_false] at hb
      rcases hb with rfl | rfl
      · exact hIp
      · exact haxp
    cases f with
    | next => obtain ⟨a, b, c, d, e⟩ := cont h₃.1; exact ⟨ds.length + 1 - (i + 1), by omega, i + 1, ⟨hlt, h₃.2⟩, rfl, a, b, c, d, e⟩
    | cont => obtain ⟨a, b, c, d, e⟩ := cont h₃.1; exact ⟨ds.length + 1 - (i + 1), by omega, i + 1, ⟨hlt, h₃.2⟩, rfl, a, b, c, d, e⟩
    | brk => exact h₃.elim
    | ret v =>
      obtain ⟨dv, σ', ow', H, rv', hR⟩ := h₃
      obtain ⟨a, b, c, d, e⟩ := cont H
      exact hret v s₃ dv σ' ow' (link s₃ d e a) (rv'.avoid fun b hb => .inl (hb.imp .inl id)) hR
  · have hin : i = ds.length := by omega
    subst hin
    refine hIt.walks.done _ _ _ (by rw [hlen]; exact st') fun h₁ tk₁ hk₁ => ?_
    have xI : ¬ X I := fun z => by
      obtain ⟨m, cm, G⟩ := F₁
      obtain ⟨o, ho⟩ := G.liveX I (.inl z); rw [hI] at ho; cases ho
    have F₃ := F'.touchOff (s' := { s' with heap := h₁, toks := tk₁ }) xI tI bI rfl (fun b o hb e => hk₁ b o (by simpa using hb) e)
    exact wpAny_execs_nil (hrest hpi _ (F₁.unbase F₃ (by show _ = _; rw [he']) (toB hk₁)))
end
end
section
open PySem PySem.W PySem.Calls PyProof.Rows PySem.SeqAt PySem.Spec
set_option autoImplicit false
set_option linter.unusedVariables false
theorem bindL_not (kindOf : Str → Option NameKind) : ∀ (binds : List (Str × Value)) (m : Str → Option Value) (x : Str), x ∉ binds.map (·.1) → bindL kindOf binds m x = m x
  | [], _, _, _ => rfl
  | (n, v) :: r, m, x, h => by
    unfold bindL
    simp only [List.map_cons, List.mem_cons, not_or] at h
    rw [bindL_not kindOf r _ x h.2]
    split
    · exact if_neg h.1
    · rfl
theorem bindC_not (kindOf : Str → Option NameKind) : ∀ (binds : List (Str × Value)) (m : Str → Option Value) (x : Str), x ∉ binds.map (·.1) → bindC kindOf binds m x = m x
  | [], _, _, _ => rfl
  | (n, v) :: r, m, x, h => by
    unfold bindC
    simp only [List.map_cons, List.mem_cons, not_or] at h
    rw [bindC_not kindOf r _ x h.2]
    split
    · rfl
    · exact if_neg h.1
theorem bindL_get (kindOf : Str → Option NameKind) : ∀ (binds : List (Str × Value)) (m : Str → Option Value) (x : Str) (v : Value), (binds.map (·.1)).Nodup → (x, v) ∈ binds → kindOf x = some .local → bindL kindOf binds m x = some v
  | (n, u) :: r, m, x, v, hn, h, hk => by
    unfold bindL
    rw [List.map_cons, List.nodup_cons] at hn
    rcases List.mem_cons.mp h with e | h
    · cases e
      rw [bindL_not kindOf r _ _ hn.1, if_pos hk, if_pos rfl]
    · exact bindL_get kindOf r _ x v hn.2 h hk
theorem bindC_get (kindOf : Str → Option NameKind) : ∀ (binds : List (Str × Value)) (m : Str → Option Value) (x : Str) (v : Value), (binds.map (·.1)).Nodup → (x, v) ∈ binds → kindOf x ≠ some .local → bindC kindOf binds m x = some v
  | (n, u) :: r, m, x, v, hn, h, hk => by
    unfold bindC
    rw [List.map_cons, List.nodup_cons] at hn
    rcases List.mem_cons.mp h with e | h
    · cases e
      rw [bindC_not kindOf r _ _ hn.1, if_neg hk, if_pos rfl]
    · exact bindC_get kindOf r _ x v hn.2 h hk
/-- what is asked of a def's parts -/
structure DefOk (T : Top0) (f : Addr) (fd : FuncData) (body : List Stmt) (names : List Str) (dv : List Value) (dd ds : List D) (σ : Sg) : Prop where
  o : ∃ o, T.K f = some o ∧ o.data = .func fd
  code : ∃ c o vs t, fd.code = .ref c ∧ T.K c = some o ∧ o.data = .fields vs ∧ vs[1]? = some (.str fd.qualname t)
  body : fd.body = .stmts body
  bind : ∀ (s : Shared) (vs : List Value), T.At s.heap → vs.length = ds.length → BindsTo s fd ⟨vs, []⟩ (names.zip (vs ++ dv))
  dfl : ∀ (X : Addr → Prop) (h : Heap), RepL X h dv dd
  len : (ds ++ dd).length = names.length
  clo : fd.closure = []
  glob : fd.globals = mainGlobals
  blt : fd.builtins = builtinsNs
  kinds : ∀ x ∈ names, (x ≠ ("__debug__" : Str) ∧ x ≠ ("__classdict__" : Str)) ∧ (fd.scope.names.lookup x = some .local ∨ (fd.scope.names.lookup x = some .cell ∧ ∀ L, ∃ c, (cellsFrom L fd.scope.names []).lookup x = some c))
  cells : ∀ L n c, (n, c) ∈ cellsFrom L fd.scope.names [] → (cellsFrom L fd.scope.names []).lookup n = some c
  nodup : names.Nodup
  sg : ∀ x d, σ x = some d → (names.zip (ds ++ dd)).lookup x = some d
  co : fd.scope.isCoroutine = false
  gen : fd.scope.isGenerator = false
  kind : fd.scope.kind = .function
theorem RepL.zip {X : Addr → Prop} {h : Heap} : ∀ {vs : List Value} {ds : List D} {names : List Str} {x : Str} {d : D}, RepL X h vs ds → (names.zip ds).lookup x = some d → ∃ v, (x, v) ∈ names.zip vs ∧ Rep X h v d
  | _, _, [], _, _, _, e => by simp at e
  | _, _, n :: ns, _, _, .nil, e => by simp at e
  | _, _, n :: ns, x, d, .cons a b, e => by
    rw [List.zip_cons_cons, List.lookup_cons] at e
    by_cases h : x == n
    · rw [h] at e
      cases e
      exact ⟨_, by rw [beq_iff_eq.mp h]; exact List.mem_cons_self, a⟩
    · rw [(by simpa using h : (x == n) = false)] at e
      obtain ⟨v, hv, r⟩ := RepL.zip b e
      exact ⟨v, List.mem_cons_of_mem _ hv, r⟩
section
variable {prog : Program} {w : World} {T : Top0} {n : Nat}
theorem zip_fst : ∀ {names : List Str} {vs : List Value}, vs.length = names.length → (names.zip vs).map (·.1) = names
  | [], vs, _ => by simp
  | x :: r, [], h => by simp at h
  | x :: r, v :: vs, h => by rw [List.zip_cons_cons, List.map_cons, zip_fst (by simpa using h)]
theorem call_cellsB {A : Around} {s : Shared} {R : Result → Shared → Prop} {a : Addr} {o : Obj} {fd : FuncData} {body : List Stmt} {vals : List Value} {binds : List (Str × Value)}
    (hroom : A.depth < recursionLimit) (ho : s.heap.get? a = some o) (hdata : o.data = .func fd) (hlim : s.heap.NoLimit) (hcd : s.heap.CodeRec fd.code fd.qualname)
    (hbody : fd.body = .stmts body) (hbind : BindsTo s fd ⟨vals, []⟩ binds) (hclo : fd.closure = [])
    (hkind : ∀ x ∈ binds, fd.scope.names.lookup x.1 = some .local ∨ (fd.scope.names.lookup x.1 = some .cell ∧ ((cellsFrom (s.heap.objs.size + 1) fd.scope.names []).lookup x.1).isSome = true))
    (h : ∀ s₁, InCallC s (callEnvC fd s.heap.objs.size a).locals (bindL (callEnvC fd s.heap.objs.size a).kindOf binds fun _ => none) (callEnvC fd s.heap.objs.size a).cells
        (bindC (callEnvC fd s.heap.objs.size a).kindOf binds fun _ => none) s₁ →
      wpAny (model prog w) (A.deeper (callEnvC fd s.heap.objs.size a)) (execs body (callEnvC fd s.heap.objs.size a)) (fun f s' => R (.ok (.ret (match f with | .ret v => v | _ => .none))) s')
        (fun e s' => wpAny (model prog w) (A.deeper (callEnvC fd s.heap.objs.size a)) (leaving (callEnvC fd s.heap.objs.size a) e) (fun _ s'' => R (.error e) s'') (fun e' s'' => R (.error e') s'') s') s₁)
    (hco : fd.scope.isCoroutine = false) (hgen : fd.scope.isGenerator = false) (hk : fd.scope.kind = .function) :
    codeAny (model prog w) A (.call (.ref a) ⟨vals, []⟩) R s := by
  refine codeAny_call_function hroom ho hdata hco hgen hbody hcd (hbind _ _ _ _ ?_)
  rw [hclo]
  refine wpAny_newFunctionEnv_cells hk hkind fun env he s' x => ?_
  subst he
  exact ⟨hlim.keeps x.toInCall.keep, codeAny_func (h s' x)⟩
theorem c_def {f : Addr} {fd : FuncData} {body : List Stmt} {names : List Str} {dv : List Value} {dd ds : List D} {d : D} {σ : Sg} (K : DefOk T f fd body names dv dd ds σ)
    (h : ∀ (A : Around) (L : Addr) (B : Shared) (X : Addr → Prop) (s : Shared), Room n A → FS T (callEnvC fd L f) B.heap B X [] σ none s →
      wpAny (model prog w) A (execs body (callEnvC fd L f)) (fun fl s' => ∃ σ' ow' own', FS T (callEnvC fd L f) B.heap B X own' σ' ow' s' ∧ Rep (wth X (places (callEnvC fd L f) own')) s'.heap (match fl with | .ret v => v | _ => .none) d) (fun _ _ => False) s) :
    CallC prog w T (n + 1) (.ref f) ds d := by
  refine .mk fun A X s vs₀ R t L tx r => ?_
  have hvl₀ := r.length
  have hbd := K.bind s vs₀ t hvl₀
  replace r := r.append (K.dfl X s.heap)
  generalize vs₀ ++ dv = vs at r hbd
  obtain ⟨o, ho, hdat⟩ := K.o
  have hvl : vs.length = names.length := by rw [r.length, K.len]
  have hbk : ∀ x ∈ names.zip vs, fd.scope.names.lookup x.1 = some .local ∨ (fd.scope.names.lookup x.1 = some .cell ∧ ((cellsFrom (s.heap.objs.size + 1) fd.scope.names []).lookup x.1).isSome = true) := fun x hx => by
    have hm : x.1 ∈ names := by rw [← zip_fst hvl]; exact List.mem_map.mpr ⟨x, hx, rfl⟩
    rcases (K.kinds x.1 hm).2 with h | ⟨h, hc⟩
    · exact .inl h
    · obtain ⟨c, hc⟩ := hc (s.heap.objs.size + 1)
      exact .inr ⟨h, by rw [hc]; rfl⟩
  refine wpAny_call (call_cellsB (by have := R.depth; omega) (t.k _ _ ho) hdat t.lim ?_ K.body hbd K.clo hbk (fun s₁ inc => ?_) K.co K.gen K.kind)
  · obtain ⟨c, o, vs, t', e1, e2, e3, e4⟩ := K.code
    exact ⟨c, o, vs, t', e1, t.k _ _ e2, e3, e4⟩
  clear hbk
  generalize hE : callEnvC fd s.heap.objs.size f = env at inc
  have hl : env.locals = s.heap.objs.size := by rw [← hE]; rfl
  have hcl : env.cells = cellsFrom (s.heap.objs.size + 1) fd.scope.names [] := by rw [← hE]; rfl
  have ic := inc.toInCall
  have fresh : ∀ b ∈ places env [], s.heap.get? b = none := fun b hb => by
    simp only [places, List.mem_cons, List.append_nil] at hb
    rcases hb with rfl | hb
    · exact Heap.get?_none_of_le ic.fresh
    · obtain ⟨⟨m, c⟩, hm, rfl⟩ := List.mem_map.mp hb
      exact Heap.get?_none_of_le (Nat.le_trans ic.fresh (Nat.le_of_lt (inc.above m c hm)))
  have hks : env.kindOf = fun x => fd.scope.names.lookup x := by rw [← hE]; rfl
  have F : FS T env s.heap s X [] σ none s₁ := by
    refine ⟨_, _, { same := (let ⟨_, _, e⟩ := ic.same; by rw [e]), keep := .of ic.keep, ns := ic.ns, cell := inc.cell, apart := inc.apart, above := fun m c hm => Nat.ne_of_gt (inc.above m c hm), kind := (by rw [← hE]; exact K.kind), glob := (by rw [← hE]; exact K.glob), blt := (by rw [← hE]; exact K.blt), old := fun _ _ e => e, fresh := fresh, top := t, off := fun b hb => ?_, live := L, xa := fun b hb z => ?_, tx := tx, liveP := fun b hb => ?_, ownA := fun b hb => (nomatch hb), get := fun x d hx => ?_, mine := trivial }⟩
    · have hf := fresh b hb
      have hnl : ∀ c o, s.heap.get? c = some o → b ≠ c := fun c o e z => by rw [← z, hf] at e; cases e
      refine ⟨?_, ?_, ?_, ?_⟩
      · cases e : T.K b with
        | none => rfl
        | some o => exact absurd rfl (hnl b o (t.k b o e))
      · obtain ⟨o, _, _, ho, _⟩ := t.g; exact hnl _ o ho
      · obtain ⟨o, _, _, ho, _⟩ := t.b; exact hnl _ o ho
      · obtain ⟨_, ⟨o, _, _, ho, _⟩, _⟩ := t.lim; exact hnl _ o ho
    · obtain ⟨o, ho⟩ := L b z; rw [fresh b hb] at ho; cases ho
    · simp only [places, List.mem_cons, List.append_nil] at hb
      rcases hb with rfl | hb
      · obtain ⟨o, _, _, ho, _⟩ := ic.ns; exact ⟨o, ho⟩
      · obtain ⟨⟨m, c⟩, hm, rfl⟩ := List.mem_map.mp hb
        obtain ⟨o, ho, _⟩ := inc.cell m c (by rw [hcl] at hm ⊢; exact K.cells _ m c hm)
        exact ⟨o, ho⟩
    · obtain ⟨v, hv, rv⟩ := r.zip (K.sg x d hx)
      have hm : x ∈ names := by rw [← zip_fst hvl]; exact List.mem_map.mpr ⟨(x, v), hv, rfl⟩
      have hnd : ((names.zip vs).map (·.1)).Nodup := by rw [zip_fst hvl]; exact K.nodup
      obtain ⟨⟨a1, a2⟩, a3⟩ := K.kinds x hm
      have rv' : Rep (wth X (places env [])) s₁.heap v d := rv.under fresh (.of ic.keep)
      refine ⟨a1, a2, ?_⟩
      rcases a3 with a3 | ⟨a3, hc⟩
      · exact .inl ⟨by rw [hks]; exact a3, v, bindL_get _ _ _ x v hnd hv (by rw [hks]; exact a3), rv'⟩
      · obtain ⟨c, hc⟩ := hc (s.heap.objs.size + 1)
        exact .inr ⟨by rw [hks]; exact a3, c, v, by rw [hcl]; exact hc, bindC_get _ _ _ x v hnd hv (by rw [hks]; show fd.scope.names.lookup x ≠ _; rw [a3]; simp), rv'⟩
  subst hE
  refine wpAny_mono (h _ _ s X s₁ (R.deeper _) F) (fun fl s' ⟨σ', ow', own', G, rv⟩ => ?_) (fun _ _ f => f.elim)
  exact G.back rv
/-- a top that knows more -/
structure Ext (T T' : Top0) : Prop where
  mg : T'.mg = T.mg
  mb : T'.mb = T.mb
  k : ∀ a o, T.K a = some o → T'.K a = some o
theorem Ext.refl (T : Top0) : Ext T T := ⟨rfl, rfl, fun _ _ e => e⟩
theorem Ext.at_ {T T' : Top0} (e : Ext T T') {h : Heap} (t : T'.At h) : T.At h := ⟨e.mg ▸ t.g, e.mb ▸ t.b, t.lim, fun a o x => t.k a o (e.k a o x)⟩
theorem DefOk.ext {T' : Top0} {f : Addr} {fd : FuncData} {body : List Stmt} {names : List Str} {dv : List Value} {dd ds : List D} {σ : Sg} (K : DefOk T f fd body names dv dd ds σ) (e : Ext T T') : DefOk T' f fd body names dv dd ds σ :=
  { K with o := (let ⟨o, a, b⟩ := K.o; ⟨o, e.k _ _ a, b⟩), code := (let ⟨c, o, vs, t, e1, e2, e3, e4⟩ := K.code; ⟨c, o, vs, t, e1, e.k _ _ e2, e3, e4⟩), bind := fun s vs t h => K.bind s vs (e.at_ t) h }
end
end
section
open PySem PySem.W PySem.Calls PyProof.Rows PySem.SeqAt PySem.Spec
set_option autoImplicit false
set_option linter.unusedVariables false
section
variable {prog : Program} {w : World} {T : Top0} {A : Around} {env : Env} {σ : Sg} {n : Nat}
/-- an object of a class of the top, whose method is a def -/
structure MethOf (K : Frag) (C g : Addr) (od : Option Obj) (name : Str) : Prop where
  ga : findIn K (.ref C) "__getattribute__" = some (some (.builtin "object.__getattribute__"))
  gx : findIn K (.ref C) "__getattr__" = some none
  fn : findIn K (.ref C) name = some (some (.ref g))
  ty : typeIn K (.ref g) = some (.type "function")
  sh : shadowIn od name = some false
  kp : keepIn K (.ref g) = true
theorem ev_meth {K : Frag} {C g da : Addr} {ox : Obj} {od : Option Obj} {name : Str} {o e : PySem.Expr} {es : List PySem.Expr} {ds : List D} {d : D} {pa pos : Pos} {pl : Sem Bool} (R : Room n A) (hK : ∀ h, T.At h → K.In h) (hI : ∀ h, T.At h → InstAt h da ox C od) (M : MethOf K C g od name)
    (ho : Ev prog w T A env σ o (.obj da)) (he : Evs prog w T A env σ (e :: es) ds) (hc : CallC prog w T n (.ref g) (.obj da :: ds) d)
    (hform : eval (.Call (.Attribute o name pa) (e :: es) [] pos) env = (do
      let ov ← eval o env
      standAt pa.atName
      let (f, first) ← holding [ov] (getMethod ov name pl)
      callWith pos f first (backTo pos (starEach (e :: es) env)) (backToKw pos (keywordEach [] env))))
    (hpl : ((backTo pos (starEach (e :: es) env)).any (·.1) || (backToKw pos (keywordEach [] env)).any (·.1.isNone)) = false) (hne : starEach (e :: es) env = (false, eval e env) :: starEach es env) : Ev prog w T A env σ (.Call (.Attribute o name pa) (e :: es) [] pos) d := .mk fun X s E => by
  refine methodCall_KW (pl := pl) ?_ hform
  refine wpAny_mono (ho.run X s E) (fun v s₁ ⟨k₁, r₁⟩ => ?_) (fun _ _ f => f)
  have E₁ := E.keep k₁.hk
  cases r₁
  refine method_fn (hK _ E₁.top) (hI _ E₁.top) M.ga M.gx M.fn M.ty M.sh ?_
  refine callWith_KW (kws := []) (hK _ E₁.top) M.kp rfl ?_ hpl hne
  refine wpAny_mono (he.run X pos s₁ E₁) (fun vs s₂ ⟨k₂, r₂⟩ => ?_) (fun _ _ f => f.elim)
  have E₂ := E₁.keep k₂.hk
  refine wpAny_pure ⟨hK _ E₂.top, ?_⟩
  exact wpAny_mono (hc.run A X s₂ (.ref da :: vs) R E₂.top E₂.live E₂.topX (.cons (.obj da) r₂)) (fun v s₃ ⟨k₃, r₃⟩ => ⟨(k₁.trans k₂).trans k₃, r₃⟩) (fun _ _ f => f)
end
end
section
open PySem PySem.W PySem.Calls PyProof.Rows PySem.SeqAt PySem.Spec
set_option autoImplicit false
set_option linter.unusedVariables false
section
variable {prog : Program} {w : World} {T : Top0} {A : Around} {env : Env} {σ σ' : Sg} {n : Nat} {B₀ : Heap} {B s s' : Shared} {X : Addr → Prop} {own : List Addr} {ow ow' : Ow} {E' : Value → Shared → Prop} {P : Flow → Shared → Prop}
  {rest : List Stmt}
theorem letOwned_seq {elts : List PySem.Expr} {k : Nat} {pos : Pos} {I a : Addr} {Q : Unit → Shared → Prop} (hI : ∃ o, s.heap.get? I = some o ∧ (o.cls = .type "list_iterator" ∨ o.cls = .type "tuple_iterator")) (hQ : Q () s) :
    wpAny (model prog w) A (letOwnedTupleGo (.Tuple elts k pos) (.ref I) (.ref a)) Q E' s := by
  obtain ⟨⟨c, d, dt, sl⟩, ho, hc⟩ := hI
  unfold letOwnedTupleGo
  refine wpAny_bind (wpAny_load ho ?_)
  dsimp only at hc ⊢
  rcases hc with rfl | rfl <;> cases dt <;> first | exact wpAny_pure hQ
/-- a name that may be stored -/
structure StOk (env : Env) (x : Str) (ow : Ow) : Prop where
  k : env.kindOf x = some .local ∨ (env.kindOf x = some .cell ∧ ∃ c, env.cells.lookup x = some c)
  d : x ≠ ("__debug__" : Str) ∧ x ≠ ("__classdict__" : Str)
  o : ∀ p, ow = some p → p.2.1 ≠ x
theorem takes_tup2 {x y : Str} {px py pos : Pos} {k : Nat} {d₁ d₂ : D} (hA : A.handled = none) (hx : StOk env x ow) (hy : StOk env y ow) :
    Takes prog w T A env (.Tuple [.Name x px, .Name y py] k pos) (.tup [d₁, d₂]) σ (upS (upS σ x d₁) y d₂) ow := by
  intro B₀ B X own I v s Q E F r hI h
  cases r with
  | tup ht hX hr =>
    cases hr with
    | cons r₁ hr =>
      cases hr with
      | cons r₂ hr =>
        cases hr
        refine letOwned_seq hI (assign_Tuple_tuple hA ht rfl rfl fun h' he => ?_)
        have kp : Kp s { s with heap := h' } := ⟨rfl, fun b o e => he b o (Nat.ne_of_lt (Heap.lt_size e)) e⟩
        have F₁ := F.keep kp
        refine wpAny_bind (wpAny_holding (wpAny_assign_Name (F₁.storeR hx.k hx.d hx.o (r₁.keep kp.hk) fun s₂ re F₂ => ?_)))
        refine wpAny_bind (wpAny_holding (wpAny_assign_Name (F₂.store hy.k hy.d hy.o (re _ _ (r₂.keep kp.hk)) fun s₃ F₃ => ?_)))
        exact wpAny_pure (h s₃ F₃)
theorem takes_tup3 {x y z : Str} {px py pz pos : Pos} {k : Nat} {d₁ d₂ d₃ : D} (hA : A.handled = none) (hx : StOk env x ow) (hy : StOk env y ow) (hz : StOk env z ow) :
    Takes prog w T A env (.Tuple [.Name x px, .Name y py, .Name z pz] k pos) (.tup [d₁, d₂, d₃]) σ (upS (upS (upS σ x d₁) y d₂) z d₃) ow := by
  intro B₀ B X own I v s Q E F r hI h
  cases r with
  | tup ht hX hr =>
    cases hr with
    | cons r₁ hr =>
      cases hr with
      | cons r₂ hr =>
        cases hr with
        | cons r₃ hr =>
          cases hr
          refine letOwned_seq hI (assign_Tuple_tuple hA ht rfl rfl fun h' he => ?_)
          have kp : Kp s { s with heap := h' } := ⟨rfl, fun b o e => he b o (Nat.ne_of_lt (Heap.lt_size e)) e⟩
          have F₁ := F.keep kp
          refine wpAny_bind (wpAny_holding (wpAny_assign_Name (F₁.storeR hx.k hx.d hx.o (r₁.keep kp.hk) fun s₂ re F₂ => ?_)))
          refine wpAny_bind (wpAny_holding (wpAny_assign_Name (F₂.storeR hy.k hy.d hy.o (re _ _ (r₂.keep kp.hk)) fun s₃ re' F₃ => ?_)))
          refine wpAny_bind (wpAny_holding (wpAny_assign_Name (F₃.store hz.k hz.d hz.o (re' _ _ (re _ _ (r₃.keep kp.hk))) fun s₄ F₄ => ?_)))
          exact wpAny_pure (h s₄ F₄)
theorem b_listOwn {x f : Str} {px pf pc p : Pos} {e : PySem.Expr} {d₀ : D} {ss : List Str} (F : FS T env B₀ B X own σ none s) (hd : d₀ = .lst (ss.map .str) ∨ d₀ = .tup (ss.map .str)) (he : Ev prog w T A env σ e d₀) (hsz : ss.length ≤ sizeLine)
    (hk : env.kindOf f = some .globalImplicit) (hg : T.mg f = none) (hb : T.mb f = some (.type "list")) (hdf : (f == ("__debug__" : Str)) = false) (hne : starEach [e] env = (false, eval e env) :: starEach [] env)
    (hsw : swapsWith (.Call (.Name f pf) [e] [] pc) (some (.Name x px)) p.line env = pure false) (hl : env.kindOf x = some .local) (hx : x ≠ ("__debug__" : Str) ∧ x ≠ ("__classdict__" : Str))
    (h : ∀ a s', a ∉ own → B.heap.get? a = none → FS T env B₀ B X (a :: own) (noS σ x) (some (a, x, ss)) s' → wpAny (model prog w) A (execs rest env) P E' s') :
    wpAny (model prog w) A (execs (.Assign [.Name x px] (.Call (.Name f pf) [e] [] pc) p :: rest) env) P E' s := by
  refine wpAny_execs_cons (wpAny_Assign_Name (Call_ ?_) hsw)
  have E := F.envR
  refine Name_function_global E.kind hk (loadGlobal_builtin (by rw [E.glob]; exact E.top.g) hg (by rw [E.blt]; exact E.top.b) hb ?_) hdf
  refine PyProof.Rows.callWith_type1 ?_ hne
  refine args_cons ?_ hne
  refine wpAny_mono (he.run _ s E) (fun v s₁ ⟨k, r⟩ => args_nil ?_) (fun _ _ f => f.elim)
  have F₁ := F.keep k
  have hI : s₁.heap.get? s₁.heap.objs.size = none := Heap.get?_none_of_le (Nat.le_refl _)
  have fin : ∀ (us : List Value) (h' : Heap) (c : Nat), StrsAre us ss → Hk s₁.heap h' → h'.get? s₁.heap.objs.size = some { cls := .type "list", dict := none, data := .seq us.toArray c, slots := #[] } →
      wpAny (model prog w) A (storeName env x (.ref s₁.heap.objs.size)) (fun _ s' => wpAny (model prog w) A (execs rest env) P E' s') E' { s₁ with heap := h' } := fun us h' c hu hk' hD => by
    have hn : s₁.heap.objs.size ∉ own ∧ B.heap.get? s₁.heap.objs.size = none := by
      obtain ⟨m, cm, G⟩ := F₁
      have hp : s₁.heap.objs.size ∉ places env own := fun z => by obtain ⟨o, ho⟩ := G.liveP _ z; rw [hI] at ho; cases ho
      refine ⟨fun z => hp (List.mem_cons_of_mem _ (List.mem_append_right _ z)), ?_⟩
      cases e : B.heap.get? s₁.heap.objs.size with
      | none => rfl
      | some o => rw [G.keep _ o hp e] at hI; cases hI
    have F₂ := F₁.more (s' := { s₁ with heap := h' }) (I := s₁.heap.objs.size) ⟨rfl, hk'⟩ hI ⟨_, hD⟩
    exact F₂.storeOwn hl hx List.mem_cons_self ⟨_, c, hD, rfl, rfl, rfl⟩ hu fun s' F' => h _ s' hn.1 hn.2 F'
  rcases hd with rfl | rfl
  · cases r with
    | lst ht hX hr =>
      obtain ⟨o, ho, hc, n, hd⟩ := ht
      exact call_list_seq (hsz := by rw [List.size_toArray, hr.length, List.length_map]; exact hsz) _ (.inl rfl) ho hc hd fun h' c' hk hD => fin _ h' c' hr.strs hk hD
  · cases r with
    | tup ht hX hr =>
      obtain ⟨o, ho, hc, n, hd⟩ := ht
      exact call_list_seq (hsz := by rw [List.size_toArray, hr.length, List.length_map]; exact hsz) _ (.inr rfl) ho hc hd fun h' c' hk hD => fin _ h' c' hr.strs hk hD
end
end
section
open PySem PySem.W PySem.W.X PySem.W.ZRun PyProof.Rows
set_option maxRecDepth 100000
set_option maxHeartbeats 0
theorem said_roads : noRoadLSs
  { strict := !(importedModules PySem.Challenge.rw_pb0593_01.row.prog.main.body).all cThrough.contains, foot := none,
    bare := List.filter (readsOut PySem.Challenge.rw_pb0593_01.row.prog PySem.Challenge.rw_pb0593_01.row.prog.main.body) [Str.ofString "vars", Str.ofString "dir", Str.ofString "locals"] }
  PySem.Challenge.rw_pb0593_01.row.prog.main.body = true := by kernel_rfl
theorem said_names : namesResolve PySem.Challenge.rw_pb0593_01.row.prog = true := by kernel_rfl
theorem said_meets : (namesMeet PySem.Challenge.rw_pb0593_01.row.prog PySem.Challenge.rw_pb0593_01.row.prog.main.body fun _ n => attrL n) = true := by kernel_rfl
theorem said_bound : (PySem.Challenge.rw_pb0593_01.bound'.all fun n => !builtinNamed n || PySem.Challenge.rw_pb0593_01.about == [n] || !PySem.Challenge.rw_pb0593_01.reads n) = true := by kernel_rfl
theorem said_foot : noRoadLSs { strict := true, foot := some PySem.Challenge.rw_pb0593_01.bound', writes := PySem.Challenge.rw_pb0593_01.writes, may := PySem.Challenge.rw_pb0593_01.may } PySem.Challenge.rw_pb0593_01.footing = true := by kernel_rfl
theorem law_said : PySem.Challenge.rw_pb0593_01.wellSaid = true := by
  delta OpenLaw.wellSaid OpenRow.wellSaid OpenRow.partSaid looksOpen
  with_reducible repeat' refine look_both ?_ ?_
  all_goals with_reducible first | exact said_roads | exact said_names | exact said_meets | exact said_bound | exact said_foot | kernel_rfl
theorem left_halves {p q : Program} {loose : List PySem.Str} {Xt : Shared → Bool} {α : Type} {Yf : Shared → α} {Ya : World → α} {N : Nat} {g0 : Bool} (row : String)
    (h0 : ∀ w : World, (fencedOpening treeTable p w N).map (fun s₀ => (topFrom treeTable p (w.withFollow row false) N s₀).map (fun s => (openSeen q loose (importedModules p.main.body) Xt g0 s, Yf s))) = some (some (openGood q loose, Ya (w.withFollow row false))))
    (h1 : ∀ w : World, (fencedOpening treeTable p w N).map (fun s₀ => (topFrom treeTable p (w.withFollow row true) N s₀).map (fun s => (openSeen q loose (importedModules p.main.body) Xt g0 s, Yf s))) = some (some (openGood q loose, Ya (w.withFollow row true)))) : LeftO p q loose Xt Yf Ya N g0 :=
  LeftO.of_split row fun w => by
    obtain ⟨s₀, a, b⟩ := Option.map_eq_some_iff.mp (h0 w)
    obtain ⟨s₁, a1, b1⟩ := Option.map_eq_some_iff.mp (h1 w)
    rw [a] at a1
    cases a1
    rw [a, Option.map_some, b, b1]
/-- one half of what a head asks of the top: the world's row is said -/
noncomputable def halfOf {p q : Program} {loose : List PySem.Str} {Xt : Shared → Bool} {α : Type} {Yf : Shared → α} {Ya : World → α} {N : Nat} {g0 : Bool} {W R : Prop} (_ : LeftO p q loose Xt Yf Ya N g0 ∧ W → R) (row : String) (b : Bool) : Prop :=
  ∀ w : World, (fencedOpening treeTable p w N).map (fun s₀ => (topFrom treeTable p (w.withFollow row b) N s₀).map (fun s => (openSeen q loose (importedModules p.main.body) Xt g0 s, Yf s))) = some (some (openGood q loose, Ya (w.withFollow row b)))
section
local macro_rules
  | `(tactic| o_law) => `(tactic| refine holds_law law_said fun said => ?_)
local macro_rules
  | `(tactic| k_head) => `(tactic| z_head)
local macro_rules
  | `(tactic| refine $e:term) => `(tactic| first | (refine' $e; (case' hl => refine' And.left (b := _) ?hboth); (case hc => refine' And.right ?hboth)) | refine' $e)
open_top hd for PySem.Challenge.rw_pb0593_01
end
theorem half_f : halfOf hd "special-get-raises" false := by
  delta halfOf
  intro w
  kernel_rfl
theorem half_t : halfOf hd "special-get-raises" true := by
  delta halfOf
  intro w
  kernel_rfl
theorem hd2 (walk : ∀ (w : World) (s : Shared) (mg mb : Str → Option Value) (vals : List Value) (ns : List Int), (hd.heap_227 w.params).In s.heap → s.heap.objs.size = 246 →
    s.heap.IsList 245 vals.toArray → IntsAre vals ns → ns.length ≤ 63 → s.heap.Ns mainGlobals mg → s.heap.Ns builtinsNs mb → (∀ x : Str, x ≠ "__name__" → mb x = bootBuiltins x) → s.heap.NoLimit →
    wpAny (model PySem.Challenge.rw_pb0593_01.prog w) callerA (call (.ref 244) [.ref 245]) (fun v s' => v = .bool true ∧ (s'.gens = s.gens ∧ s'.os = s.os) ∧ ∀ b o, s.heap.get? b = some o → s'.heap.get? b = some o) (fun _ _ => False) s) : PySem.Challenge.rw_pb0593_01.Holds := by
  refine hd ⟨left_halves "special-get-raises" half_f half_t, ?_⟩
  k_fill
  intro w s₀ s₁ mg mb G y fa o pm cd doc dV kV ho hd hcd hD hmg hg args vals as L hpre hlay hrd hwl hlo
  z_open y L KX ZH ZN ZT
  refine Ground.open G ?_
  intro T B D TE TW
  wrow_args hpre hlay hrd hwl hlo
  obtain ⟨hat, hsz⟩ := script_at L
  have htk := script_toks L ZT
  rw [ZN] at hat hsz
  subst hat
  x_fa T KX hmg
  rename_i w₁ hs hlay0 hL1 hr1 hl2 w₂ w₃ w₄ w₅ ra hr1 hc1 hc2 hL w1 r0
  have := walk w s₁ mg mb _ _ KX hsz hL (by assumption) (by omega) T.g T.b T.builtins T.nolimit
  refine wpAny_mono this (fun v s' h => ?_) (fun _ _ f => f.elim)
  obtain ⟨rfl, ⟨hgg, hoo⟩, hk⟩ := h
  refine ⟨.inl ⟨_, _, [], rfl, fun _ => rfl, ReadsW.bool true, ?_, fun _ => ⟨List.nodup_nil, fun _ hm => (nomatch hm)⟩⟩, .of_keep hk, hoo, .of_eq (hgg.trans hg)⟩
  first | rfl | wrow_post
end
section
open PySem PySem.W PySem.Calls PyProof.Rows PySem.SeqAt PySem.Spec
set_option autoImplicit false
set_option linter.unusedVariables false
set_option maxRecDepth 100000
noncomputable def K0 (P : Params) : Addr → Option Obj := fun a => (hd.heap_227 P).lookup a
noncomputable def esOf : Option Obj → Array DictEntry
  | some ⟨_, _, .dict es _, _⟩ => es
  | _ => #[]
noncomputable def T0 (P : Params) : Top0 := ⟨nsFind (esOf (K0 P mainGlobals)), nsFind (esOf (K0 P builtinsNs)), K0 P⟩
theorem ns_of {h : Heap} {a : Addr} {m : Str → Option Value} {o : Obj} (x : h.Ns a m) (ho : h.get? a = some o) : h.Ns a (nsFind (esOf (some o))) := by
  obtain ⟨o', es, ep, ho', hd, hk, hm⟩ := x
  rw [ho] at ho'
  cases ho'
  obtain ⟨c, d, dt, sl⟩ := o
  subst hd
  exact ⟨_, es, ep, ho, rfl, hk, fun _ => rfl⟩
theorem top0 {w : World} {h : Heap} {mg mb : Str → Option Value} (X : (hd.heap_227 w.params).In h) (g : h.Ns mainGlobals mg) (b : h.Ns builtinsNs mb) (l : h.NoLimit) : (T0 w.params).At h := by
  refine ⟨?_, ?_, l, fun a o e => X a o e⟩
  · have e : K0 w.params mainGlobals = some (hd.zo_4 w.params) := by kernel_rfl
    show h.Ns _ (nsFind (esOf (K0 w.params mainGlobals)))
    rw [e]
    exact ns_of g (X _ _ e)
  · have e : K0 w.params builtinsNs = some (hd.zo_1 w.params) := by kernel_rfl
    show h.Ns _ (nsFind (esOf (K0 w.params builtinsNs)))
    rw [e]
    exact ns_of b (X _ _ e)
section
variable (P : Params)
theorem g_met : (T0 P).mg "scripts_met" = some (.ref 48) := by kernel_rfl
theorem g_tuple : (T0 P).mg "tuple" = none := by kernel_rfl
theorem b_tuple : (T0 P).mb "tuple" = some (.type "tuple") := by kernel_rfl
end
noncomputable def fdOf : Obj → FuncData
  | ⟨_, _, .func fd, _⟩ => fd
  | _ => default
noncomputable def bodyOf (fd : FuncData) : List Stmt := match fd.body with | .stmts b => b | _ => []
noncomputable def codeNo (fd : FuncData) : Addr := match fd.code with | .ref c => c | _ => 0
/-- the data of two names and more -/
noncomputable def sgOf (names : List Str) (ds : List D) : Sg := fun x => (names.zip ds).lookup x
end
section
open PySem PySem.W PySem.Calls PyProof.Rows PySem.SeqAt PySem.Spec
set_option autoImplicit false
set_option linter.unusedVariables false
set_option maxRecDepth 100000
section
variable (P : Params)
noncomputable abbrev f_set : FuncData := fdOf (hd.zo_30 P)
theorem k_set (v0 v1 : D) : DefOk (T0 P) 29 (f_set P) (bodyOf (f_set P)) [("code" : Str), ("data" : Str)] [] [] [v0, v1] (sgOf [("code" : Str), ("data" : Str)] ([v0, v1] ++ [])) where
  o := ⟨hd.zo_30 P, by kernel_rfl, by kernel_rfl⟩
  code := ⟨28, hd.zo_29 P, _, _, by kernel_rfl, by kernel_rfl, by exact rfl, by exact rfl⟩
  body := by kernel_rfl
  bind := fun s vs t h => by match vs, h with | [v0, v1], _ => exact BindsTo.of_eq (by kernel_rfl)
  dfl := fun X h => .nil
  len := rfl
  clo := by kernel_rfl
  glob := by kernel_rfl
  blt := by kernel_rfl
  kinds := fun x hx => by
    simp only [List.mem_cons, List.not_mem_nil, or_false] at hx
    rcases hx with rfl | rfl
    · exact ⟨⟨by decide, by decide⟩, .inl (by kernel_rfl)⟩
    · exact ⟨⟨by decide, by decide⟩, .inl (by kernel_rfl)⟩
  cells := fun L n c h => by
    have e : cellsFrom L (f_set P).scope.names [] = [] := by kernel_rfl
    rw [e] at h ⊢
    cases h
  nodup := by decide
  sg := fun x d h => h
  co := by kernel_rfl
  gen := by kernel_rfl
  kind := by kernel_rfl
noncomputable abbrev f_wider : FuncData := fdOf (hd.zo_37 P)
theorem k_wider (v0 : D) : DefOk (T0 P) 36 (f_wider P) (bodyOf (f_wider P)) [("names" : Str)] [] [] [v0] (sgOf [("names" : Str)] ([v0] ++ [])) where
  o := ⟨hd.zo_37 P, by kernel_rfl, by kernel_rfl⟩
  code := ⟨35, hd.zo_36 P, _, _, by kernel_rfl, by kernel_rfl, by exact rfl, by exact rfl⟩
  body := by kernel_rfl
  bind := fun s vs t h => by match vs, h with | [v0], _ => exact BindsTo.of_eq (by kernel_rfl)
  dfl := fun X h => .nil
  len := rfl
  clo := by kernel_rfl
  glob := by kernel_rfl
  blt := by kernel_rfl
  kinds := fun x hx => by
    simp only [List.mem_cons, List.not_mem_nil, or_false] at hx
    subst hx
    exact ⟨⟨by decide, by decide⟩, .inl (by kernel_rfl)⟩
  cells := fun L n c h => by
    have e : cellsFrom L (f_wider P).scope.names [] = [] := by kernel_rfl
    rw [e] at h ⊢
    cases h
  nodup := by decide
  sg := fun x d h => h
  co := by kernel_rfl
  gen := by kernel_rfl
  kind := by kernel_rfl
noncomputable abbrev f_aug : FuncData := fdOf (hd.zo_44 P)
theorem k_aug (v0 v1 : D) : DefOk (T0 P) 43 (f_aug P) (bodyOf (f_aug P)) [("code" : Str), ("data" : Str)] [] [] [v0, v1] (sgOf [("code" : Str), ("data" : Str)] ([v0, v1] ++ [])) where
  o := ⟨hd.zo_44 P, by kernel_rfl, by kernel_rfl⟩
  code := ⟨42, hd.zo_43 P, _, _, by kernel_rfl, by kernel_rfl, by exact rfl, by exact rfl⟩
  body := by kernel_rfl
  bind := fun s vs t h => by match vs, h with | [v0, v1], _ => exact BindsTo.of_eq (by kernel_rfl)
  dfl := fun X h => .nil
  len := rfl
  clo := by kernel_rfl
  glob := by kernel_rfl
  blt := by kernel_rfl
  kinds := fun x hx => by
    simp only [List.mem_cons, List.not_mem_nil, or_false] at hx
    rcases hx with rfl | rfl
    · exact ⟨⟨by decide, by decide⟩, .inl (by kernel_rfl)⟩
    · exact ⟨⟨by decide, by decide⟩, .inl (by kernel_rfl)⟩
  cells := fun L n c h => by
    have e : cellsFrom L (f_aug P).scope.names [] = [] := by kernel_rfl
    rw [e] at h ⊢
    cases h
  nodup := by decide
  sg := fun x d h => h
  co := by kernel_rfl
  gen := by kernel_rfl
  kind := by kernel_rfl
noncomputable abbrev f_met : FuncData := fdOf (hd.zo_49 P)
theorem k_met (v0 v1 : D) : DefOk (T0 P) 48 (f_met P) (bodyOf (f_met P)) [("one" : Str), ("other" : Str)] [] [] [v0, v1] (sgOf [("one" : Str), ("other" : Str)] ([v0, v1] ++ [])) where
  o := ⟨hd.zo_49 P, by kernel_rfl, by kernel_rfl⟩
  code := ⟨47, hd.zo_48 P, _, _, by kernel_rfl, by kernel_rfl, by exact rfl, by exact rfl⟩
  body := by kernel_rfl
  bind := fun s vs t h => by match vs, h with | [v0, v1], _ => exact BindsTo.of_eq (by kernel_rfl)
  dfl := fun X h => .nil
  len := rfl
  clo := by kernel_rfl
  glob := by kernel_rfl
  blt := by kernel_rfl
  kinds := fun x hx => by
    simp only [List.mem_cons, List.not_mem_nil, or_false] at hx
    rcases hx with rfl | rfl
    · exact ⟨⟨by decide, by decide⟩, .inl (by kernel_rfl)⟩
    · exact ⟨⟨by decide, by decide⟩, .inr ⟨by kernel_rfl, fun L => ⟨L, by kernel_rfl⟩⟩⟩
  cells := fun L n c h => by
    have e : cellsFrom L (f_met P).scope.names [] = [(("other" : Str), L)] := by kernel_rfl
    rw [e] at h ⊢
    simp only [List.mem_cons, List.not_mem_nil, or_false, Prod.mk.injEq] at h
    obtain ⟨rfl, rfl⟩ := h
    rfl
  nodup := by decide
  sg := fun x d h => h
  co := by kernel_rfl
  gen := by kernel_rfl
  kind := by kernel_rfl
noncomputable abbrev f_text : FuncData := fdOf (hd.zo_57 P)
theorem k_text (v0 v1 v2 : D) : DefOk (T0 P) 56 (f_text P) (bodyOf (f_text P)) [("text" : Str), ("data" : Str), ("is_augmented" : Str)] [] [] [v0, v1, v2] (sgOf [("text" : Str), ("data" : Str), ("is_augmented" : Str)] ([v0, v1, v2] ++ [])) where
  o := ⟨hd.zo_57 P, by kernel_rfl, by kernel_rfl⟩
  code := ⟨55, hd.zo_56 P, _, _, by kernel_rfl, by kernel_rfl, by exact rfl, by exact rfl⟩
  body := by kernel_rfl
  bind := fun s vs t h => by match vs, h with | [v0, v1, v2], _ => exact BindsTo.of_defaults (T := 49) (by kernel_rfl) (t.k _ _ (by kernel_rfl : (T0 P).K 49 = some (hd.zo_50 P))) (by exact rfl) (by exact rfl) (by exact rfl)
  dfl := fun X h => .nil
  len := rfl
  clo := by kernel_rfl
  glob := by kernel_rfl
  blt := by kernel_rfl
  kinds := fun x hx => by
    simp only [List.mem_cons, List.not_mem_nil, or_false] at hx
    rcases hx with rfl | rfl | rfl
    · exact ⟨⟨by decide, by decide⟩, .inl (by kernel_rfl)⟩
    · exact ⟨⟨by decide, by decide⟩, .inl (by kernel_rfl)⟩
    · exact ⟨⟨by decide, by decide⟩, .inl (by kernel_rfl)⟩
  cells := fun L n c h => by
    have e : cellsFrom L (f_text P).scope.names [] = [] := by kernel_rfl
    rw [e] at h ⊢
    cases h
  nodup := by decide
  sg := fun x d h => h
  co := by kernel_rfl
  gen := by kernel_rfl
  kind := by kernel_rfl
noncomputable abbrev f_textD : FuncData := fdOf (hd.zo_57 P)
theorem k_textD (v0 v1 : D) : DefOk (T0 P) 56 (f_textD P) (bodyOf (f_textD P)) [("text" : Str), ("data" : Str), ("is_augmented" : Str)] [.bool true] [.bool true] [v0, v1] (sgOf [("text" : Str), ("data" : Str), ("is_augmented" : Str)] ([v0, v1] ++ [.bool true])) where
  o := ⟨hd.zo_57 P, by kernel_rfl, by kernel_rfl⟩
  code := ⟨55, hd.zo_56 P, _, _, by kernel_rfl, by kernel_rfl, by exact rfl, by exact rfl⟩
  body := by kernel_rfl
  bind := fun s vs t h => by match vs, h with | [v0, v1], _ => exact BindsTo.of_defaults (T := 49) (by kernel_rfl) (t.k _ _ (by kernel_rfl : (T0 P).K 49 = some (hd.zo_50 P))) (by exact rfl) (by exact rfl) (by exact rfl)
  dfl := fun X h => .cons (.bool true) .nil
  len := rfl
  clo := by kernel_rfl
  glob := by kernel_rfl
  blt := by kernel_rfl
  kinds := fun x hx => by
    simp only [List.mem_cons, List.not_mem_nil, or_false] at hx
    rcases hx with rfl | rfl | rfl
    · exact ⟨⟨by decide, by decide⟩, .inl (by kernel_rfl)⟩
    · exact ⟨⟨by decide, by decide⟩, .inl (by kernel_rfl)⟩
    · exact ⟨⟨by decide, by decide⟩, .inl (by kernel_rfl)⟩
  cells := fun L n c h => by
    have e : cellsFrom L (f_textD P).scope.names [] = [] := by kernel_rfl
    rw [e] at h ⊢
    cases h
  nodup := by decide
  sg := fun x d h => h
  co := by kernel_rfl
  gen := by kernel_rfl
  kind := by kernel_rfl
noncomputable abbrev f_single : FuncData := fdOf (hd.zo_64 P)
theorem k_single (v0 v1 : D) : DefOk (T0 P) 63 (f_single P) (bodyOf (f_single P)) [("text" : Str), ("data" : Str)] [] [] [v0, v1] (sgOf [("text" : Str), ("data" : Str)] ([v0, v1] ++ [])) where
  o := ⟨hd.zo_64 P, by kernel_rfl, by kernel_rfl⟩
  code := ⟨62, hd.zo_63 P, _, _, by kernel_rfl, by kernel_rfl, by exact rfl, by exact rfl⟩
  body := by kernel_rfl
  bind := fun s vs t h => by match vs, h with | [v0, v1], _ => exact BindsTo.of_eq (by kernel_rfl)
  dfl := fun X h => .nil
  len := rfl
  clo := by kernel_rfl
  glob := by kernel_rfl
  blt := by kernel_rfl
  kinds := fun x hx => by
    simp only [List.mem_cons, List.not_mem_nil, or_false] at hx
    rcases hx with rfl | rfl
    · exact ⟨⟨by decide, by decide⟩, .inl (by kernel_rfl)⟩
    · exact ⟨⟨by decide, by decide⟩, .inl (by kernel_rfl)⟩
  cells := fun L n c h => by
    have e : cellsFrom L (f_single P).scope.names [] = [] := by kernel_rfl
    rw [e] at h ⊢
    cases h
  nodup := by decide
  sg := fun x d h => h
  co := by kernel_rfl
  gen := by kernel_rfl
  kind := by kernel_rfl
noncomputable abbrev f_own : FuncData := fdOf (hd.zo_71 P)
theorem k_own (v0 v1 : D) : DefOk (T0 P) 70 (f_own P) (bodyOf (f_own P)) [("text" : Str), ("data" : Str)] [] [] [v0, v1] (sgOf [("text" : Str), ("data" : Str)] ([v0, v1] ++ [])) where
  o := ⟨hd.zo_71 P, by kernel_rfl, by kernel_rfl⟩
  code := ⟨69, hd.zo_70 P, _, _, by kernel_rfl, by kernel_rfl, by exact rfl, by exact rfl⟩
  body := by kernel_rfl
  bind := fun s vs t h => by match vs, h with | [v0, v1], _ => exact BindsTo.of_eq (by kernel_rfl)
  dfl := fun X h => .nil
  len := rfl
  clo := by kernel_rfl
  glob := by kernel_rfl
  blt := by kernel_rfl
  kinds := fun x hx => by
    simp only [List.mem_cons, List.not_mem_nil, or_false] at hx
    rcases hx with rfl | rfl
    · exact ⟨⟨by decide, by decide⟩, .inl (by kernel_rfl)⟩
    · exact ⟨⟨by decide, by decide⟩, .inl (by kernel_rfl)⟩
  cells := fun L n c h => by
    have e : cellsFrom L (f_own P).scope.names [] = [] := by kernel_rfl
    rw [e] at h ⊢
    cases h
  nodup := by decide
  sg := fun x d h => h
  co := by kernel_rfl
  gen := by kernel_rfl
  kind := by kernel_rfl
noncomputable abbrev f_lset : FuncData := fdOf (hd.zo_217 P)
theorem k_lset (v0 v1 : D) : DefOk (T0 P) 234 (f_lset P) (bodyOf (f_lset P)) [("code" : Str), ("is_wide" : Str)] [] [] [v0, v1] (sgOf [("code" : Str), ("is_wide" : Str)] ([v0, v1] ++ [])) where
  o := ⟨hd.zo_217 P, by kernel_rfl, by kernel_rfl⟩
  code := ⟨233, hd.zo_216 P, _, _, by kernel_rfl, by kernel_rfl, by exact rfl, by exact rfl⟩
  body := by kernel_rfl
  bind := fun s vs t h => by match vs, h with | [v0, v1], _ => exact BindsTo.of_eq (by kernel_rfl)
  dfl := fun X h => .nil
  len := rfl
  clo := by kernel_rfl
  glob := by kernel_rfl
  blt := by kernel_rfl
  kinds := fun x hx => by
    simp only [List.mem_cons, List.not_mem_nil, or_false] at hx
    rcases hx with rfl | rfl
    · exact ⟨⟨by decide, by decide⟩, .inr ⟨by kernel_rfl, fun L => ⟨L, by kernel_rfl⟩⟩⟩
    · exact ⟨⟨by decide, by decide⟩, .inr ⟨by kernel_rfl, fun L => ⟨L + 1, by kernel_rfl⟩⟩⟩
  cells := fun L n c h => by
    have e : cellsFrom L (f_lset P).scope.names [] = [(("is_wide" : Str), L + 1), (("code" : Str), L)] := by kernel_rfl
    rw [e] at h ⊢
    simp only [List.mem_cons, List.not_mem_nil, or_false, Prod.mk.injEq] at h
    rcases h with ⟨rfl, rfl⟩ | ⟨rfl, rfl⟩
    · rfl
    · rfl
  nodup := by decide
  sg := fun x d h => h
  co := by kernel_rfl
  gen := by kernel_rfl
  kind := by kernel_rfl
noncomputable abbrev f_lmet : FuncData := fdOf (hd.zo_222 P)
theorem k_lmet (v0 v1 : D) : DefOk (T0 P) 239 (f_lmet P) (bodyOf (f_lmet P)) [("text" : Str), ("is_wide" : Str)] [] [] [v0, v1] (sgOf [("text" : Str), ("is_wide" : Str)] ([v0, v1] ++ [])) where
  o := ⟨hd.zo_222 P, by kernel_rfl, by kernel_rfl⟩
  code := ⟨238, hd.zo_221 P, _, _, by kernel_rfl, by kernel_rfl, by exact rfl, by exact rfl⟩
  body := by kernel_rfl
  bind := fun s vs t h => by match vs, h with | [v0, v1], _ => exact BindsTo.of_eq (by kernel_rfl)
  dfl := fun X h => .nil
  len := rfl
  clo := by kernel_rfl
  glob := by kernel_rfl
  blt := by kernel_rfl
  kinds := fun x hx => by
    simp only [List.mem_cons, List.not_mem_nil, or_false] at hx
    rcases hx with rfl | rfl
    · exact ⟨⟨by decide, by decide⟩, .inl (by kernel_rfl)⟩
    · exact ⟨⟨by decide, by decide⟩, .inr ⟨by kernel_rfl, fun L => ⟨L, by kernel_rfl⟩⟩⟩
  cells := fun L n c h => by
    have e : cellsFrom L (f_lmet P).scope.names [] = [(("some" : Str), L + 1), (("is_wide" : Str), L)] := by kernel_rfl
    rw [e] at h ⊢
    simp only [List.mem_cons, List.not_mem_nil, or_false, Prod.mk.injEq] at h
    rcases h with ⟨rfl, rfl⟩ | ⟨rfl, rfl⟩
    · rfl
    · rfl
  nodup := by decide
  sg := fun x d h => h
  co := by kernel_rfl
  gen := by kernel_rfl
  kind := by kernel_rfl
end
end
section
open PySem PySem.W PySem.Calls PyProof.Rows PySem.SeqAt PySem.Spec
set_option autoImplicit false
set_option linter.unusedVariables false
set_option maxRecDepth 100000
noncomputable abbrev prg : Program := PySem.Challenge.rw_pb0593_01.prog
noncomputable def dS : Option (List Str) → D
  | none => .none
  | some l => .tup (l.map .str)
noncomputable def met : Option (List Str) → Option (List Str) → Option (List Str)
  | none, y => y
  | x, none => x
  | some a, some b => some (a.filter fun x => b.any (· == x))
noncomputable def okS (x : Option (List Str)) : Prop := ∀ l, x = some l → l.length ≤ 40
theorem le_size {n m : Nat} (h : n ≤ m) (hm : m ≤ 1000) : n ≤ sizeLine := Nat.le_trans (Nat.le_trans h hm) (by decide)
section
variable {w : World} {n : Nat} {T : Top0}
theorem c_met (e : Ext (T0 w.params) T) {x y : Option (List Str)} (hx : okS x) : CallC prg w T (n + 1) (.ref 48) [dS x, dS y] (dS (met x y)) := by
  refine c_def ((k_met w.params (dS x) (dS y)).ext e) fun A L B X s R F => ?_
  rcases x with _ | a
  · refine b_if F (evT_cmp (ev_name rfl) ev_none cmp_is_none rfl) (fun h s' F' => ?_) (fun h s' F' => ?_)
    · exact b_ret F' (ev_name rfl) fun v s'' G r => ⟨_, _, _, G, r⟩
    · cases h
  · refine b_if F (evT_cmp (ev_name rfl) ev_none cmp_is_none rfl) (fun h s' F' => ?_) (fun h s' F' => b_nil ?_)
    · cases h
    rcases y with _ | b
    · refine b_if F' (evT_cmp (ev_name rfl) ev_none cmp_is_none rfl) (fun h s' F' => ?_) (fun h s' F' => ?_)
      · exact b_ret F' (ev_name rfl) fun v s'' G r => ⟨_, _, _, G, r⟩
      · cases h
    · refine b_if F' (evT_cmp (ev_name rfl) ev_none cmp_is_none rfl) (fun h s' F' => ?_) (fun h s' F' => b_nil ?_)
      · cases h
      have ha := hx _ rfl
      refine b_ret F' ?_ fun v s'' G r => ⟨_, _, _, G, r⟩
      refine ev_callT (n := n) (ds := [.lst ((a.filter fun x => b.any (· == x)).map .str)]) R (by kernel_rfl) (by rw [e.mg]; kernel_rfl) (by rw [e.mb]; kernel_rfl) (evs_cons rfl ?_ evs_nil) rfl (c_tuple_lst ?_)
      · refine ev_compR (d₀ := .tup (a.map .str)) (ds := a.map .str) (pb := fun d => match d with | .str x => b.any (· == x) | _ => false) (f := id) (cl := [("other", L + 1)]) (cap := ["other"]) R (.inr rfl) ?_ (ev_name rfl) (fun _ => rfl) ?_ ?_ ?_ ?_ ?_ ?_
        · rw [List.length_map]; exact le_size ha (by decide)
        · refine compOk_of (by kernel_rfl) (by kernel_rfl) (by kernel_rfl) (by kernel_rfl) (by kernel_rfl) (fun y hy => ?_) (by kernel_rfl) (fun y hy => ?_)
          · rcases List.mem_singleton.mp hy with rfl
            exact ⟨_, rfl, by kernel_rfl⟩
          · rcases List.mem_singleton.mp hy with rfl
            exact ⟨_, rfl⟩
        · exact noCell_of (by kernel_rfl)
        · kernel_rfl
        · intro C d hd
          obtain ⟨z, hz, rfl⟩ := List.mem_map.mp hd
          exact evTs_one (evT_cmp (ev_name rfl) (ev_name rfl) cmp_in_tup rfl)
        · intro C d hd hp
          exact ev_name rfl
        · rw [List.filter_map, List.map_map]
          rfl
      · rw [List.length_map]
        exact le_size (Nat.le_trans (List.length_filter_le ..) ha) (by decide)
/-- a name of the top that bears a text -/
theorem ev_topStr {A : Around} {env : Env} {σ : Sg} {x y : Str} {p : Pos} {t : Tok} (hk : env.kindOf x = some .globalImplicit) (hx : T.mg x = some (.str y t)) (hd : (x == ("__debug__" : Str)) = false) : Ev prg w T A env σ (.Name x p) (.str y) :=
  ev_glob hk hx hd fun _ _ _ _ => .str _ _
/-- a name of the top that bears a tuple of texts -/
theorem ev_topStrs {A : Around} {env : Env} {σ : Sg} {x : Str} {p : Pos} {a : Addr} {o : Obj} {us : List Value} {ss : List Str} (hk : env.kindOf x = some .globalImplicit) (hx : T.mg x = some (.ref a)) (hd : (x == ("__debug__" : Str)) = false)
    (ho : T.K a = some o) (hc : o.cls = .type "tuple") (hn : ∃ n, o.data = .seq us.toArray n) (hu : StrsAre us ss) : Ev prg w T A env σ (.Name x p) (.tup (ss.map .str)) :=
  ev_glob hk hx hd fun X h t tx => .tup ⟨o, t.k _ _ ho, hc, hn⟩ (tx _ _ ho) (strs_rep hu)
/-- the first `n` texts of a list, each once -/
noncomputable def dedup (l : List Str) : List Str := l.foldl (fun acc x => if acc.any (· == x) then acc else acc ++ [x]) []
noncomputable def common (x : Str) : Bool := x == "Zyyy" || x == "Zinh" || x == "Qaai"
end
end
section
open PySem PySem.W PySem.Calls PyProof.Rows PySem.SeqAt PySem.Spec
set_option autoImplicit false
set_option linter.unusedVariables false
set_option maxRecDepth 100000
noncomputable def rowsD : List (Int × Str × Option (List Str)) :=
  [(97, "Latn", none), (1072, "Cyrl", none), (12354, "Hira", none), (12450, "Kana", none), (19968, "Hani", none), (44032, "Hang", none), (12549, "Bopo", none), (32, "Zyyy", none), (768, "Zinh", none),
    (12540, "Zyyy", some ["Hira", "Kana"]), (12289, "Zyyy", some ["Bopo", "Hang", "Hani", "Hira", "Kana"]), (867, "Zinh", some ["Cyrl", "Latn"]), (57344, "Zzzz", none)]
noncomputable def scOf (c : Int) : Str := ((rowsD.find? (·.1 == c)).map (·.2.1)).getD "Zzzz"
noncomputable def scxOf (c : Int) : Option (List Str) := (rowsD.find? (·.1 == c)).bind (·.2.2)
noncomputable def codes : List Int := rowsD.map (·.1)
noncomputable def namesOf (c : Int) : List Str := (scxOf c).getD [scOf c]
noncomputable def setOf (c : Int) : Option (List Str) := if (namesOf c).any common then none else some (srt (dedup (namesOf c)))
/-- the database, built -/
structure DataT (w : World) (T : Top0) (da : Addr) : Prop where
  ext : Ext (T0 w.params) T
  inst : ∃ ox od, (∀ h, T.At h → InstAt h da ox 178 (some od)) ∧ shadowIn (some od) "get" = some false
  sc : ∀ c ∈ codes, CallC prg w T 320 (.ref 168) [.obj da, .str "sc", .int c] (.str (scOf c))
  scx : ∀ c ∈ codes, CallC prg w T 320 (.ref 168) [.obj da, .str "scx", .int c] (dS (scxOf c))
theorem dedup_snoc (l : List Str) (x : Str) : dedup (l ++ [x]) = if (dedup l).any (· == x) then dedup l else dedup l ++ [x] := by
  unfold dedup
  rw [List.foldl_append]
  rfl
theorem dedup_le' : ∀ (l acc : List Str), (l.foldl (fun acc x => if acc.any (· == x) then acc else acc ++ [x]) acc).length ≤ acc.length + l.length
  | [], acc => Nat.le_refl _
  | x :: r, acc => by
    rw [List.foldl_cons]
    refine Nat.le_trans (dedup_le' r _) ?_
    split <;> simp <;> omega
theorem dedup_le (l : List Str) : (dedup l).length ≤ l.length := Nat.le_trans (dedup_le' l []) (by simp)
section
variable {w : World} {n : Nat} {T : Top0} {da : Addr}
theorem in_top (K : DataT w T da) : ∀ h, T.At h → (hd.heap_227 w.params).In h := fun h t a o e => t.k a o (K.ext.k a o e)
theorem meth_get (K : DataT w T da) : ∃ ox od, (∀ h, T.At h → InstAt h da ox 178 (some od)) ∧ MethOf (hd.heap_227 w.params) 178 168 (some od) "get" := by
  obtain ⟨ox, od, h, hs⟩ := K.inst
  exact ⟨ox, od, h, ⟨by kernel_rfl, by kernel_rfl, by kernel_rfl, by kernel_rfl, hs, by kernel_rfl⟩⟩
theorem names_le : ∀ c ∈ codes, (namesOf c).length ≤ 5 := by decide
theorem ev_comm (e : Ext (T0 w.params) T) {A : Around} {env : Env} {σ : Sg} {p : Pos} (hk : env.kindOf "SCRIPT_COMMON" = some .globalImplicit) : Ev prg w T A env σ (.Name "SCRIPT_COMMON" p) (.str "Zyyy") :=
  ev_topStr (t := 196) hk (by rw [e.mg]; kernel_rfl) (by kernel_rfl)
theorem ev_incl (e : Ext (T0 w.params) T) {A : Around} {env : Env} {σ : Sg} {p : Pos} (hk : env.kindOf "SCRIPT_INHERITED" = some .globalImplicit) :
    Ev prg w T A env σ (.Name "SCRIPT_INHERITED" p) (.tup ([("Zinh" : Str), "Qaai"].map .str)) := by
  refine ev_topStrs (a := 22) (us := _) hk (by rw [e.mg]; kernel_rfl) (by kernel_rfl) (e.k _ _ (by kernel_rfl : (T0 w.params).K 22 = some (hd.zo_23 w.params))) (by kernel_rfl) ⟨_, by exact rfl⟩ ?_
  exact .cons _ _ (.cons _ _ .nil)
theorem noS_sub {σ : Sg} {x y : Str} {d : D} (h : noS σ x y = some d) : σ y = some d := by
  unfold noS at h
  split at h
  · cases h
  · exact h
theorem upS_sub {σ : Sg} {x y : Str} {d d' : D} (h : noS σ x y = some d) : upS (noS σ x) x d' y = some d := by
  unfold upS
  split
  · rename_i e
    rw [noS, if_pos e] at h; cases h
  · exact h
theorem test_common (x : Str) : (x == "Zyyy" || ([("Zinh" : Str), "Qaai"].any (· == x) || false)) = common x := by
  simp only [common, List.any_cons, List.any_nil, Bool.or_false, Bool.or_assoc]
  rw [show (("Zinh" : Str) == x) = (x == "Zinh") from Bool.beq_comm .., show (("Qaai" : Str) == x) = (x == "Qaai") from Bool.beq_comm ..]
/-- the second statement's right side -/
noncomputable def nameE (P : Params) : PySem.Expr := match bodyOf (f_set P) with | _ :: .Assign _ e _ :: _ => e | _ => .Constant .none 0 default
theorem c_set (K : DataT w T da) {c : Int} (hc : c ∈ codes) : CallC prg w T 321 (.ref 29) [.int c, .obj da] (dS (setOf c)) := by
  refine c_def (n := 320) ((k_set w.params (.int c) (.obj da)).ext K.ext) fun A L B X s R F => ?_
  obtain ⟨ox, od, hI, M⟩ := meth_get K
  refine b_assign F (ev_meth (n := 320) R (in_top K) hI M (ev_name rfl) (evs_cons rfl ev_str (evs_cons rfl (ev_name rfl) evs_nil)) (K.scx c hc) rfl rfl rfl) rfl (.inl (by kernel_rfl)) ⟨by decide, by decide⟩ (fun _ h => nomatch h) fun s₁ F₁ => ?_
  have hnm : Ev prg w T A (callEnvC (f_set w.params) L 29) (upS (sgOf [("code" : Str), "data"] ([.int c, .obj da] ++ [])) "known" (dS (scxOf c))) (nameE w.params) (.tup ((namesOf c).map .str)) := by
    unfold namesOf
    cases hx : scxOf c with
    | none =>
      refine ev_ifexp (evT_cmp (ev_name rfl) ev_none cmp_is_none rfl) (fun _ => ev_tuple (evs_cons rfl ?_ evs_nil) (le_size (m := 1) (Nat.le_refl _) (by decide))) (fun h => by cases h)
      exact ev_meth (n := 320) R (in_top K) hI M (ev_name rfl) (evs_cons rfl ev_str (evs_cons rfl (ev_name rfl) evs_nil)) (K.sc c hc) rfl rfl rfl
    | some l => exact ev_ifexp (evT_cmp (ev_name rfl) ev_none cmp_is_none rfl) (fun h => by cases h) (fun _ => ev_name rfl)
  refine b_assign F₁ hnm rfl (.inl (by kernel_rfl)) ⟨by decide, by decide⟩ (fun _ h => nomatch h) fun s₂ F₂ => ?_
  refine b_newOwn F₂ rfl (by kernel_rfl) ⟨by decide, by decide⟩ fun a s₃ ha hB F₃ => ?_
  have hle := names_le c hc
  generalize hN : namesOf c = N at *
  obtain ⟨σ₃, F₃, hn3⟩ : ∃ σ₃, FS T (callEnvC (f_set w.params) L 29) B.heap B X [a] σ₃ (some (a, "found", [])) s₃ ∧ σ₃ "names" = some (.tup (N.map .str)) := ⟨_, F₃, rfl⟩
  have hset : setOf c = if N.any common then none else some (srt (dedup N)) := by rw [setOf, hN]
  refine b_for (d₀ := .tup (N.map .str)) (ds := N.map .str) (fun _ => noS σ₃ "name") (fun i => upS (noS σ₃ "name") "name" ((N.map .str)[i]?.getD .none)) (fun i => some (a, "found", dedup (N.take i))) (fun d => d = .none ∧ N.any common = true) (fun i => (N.take i).any common = false) rfl
    (F₃.sub fun y d h => noS_sub h) R.hand (.inr rfl) (ev_name (by rw [noS, if_neg (by decide)]; exact hn3)) (fun _ => rfl) (fun i d h => ?_) ?_ ?_ ?_
  · have e : (N.map .str)[i]?.getD .none = d := by rw [h]; rfl
    rw [e]
    exact takes_name (.inl (by kernel_rfl)) ⟨by decide, by decide⟩ (fun p h => by cases h; show ("found" : Str) ≠ "name"; decide)
  · intro i d hd hpi B' I s₄ F₄
    obtain ⟨x, hx, rfl⟩ : ∃ x, N[i]? = some x ∧ D.str x = d := by
      rw [List.getElem?_map] at hd
      exact Option.map_eq_some_iff.mp hd
    have hT : N.take (i + 1) = N.take i ++ [x] := by rw [List.take_add_one, hx]; rfl
    have hlt : (dedup (N.take i)).length ≤ 5 := Nat.le_trans (dedup_le _) (Nat.le_trans (List.length_take_le' ..) hle)
    rw [hd] at F₄
    refine b_if F₄ (evT_or (a := x == "Zyyy") (evT_cmp (ev_name rfl) (ev_comm K.ext (by kernel_rfl)) cmp_eq_str rfl) fun _ => evT_or (a := [("Zinh" : Str), "Qaai"].any (· == x)) (evT_cmp (ev_name rfl) (ev_incl K.ext (by kernel_rfl)) cmp_in_tup rfl) fun _ => evT_or_nil) (fun h s₅ F₅ => ?_) (fun h s₅ F₅ => b_nil ?_)
    · rw [test_common] at h
      exact b_ret F₅ ev_none fun v s₆ G r => ⟨.none, _, _, G, r, rfl, List.any_eq_true.mpr ⟨x, List.mem_of_getElem? hx, h⟩⟩
    · rw [test_common] at h
      have hpi' : (N.take (i + 1)).any common = false := by rw [hT, List.any_append, hpi]; simp [h]
      refine b_ifO F₅ (by simp) (evT_cmp (ev_name rfl) (ev_name rfl) cmp_notin_lst rfl) (fun h' s₆ F₆ => ?_) (fun h' s₆ F₆ => b_nil (b_nil ⟨?_, hpi'⟩))
      · refine b_append F₆ (ev_name rfl) (le_size hlt (by decide)) rfl rfl rfl rfl rfl rfl fun s₇ F₇ => b_nil (b_nil ⟨?_, hpi'⟩)
        rw [hT, dedup_snoc, if_neg (by intro z; rw [z] at h'; cases h')]
        exact F₇.sub fun y d h => upS_sub h
      · rw [hT, dedup_snoc, if_pos (by simpa using h')]
        exact F₆.sub fun y d h => upS_sub h
  · intro hpi s' F'
    rw [List.length_map, List.take_length] at hpi F'
    rw [hset, if_neg (by rw [hpi]; decide)]
    have F₄ := F'.freeze ha hB
    refine b_ret F₄ ?_ fun v s'' G r => ⟨_, _, _, G, r⟩
    have hl : (dedup N).length ≤ 5 := Nat.le_trans (dedup_le _) hle
    refine ev_callT (n := 320) (ds := [.lst ((srt (dedup N)).map .str)]) R (by kernel_rfl) (by rw [K.ext.mg]; kernel_rfl) (by rw [K.ext.mb]; kernel_rfl) (evs_cons rfl ?_ evs_nil) rfl (c_tuple_lst ?_)
    · exact ev_callB (n := 320) (ds := [.lst ((dedup N).map .str)]) R (by kernel_rfl) (by rw [K.ext.mg]; kernel_rfl) (by rw [K.ext.mb]; kernel_rfl) (evs_cons rfl (ev_name rfl) evs_nil) rfl (c_sorted (by omega))
    · rw [List.length_map, (srt_perm _).length_eq]
      exact le_size hl (by decide)
  · rintro v s' dv σ' ow' G r ⟨rfl, hcom⟩
    refine ⟨σ', ow', _, G, ?_⟩
    rw [hset, if_pos hcom]
    exact r
end
end
section
open PySem PySem.W PySem.Calls PyProof.Rows PySem.SeqAt PySem.Spec
set_option autoImplicit false
set_option linter.unusedVariables false
set_option maxRecDepth 100000
noncomputable def addS (acc : List Str) (x : Str) : List Str := if acc.any (· == x) then acc else acc ++ [x]
noncomputable def wtab : List (Str × List Str) := [("Hani", ["Hanb", "Jpan", "Kore"]), ("Bopo", ["Hanb"]), ("Hang", ["Kore"]), ("Hira", ["Jpan"]), ("Kana", ["Jpan"])]
noncomputable def wstep (l acc : List Str) (p : Str × List Str) : List Str := if l.any (· == p.1) then p.2.foldl addS acc else acc
noncomputable def widen (l : List Str) : List Str := wtab.foldl (wstep l) l
noncomputable def widerOf (x : Option (List Str)) : Option (List Str) := x.map fun l => srt (widen l)
theorem addS_le (acc : List Str) (x : Str) : (addS acc x).length ≤ acc.length + 1 := by unfold addS; split <;> simp
theorem adds_le : ∀ (l acc : List Str), (l.foldl addS acc).length ≤ acc.length + l.length
  | [], acc => Nat.le_refl _
  | x :: r, acc => by
    rw [List.foldl_cons, List.length_cons]
    have := adds_le r (addS acc x)
    have := addS_le acc x
    omega
noncomputable def ptD (p : Str × List Str) : D := .tup [.str p.1, .tup (p.2.map .str)]
theorem wtake_le (l : List Str) : ∀ i, ((wtab.take i).foldl (wstep l) l).length ≤ l.length + 7 := by
  have h : ∀ (t : List (Str × List Str)) (acc : List Str), (t.foldl (wstep l) acc).length ≤ acc.length + (t.map (·.2.length)).sum := by
    intro t
    induction t with
    | nil => intro acc; exact Nat.le_refl _
    | cons p t ih =>
      intro acc
      rw [List.foldl_cons, List.map_cons, List.sum_cons]
      have h1 := ih (wstep l acc p)
      have h2 : (wstep l acc p).length ≤ acc.length + p.2.length := by
        unfold wstep
        split
        · exact adds_le _ _
        · omega
      omega
  intro i
  refine Nat.le_trans (h _ _) (Nat.add_le_add_left ?_ _)
  rcases i with _ | _ | _ | _ | _ | i <;> first | decide | skip
  rw [List.take_of_length_le (by show 5 ≤ i + 1 + 1 + 1 + 1 + 1; omega)]
  decide
noncomputable def noL (σ : Sg) (l : List Str) : Sg := fun y => if l.contains y then none else σ y
theorem noL_sub {σ : Sg} {l : List Str} {y : Str} {d : D} (h : noL σ l y = some d) : σ y = some d := by
  unfold noL at h
  split at h
  · cases h
  · exact h
theorem noL_up {σ τ : Sg} {l : List Str} {x : Str} {d' : D} (hx : l.contains x = true) (hs : ∀ y d, noL σ l y = some d → τ y = some d) : ∀ y d, noL σ l y = some d → upS τ x d' y = some d := fun y d h => by
  unfold upS
  split
  · rename_i e
    subst e
    rw [noL, if_pos hx] at h; cases h
  · exact hs y d h
theorem noL_no {σ τ : Sg} {l : List Str} {x : Str} (hx : l.contains x = true) (hs : ∀ y d, noL σ l y = some d → τ y = some d) : ∀ y d, noL σ l y = some d → noS τ x y = some d := fun y d h => by
  unfold noS
  split
  · rename_i e
    subst e
    rw [noL, if_pos hx] at h; cases h
  · exact hs y d h
section
variable {w : World} {n : Nat} {T : Top0}
theorem foldl_take {α β : Type} (f : β → α → β) (b : β) (l : List α) {i : Nat} {x : α} (h : l[i]? = some x) : (l.take (i + 1)).foldl f b = f ((l.take i).foldl f b) x := by
  rw [List.take_add_one, h, List.foldl_append]; rfl
theorem star_Tuple {es r : List PySem.Expr} {k : Nat} {p : Pos} {env : Env} : starEach (.Tuple es k p :: r) env = (false, eval (.Tuple es k p) env) :: starEach r env := rfl
theorem star_Const {c : Const} {r : List PySem.Expr} {k : Nat} {p : Pos} {env : Env} : starEach (.Constant c k p :: r) env = (false, eval (.Constant c k p) env) :: starEach r env := rfl
theorem evs_T {A : Around} {env : Env} {σ : Sg} {es r : List PySem.Expr} {k : Nat} {p : Pos} {d : D} {ds : List D} (h : Ev prg w T A env σ (.Tuple es k p) d) (hs : Evs prg w T A env σ r ds) : Evs prg w T A env σ (.Tuple es k p :: r) (d :: ds) := evs_cons star_Tuple h hs
theorem evs_S {A : Around} {env : Env} {σ : Sg} {x : Str} {r : List PySem.Expr} {k : Nat} {p : Pos} {ds : List D} (hs : Evs prg w T A env σ r ds) : Evs prg w T A env σ (.Constant (.str x) k p :: r) (.str x :: ds) := evs_cons star_Const ev_str hs
theorem ev_cast {A : Around} {env : Env} {σ : Sg} {e : PySem.Expr} {d d' : D} (h : Ev prg w T A env σ e d') (hd : d' = d) : Ev prg w T A env σ e d := hd ▸ h
theorem c_wider (e : Ext (T0 w.params) T) {x : Option (List Str)} (hx : ∀ l, x = some l → l.length ≤ 5) : CallC prg w T (n + 1) (.ref 36) [dS x] (dS (widerOf x)) := by
  refine c_def ((k_wider w.params (dS x)).ext e) fun A L B X s R F => ?_
  rcases x with _ | l
  · refine b_if F (evT_cmp (ev_name rfl) ev_none cmp_is_none rfl) (fun h s' F' => ?_) (fun h s' F' => ?_)
    · exact b_ret F' ev_none fun v s'' G r => ⟨_, _, _, G, r⟩
    · cases h
  refine b_if F (evT_cmp (ev_name rfl) ev_none cmp_is_none rfl) (fun h s' F' => ?_) (fun h s₁ F₁ => b_nil ?_)
  · cases h
  have hl := hx _ rfl
  refine b_listOwn F₁ (.inr rfl) (ev_name rfl) (le_size hl (by decide)) (by kernel_rfl) (by rw [e.mg]; kernel_rfl) (by rw [e.mb]; kernel_rfl) rfl rfl rfl (by kernel_rfl) ⟨by decide, by decide⟩ fun a s₂ ha hB F₂ => ?_
  obtain ⟨σ, F₂, hn⟩ : ∃ σ, FS T (callEnvC (f_wider w.params) L 36) B.heap B X [a] σ (some (a, "found", l)) s₂ ∧ σ "names" = some (.tup (l.map .str)) := ⟨_, F₂, rfl⟩
  replace F₂ := F₂.sub (σ' := noL σ ["some", "wider", "name"]) fun y d h => noL_sub h
  replace hn : noL σ ["some", "wider", "name"] "names" = some (.tup (l.map .str)) := by rw [noL, if_neg (by decide)]; exact hn
  generalize hτ : noL σ ["some", "wider", "name"] = τ at F₂ hn
  have key := fun (P : Flow → Shared → Prop) (E' : Value → Shared → Prop) (rest : List Stmt) (target iter : PySem.Expr) (body : List Stmt) (p : Pos) => b_for (prog := prg) (w := w) (rest := rest) (p := p) (P := P) (E' := E') (A := A) (T := T) (env := callEnvC (f_wider w.params) L 36) (B₀ := B.heap) (B := B) (X := X) (own := [a]) (s := s₂) (target := target) (iter := iter) (body := body) (d₀ := .tup (wtab.map ptD)) (ds := wtab.map ptD) (fun _ => τ) (fun i => upS (upS τ "some" (.str ((wtab[i]?.getD ("", [])).1))) "wider" (.tup ((wtab[i]?.getD ("", [])).2.map .str))) (fun i => some (a, "found", (wtab.take i).foldl (wstep l) l)) (fun d => False) (fun i => True) trivial
  refine key _ _ _ _ _ _ _ ?_ ?_ ?_ ?_ ?_ ?_ ?_ ?_ ?_
  · exact F₂
  · exact R.hand
  · exact .inr rfl
  · have sz : ∀ {l : List D}, l.length ≤ 5 → l.length ≤ sizeLine := fun h => le_size h (by decide)
    refine ev_cast (ev_tuple (evs_T (ev_tuple (evs_S (evs_T (ev_tuple (evs_S (evs_S (evs_S evs_nil))) (sz (by simp))) evs_nil)) (sz (by simp))) (evs_T (ev_tuple (evs_S (evs_T (ev_tuple (evs_S evs_nil) (sz (by simp))) evs_nil)) (sz (by simp))) (evs_T (ev_tuple (evs_S (evs_T (ev_tuple (evs_S evs_nil) (sz (by simp))) evs_nil)) (sz (by simp))) (evs_T (ev_tuple (evs_S (evs_T (ev_tuple (evs_S evs_nil) (sz (by simp))) evs_nil)) (sz (by simp))) (evs_T (ev_tuple (evs_S (evs_T (ev_tuple (evs_S evs_nil) (sz (by simp))) evs_nil)) (sz (by simp))) evs_nil))))) (sz (by simp))) ?_
    kernel_rfl
  · exact fun _ => rfl
  · intro i d h
    obtain ⟨p, hp, rfl⟩ : ∃ p, wtab[i]? = some p ∧ ptD p = d := by
      rw [List.getElem?_map] at h
      exact Option.map_eq_some_iff.mp h
    rw [hp]
    exact takes_tup2 R.hand ⟨.inl (by kernel_rfl), ⟨by decide, by decide⟩, fun q h => by cases h; show ("found" : Str) ≠ "some"; decide⟩ ⟨.inl (by kernel_rfl), ⟨by decide, by decide⟩, fun q h => by cases h; show ("found" : Str) ≠ "wider"; decide⟩
  · intro i d h _ B' I s₄ F₄
    obtain ⟨p, hp, rfl⟩ : ∃ p, wtab[i]? = some p ∧ ptD p = d := by
      rw [List.getElem?_map] at h
      exact Option.map_eq_some_iff.mp h
    rw [hp] at F₄
    have hacc := wtake_le l i
    have hpl : p.2.length ≤ 3 := by
      have : ∀ q ∈ wtab, q.2.length ≤ 3 := by decide
      exact this p (List.mem_of_getElem? hp)
    rw [foldl_take (wstep l) l wtab hp]
    generalize hA : (wtab.take i).foldl (wstep l) l = acc at F₄ hacc ⊢
    have hback : ∀ y d, τ y = some d → upS (upS τ "some" (.str p.1)) "wider" (.tup (p.2.map .str)) y = some d := by
      subst hτ
      exact noL_up (by decide) (noL_up (by decide) fun y d h => h)
    refine b_if (b := l.any (· == p.1)) F₄ (evT_cmp (ev_name rfl) (ev_name hn) cmp_in_tup rfl) (fun hb s₅ F₅ => ?_) (fun hb s₅ F₅ => b_nil (b_nil ⟨?_, trivial⟩))
    · rw [wstep, if_pos hb]
      have hback' : ∀ y d, τ y = some d → noS (upS (upS τ "some" (.str p.1)) "wider" (.tup (p.2.map .str))) "name" y = some d := by
        subst hτ
        exact noL_no (by decide) (noL_up (by decide) (noL_up (by decide) fun y d h => h))
      have hw : noS (upS (upS τ "some" (.str p.1)) "wider" (.tup (p.2.map .str))) "name" "wider" = some (.tup (p.2.map .str)) := rfl
      have F₆ := F₅.sub (σ' := noS (upS (upS τ "some" (.str p.1)) "wider" (.tup (p.2.map .str))) "name") fun y d h => noS_sub h
      generalize noS (upS (upS τ "some" (.str p.1)) "wider" (.tup (p.2.map .str))) "name" = υ at F₆ hback' hw
      have key2 := fun (P : Flow → Shared → Prop) (E' : Value → Shared → Prop) (rest : List Stmt) (target iter : PySem.Expr) (body : List Stmt) (q : Pos) => b_for (prog := prg) (w := w) (rest := rest) (p := q) (P := P) (E' := E') (A := A) (T := T) (env := callEnvC (f_wider w.params) L 36) (B₀ := B.heap) (B := B') (X := wI X I) (own := [a]) (s := s₅) (target := target) (iter := iter) (body := body)
        (d₀ := .tup (p.2.map .str)) (ds := p.2.map .str) (fun _ => noS υ "name") (fun i => upS (noS υ "name") "name" ((p.2.map .str)[i]?.getD .none)) (fun i => some (a, "found", (p.2.take i).foldl addS acc)) (fun d => False) (fun i => True) trivial
      refine key2 _ _ _ _ _ _ _ ?_ ?_ ?_ ?_ ?_ ?_ ?_ ?_ ?_
      · exact F₆.sub fun y d h => noS_sub h
      · exact R.hand
      · exact .inr rfl
      · exact ev_name (by rw [noS, if_neg (by decide)]; exact hw)
      · exact fun _ => rfl
      · intro i d h
        have e : (p.2.map D.str)[i]?.getD .none = d := by rw [h]; rfl
        rw [e]
        exact takes_name (.inl (by kernel_rfl)) ⟨by decide, by decide⟩ (fun p h => by cases h; show ("found" : Str) ≠ "name"; decide)
      · intro j d h _ B'' I' s₇ F₇
        obtain ⟨x, hx', rfl⟩ : ∃ x, p.2[j]? = some x ∧ D.str x = d := by
          rw [List.getElem?_map] at h
          exact Option.map_eq_some_iff.mp h
        rw [h] at F₇
        have hj : ((p.2.take j).foldl addS acc).length ≤ 15 := by
          have h1 := adds_le (p.2.take j) acc
          have h2 := List.length_take_le' j p.2
          omega
        rw [foldl_take addS acc p.2 hx']
        generalize (p.2.take j).foldl addS acc = ac at F₇ hj ⊢
        refine b_ifO F₇ (by simp) (evT_cmp (ev_name rfl) (ev_name rfl) cmp_notin_lst rfl) (fun h' s₈ F₈ => ?_) (fun h' s₈ F₈ => b_nil (b_nil ⟨?_, trivial⟩))
        · refine b_append F₈ (ev_name rfl) (le_size hj (by decide)) rfl rfl rfl rfl rfl rfl fun s₉ F₉ => b_nil (b_nil ⟨?_, trivial⟩)
          rw [addS, if_neg (by intro z; rw [z] at h'; cases h')]
          exact F₉.sub fun y d h => upS_sub h
        · rw [addS, if_pos (by simpa using h')]
          exact F₈.sub fun y d h => upS_sub h
      · intro _ s' F'
        rw [List.length_map, List.take_length] at F'
        refine b_nil (b_nil ⟨F'.sub fun y d h => ?_, trivial⟩)
        subst hτ
        unfold noS
        split
        · rename_i e
          subst e
          rw [noL, if_pos (by decide)] at h; cases h
        · exact hback' y d h
      · intro v s' dv σ' ow' G r h
        exact h.elim
    · rw [wstep, if_neg (by rw [hb]; decide)]
      exact F₅.sub hback
  · intro _ s' F'
    rw [List.length_map, List.take_length] at F'
    have F₄ := F'.freeze ha hB
    refine b_ret F₄ ?_ fun v s'' G r => ⟨_, _, _, G, r⟩
    have hl2 : (widen l).length ≤ 12 := by
      have := wtake_le l 5
      have e' : (wtab.take 5).foldl (wstep l) l = widen l := rfl
      rw [e'] at this
      omega
    refine ev_callT (n := n) (ds := [.lst ((srt (widen l)).map .str)]) R (by kernel_rfl) (by rw [e.mg]; kernel_rfl) (by rw [e.mb]; kernel_rfl) (evs_cons rfl ?_ evs_nil) rfl (c_tuple_lst ?_)
    · exact ev_callB (n := n) (ds := [.lst ((widen l).map .str)]) R (by kernel_rfl) (by rw [e.mg]; kernel_rfl) (by rw [e.mb]; kernel_rfl) (evs_cons rfl (ev_name rfl) evs_nil) rfl (c_sorted (by omega))
    · rw [List.length_map, (srt_perm _).length_eq]
      exact le_size hl2 (by decide)
  · intro v s' dv σ' ow' G r h
    exact h.elim
end
end
section
open PySem PySem.W PySem.Calls PyProof.Rows PySem.SeqAt PySem.Spec
set_option autoImplicit false
set_option linter.unusedVariables false
set_option maxRecDepth 100000
theorem CallC.more {prog : Program} {w : World} {T : Top0} {n m : Nat} {f : Value} {ds : List D} {d : D} (h : CallC prog w T n f ds d) (hn : n ≤ m) : CallC prog w T m f ds d :=
  ⟨fun A X s vs R => h.run A X s vs (R.less hn)⟩
noncomputable def augOf (c : Int) : Option (List Str) := widerOf (setOf c)
theorem set_le : ∀ c ∈ codes, ∀ l, setOf c = some l → l.length ≤ 5 := fun c hc l h => by
  have hn := names_le c hc
  unfold setOf at h
  split at h
  · cases h
  · cases h
    rw [(srt_perm _).length_eq]
    exact Nat.le_trans (dedup_le _) hn
section
variable {w : World} {n : Nat} {T : Top0} {da : Addr}
theorem c_aug (K : DataT w T da) {c : Int} (hc : c ∈ codes) : CallC prg w T 322 (.ref 43) [.int c, .obj da] (dS (augOf c)) := by
  refine c_def (n := 321) ((k_aug w.params (.int c) (.obj da)).ext K.ext) fun A L B X s R F => ?_
  refine b_ret F ?_ fun v s'' G r => ⟨_, _, _, G, r⟩
  refine ev_callF (n := 321) (f := 36) (ds := [dS (setOf c)]) R (by kernel_rfl) (by rw [K.ext.mg]; kernel_rfl) (K.ext.k _ _ (by kernel_rfl : (T0 w.params).K 36 = some (hd.zo_37 w.params))) (by exact rfl) (evs_cons rfl ?_ evs_nil) rfl (c_wider K.ext (set_le c hc)) (by kernel_rfl)
  exact ev_callF (n := 321) (f := 29) (ds := [.int c, .obj da]) R (by kernel_rfl) (by rw [K.ext.mg]; kernel_rfl) (K.ext.k _ _ (by kernel_rfl : (T0 w.params).K 29 = some (hd.zo_30 w.params))) (by exact rfl) (evs_cons rfl (ev_name rfl) (evs_cons rfl (ev_name rfl) evs_nil)) rfl (c_set K hc) (by kernel_rfl)
end
end
section
open PySem PySem.W PySem.Calls PyProof.Rows PySem.SeqAt PySem.Spec
set_option autoImplicit false
set_option linter.unusedVariables false
set_option maxRecDepth 100000
noncomputable def metAll (f : Int → Option (List Str)) (t : List Int) : Option (List Str) := t.foldl (fun acc c => met acc (f c)) none
theorem met_le {x y : Option (List Str)} {n : Nat} (hx : ∀ l, x = some l → l.length ≤ n) (hy : ∀ l, y = some l → l.length ≤ n) : ∀ l, met x y = some l → l.length ≤ n := fun l h => by
  rcases x with _ | a
  · exact hy l h
  · rcases y with _ | b
    · exact hx l h
    · cases h
      exact Nat.le_trans (List.length_filter_le ..) (hx _ rfl)
theorem fold_le {f : Int → Option (List Str)} {n : Nat} : ∀ (t : List Int) (acc : Option (List Str)), (∀ c ∈ t, ∀ l, f c = some l → l.length ≤ n) → (∀ l, acc = some l → l.length ≤ n) → ∀ l, t.foldl (fun acc c => met acc (f c)) acc = some l → l.length ≤ n
  | [], acc, _, h => h
  | c :: t, acc, hf, h => fold_le t _ (fun c hc => hf c (List.mem_cons_of_mem _ hc)) (met_le h (hf c List.mem_cons_self))
theorem aug_le : ∀ c ∈ codes, ∀ l, augOf c = some l → l.length ≤ 12 := fun c hc l h => by
  unfold augOf widerOf at h
  cases hs : setOf c with
  | none => rw [hs] at h; cases h
  | some a =>
    rw [hs] at h
    cases h
    have h1 := set_le c hc a hs
    have h2 := wtake_le a 5
    have e : (wtab.take 5).foldl (wstep a) a = widen a := rfl
    rw [e] at h2
    rw [(srt_perm _).length_eq]
    omega
end
section
open PySem PySem.W PySem.Calls PyProof.Rows PySem.SeqAt PySem.Spec
set_option autoImplicit false
set_option linter.unusedVariables false
set_option maxRecDepth 100000
section
variable {w : World} {n : Nat} {T : Top0} {da : Addr}
noncomputable def oneOf (b : Bool) (c : Int) : Option (List Str) := if b then augOf c else setOf c
theorem one_le (b : Bool) : ∀ c ∈ codes, ∀ l, oneOf b c = some l → l.length ≤ 12 := fun c hc l h => by
  cases b with
  | true => exact aug_le c hc l h
  | false => exact Nat.le_trans (set_le c hc l h) (by decide)
noncomputable def knownE (P : Params) : PySem.Expr := match bodyOf (f_text P) with | _ :: .For _ _ (.Assign _ e _ :: _) _ _ :: _ => e | _ => .Constant .none 0 default
theorem walk_text (K : DataT w T da) {t : List Int} (ht : ∀ c ∈ t, c ∈ codes) (htl : t.length ≤ 64) (b : Bool) {A : Around} {L : Addr} {B s : Shared} {X : Addr → Prop} {σ : Sg} (R : Room 322 A) (F : FS T (callEnvC (f_text w.params) L 56) B.heap B X [] σ none s)
    (h1 : σ "text" = some (.lst (t.map .int))) (h2 : σ "data" = some (.obj da)) (h3 : σ "is_augmented" = some (.bool b)) :
    wpAny (model prg w) A (execs (bodyOf (f_text w.params)) (callEnvC (f_text w.params) L 56)) (fun fl s' => ∃ σ' ow' own', FS T (callEnvC (f_text w.params) L 56) B.heap B X own' σ' ow' s' ∧
      Rep (wth X (places (callEnvC (f_text w.params) L 56) own')) s'.heap (match fl with | .ret v => v | _ => .none) (dS (metAll (oneOf b) t))) (fun _ _ => False) s := by
  refine b_assign F ev_none rfl (.inl (by kernel_rfl)) ⟨by decide, by decide⟩ (fun _ h => nomatch h) fun s₁ F₁ => ?_
  obtain ⟨τ, hτ⟩ : ∃ τ, noL σ ["found", "code", "known"] = τ := ⟨_, rfl⟩
  have e1 : τ "text" = some (.lst (t.map .int)) := by rw [← hτ, noL, if_neg (by decide)]; exact h1
  have e2 : τ "data" = some (.obj da) := by rw [← hτ, noL, if_neg (by decide)]; exact h2
  have e3 : τ "is_augmented" = some (.bool b) := by rw [← hτ, noL, if_neg (by decide)]; exact h3
  have hsub : ∀ y d, τ y = some d → upS σ "found" D.none y = some d := by
    subst hτ
    exact noL_up (by decide) fun y d h => noL_sub h
  have F₂ : FS T (callEnvC (f_text w.params) L 56) B.heap B X [] (upS τ "found" (dS ((t.take 0).foldl (fun acc c => met acc (oneOf b c)) none))) none s₁ := F₁.sub fun y d h => by
    unfold upS at h ⊢
    split
    · rename_i e
      have e' : y = ("found" : Str) := e
      rw [if_pos e'] at h; exact h
    · rename_i e
      have e' : ¬ y = ("found" : Str) := e
      rw [if_neg e'] at h
      subst hτ
      exact noL_sub h
  have key := fun (P : Flow → Shared → Prop) (E' : Value → Shared → Prop) (rest : List Stmt) (target iter : PySem.Expr) (body : List Stmt) (q : Pos) => b_for (prog := prg) (w := w) (rest := rest) (p := q) (P := P) (E' := E') (A := A) (T := T) (env := callEnvC (f_text w.params) L 56) (B₀ := B.heap) (B := B) (X := X) (own := []) (s := s₁) (target := target) (iter := iter) (body := body)
    (d₀ := .lst (t.map .int)) (ds := t.map .int) (fun i => upS τ "found" (dS ((t.take i).foldl (fun acc c => met acc (oneOf b c)) none))) (fun i => upS (upS τ "found" (dS ((t.take i).foldl (fun acc c => met acc (oneOf b c)) none))) "code" ((t.map .int)[i]?.getD .none)) (fun i => none) (fun d => False) (fun i => True) trivial
  refine key _ _ _ _ _ _ _ ?_ ?_ ?_ ?_ ?_ ?_ ?_ ?_ ?_
  · exact F₂
  · exact R.hand
  · exact .inl rfl
  · exact ev_name (by rw [upS, if_neg (by decide)]; exact e1)
  · exact fun _ => rfl
  · intro i d h
    have e : (t.map D.int)[i]?.getD .none = d := by rw [h]; rfl
    rw [e]
    exact takes_name (.inl (by kernel_rfl)) ⟨by decide, by decide⟩ (fun p h => nomatch h)
  · intro i d h _ B' I s₂ F₃
    obtain ⟨c, hc, rfl⟩ : ∃ c, t[i]? = some c ∧ D.int c = d := by
      rw [List.getElem?_map] at h
      exact Option.map_eq_some_iff.mp h
    have hcm := ht c (List.mem_of_getElem? hc)
    rw [h] at F₃
    rw [foldl_take (fun acc c => met acc (oneOf b c)) none t hc]
    have hacc := fold_le (f := oneOf b) (n := 12) (t.take i) none (fun c hc => one_le b c (ht c (List.mem_of_mem_take hc))) (fun l h => nomatch h)
    generalize (t.take i).foldl (fun acc c => met acc (oneOf b c)) none = acc at F₃ hacc ⊢
    have g2 : upS (upS τ "found" (dS acc)) "code" (.int c) "data" = some (.obj da) := by rw [upS, if_neg (by decide), upS, if_neg (by decide)]; exact e2
    have g3 : upS (upS τ "found" (dS acc)) "code" (.int c) "is_augmented" = some (.bool b) := by rw [upS, if_neg (by decide), upS, if_neg (by decide)]; exact e3
    have hev : Ev prg w T A (callEnvC (f_text w.params) L 56) (upS (upS τ "found" (dS acc)) "code" (.int c)) (knownE w.params) (dS (oneOf b c)) := by
      refine ev_ifexp (c := b) (evT_bool (ev_name g3) fun _ => rfl) (fun hb => ?_) (fun hb => ?_)
      · subst hb
        exact ev_callF (n := 322) (f := 43) (ds := [.int c, .obj da]) R (by kernel_rfl) (by rw [K.ext.mg]; kernel_rfl) (K.ext.k _ _ (by kernel_rfl : (T0 w.params).K 43 = some (hd.zo_44 w.params))) (by exact rfl) (evs_cons rfl (ev_name rfl) (evs_cons rfl (ev_name g2) evs_nil)) rfl (c_aug K hcm) (by kernel_rfl)
      · subst hb
        exact ev_callF (n := 322) (f := 29) (ds := [.int c, .obj da]) R (by kernel_rfl) (by rw [K.ext.mg]; kernel_rfl) (K.ext.k _ _ (by kernel_rfl : (T0 w.params).K 29 = some (hd.zo_30 w.params))) (by exact rfl) (evs_cons rfl (ev_name rfl) (evs_cons rfl (ev_name g2) evs_nil)) rfl ((c_set K hcm).more (by decide)) (by kernel_rfl)
    refine b_assign F₃ hev rfl (.inl (by kernel_rfl)) ⟨by decide, by decide⟩ (fun _ h => nomatch h) fun s₃ F₄ => ?_
    refine b_assign F₄ (ev_callF (n := 322) (f := 48) (ds := [dS acc, dS (oneOf b c)]) (d := dS (met acc (oneOf b c))) R (by kernel_rfl) (by rw [K.ext.mg]; kernel_rfl) (K.ext.k _ _ (by kernel_rfl : (T0 w.params).K 48 = some (hd.zo_49 w.params))) (by exact rfl) (evs_cons rfl (ev_name rfl) (evs_cons rfl (ev_name rfl) evs_nil)) rfl
      (c_met (n := 321) K.ext fun l h => Nat.le_trans (hacc l h) (by decide)) (by kernel_rfl)) rfl (.inl (by kernel_rfl)) ⟨by decide, by decide⟩ (fun _ h => nomatch h) fun s₄ F₅ => b_nil ⟨F₅.sub fun y d h => ?_, trivial⟩
    unfold upS at h ⊢
    split
    · rename_i e
      have e' : y = ("found" : Str) := e
      rw [if_pos e'] at h; exact h
    · rename_i e
      have e' : ¬ y = ("found" : Str) := e
      rw [if_neg e'] at h
      subst hτ
      exact noL_up (σ := σ) (l := ["found", "code", "known"]) (by decide) (noL_up (by decide) (noL_up (by decide) fun y d h => h)) y d h
  · intro _ s' F'
    rw [List.length_map, List.take_length] at F'
    exact b_ret F' (ev_name rfl) fun v s'' G r => ⟨_, _, _, G, r⟩
  · intro v s' dv σ' ow' G r h
    exact h.elim
end
end
section
open PySem PySem.W PySem.Calls PyProof.Rows PySem.SeqAt PySem.Spec
set_option autoImplicit false
set_option linter.unusedVariables false
set_option maxRecDepth 100000
/-- texts that may be laid -/
noncomputable def okA (l : List Str) : Bool := l.all PyData.strOk
theorem pyL_eq : ∀ l : List D, pyL l = l.map D.py
  | [] => rfl
  | d :: l => by rw [pyL, pyL_eq l]; rfl
theorem plainL_eq : ∀ l : List D, plainL l = l.all D.plain
  | [] => rfl
  | d :: l => by rw [plainL, plainL_eq l]; rfl
theorem plain_strs (l : List Str) : plainL (l.map .str) = true := by
  rw [plainL_eq, List.all_map]
  exact List.all_eq_true.mpr fun _ _ => rfl
theorem plain_ints (l : List Int) : plainL (l.map .int) = true := by
  rw [plainL_eq, List.all_map]
  exact List.all_eq_true.mpr fun _ _ => rfl
theorem lay_strs : ∀ l : List Str, okA l = true → PyData.canLayAll0 (pyL (l.map .str)) = true
  | [], _ => rfl
  | x :: l, h => by
    rw [okA, List.all_cons, Bool.and_eq_true] at h
    show (PyData.canLay0 (.str x) && PyData.canLayAll0 (pyL (l.map .str))) = true
    rw [lay_strs l h.2, Bool.and_true, PyData.canLay0]
    exact h.1
theorem lay_ints : ∀ l : List Int, PyData.canLayAll0 (pyL (l.map .int)) = true
  | [] => rfl
  | x :: l => by
    show (PyData.canLay0 (.int x) && PyData.canLayAll0 (pyL (l.map .int))) = true
    rw [lay_ints l]; rfl
theorem depth_strs : ∀ l : List Str, PyData.depthAll (pyL (l.map .str)) = 0
  | [] => rfl
  | x :: l => by
    show max (PyData.depth (.str x)) (PyData.depthAll (pyL (l.map .str))) = 0
    rw [depth_strs l]; rfl
theorem depth_ints : ∀ l : List Int, PyData.depthAll (pyL (l.map .int)) = 0
  | [] => rfl
  | x :: l => by
    show max (PyData.depth (.int x)) (PyData.depthAll (pyL (l.map .int))) = 0
    rw [depth_ints l]; rfl
theorem shaped_tup {l : List Str} (h : okA l = true) : shaped (D.tup (l.map .str)).py = true := by
  rw [shaped, Bool.and_eq_true, D.py, PyData.canLay0, PyData.depth, lay_strs l h, depth_strs]
  exact ⟨rfl, by decide⟩
theorem shaped_lst {l : List Str} (h : okA l = true) : shaped (D.lst (l.map .str)).py = true := by
  rw [shaped, Bool.and_eq_true, D.py, PyData.canLay0, PyData.depth, lay_strs l h, depth_strs]
  exact ⟨rfl, by decide⟩
theorem shaped_ints {l : List Int} : shaped (D.lst (l.map .int)).py = true := by
  rw [shaped, Bool.and_eq_true, D.py, PyData.canLay0, PyData.depth, lay_ints l, depth_ints]
  exact ⟨rfl, by decide⟩
theorem eqv_strs : ∀ l l' : List Str, PyData.eqvAll (pyL (l.map .str)) (pyL (l'.map .str)) = decide (l = l')
  | [], [] => rfl
  | [], _ :: _ => rfl
  | _ :: _, [] => rfl
  | x :: l, y :: l' => by
    show (PyData.eqv (.str x) (.str y) && PyData.eqvAll (pyL (l.map .str)) (pyL (l'.map .str))) = _
    rw [eqv_strs l l', PyData.eqv]
    by_cases h : x = y
    · subst h; simp
    · simp [h]
theorem eqv_ints : ∀ l l' : List Int, PyData.eqvAll (pyL (l.map .int)) (pyL (l'.map .int)) = decide (l = l')
  | [], [] => rfl
  | [], _ :: _ => rfl
  | _ :: _, [] => rfl
  | x :: l, y :: l' => by
    show (PyData.eqv (.int x) (.int y) && PyData.eqvAll (pyL (l.map .int)) (pyL (l'.map .int))) = _
    rw [eqv_ints l l', PyData.eqv]
    by_cases h : x = y
    · subst h; simp
    · simp [h]
noncomputable def okO (x : Option (List Str)) : Prop := ∀ l, x = some l → okA l = true
theorem okA_filter {l : List Str} {p : Str → Bool} (h : okA l = true) : okA (l.filter p) = true :=
  List.all_eq_true.mpr fun x hx => List.all_eq_true.mp h x (List.mem_filter.mp hx).1
theorem met_ok {x y : Option (List Str)} (hx : okO x) (hy : okO y) : okO (met x y) := fun l h => by
  rcases x with _ | a
  · exact hy l h
  · rcases y with _ | b
    · exact hx l h
    · cases h
      exact okA_filter (hx _ rfl)
theorem fold_ok {f : Int → Option (List Str)} : ∀ (t : List Int) (acc : Option (List Str)), (∀ c ∈ t, okO (f c)) → okO acc → okO (t.foldl (fun acc c => met acc (f c)) acc)
  | [], acc, _, h => h
  | c :: t, acc, hf, h => fold_ok t _ (fun c hc => hf c (List.mem_cons_of_mem _ hc)) (met_ok h (hf c List.mem_cons_self))
theorem one_okD : ∀ b : Bool, ∀ c ∈ codes, okA ((oneOf b c).getD []) = true := by decide +kernel
theorem one_ok (b : Bool) : ∀ c ∈ codes, okO (oneOf b c) := fun c hc l h => by
  have := one_okD b c hc
  rw [h] at this
  exact this
theorem plain_dS : ∀ x : Option (List Str), (dS x).plain = true
  | none => rfl
  | some l => plain_strs l
theorem shaped_dS {x : Option (List Str)} (h : okO x) : shaped (dS x).py = true := by
  cases x with
  | none => rfl
  | some l => exact shaped_tup (h l rfl)
/-- is what a text's signs have in common not nothing -/
noncomputable def isOne (x : Option (List Str)) : Bool := !decide (x = some [])
theorem eqv_dS (x : Option (List Str)) : PyData.eqv (dS x).py (D.tup []).py = decide (x = some []) := by
  cases x with
  | none => rfl
  | some l =>
    have := eqv_strs l []
    show PyData.eqvAll (pyL (l.map .str)) (pyL (([] : List Str).map .str)) = _
    rw [this]
    simp
section
variable {w : World} {n : Nat} {T : Top0} {da : Addr}
theorem c_text (K : DataT w T da) {t : List Int} (ht : ∀ c ∈ t, c ∈ codes) (htl : t.length ≤ 64) (b : Bool) : CallC prg w T 323 (.ref 56) [.lst (t.map .int), .obj da, .bool b] (dS (metAll (oneOf b) t)) := by
  refine c_def (n := 322) ((k_text w.params (.lst (t.map .int)) (.obj da) (.bool b)).ext K.ext) fun A L B X s R F => ?_
  exact walk_text K ht htl b R F rfl rfl rfl
theorem c_textD (K : DataT w T da) {t : List Int} (ht : ∀ c ∈ t, c ∈ codes) (htl : t.length ≤ 64) : CallC prg w T 323 (.ref 56) [.lst (t.map .int), .obj da] (dS (metAll (oneOf true) t)) := by
  refine c_def (n := 322) ((k_textD w.params (.lst (t.map .int)) (.obj da)).ext K.ext) fun A L B X s R F => ?_
  exact walk_text K ht htl true R F rfl rfl rfl
theorem metAll_ok (b : Bool) {t : List Int} (ht : ∀ c ∈ t, c ∈ codes) : okO (metAll (oneOf b) t) := fold_ok t none (fun c hc => one_ok b c (ht c hc)) fun l h => nomatch h
theorem c_single (K : DataT w T da) {t : List Int} (ht : ∀ c ∈ t, c ∈ codes) (htl : t.length ≤ 64) : CallC prg w T 324 (.ref 63) [.lst (t.map .int), .obj da] (.bool (isOne (metAll (oneOf true) t))) := by
  refine c_def (n := 323) ((k_single w.params (.lst (t.map .int)) (.obj da)).ext K.ext) fun A L B X s R F => ?_
  refine b_ret F ?_ fun v s'' G r => ⟨_, _, _, G, r⟩
  have hc := cmp_ne (prog := prg) (w := w) (A := A) (n := 323) R (d := dS (metAll (oneOf true) t)) (d' := .tup []) (plain_dS _) rfl (shaped_dS (metAll_ok true ht)) rfl
  rw [eqv_dS] at hc
  refine ev_cmp (d' := .tup []) ?_ (ev_tuple evs_nil (Nat.zero_le _)) hc rfl
  exact ev_callF (n := 323) (f := 56) (ds := [.lst (t.map .int), .obj da]) R (by kernel_rfl) (by rw [K.ext.mg]; kernel_rfl) (K.ext.k _ _ (by kernel_rfl : (T0 w.params).K 56 = some (hd.zo_57 w.params))) (by exact rfl) (evs_cons rfl (ev_name rfl) (evs_cons rfl (ev_name rfl) evs_nil)) rfl (c_textD K ht htl) (by kernel_rfl)
end
end
section
open PySem PySem.W PySem.Calls PyProof.Rows PySem.SeqAt PySem.Spec
set_option autoImplicit false
set_option linter.unusedVariables false
set_option maxRecDepth 100000
noncomputable def ownStep (acc : List Str) (c : Int) : List Str := if !common (scOf c) && !acc.any (· == scOf c) then acc ++ [scOf c] else acc
noncomputable def ownL (t : List Int) : List Str := t.foldl ownStep []
theorem ownL_le' : ∀ (t : List Int) (acc : List Str), (t.foldl ownStep acc).length ≤ acc.length + t.length
  | [], acc => Nat.le_refl _
  | c :: t, acc => by
    rw [List.foldl_cons, List.length_cons]
    have := ownL_le' t (ownStep acc c)
    have h : (ownStep acc c).length ≤ acc.length + 1 := by unfold ownStep; split <;> simp
    omega
theorem ownL_le (t : List Int) : (ownL t).length ≤ t.length := by
  have := ownL_le' t []
  simpa [ownL] using this
theorem test_own (x : Str) (acc : List Str) : (!(x == "Zyyy") && (!([("Zinh" : Str), "Qaai"].any (· == x)) && (!acc.any (· == x) && true))) = (!common x && !acc.any (· == x)) := by
  rw [← test_common x, Bool.or_false, Bool.and_true, Bool.not_or, Bool.and_assoc]
section
variable {w : World} {n : Nat} {T : Top0} {da : Addr}
theorem c_own (K : DataT w T da) {t : List Int} (ht : ∀ c ∈ t, c ∈ codes) (htl : t.length ≤ 60) : CallC prg w T 321 (.ref 70) [.lst (t.map .int), .obj da] (.lst ((srt (ownL t)).map .str)) := by
  refine c_def (n := 320) ((k_own w.params (.lst (t.map .int)) (.obj da)).ext K.ext) fun A L B X s R F => ?_
  obtain ⟨ox, od, hI, M⟩ := meth_get K
  refine b_newOwn F rfl (by kernel_rfl) ⟨by decide, by decide⟩ fun a s₁ ha hB F₁ => ?_
  obtain ⟨τ, hτ⟩ : ∃ τ, noL (sgOf [("text" : Str), "data"] ([.lst (t.map .int), .obj da] ++ [])) ["found", "code", "name"] = τ := ⟨_, rfl⟩
  have e1 : τ "text" = some (.lst (t.map .int)) := by rw [← hτ]; rfl
  have e2 : τ "data" = some (.obj da) := by rw [← hτ]; rfl
  have F₂ : FS T (callEnvC (f_own w.params) L 70) B.heap B X [a] τ (some (a, "found", [])) s₁ := F₁.sub fun y d h => by
    subst hτ
    exact noL_no (by decide) (fun y d h => noL_sub h) y d h
  have key := fun (P : Flow → Shared → Prop) (E' : Value → Shared → Prop) (rest : List Stmt) (target iter : PySem.Expr) (body : List Stmt) (q : Pos) => b_for (prog := prg) (w := w) (rest := rest) (p := q) (P := P) (E' := E') (A := A) (T := T) (env := callEnvC (f_own w.params) L 70) (B₀ := B.heap) (B := B) (X := X) (own := [a]) (s := s₁) (target := target) (iter := iter) (body := body)
    (d₀ := .lst (t.map .int)) (ds := t.map .int) (fun _ => τ) (fun i => upS τ "code" ((t.map .int)[i]?.getD .none)) (fun i => some (a, "found", (t.take i).foldl ownStep [])) (fun d => False) (fun i => True) trivial
  refine key _ _ _ _ _ _ _ ?_ ?_ ?_ ?_ ?_ ?_ ?_ ?_ ?_
  · exact F₂
  · exact R.hand
  · exact .inl rfl
  · exact ev_name e1
  · exact fun _ => rfl
  · intro i d h
    have e : (t.map D.int)[i]?.getD .none = d := by rw [h]; rfl
    rw [e]
    exact takes_name (.inl (by kernel_rfl)) ⟨by decide, by decide⟩ (fun p h => by cases h; show ("found" : Str) ≠ "code"; decide)
  · intro i d h _ B' I s₂ F₃
    obtain ⟨c, hc, rfl⟩ : ∃ c, t[i]? = some c ∧ D.int c = d := by
      rw [List.getElem?_map] at h
      exact Option.map_eq_some_iff.mp h
    have hcm := ht c (List.mem_of_getElem? hc)
    rw [h] at F₃
    have hlen : ((t.take i).foldl ownStep []).length ≤ 60 := by
      have h1 := ownL_le' (t.take i) []
      have h2 := List.length_take_le' i t
      simp only [List.length_nil, Nat.zero_add] at h1
      omega
    rw [foldl_take ownStep [] t hc]
    generalize (t.take i).foldl ownStep [] = acc at F₃ hlen ⊢
    have g2 : upS τ "code" (.int c) "data" = some (.obj da) := by rw [upS, if_neg (by decide)]; exact e2
    refine b_assign F₃ (ev_meth (n := 320) R (in_top K) hI M (ev_name g2) (evs_cons rfl ev_str (evs_cons rfl (ev_name rfl) evs_nil)) (K.sc c hcm) rfl rfl rfl) rfl (.inl (by kernel_rfl)) ⟨by decide, by decide⟩ (fun p h => by cases h; show ("found" : Str) ≠ "name"; decide) fun s₃ F₄ => ?_
    have back : ∀ y d, τ y = some d → upS (upS τ "code" (.int c)) "name" (.str (scOf c)) y = some d := by
      subst hτ
      exact noL_up (by decide) (noL_up (by decide) fun y d h => h)
    have back' : ∀ y d, τ y = some d → upS (upS (upS τ "code" (.int c)) "name" (.str (scOf c))) "found" (.lst (acc.map .str)) y = some d := by
      subst hτ
      exact noL_up (by decide) (noL_up (by decide) (noL_up (by decide) fun y d h => h))
    refine b_ifO F₄ (by simp) (b := !(scOf c == "Zyyy") && (!([("Zinh" : Str), "Qaai"].any (· == scOf c)) && (!acc.any (· == scOf c) && true)))
      (evT_and (evT_cmp (ev_name rfl) (ev_comm K.ext (by kernel_rfl)) cmp_ne_str rfl) fun _ => evT_and (evT_cmp (ev_name rfl) (ev_incl K.ext (by kernel_rfl)) cmp_notin_tup rfl) fun _ => evT_and (evT_cmp (ev_name rfl) (ev_name rfl) cmp_notin_lst rfl) fun _ => evT_and_nil) (fun h' s₄ F₅ => ?_) (fun h' s₄ F₅ => b_nil (b_nil ⟨?_, trivial⟩))
    · rw [test_own] at h'
      refine b_append F₅ (ev_name rfl) (le_size hlen (by decide)) rfl rfl rfl rfl rfl rfl fun s₅ F₆ => b_nil (b_nil ⟨?_, trivial⟩)
      rw [ownStep, if_pos h']
      exact F₆.sub back
    · rw [test_own] at h'
      rw [ownStep, if_neg (by rw [h']; decide)]
      exact F₅.sub back
  · intro _ s' F'
    rw [List.length_map, List.take_length] at F'
    have F₄ := F'.freeze ha hB
    refine b_ret F₄ ?_ fun v s'' G r => ⟨_, _, _, G, r⟩
    exact ev_callB (n := 320) (ds := [.lst ((ownL t).map .str)]) R (by kernel_rfl) (by rw [K.ext.mg]; kernel_rfl) (by rw [K.ext.mb]; kernel_rfl) (evs_cons rfl (ev_name rfl) evs_nil) rfl (c_sorted (by have := ownL_le t; omega))
  · intro v s' dv σ' ow' G r h
    exact h.elim
end
end
section
open PySem PySem.W PySem.Calls PyProof.Rows PySem.SeqAt PySem.Spec
set_option autoImplicit false
set_option linter.unusedVariables false
set_option maxRecDepth 100000
section
variable {prog : Program} {w : World} {A : Around} {E : Value → Shared → Prop} {s : Shared}
noncomputable def textsOf (es : List (Int × Value)) : List Str := es.map fun e => strOf e.2
/-- a set of texts -/
structure SetO (prog : Program) (w : World) (o : Obj) (l : List Str) (es : Array (Int × Value)) (ep : Nat) (t : SetTable) : Prop where
  ex : o.ExactSet
  data : o.data = .set es ep t
  el : ElemsOf (PySem.strKind prog w) es.toList
  tx : (textsOf es.toList).Perm l
  room : es.size < scanBound
  fits : t.fits es.size = true
  led : t.led = !w.params.followText "set-order"
  plain : es.size ≠ 0 → t.plain = false
noncomputable def SetS (prog : Program) (w : World) (h : Heap) (a : Addr) (l : List Str) : Prop := ∃ o es ep t, h.get? a = some o ∧ SetO prog w o l es ep t
theorem orStandIn_led (t : SetTable) (n : Nat) : (t.orStandIn n).led = t.led := by unfold SetTable.orStandIn; split <;> rfl
theorem orStandIn_plain (t : SetTable) (n : Nat) (h : t.plain = false) : (t.orStandIn n).plain = false := by unfold SetTable.orStandIn; split <;> first | exact h | rfl
theorem layNew_led (t : SetTable) (es : Array (Int × Value)) (h : Int) (x : Value) : (layNew t es h x).2.1.led = t.led := by
  unfold layNew
  split
  · exact orStandIn_led ..
  · rfl
theorem laid_led {mask finger moves : Nat} {led plain : Bool} {hs : Array Int} {t' : SetTable} {o : Array Nat} (h : SetTable.laid mask finger moves led plain hs = some (t', o)) : t'.led = led ∧ t'.plain = plain := by
  unfold SetTable.laid at h
  cases hq : SetTable.layClean mask hs with
  | none => rw [hq] at h; cases h
  | some ow => rw [hq] at h; cases h; exact ⟨rfl, rfl⟩
theorem relayAll_led (t : SetTable) (es : Array (Int × Value)) (n : Nat) : (relayAll t es n).2.1.led = t.led := by
  unfold relayAll
  split
  · rename_i t' o h
    dsimp only
    split
    · exact (laid_led h).1
    · rfl
  · rfl
theorem relayAll_plain (t : SetTable) (es : Array (Int × Value)) (n : Nat) (hp : t.plain = false) : (relayAll t es n).2.1.plain = false := by
  unfold relayAll
  split
  · rename_i t' o h
    dsimp only
    split
    · rw [(laid_led h).2]; exact hp
    · rfl
  · rfl
theorem is_str {k : Str} {v : Value} : (PySem.strKind prog w).is k v = true ↔ ∃ t, v = .str k t := by
  constructor
  · intro h
    have h' : Value.isStrOf k v = true := h
    exact Value.isStrOf_shape h'
  · rintro ⟨t, rfl⟩
    show Value.isStrOf k (.str k t) = true
    simp [Value.isStrOf]
theorem mem_texts {es : List (Int × Value)} (h : ElemsOf (PySem.strKind prog w) es) {x : Str} : x ∈ textsOf es ↔ ∃ e ∈ es, (PySem.strKind prog w).is x e.2 = true := by
  unfold textsOf
  rw [List.mem_map]
  constructor
  · rintro ⟨e, he, rfl⟩
    obtain ⟨⟨k, hk, _⟩, _⟩ := h e he
    obtain ⟨t, ht⟩ := is_str.mp hk
    exact ⟨e, he, by rw [ht]; exact is_str.mpr ⟨t, rfl⟩⟩
  · rintro ⟨e, he, hx⟩
    obtain ⟨t, ht⟩ := is_str.mp hx
    exact ⟨e, he, by rw [ht]; rfl⟩
theorem setO_store {h : Heap} {a : Addr} {o : Obj} {l : List Str} {es : Array (Int × Value)} {ep : Nat} {t : SetTable} (ho : h.get? a = some o) (hex : o.ExactSet) (hd : o.data = .set es ep t)
    {es' : Array (Int × Value)} {t' : SetTable} (hel : ElemsOf (PySem.strKind prog w) es'.toList) (htx : (textsOf es'.toList).Perm l) (hb : es'.size < scanBound) (hf : t'.fits es'.size = true)
    (hl : t'.led = !w.params.followText "set-order") (hp : t'.plain = false) :
    (h.update a (Obj.putSet es' t')).get? a = some { o with data := .set es' (ep + 1) t' } ∧ SetO prog w { o with data := .set es' (ep + 1) t' } l es' (ep + 1) t' := by
  have hg : (h.update a (Obj.putSet es' t')).get? a = some { o with data := .set es' (ep + 1) t' } := by
    have := Heap.get?_update_self (Obj.putSet es' t') ho (by rw [putSet_of es' t' hd]; rfl)
    rw [putSet_of es' t' hd] at this; exact this
  exact ⟨hg, hex, rfl, hel, htx, hb, hf, hl, fun _ => hp⟩
theorem addTailS {g : Bool → Sem Unit} (hg : ∀ (b : Bool) (s₁ : Shared) (Q' : Unit → Shared → Prop), Q' () s₁ → wpAny (model prog w) A (g b) Q' E s₁)
    {a : Addr} {o : Obj} {l : List Str} {es : Array (Int × Value)} {ep : Nat} {t : SetTable} (ho : s.heap.get? a = some o) (hex : o.ExactSet) (hd : o.data = .set es ep t)
    {es1 : Array (Int × Value)} {t2 : SetTable} (hel1 : ElemsOf (PySem.strKind prog w) es1.toList) (htx1 : (textsOf es1.toList).Perm l)
    (hb1 : es1.size < scanBound) (hf2 : t2.fits es1.size = true) (hl2 : t2.led = !w.params.followText "set-order") (hp2 : t2.plain = false) {wasDummy : Bool} {R : Option Bool → Shared → Prop}
    (h : ∀ h', Heap.SameBut a s.heap h' → SetS prog w h' a l → R (some true) { s with heap := h' }) :
    wpAny (model prog w) A (do
        storeSet a es1 t2
        if (!wasDummy && t2.tooFull) = true then do
            g (relayAll t2 es1 (SetTable.grown es1.size)).2.2
            storeSet a (relayAll t2 es1 (SetTable.grown es1.size)).1 (relayAll t2 es1 (SetTable.grown es1.size)).2.1
            pure (some true)
          else pure (some true)) R E s := by
  refine wpAny_bind (wpAny_storeSet_of ho hd ?_ (fits_of_scanBound hb1))
  obtain ⟨ho1, hS1⟩ := setO_store (prog := prog) (w := w) (l := l) ho hex hd hel1 htx1 hb1 hf2 hl2 hp2
  have hsb1 := Heap.SameBut.update s.heap a (Obj.putSet es1 t2)
  split
  · have hp := relayAll_perm t2 es1 (SetTable.grown es1.size)
    have hfr := relayAll_fits t2 es1 (SetTable.grown es1.size)
    have hlr := relayAll_led t2 es1 (SetTable.grown es1.size)
    have hpr := relayAll_plain t2 es1 (SetTable.grown es1.size) hp2
    generalize hRl : relayAll t2 es1 (SetTable.grown es1.size) = Rl at hp hfr hlr hpr ⊢
    obtain ⟨es2, t3, gave2⟩ := Rl
    dsimp only at hp hfr hlr hpr ⊢
    have hel2 : ElemsOf (PySem.strKind prog w) es2.toList := hel1.perm hp
    have htx2 : (textsOf es2.toList).Perm l := (hp.map _).trans htx1
    have hsz : es2.size = es1.size := by rw [← Array.length_toList, hp.length_eq, Array.length_toList]
    have hb2 : es2.size < scanBound := by rw [hsz]; exact hb1
    refine wpAny_bind (hg _ _ _ ?_)
    refine wpAny_bind (wpAny_storeSet_of ho1 rfl ?_ (fits_of_scanBound hb2))
    obtain ⟨ho2, hS2⟩ := setO_store (prog := prog) (w := w) (l := l) ho1 hS1.ex rfl hel2 htx2 hb2 hfr (hlr.trans hl2) hpr
    exact wpAny_pure (h _ (hsb1.trans (Heap.SameBut.update _ a _)) ⟨_, _, _, _, ho2, hS2⟩)
  · exact wpAny_pure (h _ hsb1 ⟨_, _, _, _, ho1, hS1⟩)
theorem setAddS {a : Addr} {l : List Str} {x : Str} {tk : Tok} {Q : Bool → Shared → Prop} (hS : SetS prog w s.heap a l) (hroom : l.length + 1 < scanBound)
    (h : ∀ h' b, Heap.SameBut a s.heap h' → SetS prog w h' a (if l.any (· == x) then l else l ++ [x]) → Q b { s with heap := h' }) :
    wpAny (model prog w) A (setAddHashed a (.str x tk) ((PySem.strKind prog w).hash x)) Q E s := by
  obtain ⟨o, es, ep, t, ho, hO⟩ := hS
  have hkey : (PySem.strKind prog w).is x (.str x tk) = true := is_str.mpr ⟨tk, rfl⟩
  have hsc : (Value.str x tk).scannable = true := rfl
  have hlen : es.size = l.length := by rw [← hO.tx.length_eq, textsOf, List.length_map, Array.length_toList]
  have hb1 : es.size + 1 < scanBound := by rw [hlen]; exact hroom
  unfold setAddHashed setAddHashedIn
  refine wpAny_holding (wpAny_bind (wpAny_setState_of ho hO.data hO.fits ?_))
  dsimp only
  rw [byScan_of hsc hO.room hO.el]
  simp only [↓reduceIte]
  unfold setAddByScan
  refine wpAny_bind ?_
  refine wpAny_bind (wpAny_rule ?_)
  refine wpAny_bind (wpAny_setScan_of hkey ho hO.data hO.fits hO.el ?_)
  have hany : l.any (· == x) = true ↔ ∃ e ∈ es.toList, (PySem.strKind prog w).is x e.2 = true := by
    rw [← mem_texts hO.el, hO.tx.mem_iff]
    simp
  cases hr : List.findIdx? (fun e => (PySem.strKind prog w).is x e.2) es.toList with
  | some j =>
    dsimp only
    obtain ⟨hj, hpj, _⟩ := List.findIdx?_eq_some_iff_getElem.mp hr
    have hSk : l.any (· == x) = true := hany.mpr ⟨es.toList[j], List.getElem_mem hj, hpj⟩
    refine wpAny_pure (wpAny_pure ?_)
    have e : s = { s with heap := s.heap } := by cases s; rfl
    rw [e]
    refine h s.heap _ (Heap.SameBut.refl a s.heap) ?_
    rw [if_pos hSk]
    exact ⟨o, es, ep, t, ho, hO⟩
  | none =>
    dsimp only
    have hSk : l.any (· == x) = false := by
      cases hk : l.any (· == x) with
      | false => rfl
      | true => obtain ⟨e, he, hp⟩ := hany.mp hk; have := List.findIdx?_eq_none_iff.mp hr e he; rw [hp] at this; exact Bool.noConfusion this
    have hgw : ∀ (b : Bool) {s₁ : Shared} {Q' : Unit → Shared → Prop}, Q' () s₁ → wpAny (model prog w) A (match b with | true => rule "set.scan.the-table-gave-way" | false => pure ()) Q' E s₁ :=
      fun b s₁ Q' hq => by cases b <;> first | exact wpAny_pure hq | exact wpAny_rule hq
    have hperm := layNew_perm t es ((PySem.strKind prog w).hash x) (.str x tk)
    have hfits := layNew_fits t es ((PySem.strKind prog w).hash x) (.str x tk)
    have hled := layNew_led t es ((PySem.strKind prog w).hash x) (.str x tk)
    generalize hL : layNew t es ((PySem.strKind prog w).hash x) (.str x tk) = L at hperm hfits hled ⊢
    obtain ⟨es1, t1, wasDummy, gave⟩ := L
    dsimp only at hperm hfits hled ⊢
    rw [Array.toList_push] at hperm
    have hel1 : ElemsOf (PySem.strKind prog w) es1.toList := (hO.el.push hkey hsc).perm hperm
    have htx1 : (textsOf es1.toList).Perm (l ++ [x]) := by
      have := hperm.map fun e => strOf e.2
      refine this.trans ?_
      rw [List.map_append]
      exact hO.tx.append (.refl _)
    have hb1' : es1.size < scanBound := by rw [← Array.length_toList, hperm.length_eq, List.length_append, Array.length_toList]; simpa using hb1
    refine wpAny_bind (hgw _ ?_)
    have hend : ∀ h' b, Heap.SameBut a s.heap h' → SetS prog w h' a (l ++ [x]) → Q b { s with heap := h' } := fun h' b hsb hS' => h h' b hsb (by rw [if_neg (by rw [hSk]; decide)]; exact hS')
    split
    · refine wpAny_bind ?_
      rw [hashByValue_scannable 8 hsc]
      refine wpAny_pure ?_
      refine addTailS ?_ ho hO.ex hO.data hel1 htx1 hb1' ?_ ?_ ?_ ?_
      · intro b s₁ Q' hq; cases b <;> first | exact wpAny_pure hq | exact wpAny_rule hq
      · split
        · exact hfits
        · exact SetTable.fits_plain_off hfits
      · split <;> exact hled.trans hO.led
      · rfl
      · intro h' hsb hS'; dsimp only; exact wpAny_pure (hend h' _ hsb hS')
    · rename_i hpl
      refine wpAny_bind (wpAny_pure ?_)
      simp only [↓reduceIte]
      refine addTailS ?_ ho hO.ex hO.data hel1 htx1 hb1' hfits (hled.trans hO.led) (by simpa using hpl) ?_
      · intro b s₁ Q' hq; cases b <;> first | exact wpAny_pure hq | exact wpAny_rule hq
      · intro h' hsb hS'; dsimp only; exact wpAny_pure (hend h' _ hsb hS')
end
end
section
open PySem PySem.W PySem.Calls PyProof.Rows PySem.SeqAt PySem.Spec
set_option autoImplicit false
set_option linter.unusedVariables false
set_option maxRecDepth 100000
section
variable {prog : Program} {w : World} {A : Around} {E : Value → Shared → Prop} {s : Shared}
noncomputable def dd (l : List Str) : List Str := l.foldl (fun acc x => if acc.any (· == x) then acc else acc ++ [x]) []
theorem dd_take (l : List Str) {i : Nat} {x : Str} (h : l[i]? = some x) : dd (l.take (i + 1)) = if (dd (l.take i)).any (· == x) then dd (l.take i) else dd (l.take i) ++ [x] := by
  unfold dd
  rw [List.take_add_one, h, List.foldl_append]; rfl
theorem dd_le' : ∀ (l acc : List Str), (l.foldl (fun acc x => if acc.any (· == x) then acc else acc ++ [x]) acc).length ≤ acc.length + l.length
  | [], acc => Nat.le_refl _
  | x :: r, acc => by
    rw [List.foldl_cons]
    refine Nat.le_trans (dd_le' r _) ?_
    split <;> simp <;> omega
theorem dd_le (l : List Str) : (dd l).length ≤ l.length := Nat.le_trans (dd_le' l []) (by simp)
theorem new_setS (a : Value) {Q₁ : Value → Shared → Prop}
    (h : Q₁ (.ref s.heap.objs.size) { s with heap := s.heap.push { cls := .type "set", dict := none, data := .set #[] 0 (.fresh 0 0 (!w.params.followText "set-order")) } }) :
    codeAny (model prog w) A (.call (.builtin "set.__new__") ⟨[.type "set", a], []⟩) (wants Q₁ E) s := by
  refine codeAny_of_tree ?_
  show wpAny _ A.in1 (do checkBuiltinCall "set.__new__" ⟨[.type "set", a], []⟩; again (.builtin "set.__new__" ⟨[.type "set", a], []⟩)) _ _ s
  refine wpAny_bind (wpAny_of_eq (F.newCall_set_1 a) (wpAny_pure ⟨plainId_quiet F.plain_set_new _, codeAny_builtin F.entry_set_new ?_⟩))
  rw [Around.under_plainId F.plain_set_new _]
  unfold Builtin.«set.__new__» Builtin.Frozenset.newClass
  have hsub := sub_set_self
  obtain ⟨hp, g, d, tk, os⟩ := s
  dsimp only
  wp_walk
  refine wpAny_askSetting (wpAny_pure ?_)
  dsimp only
  simp only [newObj]
  refine wpAny_bind (wpAny_alloc (wpAny_pure ?_))
  exact wpAny_pure h
theorem SetS.ext {h h' : Heap} {a : Addr} {l : List Str} (S : SetS prog w h a l) (e : ∀ o, h.get? a = some o → h'.get? a = some o) : SetS prog w h' a l :=
  let ⟨o, es, ep, t, ho, r⟩ := S; ⟨o, es, ep, t, e o ho, r⟩
variable {R : Result → Shared → Prop} {I : Addr} {fp wr : List Addr} {G : Array GenState → Array GenState → Prop} {P : Nat → Value → Prop} {St : Nat → Shared → Prop}
theorem set_updateS {ss : List Str} (W : WalksS prog w A.in1 I fp wr G ss.length P St) (S : Addr) (hSf : S ∉ fp) (hval : ∀ i v, P i v → ∃ x t, ss[i]? = some x ∧ v = .str x t) (hb : ss.length + 1 < scanBound) :
    ∀ (k i : Nat) (s : Shared), ss.length - i = k → i ≤ ss.length → St i s → SetS prog w s.heap S (dd (ss.take i)) →
      (∀ s', Moved (S :: wr) G s s' → SetS prog w s'.heap S (dd ss) → R (.ok (.ret .none)) s') →
      codeAny (model prog w) A (.builtin "set.update.loop" ⟨[.ref S, .ref I], []⟩) R s := by
  have hSw : S ∉ wr := fun h => hSf (W.sub _ h)
  have hsub : ∀ b ∈ wr, b ∈ S :: wr := fun b hb => List.mem_cons_of_mem _ hb
  intro k
  induction k with
  | zero =>
    intro i s hk hi hst hS hR
    have hin : i = ss.length := by omega
    subst hin
    refine codeAny_builtin F.entry_set_update_loop ?_
    rw [Around.under_plainId F.plain_set_update_loop _]
    show wpAny _ A.in1 (pyNext (.ref I) >>= _) _ _ s
    refine wpAny_bind (W.done s _ _ hst fun s' hm => ?_)
    show wpAny _ A.in1 (ret Value.none) _ _ s'
    rw [List.take_length] at hS
    exact wpAny_pure (hR s' (hm.mono hsub) (hS.ext fun o ho => hm.heap S _ hSw ho))
  | succ k ih =>
    intro i s hk hi hst hS hR
    have hlt : i < ss.length := by omega
    refine codeAny_builtin F.entry_set_update_loop ?_
    rw [Around.under_plainId F.plain_set_update_loop _]
    show wpAny _ A.in1 (pyNext (.ref I) >>= _) _ _ s
    refine wpAny_bind (W.item i s _ _ hlt hst fun v s' hP hst' hm => ?_)
    obtain ⟨x, t, hx, rfl⟩ := hval i v hP
    have hS' : SetS prog w s'.heap S (dd (ss.take i)) := hS.ext fun o ho => hm.heap S _ hSw ho
    show wpAny _ A.in1 (holding [Value.str x t] (setAdd S (.str x t)) >>= _) _ _ s'
    refine wpAny_bind (wpAny_holding ?_)
    unfold setAdd
    refine wpAny_holding ?_
    refine wpAny_bind ((PySem.strKind prog w).pyHash (k := x) (is_str.mpr ⟨t, rfl⟩) ?_)
    have hroom : (dd (ss.take i)).length + 1 < scanBound := by
      have h1 := dd_le (ss.take i)
      have h2 := List.length_take_le i ss
      omega
    refine setAddS (s := { s' with toks := s'.toks + 1 }) hS' hroom fun h' b hsb hS2 => ?_
    rw [← dd_take ss hx] at hS2
    refine wpAny_pure ⟨plainId_quiet F.plain_set_update_loop _, ih (i + 1) _ (by omega) hlt (W.frame _ s' _ _ hst' (Nat.le_succ _) fun b hb o e => ?_) hS2 fun s'' hm'' hS'' => ?_⟩
    · rw [hsb.2 b (fun h : b = S => hSf (by rw [← h]; exact hb))]; exact e
    · refine hR s'' (Moved.trans W.gtrans ((hm.mono hsub).then_heap (Nat.le_succ _) fun b o hb e => ?_) hm'') hS''
      rw [hsb.2 b (fun h : b = S => hb (by rw [h]; exact List.mem_cons_self))]; exact e
theorem strs_at : ∀ {vs : List Value} {ss : List Str}, StrsAre vs ss → ∀ (i : Nat) (v : Value), vs[i]? = some v → ∃ x t, ss[i]? = some x ∧ v = .str x t
  | _, _, .nil, i, v, h => by simp at h
  | _, _, .cons x t r, 0, v, h => by simp at h; exact ⟨x, t, rfl, h.symm⟩
  | _, _, .cons x t r, i + 1, v, h => by simpa using strs_at r i v (by simpa using h)
end
section
variable {prog : Program} {w : World} {A : Around} {E : Value → Shared → Prop} {s : Shared}
set_option maxHeartbeats 3200000 in
theorem call_setS {l : Addr} {items : Array Value} {ss : List Str} {Q : Value → Shared → Prop}
    (hh : A.handled = none) (hl : s.heap.IsList l items) (hi : StrsAre items.toList ss) (hb : ss.length + 1 < scanBound)
    (h : ∀ (h' : Heap) (tk : Nat), SetS prog w h' s.heap.objs.size (dd ss) → (∀ b o, b < s.heap.objs.size → s.heap.get? b = some o → h'.get? b = some o) → Q (.ref s.heap.objs.size) { s with heap := h', toks := tk }) :
    wpAny (model prog w) A (call (.type "set") [.ref l]) Q E s := by
  have hsz : items.size = ss.length := by rw [← Array.length_toList, hi.length]
  obtain ⟨c, tl, hmro⟩ := F.called_set.mro
  have hmade := F.called_set.made
  have hsub := F.called_set.sub
  refine wpAny_call (codeAny_of_tree ?_)
  show wpAny _ _ (callAny (.type "set") _) _ _ _
  refine wpAny_pure ⟨Code.quiet_builtin _ (by decide +kernel), codeAny_builtin F.entry_type_call ?_⟩
  rw [Around.under_plain (weight_type_call_type "set" [.ref l] []) rfl]
  have h1 := F.called_set.notType
  have h2 := F.called_set.canCreate
  have hct := F.typeCall_set_1 (.ref l)
  repeat (any_goals (first | assumption | wp_step))
  refine codeAny_mono (new_setS (.ref l) (E := E) (Q₁ := fun obj s₁ => obj = .ref s.heap.objs.size ∧ s₁ = { s with heap := s.heap.push { cls := .type "set", dict := none, data := .set #[] 0 (.fresh 0 0 (!w.params.followText "set-order")) } }) ⟨rfl, rfl⟩) fun r s₁ hr => ?_
  generalize hled : (!w.params.followText "set-order") = led at hr
  cases r with
  | error e => exact hr
  | ok fl =>
    cases fl with
    | ret obj =>
      obtain ⟨rfl, rfl⟩ := hr
      have hS : (s.heap.push { cls := .type "set", dict := none, data := .set #[] 0 (.fresh 0 0 led) }).get? s.heap.objs.size = some { cls := .type "set", dict := none, data := .set #[] 0 (.fresh 0 0 led) } := Heap.get?_push_size _ rfl
      have hT : Shared.TypeIs { s with heap := s.heap.push { cls := .type "set", dict := none, data := .set #[] 0 (.fresh 0 0 led) } } (.ref s.heap.objs.size) "set" := ⟨_, hS, rfl⟩
      have hli := F.called_set.init.lookup
      have hbi := F.called_set.init.bind (.ref s.heap.objs.size)
      repeat (any_goals (first | assumption | wp_step))
      refine codeAny_mono (codeAny_call_builtin (R := wants (fun r s₂ => r = .none ∧ ∃ h' tk, s₂ = { s with heap := h', toks := tk } ∧
          SetS prog w h' s.heap.objs.size (dd ss) ∧ (∀ b o, b < s.heap.objs.size → s.heap.get? b = some o → h'.get? b = some o)) E) F.called_set.init.plain F.entry_set_init (check_set_init_1 hT ?_)) fun r₂ s₂ hr₂ => ?_
      · obtain ⟨ol, hol, hcl, nl, hdl⟩ := hl
        obtain ⟨ocls, odict, odata, oslots⟩ := ol
        simp only at hcl hdl
        subst hcl; subst hdl
        have hol' : (s.heap.push { cls := .type "set", dict := none, data := .set #[] 0 (.fresh 0 0 led) }).get? l = some { cls := .type "list", dict := odict, data := .seq items nl, slots := oslots } := Heap.get?_push_of_some _ hol
        have hsls := F.sub_list_set
        have hslf := F.sub_list_frozenset
        have hne : (Value.type "list" == Value.type "dict") = false := by decide
        have hl1 : (s.heap.push { cls := .type "set", dict := none, data := .set #[] 0 (.fresh 0 0 led) }).IsList l items := ⟨_, hol', rfl, nl, rfl⟩
        unfold Builtin.«set.__init__» noKeywords Builtin.Frozenset.updateFrom
        generalize hPI : pyIter = PI
        wp_walk
        subst hPI
        refine wpAny_pyIter_list hl1 ?_
        refine wpAny_bind (wpAny_runValue ?_)
        have hlS : l < s.heap.objs.size := Heap.lt_size hol
        have hh3 : A.in1.in1.in1.handled = none := by simp [hh]
        have hneI : l ≠ (s.heap.push { cls := .type "set", dict := none, data := .set #[] 0 (.fresh 0 0 led) }).objs.size := by
          rw [Heap.size_push]; exact Nat.ne_of_lt (Nat.lt_succ_of_lt hlS)
        have hSf : s.heap.objs.size ∉ [(s.heap.push { cls := .type "set", dict := none, data := .set #[] 0 (.fresh 0 0 led) }).objs.size, l] := by
          rw [Heap.size_push]; simp only [List.mem_cons, List.mem_singleton, List.not_mem_nil, or_false, not_or]
          exact ⟨Nat.ne_of_lt (Nat.lt_succ_self _), Nat.ne_of_gt hlS⟩
        have WW := (Walks.list (prog := prog) (w := w) hh3 _ l hneI items).toS
        rw [hsz] at WW
        refine set_updateS (ss := ss) WW s.heap.objs.size
          hSf (fun i v hv => strs_at hi i v (by rw [Array.getElem?_toList]; exact hv)) hb (ss.length - 0) 0 _ (by omega) (Nat.zero_le _)
          ⟨⟨_, Heap.get?_push_size _ rfl, rfl, rfl⟩, (hl1.push _)⟩ ?hS0 ?hR
        case hS0 =>
          have hget : ((s.heap.push { cls := .type "set", dict := none, data := .set #[] 0 (.fresh 0 0 led) }).push { cls := .type "list_iterator", data := .fields #[.ref l, .int 0 0] }).get? s.heap.objs.size
              = some { cls := .type "set", dict := none, data := .set #[] 0 (.fresh 0 0 led) } := Heap.get?_push_of_some _ hS
          exact ⟨_, #[], 0, _, hget, ⟨rfl, rfl, rfl⟩, rfl, fun e he => by simp at he, List.Perm.refl _, by decide, by rfl, hled.symm, fun h => absurd rfl h⟩
        case hR =>
          intro s' hm hS'
          obtain ⟨h', g', d', tk', os'⟩ := s'
          have eg : g' = s.gens := hm.gens
          have ed : d' = s.drawn := hm.drawn
          have eo : os' = s.os := hm.os
          subst eg; subst ed; subst eo
          show wpAny _ _ _ _ _ _
          refine wpAny_pure ?_
          show wpAny _ _ (ret Value.none) _ _ _
          refine wpAny_pure ⟨rfl, h', tk', rfl, hS', fun b o hb e => ?_⟩
          have hb1 : b ≠ s.heap.objs.size := Nat.ne_of_lt hb
          have hb2 : b ≠ (s.heap.push { cls := .type "set", dict := none, data := .set #[] 0 (.fresh 0 0 led) }).objs.size := by
            rw [Heap.size_push]; exact Nat.ne_of_lt (Nat.lt_succ_of_lt hb)
          exact hm.heap b o (by simp only [List.mem_cons, List.mem_singleton, List.not_mem_nil, or_false, not_or]; exact ⟨hb1, hb2⟩) (Heap.get?_push_of_some _ (Heap.get?_push_of_some _ e))
      · cases r₂ with
        | error e => exact hr₂
        | ok fl₂ =>
          cases fl₂ with
          | ret r =>
            obtain ⟨rfl, h', tk, rfl, hS', hk'⟩ := hr₂
            repeat (any_goals (first | assumption | wp_step))
            exact h _ _ hS' hk'
          | _ => exact hr₂.elim
    | _ => exact hr.elim
end
end
section
open PySem PySem.W PySem.Calls PyProof.Rows PySem.SeqAt PySem.Spec
set_option autoImplicit false
set_option linter.unusedVariables false
set_option maxRecDepth 100000
theorem slot_si_next : Slot "set_iterator" "__next__" "set_iterator.__next__" :=
  .of (owner := "set_iterator") (n := "__next__") (by rw [typeLookup_type, builtinLookup_eq_fast]; kernel_rfl) (by decide +kernel) (by decide +kernel) (by decide +kernel)
    (by first | exact .inl (by decide +kernel) | exact .inr (by decide +kernel)) (by rw [isSubtype_type]; kernel_rfl)
theorem slot_si_iter : Slot "set_iterator" "__iter__" "set_iterator.__iter__" :=
  .of (owner := "set_iterator") (n := "__iter__") (by rw [typeLookup_type, builtinLookup_eq_fast]; kernel_rfl) (by decide +kernel) (by decide +kernel) (by decide +kernel)
    (by first | exact .inl (by decide +kernel) | exact .inr (by decide +kernel)) (by rw [isSubtype_type]; kernel_rfl)
theorem owner_si : Manifest.owners.lookup (String.ofList ['r', 'o', 't', 'a', 'r', 'e', 't', 'i', '_', 't', 'e', 's'].reverse) = some Manifest.sig_set_iterator := by kernel_rfl
theorem entry_si_next : entryFor table "set_iterator.__next__" = some Builtin.«set_iterator.__next__» := entryFor_of_tree (by kernel_rfl)
theorem args_si_next (a : Value) : argsOk "set_iterator.__next__" ⟨[a], []⟩ := by
  unfold argsOk; rw [signature?_of (id := "set_iterator.__next__") (n := ['_', '_', 't', 'x', 'e', 'n', '_', '_']) (o := ['r', 'o', 't', 'a', 'r', 'e', 't', 'i', '_', 't', 'e', 's']) (by kernel_rfl) owner_si]; kernel_rfl
theorem args_si_iter (a : Value) : argsOk "set_iterator.__iter__" ⟨[a], []⟩ := by
  unfold argsOk; rw [signature?_of (id := "set_iterator.__iter__") (n := ['_', '_', 'r', 'e', 't', 'i', '_', '_']) (o := ['r', 'o', 't', 'a', 'r', 'e', 't', 'i', '_', 't', 'e', 's']) (by kernel_rfl) owner_si]; kernel_rfl
theorem entry_si_iter : entryFor table "set_iterator.__iter__" = some Builtin.«dict_keyiterator.__iter__» :=
  entryFor_alias (id' := "dict_keyiterator.__iter__") (by kernel_rfl) rfl (by decide +kernel) (by kernel_rfl)
theorem entry_set_iter : entryFor table "set.__iter__" = some Builtin.«frozenset.__iter__» :=
  entryFor_alias (id' := "frozenset.__iter__") (by kernel_rfl) rfl (by decide +kernel) (by kernel_rfl)
theorem si_no_len : typeLookup (.type "set_iterator") "__len__" = pure none := by rw [typeLookup_type, builtinLookup_eq_fast]; kernel_rfl
theorem si_hint : typeLookup (.type "set_iterator") "__length_hint__" = pure (some (.builtin "set_iterator.__length_hint__")) := by rw [typeLookup_type, builtinLookup_eq_fast]; kernel_rfl
theorem sub_si : isSubtype (.type "set_iterator") (.type "set_iterator") = pure true := by rw [isSubtype_type]; kernel_rfl
theorem cons_erase {α : Type} : ∀ {l : List α} {i : Nat} (h : i < l.length), (l[i] :: l.eraseIdx i).Perm l
  | [], i, h => by simp at h
  | x :: r, 0, h => .refl _
  | x :: r, i + 1, h => by
    show ((x :: r)[i + 1] :: x :: r.eraseIdx i).Perm (x :: r)
    exact (List.Perm.swap x _ _).trans ((cons_erase (l := r) (i := i) (by simpa using h)).cons x)
theorem pick_perm {α : Type} (next : Nat → Nat) : ∀ (fuel k : Nat) (left : List α) (out : Array α), left.length = fuel → (pickOrder.go next fuel k left out).toList.Perm (out.toList ++ left)
  | 0, k, left, out, h => by
    have : left = [] := List.length_eq_zero_iff.mp h
    subst this
    unfold pickOrder.go
    simp
  | fuel + 1, k, left, out, h => by
    unfold pickOrder.go
    have hlt : next k % left.length < left.length := Nat.mod_lt _ (by omega)
    rw [List.getElem?_eq_getElem hlt]
    dsimp only
    refine (pick_perm next fuel (k + 1) (left.eraseIdx (next k % left.length)) (out.push left[next k % left.length]) ?_).trans ?_
    · rw [List.length_eraseIdx_of_lt hlt]; omega
    · rw [Array.toList_push, List.append_assoc]
      exact List.Perm.append_left _ (cons_erase hlt)
theorem pickOrder_perm {α : Type} (next : Nat → Nat) (xs : Array α) : (pickOrder next xs).toList.Perm xs.toList := by
  have := pick_perm next xs.size 0 xs.toList #[] (by simp)
  simpa [pickOrder] using this
section
variable {prog : Program} {w : World} {A : Around} {E : Value → Shared → Prop} {s : Shared}
theorem wpAny_choose {n : Nat} {Q : Nat → Shared → Prop} (hn : n ≠ 0) (h : ∀ i d, i < n → Q i { s with drawn := d }) : wpAny (model prog w) A (choose .order n) Q E s := by
  intro Γ p hΓ
  exact ⟨hn, h _ _ (Nat.mod_lt _ (Nat.pos_of_ne_zero hn))⟩
theorem draw_perm {α : Type} : ∀ (n : Nat) (xs : List α) (s : Shared) (Q : List α → Shared → Prop), xs.length = n → (∀ l d, l.Perm xs → Q l { s with drawn := d }) → wpAny (model prog w) A (drawOrder n xs) Q E s
  | 0, xs, s, Q, h, hQ => by
    have : xs = [] := List.length_eq_zero_iff.mp h
    subst this
    unfold drawOrder
    exact wpAny_pure (hQ [] s.drawn (.refl _))
  | n + 1, xs, s, Q, h, hQ => by
    obtain ⟨x, r, rfl⟩ : ∃ x r, xs = x :: r := by
      cases xs with
      | nil => simp at h
      | cons x r => exact ⟨x, r, rfl⟩
    unfold drawOrder
    refine wpAny_bind (wpAny_choose (by simp) fun i d hi => ?_)
    rw [List.getElem?_eq_getElem hi]
    dsimp only
    refine wpAny_bind (draw_perm n ((x :: r).eraseIdx i) _ _ (by rw [List.length_eraseIdx_of_lt hi]; omega) fun l d' hl => wpAny_pure (hQ _ d' ?_))
    exact (List.Perm.cons _ hl).trans (cons_erase hi)
end
end
section
open PySem PySem.W PySem.Calls PyProof.Rows PySem.SeqAt PySem.Spec
set_option autoImplicit false
set_option linter.unusedVariables false
set_option maxRecDepth 100000
noncomputable def IsSI (h : Heap) (I : Addr) (first : Value) (i : Nat) (a : Addr) (n ep : Nat) : Prop :=
  ∃ o, h.get? I = some o ∧ o.cls = .type "set_iterator" ∧ o.data = .fields #[first, .int i 0, .ref a, .int n 0, .int ep 0]
theorem IsSI.typeIs {s : Shared} {I : Addr} {first : Value} {i : Nat} {a : Addr} {n ep : Nat} (x : IsSI s.heap I first i a n ep) : s.TypeIs (.ref I) "set_iterator" := let ⟨o, ho, hc, _⟩ := x; ⟨o, ho, hc⟩
theorem IsSI.at_ {h h' : Heap} {I : Addr} {first : Value} {i : Nat} {a : Addr} {n ep : Nat} (x : IsSI h I first i a n ep) (e : ∀ o, h.get? I = some o → h'.get? I = some o) : IsSI h' I first i a n ep := let ⟨o, ho, r⟩ := x; ⟨o, e _ ho, r⟩
section
variable {prog : Program} {w : World} {A : Around} {E : Value → Shared → Prop} {s : Shared}
theorem next_tup {I a T : Addr} {i ep : Nat} {places : List Nat} {p : Nat} {es : Array (Int × Value)} {t : SetTable} {o oT : Obj} {e : Int × Value} {k : Nat} {Q : Option Value → Shared → Prop}
    (hit : IsSI s.heap I (.ref T) i a es.size ep) (hT : s.heap.get? T = some oT) (hTd : oT.data = .seq (places.map fun (i : Nat) => rawInt i).toArray k)
    (ho : s.heap.get? a = some o) (hd : o.data = .set es ep t) (hf : t.fits es.size = true) (hp : places[i]? = some p) (hx : es[p]? = some e)
    (hQ : ∀ h', IsSI h' I (.ref T) (i + 1) a es.size ep → Heap.SameBut I s.heap h' → Q (some e.2) { s with heap := h' }) : wpAny (model prog w) A (pyNext (.ref I)) Q E s := by
  obtain ⟨oI, hoI, hcI, hdI⟩ := id hit
  unfold pyNext
  refine wpAny_bind (wpAny_attempt (wpAny_callSpecial?_slot (name := Str.ofString "__next__") hit.typeIs slot_si_next
    (wpAny_call_entry slot_si_next hit.typeIs entry_si_next ?_ (args_si_next _))))
  unfold Builtin.«set_iterator.__next__» slotArgs
  simp only [List.isEmpty_nil, Bool.not_true, Bool.false_eq_true, ↓reduceIte, List.length_nil, bne_self_eq_false, bind_assoc, pure_bind]
  refine wpAny_bind (wpAny_fieldsOf hoI hdI ?_)
  dsimp only
  refine wpAny_bind (wpAny_setEntries_of ho hd hf ?_)
  rw [if_neg (by simp)]
  refine wpAny_bind ?_
  unfold seqItems?
  refine wpAny_bind (wpAny_load hT ?_)
  rw [hTd]
  refine wpAny_pure ?_
  dsimp only
  have h1 : ((places.map fun (i : Nat) => rawInt i).toArray)[(i : Int).toNat]? = some (rawInt p) := by
    simp [hp]
  rw [h1]
  dsimp only [rawInt]
  unfold setNextDrawn
  refine wpAny_bind (wpAny_bind (wpAny_setState_of ho hd hf ?_))
  dsimp only
  rw [if_neg (by simp), show ((p : Int)).toNat = p from Int.toNat_natCast p, hx]
  refine wpAny_pure ?_
  refine wpAny_bind (wpAny_setField hoI hdI (by simp) ?_)
  have hit' : IsSI (s.heap.update I (Obj.mapFields (·.setIfInBounds 1 (.int ((i : Int) + 1) 0)))) I (.ref T) (i + 1) a es.size ep :=
    ⟨_, Heap.get?_update_self _ hoI (Obj.isFreed_of_fields (Obj.data_mapFields hdI _)), (Obj.cls_mapFields ..).trans hcI, by rw [Obj.data_mapFields hdI]; simp⟩
  exact wpAny_pure ⟨_, rfl, wpAny_pure (hQ _ hit' (Heap.SameBut.update ..))⟩
/-- the end of a walk: the exception that is caught at once -/
theorem stop_end {Q : Option Value → Shared → Prop} (hh : A.handled = none) (hQ : ∀ h', (∀ b o, s.heap.get? b = some o → h'.get? b = some o) → Q none { s with heap := h' }) :
    wpAny (model prog w) A.in1 (newExc (.type "StopIteration") [] >>= fun x => (raiseNew x : Sem Fin)) (fun fin s' => ∃ v, fin = Fin.done (Flow.ret v) ∧ wpAny (model prog w) A (pure (some v)) Q E s')
    (fun e s' => wpAny (model prog w) A (do
          let __do_lift ← isInstance e (Value.type "StopIteration")
          if __do_lift = true then pure none else throw e) Q E s') s := by
  refine wpAny_bind ?_
  simp only [newExc, newTuple]
  refine wpAny_bind (wpAny_newObj_type ?_ (by size_fits))
  refine wpAny_bind (m := firstArgMember _ _) (wpAny_of_eq (a := Value.none) (by first | rfl | (simp only [firstArgMember]; rfl)) ?_)
  refine wpAny_newObj_type ?_ (by size_fits)
  simp only [raiseNew]
  refine wpAny_bind (wpAny_handled ?_)
  rw [show A.in1.handled = none from hh]
  refine wpAny_bind (wpAny_pure (wpAny_throw ?_))
  refine wpAny_bind (wpAny_isInstance (T := "StopIteration") (b := true) ⟨_, Heap.get?_push_size _ rfl, rfl⟩ isSubtype_stop ?_)
  rw [if_pos rfl]
  refine wpAny_pure (hQ _ fun b o e => ?_)
  exact Heap.get?_push_of_some _ (Heap.get?_push_of_some _ e)
theorem end_tup {I a T : Addr} {ep : Nat} {places : List Nat} {es : Array (Int × Value)} {t : SetTable} {o oT : Obj} {k : Nat} {Q : Option Value → Shared → Prop} (hh : A.handled = none)
    (hit : IsSI s.heap I (.ref T) places.length a es.size ep) (hT : s.heap.get? T = some oT) (hTd : oT.data = .seq (places.map fun (i : Nat) => rawInt i).toArray k)
    (ho : s.heap.get? a = some o) (hd : o.data = .set es ep t) (hf : t.fits es.size = true)
    (hQ : ∀ h', Heap.ExtBut I s.heap h' → Q none { s with heap := h' }) : wpAny (model prog w) A (pyNext (.ref I)) Q E s := by
  obtain ⟨oI, hoI, hcI, hdI⟩ := id hit
  unfold pyNext
  refine wpAny_bind (wpAny_attempt (wpAny_callSpecial?_slot (name := Str.ofString "__next__") hit.typeIs slot_si_next
    (wpAny_call_entry slot_si_next hit.typeIs entry_si_next ?_ (args_si_next _))))
  unfold Builtin.«set_iterator.__next__» slotArgs
  simp only [List.isEmpty_nil, Bool.not_true, Bool.false_eq_true, ↓reduceIte, List.length_nil, bne_self_eq_false, pure_bind]
  refine wpAny_bind (wpAny_fieldsOf hoI hdI ?_)
  dsimp only
  refine wpAny_bind (wpAny_setEntries_of ho hd hf ?_)
  rw [if_neg (by simp)]
  refine wpAny_bind ?_
  unfold seqItems?
  refine wpAny_bind (wpAny_load hT ?_)
  rw [hTd]
  refine wpAny_pure ?_
  dsimp only
  have h1 : ((places.map fun (i : Nat) => rawInt i).toArray)[((places.length : Nat) : Int).toNat]? = none := by
    simp
  rw [h1]
  dsimp only [rawInt]
  refine wpAny_bind (wpAny_setField hoI hdI (by simp) ?_)
  have hI1 := Heap.get?_update_self (Obj.mapFields (·.setIfInBounds 0 (.int 0 0))) hoI (Obj.isFreed_of_fields (Obj.data_mapFields hdI _))
  refine wpAny_bind (wpAny_setField hI1 (Obj.data_mapFields hdI _) (by simp) ?_)
  refine stop_end (s := { s with heap := (s.heap.update I (Obj.mapFields (·.setIfInBounds 0 (.int 0 0)))).update I (Obj.mapFields (·.setIfInBounds 2 .none)) }) hh fun h' hk => hQ h' fun b o hb e => hk b o ?_
  exact (Heap.get?_update_other _ _ (Ne.symm hb)).trans ((Heap.get?_update_other _ _ (Ne.symm hb)).trans e)
/-- a turn by slots -/
theorem next_slot {I a : Addr} {i slot slot' ep : Nat} {es : Array (Int × Value)} {t : SetTable} {o : Obj} {x : Value} {Q : Option Value → Shared → Prop}
    (hit : IsSI s.heap I (.int slot 0) i a es.size ep) (ho : s.heap.get? a = some o) (hd : o.data = .set es ep t) (hf : t.fits es.size = true)
    (hn : ∀ (Q : Option (Value × Nat) → Shared → Prop) (E : Value → Shared → Prop), Q (some (x, slot')) s → wpAny (model prog w) A.in1 (setNext a slot i ep) Q E s)
    (hQ : ∀ h', IsSI h' I (.int slot' 0) (i + 1) a es.size ep → Heap.SameBut I s.heap h' → Q (some x) { s with heap := h' }) : wpAny (model prog w) A (pyNext (.ref I)) Q E s := by
  obtain ⟨oI, hoI, hcI, hdI⟩ := id hit
  unfold pyNext
  refine wpAny_bind (wpAny_attempt (wpAny_callSpecial?_slot (name := Str.ofString "__next__") hit.typeIs slot_si_next
    (wpAny_call_entry slot_si_next hit.typeIs entry_si_next ?_ (args_si_next _))))
  unfold Builtin.«set_iterator.__next__» slotArgs
  simp only [List.isEmpty_nil, Bool.not_true, Bool.false_eq_true, ↓reduceIte, List.length_nil, bne_self_eq_false, pure_bind]
  refine wpAny_bind (wpAny_fieldsOf hoI hdI ?_)
  dsimp only
  refine wpAny_bind (wpAny_setEntries_of ho hd hf ?_)
  rw [if_neg (by simp)]
  simp only [Int.toNat_natCast]
  refine wpAny_bind (hn _ _ ?_)
  dsimp only [rawInt]
  refine wpAny_bind (wpAny_setField hoI hdI (by simp) ?_)
  have hI1 := Heap.get?_update_self (Obj.mapFields (·.setIfInBounds 0 (.int (slot' : Int) 0))) hoI (Obj.isFreed_of_fields (Obj.data_mapFields hdI _))
  refine wpAny_bind (wpAny_setField hI1 (Obj.data_mapFields hdI _) (by simp) ?_)
  have hI2 := Heap.get?_update_self (Obj.mapFields (·.setIfInBounds 1 (.int ((i : Int) + 1) 0))) hI1 (Obj.isFreed_of_fields (Obj.data_mapFields (Obj.data_mapFields hdI _) _))
  have hit' : IsSI ((s.heap.update I (Obj.mapFields (·.setIfInBounds 0 (.int (slot' : Int) 0)))).update I (Obj.mapFields (·.setIfInBounds 1 (.int ((i : Int) + 1) 0)))) I (.int slot' 0) (i + 1) a es.size ep :=
    ⟨_, hI2, (Obj.cls_mapFields ..).trans ((Obj.cls_mapFields ..).trans hcI), by rw [Obj.data_mapFields (Obj.data_mapFields hdI _)]; simp⟩
  exact wpAny_pure ⟨_, rfl, wpAny_pure (hQ _ hit' ((Heap.SameBut.update ..).trans (Heap.SameBut.update ..)))⟩
theorem end_slot {I a : Addr} {i slot ep : Nat} {es : Array (Int × Value)} {t : SetTable} {o : Obj} {Q : Option Value → Shared → Prop} (hh : A.handled = none)
    (hit : IsSI s.heap I (.int slot 0) i a es.size ep) (ho : s.heap.get? a = some o) (hd : o.data = .set es ep t) (hf : t.fits es.size = true)
    (hn : ∀ (Q : Option (Value × Nat) → Shared → Prop) (E : Value → Shared → Prop), Q none s → wpAny (model prog w) A.in1 (setNext a slot i ep) Q E s)
    (hQ : ∀ h', Heap.ExtBut I s.heap h' → Q none { s with heap := h' }) : wpAny (model prog w) A (pyNext (.ref I)) Q E s := by
  obtain ⟨oI, hoI, hcI, hdI⟩ := id hit
  unfold pyNext
  refine wpAny_bind (wpAny_attempt (wpAny_callSpecial?_slot (name := Str.ofString "__next__") hit.typeIs slot_si_next
    (wpAny_call_entry slot_si_next hit.typeIs entry_si_next ?_ (args_si_next _))))
  unfold Builtin.«set_iterator.__next__» slotArgs
  simp only [List.isEmpty_nil, Bool.not_true, Bool.false_eq_true, ↓reduceIte, List.length_nil, bne_self_eq_false, pure_bind]
  refine wpAny_bind (wpAny_fieldsOf hoI hdI ?_)
  dsimp only
  refine wpAny_bind (wpAny_setEntries_of ho hd hf ?_)
  rw [if_neg (by simp)]
  simp only [Int.toNat_natCast]
  refine wpAny_bind (hn _ _ ?_)
  dsimp only [rawInt]
  refine wpAny_bind (wpAny_setField hoI hdI (by simp) ?_)
  refine stop_end (s := { s with heap := s.heap.update I (Obj.mapFields (·.setIfInBounds 2 .none)) }) hh fun h' hk => hQ h' fun b o hb e => hk b o ?_
  exact (Heap.get?_update_other _ _ (Ne.symm hb)).trans e
end
end
section
open PySem PySem.W PySem.Calls PyProof.Rows PySem.SeqAt PySem.Spec
set_option autoImplicit false
set_option linter.unusedVariables false
set_option maxRecDepth 100000
section
variable {prog : Program} {w : World} {A : Around} {E : Value → Shared → Prop} {s : Shared}
theorem wpAny_byText {Q : Bool → Shared → Prop} (h : Q (w.params.followText "set-order") s) : wpAny (model prog w) A setsByText Q E s := by
  unfold setsByText
  exact wpAny_bind (wpAny_askSetting (wpAny_pure h))
theorem next_text {a : Addr} {es : Array (Int × Value)} {ep : Nat} {t : SetTable} {o : Obj} {slot i : Nat} (ho : s.heap.get? a = some o) (hd : o.data = .set es ep t) (hf : t.fits es.size = true) (hb : w.params.followText "set-order" = true)
    {Q : Option (Value × Nat) → Shared → Prop} (h : Q (((pickOrder (w.params.setOrder a ep) es)[i]?).map fun e => (e.2, slot)) s) : wpAny (model prog w) A (setNext a slot i ep) Q E s := by
  unfold setNext
  refine wpAny_bind (wpAny_setState_of ho hd hf ?_)
  dsimp only
  refine wpAny_bind (wpAny_byText ?_)
  rw [hb, if_pos rfl, if_neg (by simp)]
  refine wpAny_bind ?_
  unfold setWalk
  refine wpAny_bind (wpAny_setState_of ho hd hf ?_)
  dsimp only
  refine wpAny_bind (wpAny_byText ?_)
  rw [hb, if_pos rfl]
  exact wpAny_bind (wpAny_askSetting (wpAny_pure (wpAny_pure h)))
theorem next_few {a : Addr} {es : Array (Int × Value)} {ep : Nat} {t : SetTable} {o : Obj} {slot i : Nat} (ho : s.heap.get? a = some o) (hd : o.data = .set es ep t) (hf : t.fits es.size = true) (hb : w.params.followText "set-order" = false) (hl : t.led = true) (hs : es.size ≤ 1)
    {Q : Option (Value × Nat) → Shared → Prop} (h : Q (match es[SetTable.below t.place slot]?, t.place[SetTable.below t.place slot]? with | some e, some j => some (e.2, j + 1) | _, _ => none) s) : wpAny (model prog w) A (setNext a slot i ep) Q E s := by
  unfold setNext
  refine wpAny_bind (wpAny_setState_of ho hd hf ?_)
  dsimp only
  refine wpAny_bind (wpAny_byText ?_)
  rw [hb, if_neg (by decide), if_neg]
  · refine wpAny_bind ?_
    show wpAny _ _ (if (!t.led && !es.isEmpty) = true then _ else pure ()) _ _ _
    rw [if_neg (by rw [hl]; simp)]
    refine wpAny_pure (wpAny_pure ?_)
    revert h
    cases es[SetTable.below t.place slot]? with
    | none => exact fun h => h
    | some e =>
      obtain ⟨e1, e2⟩ := e
      cases t.place[SetTable.below t.place slot]? with
      | none => exact fun h => h
      | some j => exact fun h => h
  · intro h'
    have h'' : (!t.plain && decide (es.size > 1)) = true := h'
    simp only [Bool.and_eq_true, decide_eq_true_eq] at h''
    omega
theorem setDrawn_at {a : Addr} {es : Array (Int × Value)} {ep : Nat} {t : SetTable} {o : Obj} (ho : s.heap.get? a = some o) (hd : o.data = .set es ep t) (hf : t.fits es.size = true)
    {Q : Bool → Shared → Prop} (h : Q (!w.params.followText "set-order" && (!t.plain && decide (es.size > 1))) s) : wpAny (model prog w) A (setDrawn a) Q E s := by
  unfold setDrawn
  refine wpAny_bind (wpAny_setState_of ho hd hf ?_)
  dsimp only
  refine wpAny_bind (wpAny_byText ?_)
  exact wpAny_pure h
theorem texts_are {es : List (Int × Value)} (h : ElemsOf (PySem.strKind prog w) es) : StrsAre (es.map (·.2)) (textsOf es) := by
  induction es with
  | nil => exact .nil
  | cons e r ih =>
    obtain ⟨⟨k, hk, _⟩, _⟩ := h.head
    obtain ⟨t, ht⟩ := is_str.mp hk
    have := ih h.tail
    show StrsAre (e.2 :: r.map (·.2)) (strOf e.2 :: textsOf r)
    rw [ht]
    exact .cons k t this
/-- what a walk over a set gives -/
structure SetWalk (prog : Program) (w : World) (I : Addr) (l : List Str) (fp : List Addr) (vs : List Value) (ss : List Str) (St : Nat → Heap → Prop) : Prop where
  txt : StrsAre vs ss
  perm : ss.Perm l
  mem : I ∈ fp
  walks : ∀ A' : Around, A'.handled = none → Walks prog w A' I fp [I] vs.length (fun i v => vs[i]? = some v) St
  type : ∀ i (s : Shared), St i s.heap → s.TypeIs (.ref I) "set_iterator"
theorem strsAre_perm {es es' : List (Int × Value)} (h : ElemsOf (PySem.strKind prog w) es) (p : es'.Perm es) : StrsAre (es'.map (·.2)) (textsOf es') ∧ (textsOf es').Perm (textsOf es) :=
  ⟨texts_are (h.perm p), p.map _⟩
theorem self_si {I a : Addr} {first : Value} {i n ep : Nat} {Q : Value → Shared → Prop} (hit : IsSI s.heap I first i a n ep) (h : Q (.ref I) s) : wpAny (model prog w) A (pyIter (.ref I)) Q E s := by
  refine wpAny_pyIter_slot hit.typeIs slot_si_iter (wpAny_call_entry slot_si_iter hit.typeIs entry_si_iter ?_ (args_si_iter _))
  show wpAny _ _ (ret (.ref I)) _ _ s
  exact wpAny_pure ⟨_, rfl, "set_iterator", _, hit.typeIs, slot_si_next.lookup, h⟩
theorem below_one (j : Nat) : SetTable.below #[j] 0 = 0 ∧ SetTable.below #[j] (j + 1) = 1 := by
  constructor
  · simp [SetTable.below, SetTable.below.go]
  · simp [SetTable.below, SetTable.below.go]
theorem range_get (es : Array (Int × Value)) : ((List.range es.size).map fun p => es[p]?.getD (0, .none)) = es.toList := by
  apply List.ext_getElem
  · simp
  · intro i h1 h2
    simp at h1
    simp [h1]
theorem iter_setS {a : Addr} {l : List Str} {Q : Value → Shared → Prop} (hS : SetS prog w s.heap a l)
    (h : ∀ (I : Addr) (h' : Heap) (d : Drawn) (vs : List Value) (ss : List Str) (fp : List Addr) (St : Nat → Heap → Prop), SetWalk prog w I l fp vs ss St → St 0 h' → (∀ b o, s.heap.get? b = some o → h'.get? b = some o) → (∀ b ∈ fp, b = a ∨ s.heap.objs.size ≤ b) → s.heap.objs.size ≤ I → Q (.ref I) { s with heap := h', drawn := d }) :
    wpAny (model prog w) A (pyIter (.ref a)) Q E s := by
  obtain ⟨o, es, ep, t, ho, hO⟩ := hS
  have hT : s.TypeIs (.ref a) "set" := ⟨o, ho, hO.ex.1⟩
  have hlt := Heap.lt_size ho
  refine wpAny_pyIter_slot hT F.slot_set_iter (wpAny_call_entry F.slot_set_iter hT entry_set_iter ?_ (F.args_set_iter_1 _))
  unfold Builtin.«frozenset.__iter__» Builtin.Frozenset.slot0 slotArgs
  simp only [List.isEmpty_nil, Bool.not_true, Bool.false_eq_true, ↓reduceIte, List.length_nil, bne_self_eq_false, pure_bind]
  unfold Builtin.Frozenset.addrOf Builtin.Frozenset.sizeOf
  refine wpAny_bind (wpAny_pure ?_)
  refine wpAny_bind (wpAny_bind (wpAny_setEntries_of ho hO.data hO.fits (wpAny_pure ?_)))
  refine wpAny_bind (setDrawn_at ho hO.data hO.fits ?_)
  have hpl : (!t.plain && decide (es.size > 1)) = decide (es.size > 1) := by
    by_cases hz : es.size > 1
    · rw [hO.plain (by omega)]; rfl
    · simp [hz]
  rw [hpl]
  by_cases hby : w.params.followText "set-order" = true
  · -- the order that the text tells
    rw [hby]
    simp only [Bool.not_true, Bool.false_and, Bool.false_eq_true, if_false]
    unfold setEpoch
    refine wpAny_bind (wpAny_bind (wpAny_setState_of ho hO.data hO.fits (wpAny_pure ?_)))
    unfold newFields
    refine wpAny_bind (wpAny_newObj_type ?_)
    have hp := pickOrder_perm (w.params.setOrder a ep) es
    have hv := strsAre_perm hO.el hp
    have hsz : (pickOrder (w.params.setOrder a ep) es).size = es.size := by rw [← Array.length_toList, hp.length_eq, Array.length_toList]
    have hit : IsSI (s.heap.push { cls := .type "set_iterator", data := .fields #[rawInt 0, rawInt 0, .ref a, rawInt es.size, rawInt ep] }) s.heap.objs.size (.int ((0 : Nat) : Int) 0) 0 a es.size ep := ⟨_, Heap.get?_push_size _ rfl, rfl, rfl⟩
    have key := h s.heap.objs.size (s.heap.push { cls := .type "set_iterator", data := .fields #[rawInt 0, rawInt 0, .ref a, rawInt es.size, rawInt ep] }) s.drawn _ _ [s.heap.objs.size, a] (fun i h => IsSI h s.heap.objs.size (.int ((0 : Nat) : Int) 0) i a es.size ep ∧ h.get? a = some o)
      ⟨hv.1, hv.2.trans hO.tx, by simp, fun A' hA' => ⟨by simp, fun i h h' st hk => ⟨st.1.at_ fun o e => hk _ (by simp) o e, hk _ (by simp) _ st.2⟩, fun i s' Q E hi st hQ => ?_, fun s' Q E st hQ => ?_, fun i s' Q E st hQ => self_si st.1 hQ⟩, fun i s' st => st.1.typeIs⟩ ⟨hit, Heap.get?_push_of_some _ ho⟩ (fun b o e => Heap.get?_push_of_some _ e) ?_ (Nat.le_refl _)
    · exact wpAny_pure ⟨_, rfl, "set_iterator", _, hit.typeIs (s := { s with heap := _ }), slot_si_next.lookup, key⟩
    · simp only [List.length_map, Array.length_toList, hsz] at hi
      have hx : (pickOrder (w.params.setOrder a ep) es)[i]? = some (pickOrder (w.params.setOrder a ep) es)[i] := by simp [hsz, hi]
      refine next_slot (slot' := 0) st.1 st.2 hO.data hO.fits (fun Q E q => next_text st.2 hO.data hO.fits hby (by rw [hx]; exact q)) fun h' hit' hs' => ?_
      refine hQ _ h' s'.toks (by simp [hsz, hi]) ⟨hit', hs'.extBut _ _ (Nat.ne_of_lt hlt) st.2⟩ fun b o hb e => hs'.extBut b o (by simpa using hb) e
    · have hx : (pickOrder (w.params.setOrder a ep) es)[es.size]? = none := by simp [hsz]
      simp only [List.length_map, Array.length_toList, hsz] at st
      refine end_slot hA' st.1 st.2 hO.data hO.fits (fun Q E q => next_text st.2 hO.data hO.fits hby (by rw [hx]; exact q)) fun h' he' => hQ h' s'.toks fun b o hb e => he' b o (by simpa using hb) e
    · intro b hb
      simp only [List.mem_cons, List.not_mem_nil, or_false] at hb
      rcases hb with rfl | rfl
      · exact .inr (Nat.le_refl _)
      · exact .inl rfl
  · have hby' : w.params.followText "set-order" = false := by simpa using hby
    rw [hby']
    simp only [Bool.not_false, Bool.true_and, decide_eq_true_eq]
    by_cases hz : es.size > 1
    · -- a drawn order
      rw [if_pos hz]
      refine wpAny_bind (draw_perm es.size (List.range es.size) _ _ (List.length_range) fun pl d hpl' => ?_)
      unfold newTuple
      refine wpAny_bind (wpAny_newObj_type ?_ (by show (List.toArray _).size ≤ _; rw [List.size_toArray, List.length_map, hpl'.length_eq, List.length_range]; exact fits_of_scanBound hO.room))
      dsimp only
      have hoT : (s.heap.push { cls := .type "tuple", data := .seq (pl.map fun (i : Nat) => rawInt i).toArray }).get? s.heap.objs.size = some { cls := .type "tuple", data := .seq (pl.map fun (i : Nat) => rawInt i).toArray } := Heap.get?_push_size _ rfl
      generalize hH1 : s.heap.push { cls := .type "tuple", data := .seq (pl.map fun (i : Nat) => rawInt i).toArray } = H1 at hoT
      have z1 : H1.objs.size = s.heap.objs.size + 1 := by rw [← hH1, Heap.size_push]
      have k1 : ∀ b o, s.heap.get? b = some o → H1.get? b = some o := fun b o e => hH1 ▸ Heap.get?_push_of_some _ e
      unfold setEpoch
      refine wpAny_bind (wpAny_bind (wpAny_setState_of (s := { s with heap := H1, drawn := d }) (k1 _ _ ho) hO.data hO.fits (wpAny_pure ?_)))
      unfold newFields
      refine wpAny_bind (wpAny_newObj_type ?_)
      dsimp only
      have hsz : pl.length = es.size := by rw [hpl'.length_eq, List.length_range]
      have hmem : ∀ p ∈ pl, p < es.size := fun p hp => List.mem_range.mp (hpl'.mem_iff.mp hp)
      have hp : (pl.map fun p => es[p]?.getD (0, .none)).Perm es.toList := (hpl'.map _).trans (by rw [range_get])
      have hv := strsAre_perm hO.el hp
      have hit : IsSI (H1.push { cls := .type "set_iterator", data := .fields #[.ref s.heap.objs.size, rawInt 0, .ref a, rawInt es.size, rawInt ep] }) H1.objs.size (.ref s.heap.objs.size) 0 a es.size ep := ⟨_, Heap.get?_push_size _ rfl, rfl, rfl⟩
      have key := h H1.objs.size (H1.push { cls := .type "set_iterator", data := .fields #[.ref s.heap.objs.size, rawInt 0, .ref a, rawInt es.size, rawInt ep] }) d _ _ [H1.objs.size, a, s.heap.objs.size]
        (fun i h => IsSI h H1.objs.size (.ref s.heap.objs.size) i a es.size ep ∧ h.get? a = some o ∧ h.get? s.heap.objs.size = some { cls := .type "tuple", data := .seq (pl.map fun (i : Nat) => rawInt i).toArray })
        ⟨hv.1, hv.2.trans hO.tx, by simp, fun A' hA' => ⟨by simp, fun i h h' st hk => ⟨st.1.at_ fun o e => hk _ (by simp) o e, hk _ (by simp) _ st.2.1, hk _ (by simp) _ st.2.2⟩, fun i s' Q E hi st hQ => ?_, fun s' Q E st hQ => ?_, fun i s' Q E st hQ => self_si st.1 hQ⟩, fun i s' st => st.1.typeIs⟩
        ⟨hit, Heap.get?_push_of_some _ (k1 _ _ ho), Heap.get?_push_of_some _ hoT⟩ (fun b o e => Heap.get?_push_of_some _ (k1 _ _ e)) ?_ (by omega)
      · exact wpAny_pure ⟨_, rfl, "set_iterator", _, hit.typeIs (s := { s with heap := _ }), slot_si_next.lookup, key⟩
      · simp only [List.length_map] at hi
        have hx : pl[i]? = some pl[i] := by simp [hi]
        have hlt' : pl[i] < es.size := hmem _ (List.getElem_mem hi)
        refine next_tup st.1 st.2.2 rfl st.2.1 hO.data hO.fits hx (e := es[pl[i]]) (by simp [hlt']) fun h' hit' hs' => ?_
        refine hQ _ h' s'.toks (by simp [hi, hlt']) ⟨hit', hs'.extBut _ _ (Nat.ne_of_lt (by rw [z1]; exact Nat.lt_succ_of_lt hlt)) st.2.1, hs'.extBut _ _ (Nat.ne_of_lt (by rw [z1]; exact Nat.lt_succ_self _)) st.2.2⟩ fun b o hb e => hs'.extBut b o (by simpa using hb) e
      · simp only [List.length_map] at st
        refine end_tup hA' st.1 st.2.2 rfl st.2.1 hO.data hO.fits fun h' he' => hQ h' s'.toks fun b o hb e => he' b o (by simpa using hb) e
      · intro b hb
        simp only [List.mem_cons, List.not_mem_nil, or_false] at hb
        rcases hb with rfl | rfl | rfl
        · exact .inr (by rw [z1]; exact Nat.le_succ _)
        · exact .inl rfl
        · exact .inr (Nat.le_refl _)
    · -- one text at most
      rw [if_neg hz]
      unfold setEpoch
      refine wpAny_bind (wpAny_bind (wpAny_setState_of ho hO.data hO.fits (wpAny_pure ?_)))
      unfold newFields
      refine wpAny_bind (wpAny_newObj_type ?_)
      have hled : t.led = true := by rw [hO.led, hby']; rfl
      have hsz : t.place.size = es.size := by
        have := hO.fits
        simp only [SetTable.fits, Bool.and_eq_true, beq_iff_eq] at this
        exact this.1
      have hv := strsAre_perm hO.el (List.Perm.refl es.toList)
      have hit : IsSI (s.heap.push { cls := .type "set_iterator", data := .fields #[rawInt 0, rawInt 0, .ref a, rawInt es.size, rawInt ep] }) s.heap.objs.size (.int ((0 : Nat) : Int) 0) 0 a es.size ep := ⟨_, Heap.get?_push_size _ rfl, rfl, rfl⟩
      have key := h s.heap.objs.size (s.heap.push { cls := .type "set_iterator", data := .fields #[rawInt 0, rawInt 0, .ref a, rawInt es.size, rawInt ep] }) s.drawn _ _ [s.heap.objs.size, a]
        (fun i h => (∃ slot : Nat, IsSI h s.heap.objs.size (.int (slot : Int) 0) i a es.size ep ∧ (i = 0 → slot = 0) ∧ (i = 1 → ∃ j, t.place[0]? = some j ∧ slot = j + 1)) ∧ h.get? a = some o)
        ⟨hv.1, hv.2.trans hO.tx, by simp, fun A' hA' => ⟨by simp, fun i h h' st hk => ?_, fun i s' Q E hi st hQ => ?_, fun s' Q E st hQ => ?_, fun i s' Q E st hQ => let ⟨⟨_, st, _⟩, _⟩ := st; self_si st hQ⟩, fun i s' st => let ⟨⟨_, st, _⟩, _⟩ := st; st.typeIs⟩
        ⟨⟨0, hit, fun _ => rfl, fun h => by cases h⟩, Heap.get?_push_of_some _ ho⟩ (fun b o e => Heap.get?_push_of_some _ e) ?_ (Nat.le_refl _)
      · exact wpAny_pure ⟨_, rfl, "set_iterator", _, hit.typeIs (s := { s with heap := _ }), slot_si_next.lookup, key⟩
      · obtain ⟨⟨slot, st1, st2⟩, st3⟩ := st
        exact ⟨⟨slot, st1.at_ fun o e => hk _ (by simp) o e, st2⟩, hk _ (by simp) _ st3⟩
      · obtain ⟨⟨slot, st1, st2, _⟩, st3⟩ := st
        simp only [List.length_map, Array.length_toList] at hi
        have hi0 : i = 0 := by omega
        have h1 : es.size = 1 := by omega
        subst hi0
        have := st2 rfl
        subst this
        obtain ⟨j, hj⟩ : ∃ j, t.place = #[j] := Array.size_eq_one_iff.mp (by rw [hsz, h1])
        have hx : es[0]? = some es[0] := by simp [h1]
        refine next_slot (slot' := j + 1) (x := es[0].2) st1 st3 hO.data hO.fits (fun Q E q => next_few st3 hO.data hO.fits hby' hled (by omega) (by rw [hj, (below_one j).1, hx]; exact q)) fun h' hit' hs' => ?_
        refine hQ _ h' s'.toks (by simp [h1]) ⟨⟨j + 1, hit', fun h => by omega, fun _ => ⟨j, by rw [hj]; rfl, rfl⟩⟩, hs'.extBut _ _ (Nat.ne_of_lt hlt) st3⟩ fun b o hb e => hs'.extBut b o (by simpa using hb) e
      · obtain ⟨⟨slot, st1, st2, st2'⟩, st3⟩ := st
        simp only [List.length_map, Array.length_toList] at st1 st2 st2'
        refine end_slot hA' st1 st3 hO.data hO.fits (fun Q E q => next_few st3 hO.data hO.fits hby' hled (by omega) ?_) fun h' he' => hQ h' s'.toks fun b o hb e => he' b o (by simpa using hb) e
        have hcase : es.size = 0 ∨ es.size = 1 := by omega
        rcases hcase with h0 | h1
        · rw [Array.getElem?_eq_none (by omega)]; exact q
        · obtain ⟨j, hj, rfl⟩ := st2' h1
          obtain ⟨j', hj'⟩ : ∃ j, t.place = #[j] := Array.size_eq_one_iff.mp (by rw [hsz, h1])
          rw [hj'] at hj
          have : j' = j := by simpa using hj
          subst this
          rw [hj', (below_one j').2, Array.getElem?_eq_none (by omega)]; exact q
      · intro b hb
        simp only [List.mem_cons, List.not_mem_nil, or_false] at hb
        rcases hb with rfl | rfl
        · exact .inr (Nat.le_refl _)
        · exact .inl rfl
end
end
section
open PySem PySem.W PySem.Calls PyProof.Rows PySem.SeqAt PySem.Spec
set_option autoImplicit false
set_option linter.unusedVariables false
set_option maxRecDepth 100000
theorem split_set_len : splitId "set.__len__" = some ("set", "__len__") := by kernel_rfl
theorem le_size' {n : Nat} (h : n ≤ 64) : n ≤ sizeLine := Nat.le_trans h (by decide)
section
variable {prog : Program} {w : World} {A : Around} {E : Value → Shared → Prop} {s : Shared}
theorem items_list {vs : List Value} {acc : Array Value} (h : ItemsOf (fun i v => vs[i]? = some v) acc vs.length) : acc.toList = vs := by
  apply List.ext_getElem
  · rw [Array.length_toList]; exact h.1
  · intro i h1 h2
    have : vs[i]? = some acc[i] := h.2 i acc[i] (by simp at h1; simp [h1])
    rw [List.getElem?_eq_getElem h2] at this
    simpa using this.symm
set_option maxHeartbeats 1000000 in
theorem collect_setS {a : Addr} {l : List Str} {Q : List Value → Shared → Prop} (hh : A.handled = none) (hS : SetS prog w s.heap a l) (hll : l.length ≤ 64)
    (hQ : ∀ (h' : Heap) (d : Drawn) (tk : Nat) (vs : List Value) (ss : List Str), StrsAre vs ss → ss.Perm l → (∀ b o, s.heap.get? b = some o → h'.get? b = some o) → Q vs { s with heap := h', drawn := d, toks := tk }) :
    wpAny (model prog w) A (collect (.ref a)) Q E s := by
  obtain ⟨o, es, ep, t, ho, hO⟩ := id hS
  have hT : s.TypeIs (.ref a) "set" := ⟨o, ho, hO.ex.1⟩
  have hlt := Heap.lt_size ho
  unfold collect
  refine wpAny_bind (wpAny_runValue (codeAny_builtin F.entry_proto_collect ?_))
  rw [Around.under_plainId F.plain_proto_collect _]
  show wpAny _ A.in1 (newList [] >>= fun l => again (.builtin "list.__iadd__" ⟨[l, .ref a], []⟩)) _ _ s
  refine wpAny_bind (wpAny_newObj_type ?_)
  refine wpAny_pure ⟨plainId_quiet F.plain_list_iadd _, codeAny_builtin F.entry_list_iadd ?_⟩
  rw [Around.under_plainId F.plain_list_iadd _]
  have hS₁ : (s.heap.push { cls := .type "list", data := .seq ([] : List Value).toArray }).get? s.heap.objs.size = some { cls := .type "list", data := .seq ([] : List Value).toArray } := Heap.get?_push_size _ rfl
  have k₁ : ∀ b o, s.heap.get? b = some o → (s.heap.push { cls := .type "list", data := .seq ([] : List Value).toArray }).get? b = some o := fun b o e => Heap.get?_push_of_some _ e
  have z₁ : (s.heap.push { cls := .type "list", data := .seq ([] : List Value).toArray }).objs.size = s.heap.objs.size + 1 := Heap.size_push ..
  show wpAny _ A.in1 (Builtin.List.listExtendWith (.ref s.heap.objs.size) (.ref a) (.ref s.heap.objs.size)) _ _ _
  generalize hH1 : s.heap.push { cls := .type "list", data := .seq ([] : List Value).toArray } = H1 at hS₁ k₁ z₁
  unfold Builtin.List.listExtendWith
  have hT1 : Shared.TypeIs { s with heap := H1 } (.ref a) "set" := ⟨o, k₁ _ _ ho, hO.ex.1⟩
  refine wpAny_bind (wpAny_typeOf hT1 ?_)
  have h1 : Builtin.List.listSameRef (.ref s.heap.objs.size) (.ref a) = false := by
    have : ¬ s.heap.objs.size = a := Nat.ne_of_gt hlt
    simp [Builtin.List.listSameRef, this]
  have h2 : (Value.type "set" == Value.type "list") = false := by decide
  have h3 : (Value.type "set" == Value.type "tuple") = false := by decide
  simp only [h1, h2, h3, Bool.or_false, Bool.false_eq_true, if_false]
  refine wpAny_bind (iter_setS (s := { s with heap := H1 }) (hS.ext fun o e => k₁ _ o e) fun I h₂ d vs ss fp St W st₀ k₂ hfp hI => ?_)
  have hSf : s.heap.objs.size ∉ fp := fun m => by
    rcases hfp _ m with e | e
    · exact Nat.lt_irrefl _ (e ▸ hlt)
    · have e' : H1.objs.size ≤ s.heap.objs.size := e
      omega
  refine wpAny_bind (wpAny_holding ?_)
  unfold Builtin.List.listLengthHint
  have hT2 : Shared.TypeIs { s with heap := h₂, drawn := d } (.ref a) "set" := ⟨o, k₂ _ _ (k₁ _ _ ho), hO.ex.1⟩
  refine wpAny_bind (wpAny_specialOf hT2 F.slot_set_len.lookup ?_)
  dsimp only
  rw [split_set_len]
  dsimp only
  refine wpAny_bind (wpAny_isInstance hT2 sub_set_self ?_)
  simp only [Bool.not_true, Bool.false_eq_true, if_false]
  rw [if_pos (by decide +kernel)]
  refine wpAny_bind (wpAny_typeOf hT2 ?_)
  refine wpAny_pure ?_
  rw [if_pos (by decide)]
  refine wpAny_bind (wpAny_rule ?_)
  refine wpAny_bind ?_
  show wpAny _ A.in1 (updateSeq s.heap.objs.size (·.push .none) >>= fun _ => updateSeq s.heap.objs.size (·.pop)) _ _ _
  have hS₂ : h₂.get? s.heap.objs.size = some { cls := .type "list", data := .seq ([] : List Value).toArray } := k₂ _ _ hS₁
  refine wpAny_bind (wpAny_updateSeq hS₂ rfl ?_)
  have hS₃ := Heap.get?_update_self (Obj.mapSeq (·.push Value.none)) hS₂ rfl
  refine wpAny_updateSeq hS₃ rfl ?_
  have hS₄ := Heap.get?_update_self (Obj.mapSeq (·.pop)) hS₃ rfl
  have oth : ∀ b o, b ≠ s.heap.objs.size → h₂.get? b = some o → ((h₂.update s.heap.objs.size (Obj.mapSeq (·.push Value.none))).update s.heap.objs.size (Obj.mapSeq (·.pop))).get? b = some o :=
    fun b o hb e => (Heap.get?_update_other _ _ (Ne.symm hb)).trans ((Heap.get?_update_other _ _ (Ne.symm hb)).trans e)
  have hvl : vs.length ≤ sizeLine := by
    rw [W.txt.length, W.perm.length_eq]
    exact le_size' hll
  have WW := (W.walks A.in1 (by simpa using hh)).toS
  have st₄ := (W.walks A.in1 (by simpa using hh)).frame 0 h₂ _ st₀ fun b hb o e => oth b o (fun h => hSf (h ▸ hb)) e
  refine wpAny_pure ⟨plainId_quiet F.plain_extend_loop _, codeAny_extend_loopS WW hvl _ hSf _ vs.length 0 _ _ _ rfl (Nat.zero_le _) st₄ hS₄ (ItemsOf.nil _) fun s' acc' c' hm hS' hacc => ?_⟩
  obtain ⟨h', g', d', tk', os'⟩ := s'
  have eg : g' = s.gens := hm.gens
  have ed : d' = d := hm.drawn
  have eo : os' = s.os := hm.os
  subst eg; subst ed; subst eo
  show wpAny _ A (load s.heap.objs.size >>= _) _ _ _
  refine wpAny_bind (wpAny_load hS' ?_)
  dsimp only
  rw [show acc'.toList = vs from items_list hacc]
  refine wpAny_pure (hQ h' d' tk' vs ss W.txt W.perm fun b o e => hm.heap b o ?_ (oth b o (Nat.ne_of_lt (Heap.lt_size e)) (k₂ _ _ (k₁ _ _ e))))
  simp only [List.mem_cons, List.not_mem_nil, or_false, not_or]
  refine ⟨Nat.ne_of_lt (Heap.lt_size e), Nat.ne_of_lt (Nat.lt_of_lt_of_le (Heap.lt_size e) (Nat.le_trans (Nat.le_succ _) (show s.heap.objs.size + 1 ≤ I by rw [← z₁]; exact hI)))⟩
/-- a set of texts in order -/
theorem sorted_setS {a : Addr} {l : List Str} {Q : Value → Shared → Prop} (hh : A.handled = none) (hS : SetS prog w s.heap a l) (hll : l.length < 64)
    (hQ : ∀ (h' : Heap) (d : Drawn) (tk : Nat) (us : List Value) (b : Addr) (e : Nat), StrsAre us (srt l) → (∀ b o, s.heap.get? b = some o → h'.get? b = some o) → s.heap.get? b = none → h'.get? b = some (seqObj "list" us.toArray e) → Q (.ref b) { s with heap := h', drawn := d, toks := tk }) :
    wpAny (model prog w) A (call (.builtin "sorted") [.ref a]) Q E s := by
  refine Calls.call_function_entry kind_sorted plain_sorted entry_sorted (args_sorted1 _) ?_
  unfold Builtin.«sorted»
  refine wpAny_bind (m := checkCount "sorted" 1 1 _) (wpAny_pure ?_)
  refine wpAny_bind (collect_setS (by simpa using hh) hS (by omega) fun h₁ d tk vs ss hv hp k₁ => ?_)
  have hvl : vs.length < 64 := by rw [hv.length, hp.length_eq]; exact hll
  refine wpAny_bind (wpAny_newList ?_)
  have hoL : (h₁.push (seqObj "list" vs.toArray 0)).get? h₁.objs.size = some (seqObj "list" vs.toArray 0) := Heap.get?_push_size _ rfl
  show wpAny _ _ _ _ _ { s with heap := h₁.push (seqObj "list" vs.toArray 0), drawn := d, toks := tk }
  refine wpAny_bind (wpAny_holding (wpAny_call_entry slot_list_sort ⟨_, hoL, rfl⟩ entry_list_sort (list_sort_treeK strKind_oneLt hoL hv.keysOf (fun v₁ v₂ rest e => keyKind_strs (by rw [← e]; exact hv)) hvl fun st' a1 a2 => ⟨_, rfl, ?_⟩) (args_list_sort _)))
  obtain ⟨ss', h1, h2, h3⟩ := sorted_out_str hv a1 a2
  have e := srt_unique (h2.trans hp) (sortedS_pairwise h3)
  subst e
  have hlt : h₁.objs.size < (h₁.push (seqObj "list" vs.toArray 0)).objs.size := by rw [Heap.size_push]; exact Nat.lt_succ_self _
  obtain ⟨e', he'⟩ := sortedHeap_at (h := h₁.push (seqObj "list" vs.toArray 0)) (a := h₁.objs.size) (vs := vs) (out := (arrOf st').map (·.2)) hoL
  refine wpAny_pure ⟨_, rfl, hQ _ d tk ((arrOf st').map (·.2)).toList h₁.objs.size e' h1 (fun b o e => ?_) ?_ he'⟩
  · have hb : b < h₁.objs.size := Heap.lt_size (k₁ _ _ e)
    rw [sortedHeap_old (Nat.ne_of_lt hb) (Nat.lt_trans hb hlt)]
    exact Heap.get?_push_of_some _ (k₁ _ _ e)
  · cases e : s.heap.get? h₁.objs.size with
    | none => rfl
    | some o => exact absurd (Heap.lt_size (k₁ _ _ e)) (Nat.lt_irrefl _)
end
end
section
open PySem PySem.W PySem.Calls PyProof.Rows PySem.SeqAt PySem.Spec
set_option autoImplicit false
set_option linter.unusedVariables false
set_option maxRecDepth 100000
section
variable {prog : Program} {w : World} {T : Top0} {A : Around} {env : Env} {σ σ' : Sg} {n : Nat} {B₀ : Heap} {B s s' : Shared} {X : Addr → Prop} {own : List Addr} {ow ow' : Ow} {E' : Value → Shared → Prop} {P : Flow → Shared → Prop}
  {rest : List Stmt}
/-- an item of a tuple or a list at a written place -/
theorem ev_item {e sl : PySem.Expr} {pos : Pos} {d₀ d : D} {ds : List D} {k : Nat} (hd : d₀ = .tup ds ∨ d₀ = .lst ds) (he : Ev prog w T A env σ e d₀) (hs : Ev prog w T A env σ sl (.int k)) (hk : ds[k]? = some d) (hb : k < 1000)
    (hsub : ∀ a u, subscripted sl false (.ref a) (.int k u) = operate [.ref a, .int k u] (getItem (.ref a) (.int k u))) :
    Ev prog w T A env σ (.Subscript e sl pos) d := .mk fun X s E => by
  refine Subscript_ ?_
  refine wpAny_mono (he.run X s E) (fun v s₁ ⟨k₁, r₁⟩ => ?_) (fun _ _ f => f)
  have E₁ := E.keep k₁.hk
  refine wpAny_mono (hs.run X s₁ E₁) (fun i s₂ ⟨k₂, r₂⟩ => ?_) (fun _ _ f => f)
  cases r₂ with
  | int _ u =>
    have r₁' := r₁.keep k₂.hk
    rcases hd with rfl | rfl
    · cases r₁' with
      | tup ht hx hl =>
        rename_i a us _
        obtain ⟨v, hv, rv⟩ := hl.get hk
        have hlt : k < us.length := (List.getElem?_eq_some_iff.mp hv).1
        refine item_tupleT (j := k) ht (by omega) (by omega) ?_ hv ⟨k₁.trans k₂, rv⟩ (hsub a u)
        rw [seqIndex?]
        simp only [show ¬ ((k : Int) < 0) by omega, if_false]
        simp [hlt]
    · cases r₁' with
      | lst ht hx hl =>
        rename_i a us _
        obtain ⟨v, hv, rv⟩ := hl.get hk
        exact PyProof.Rows.tail_any ht.typeIs slot_list_getitem.lookup (wpAny_getItem_list ht (by omega) (by omega) (by simpa using hv) ⟨k₁.trans k₂, rv⟩) (hsub a u)
theorem ev_add {l r : PySem.Expr} {pos : Pos} {d₁ d₂ : List D} (hl : Ev prog w T A env σ l (.lst d₁)) (hr : Ev prog w T A env σ r (.lst d₂)) (hsz : d₁.length + d₂.length ≤ sizeLine) : Ev prog w T A env σ (.BinOp l .Add r pos) (.lst (d₁ ++ d₂)) := .mk fun X s E => by
  refine wpAny_BinOp ?_
  refine wpAny_mono (hl.run X s E) (fun v s₁ ⟨k₁, r₁⟩ => ?_) (fun _ _ f => f)
  have E₁ := E.keep k₁.hk
  refine wpAny_mono (hr.run X s₁ E₁) (fun i s₂ ⟨k₂, r₂⟩ => ?_) (fun _ _ f => f)
  have E₂ := E₁.keep k₂.hk
  have r₁' := r₁.keep k₂.hk
  cases r₁' with
  | lst ht hx hl' =>
    rename_i a us _
    cases r₂ with
    | lst ht2 hx2 hl2 =>
      rename_i b ws _
      obtain ⟨⟨cls, dd, data, sl⟩, ho, hc, n1, hd⟩ := id ht
      obtain ⟨⟨cls2, dd2, data2, sl2⟩, ho2, hc2, n2, hd2⟩ := id ht2
      simp only at hc hd hc2 hd2
      subst hc hd hc2 hd2
      refine concat_meets ⟨_, ho, rfl⟩ ⟨_, ho2, rfl⟩ noFill_list_add seq_list_add PySem.F.slot_list_add PySem.F.entry_list_add (PySem.F.args_list_add_2 _ _) (list_addW a b us.toArray ws.toArray n1 n2 dd dd2 sl sl2 (by simpa [hl'.length, hl2.length] using hsz)) ⟨ho, ho2, ?_⟩
      have e : us.toArray ++ ws.toArray = (us ++ ws).toArray := by simp
      rw [e]
      have kp : Kp s₂ { s₂ with heap := s₂.heap.push { cls := .type "list", data := .seq (us ++ ws).toArray } } := Kp.push s₂ _ s₂.toks
      exact ⟨(k₁.trans k₂).trans kp, .lst ⟨_, Heap.get?_push_size _ rfl, rfl, _, rfl⟩ (E₂.fresh (Nat.le_refl _)) ((hl'.append hl2).keep kp.hk)⟩
/-- the texts of a list, each once, in order -/
theorem ev_sortedSet {f g : Str} {pf pg p1 p2 : Pos} {e : PySem.Expr} {ss : List Str} (R : Room n A) (hkf : env.kindOf f = some .globalImplicit) (hgf : T.mg f = none) (hxf : T.mb f = some (.builtin "sorted"))
    (hkg : env.kindOf g = some .globalImplicit) (hgg : T.mg g = none) (hxg : T.mb g = some (.type "set")) (he : Ev prog w T A env σ e (.lst (ss.map .str))) (hl : ss.length < 60)
    (hne : starEach [e] env = (false, eval e env) :: starEach [] env) (hne2 : starEach [.Call (.Name g pg) [e] [] p1] env = (false, eval (.Call (.Name g pg) [e] [] p1) env) :: starEach [] env) (hdf : (f == ("__debug__" : Str)) = false := by decide) (hdg : (g == ("__debug__" : Str)) = false := by decide) :
    Ev prog w T A env σ (.Call (.Name f pf) [.Call (.Name g pg) [e] [] p1] [] p2) (.lst ((srt (dd ss)).map .str)) := .mk fun X s E => by
  refine Call_ ?_
  refine Name_function_global E.kind hkf (loadGlobal_builtin (by rw [E.glob]; exact E.top.g) hgf (by rw [E.blt]; exact E.top.b) hxf ?_) hdf
  refine callWith_builtin1 ?_ hne2
  refine args_cons ?_ hne2
  refine Call_ ?_
  refine Name_function_global E.kind hkg (loadGlobal_builtin (by rw [E.glob]; exact E.top.g) hgg (by rw [E.blt]; exact E.top.b) hxg ?_) hdg
  refine PyProof.Rows.callWith_type1 ?_ hne
  refine args_cons ?_ hne
  refine wpAny_mono (he.run X s E) (fun v s₁ ⟨k₁, r₁⟩ => args_nil ?_) (fun _ _ f => f.elim)
  cases r₁ with
  | lst ht hx hr =>
    rename_i a us
    refine call_setS R.hand ht (by simpa using hr.strs) (by unfold scanBound; omega) fun h₂ tk hS hk => args_nil ?_
    have k₂ : Hk s₁.heap h₂ := fun b o e => hk b o (Heap.lt_size e) e
    refine sorted_setS (s := { s₁ with heap := h₂, toks := tk }) R.hand hS (by have := dd_le ss; omega) fun h₃ d tk' us' b e hu k₃ hb hob => ?_
    have k₁₃ : Hk s₁.heap h₃ := fun b o e => k₃ b o (k₂ b o e)
    refine ⟨⟨k₁.eq, fun b o e => k₁₃ b o (k₁.hk b o e)⟩, .lst ⟨_, hob, rfl, _, rfl⟩ (fun z => ?_) (strs_rep hu)⟩
    obtain ⟨o, ho⟩ := E.live b z
    have : h₂.get? b = some o := k₂ b o (k₁.hk b o ho)
    have hb' : h₂.get? b = none := hb
    rw [hb'] at this
    cases this
end
end
section
open PySem PySem.W PySem.Calls PyProof.Rows PySem.SeqAt PySem.Spec
set_option autoImplicit false
set_option linter.unusedVariables false
set_option maxRecDepth 100000
section
variable {prog : Program} {w : World} {T : Top0} {A : Around} {env : Env} {σ σ' : Sg} {n : Nat} {B₀ : Heap} {B s s' : Shared} {X : Addr → Prop} {own : List Addr} {ow ow' : Ow} {E' : Value → Shared → Prop} {P : Flow → Shared → Prop}
  {rest : List Stmt}
/-- a place of its own fewer, whatever became of it -/
theorem FS.fin {I : Addr} (F : FS T env B₀ B X (I :: own) σ none s) (hI : I ∉ places env own) (hB : B.heap.get? I = none) (hX : ¬ X I) (he : outer s' = outer s) (hb : ∀ b o, b ≠ I → s.heap.get? b = some o → s'.heap.get? b = some o) : FS T env B₀ B X own σ none s' := by
  obtain ⟨m, cm, F⟩ := F
  have hp : ∀ b, b ∈ places env own → b ∈ places env (I :: own) := fun b hb => by
    simp only [places, List.mem_cons, List.mem_append] at hb ⊢
    rcases hb with h | h | h
    · exact .inl h
    · exact .inr (.inl h)
    · exact .inr (.inr (.inr h))
  have hp' : ∀ b, b ∈ places env (I :: own) → b = I ∨ b ∈ places env own := fun b hb => by
    simp only [places, List.mem_cons, List.mem_append] at hb ⊢
    rcases hb with h | h | h | h
    · exact .inr (.inl h)
    · exact .inr (.inr (.inl h))
    · exact .inl h
    · exact .inr (.inr (.inr h))
  have hIp : I ∈ places env (I :: own) := List.mem_cons_of_mem _ (List.mem_append_right _ List.mem_cons_self)
  have re : ∀ v d, Rep (wth X (places env (I :: own))) s.heap v d → Rep (wth X (places env own)) s'.heap v d := fun v d r =>
    (r.mono (h' := s'.heap) fun b o hx e => hb b o (fun z => hx (.inr (z ▸ hIp))) e).avoid fun b hb => .inl (hb.imp id (hp b))
  have nI : ∀ b, b ∈ places env own → b ≠ I := fun b h z => hI (z ▸ h)
  refine ⟨m, cm, { F with same := he.trans F.same, keep := fun b o hb' e => ?_, ns := F.ns.at' fun o e => hb _ o (nI _ List.mem_cons_self) e, cell := fun n c hc => ?_, fresh := fun b h => F.fresh b (hp b h), off := fun b h => F.off b (hp b h), xa := fun b h => F.xa b (hp b h), liveP := fun b h => ?_, ownA := fun b h => F.ownA b (List.mem_cons_of_mem _ h), get := fun x d hx => ?_, mine := trivial }⟩
  · have hbI : b ≠ I := fun z => by rw [z, hB] at e; cases e
    exact hb b o hbI (F.keep b o (fun z => (hp' b z).elim hbI hb') e)
  · obtain ⟨o, ho, hd⟩ := F.cell n c hc
    exact ⟨o, hb c o (nI c (List.mem_cons_of_mem _ (List.mem_append_left _ (List.mem_map.mpr ⟨(n, c), mem_of_lookup hc, rfl⟩)))) ho, hd⟩
  · obtain ⟨o, ho⟩ := F.liveP b (hp b h)
    exact ⟨o, hb b o (nI b h) ho⟩
  · obtain ⟨a1, a2, ⟨a3, v, hv, r⟩ | ⟨a3, c, v, hc, hv, r⟩⟩ := F.get x d hx
    · exact ⟨a1, a2, .inl ⟨a3, v, hv, re v d r⟩⟩
    · exact ⟨a1, a2, .inr ⟨a3, c, v, hc, hv, re v d r⟩⟩
/-- a name gets a comprehension's list, laid there while the comprehension's frame still stands -/
theorem b_assignC {y : Str} {py spos pos : Pos} {elt iter x : PySem.Expr} {ifs : List PySem.Expr} {gens : List Comprehension} {scope : Scope} {l : List D} (F : FS T env B₀ B X own σ none s)
    (c : CompE prog w T A env σ (.ListComp elt (⟨x, iter, ifs, 0⟩ :: gens) scope pos) scope iter l)
    (hsw : swapsWith (.ListComp elt (⟨x, iter, ifs, 0⟩ :: gens) scope pos) (some (.Name y py)) spos.line env = pure true) (hk : env.kindOf y = some .local) (hd : y ≠ ("__debug__" : Str) ∧ y ≠ ("__classdict__" : Str))
    (h : ∀ s', FS T env B₀ B X own (upS σ y (.lst l)) none s' → wpAny (model prog w) A (execs rest env) P E' s') :
    wpAny (model prog w) A (execs (.Assign [.Name y py] (.ListComp elt (⟨x, iter, ifs, 0⟩ :: gens) scope pos) spos :: rest) env) P E' s := by
  refine wpAny_execs_cons ?_
  rw [exec_Assign_Name_used _ _ _ _ hsw]
  refine wpAny_bind (wpAny_standAt (wpAny_bind ?_))
  show wpAny _ A (do let _ ← comprehension (.ListComp elt (⟨x, iter, ifs, 0⟩ :: gens) scope pos) scope env _ (newList []) false (eval iter env) (some (assign (.Name y py) env))) _ _ s
  refine wpAny_bind (wpAny_mono (c.run _ s _ (some (assign (.Name y py) env)) (fun _ s' => FS T env B₀ B X own (upS σ y (.lst l)) none s') (fun _ _ => False) F.envR fun s₁ C D' us k hC hD hDC hl ⟨mC, hmC⟩ hus => ?_) (fun _ s' hq => wpAny_pure (wpAny_pure (h s' hq))) fun _ _ e => e.elim)
  show wpAny _ A (assign (.Name y py) env (.ref D')) _ _ s₁
  obtain ⟨oC, eC, epC, hoC, _⟩ := id hmC
  have hCp : C ∉ places env own := fun z => by
    obtain ⟨m, cm, G⟩ := F
    obtain ⟨o, ho⟩ := G.liveP C z; rw [hC] at ho; cases ho
  have hCX : ¬ X C := fun z => by
    obtain ⟨m, cm, G⟩ := F
    obtain ⟨o, ho⟩ := G.liveX C (.inl z); rw [hC] at ho; cases ho
  have hCB : B.heap.get? C = none := by
    obtain ⟨m, cm, G⟩ := F
    cases e : B.heap.get? C with
    | none => rfl
    | some o => rw [G.keep _ o hCp e] at hC; cases hC
  have hCo : C ∉ own := fun z => hCp (List.mem_cons_of_mem _ (List.mem_append_right _ z))
  have F₁ : FS T env B₀ B X (C :: own) σ none s₁ := F.more k hC ⟨oC, hoC⟩
  have hD' : ¬ wth X (places env (C :: own)) D' := fun z => by
    rcases z with z | z
    · obtain ⟨m, cm, G⟩ := F
      obtain ⟨o, ho⟩ := G.liveX D' (.inl z); rw [hD] at ho; cases ho
    · simp only [places, List.mem_cons, List.mem_append] at z
      rcases z with z | z | z | z
      · exact absurd (show D' ∈ places env own from z ▸ List.mem_cons_self) fun z => by
          obtain ⟨m, cm, G⟩ := F; obtain ⟨o, ho⟩ := G.liveP D' z; rw [hD] at ho; cases ho
      · exact absurd (show D' ∈ places env own from List.mem_cons_of_mem _ (List.mem_append_left _ z)) fun z => by
          obtain ⟨m, cm, G⟩ := F; obtain ⟨o, ho⟩ := G.liveP D' z; rw [hD] at ho; cases ho
      · exact hDC z
      · exact absurd (show D' ∈ places env own from List.mem_cons_of_mem _ (List.mem_append_right _ z)) fun z => by
          obtain ⟨m, cm, G⟩ := F; obtain ⟨o, ho⟩ := G.liveP D' z; rw [hD] at ho; cases ho
  have rl : Rep (wth X (places env (C :: own))) s₁.heap (.ref D') (.lst l) := by
    refine .lst hl hD' (hus.avoid fun b hb => ?_)
    rcases hb with hb | hb
    · -- X is wth X (places env own) in c.run
      exact .inl (.inl (.inl hb))
    · simp only [places, List.mem_cons, List.mem_append] at hb
      rcases hb with hb | hb | hb | hb
      · exact .inl (.inl (.inr (by simp [places, hb])))
      · exact .inl (.inl (.inr (List.mem_cons_of_mem _ (List.mem_append_left _ hb))))
      · exact .inl (.inr (by simp [hb]))
      · exact .inl (.inl (.inr (List.mem_cons_of_mem _ (List.mem_append_right _ hb))))
  refine wpAny_assign_Name ?_
  obtain ⟨m, cm, G⟩ := F₁
  refine G.stLocal hk fun s₂ re ro G₂ => ?_
  have F₂ : FS T env B₀ B X (C :: own) (upS σ y (.lst l)) none s₂ := ⟨_, _, { G₂ with get := fun z d' hz => ?_ }⟩
  · refine ⟨mC, hmC.at' fun o e => ro C List.mem_cons_self o e, fun h₃ hs₃ => ?_⟩
    exact F₂.fin (s' := { s₂ with heap := h₃ }) hCp hCB hCX rfl fun b o hb e => hs₃.extBut b o hb e
  · unfold upS at hz
    by_cases hyx : z = y
    · subst hyx
      rw [if_pos rfl] at hz
      cases hz
      exact ⟨hd.1, hd.2, .inl ⟨hk, .ref D', by simp, re _ _ rl⟩⟩
    · rw [if_neg hyx] at hz
      exact G₂.get z d' (by unfold noS; rw [if_neg hyx]; exact hz)
end
end
section
open PySem PySem.W PySem.Calls PyProof.Rows PySem.SeqAt PySem.Spec
set_option autoImplicit false
set_option linter.unusedVariables false
set_option maxRecDepth 100000
section
variable {w : World} {n : Nat} {T : Top0} {da : Addr}
/-- a tuple of the top -/
theorem rep_top {X : Addr → Prop} {h : Heap} (t : T.At h) (tx : ∀ a o, T.K a = some o → ¬ X a) {a : Addr} {o : Obj} {us : List Value} {ds : List D} {k : Nat} (ho : T.K a = some o) (hc : o.cls = .type "tuple") (hd : o.data = .seq us.toArray k) (hl : RepL X h us ds) : Rep X h (.ref a) (.tup ds) :=
  .tup ⟨o, t.k _ _ ho, hc, k, hd⟩ (tx _ _ ho) hl
theorem rep_topL {X : Addr → Prop} {h : Heap} (t : T.At h) (tx : ∀ a o, T.K a = some o → ¬ X a) {a : Addr} {o : Obj} {us : List Value} {ds : List D} {k : Nat} (ho : T.K a = some o) (hc : o.cls = .type "list") (hd : o.data = .seq us.toArray k) (hl : RepL X h us ds) : Rep X h (.ref a) (.lst ds) :=
  .lst ⟨o, t.k _ _ ho, hc, k, hd⟩ (tx _ _ ho) hl
noncomputable def rowD (r : Int × Str × Option (List Str)) : D := .tup [.int r.1, .str r.2.1, dS r.2.2]
theorem rows_rep (e : Ext (T0 w.params) T) {X : Addr → Prop} {h : Heap} (t : T.At h) (tx : ∀ a o, T.K a = some o → ¬ X a) : Rep X h (.ref 218) (.lst (rowsD.map rowD)) := by
  have kk : ∀ {a : Addr} {o : Obj}, (T0 w.params).K a = some o → T.K a = some o := fun h => e.k _ _ h
  refine rep_topL t tx (kk (by kernel_rfl : (T0 w.params).K 218 = some (hd.zo_201 w.params))) (by kernel_rfl) (by exact rfl) ?_
  refine .cons (rep_top t tx (kk (by kernel_rfl : (T0 w.params).K 202 = some (hd.zo_185 w.params))) (by kernel_rfl) (by exact rfl) (.cons (.int _ _) (.cons (.str _ _) (.cons .none .nil)))) ?_
  refine .cons (rep_top t tx (kk (by kernel_rfl : (T0 w.params).K 203 = some (hd.zo_186 w.params))) (by kernel_rfl) (by exact rfl) (.cons (.int _ _) (.cons (.str _ _) (.cons .none .nil)))) ?_
  refine .cons (rep_top t tx (kk (by kernel_rfl : (T0 w.params).K 204 = some (hd.zo_187 w.params))) (by kernel_rfl) (by exact rfl) (.cons (.int _ _) (.cons (.str _ _) (.cons .none .nil)))) ?_
  refine .cons (rep_top t tx (kk (by kernel_rfl : (T0 w.params).K 205 = some (hd.zo_188 w.params))) (by kernel_rfl) (by exact rfl) (.cons (.int _ _) (.cons (.str _ _) (.cons .none .nil)))) ?_
  refine .cons (rep_top t tx (kk (by kernel_rfl : (T0 w.params).K 206 = some (hd.zo_189 w.params))) (by kernel_rfl) (by exact rfl) (.cons (.int _ _) (.cons (.str _ _) (.cons .none .nil)))) ?_
  refine .cons (rep_top t tx (kk (by kernel_rfl : (T0 w.params).K 207 = some (hd.zo_190 w.params))) (by kernel_rfl) (by exact rfl) (.cons (.int _ _) (.cons (.str _ _) (.cons .none .nil)))) ?_
  refine .cons (rep_top t tx (kk (by kernel_rfl : (T0 w.params).K 208 = some (hd.zo_191 w.params))) (by kernel_rfl) (by exact rfl) (.cons (.int _ _) (.cons (.str _ _) (.cons .none .nil)))) ?_
  refine .cons (rep_top t tx (kk (by kernel_rfl : (T0 w.params).K 209 = some (hd.zo_192 w.params))) (by kernel_rfl) (by exact rfl) (.cons (.int _ _) (.cons (.str _ _) (.cons .none .nil)))) ?_
  refine .cons (rep_top t tx (kk (by kernel_rfl : (T0 w.params).K 210 = some (hd.zo_193 w.params))) (by kernel_rfl) (by exact rfl) (.cons (.int _ _) (.cons (.str _ _) (.cons .none .nil)))) ?_
  have s1 : Rep X h (.ref 211) (dS (some ["Hira", "Kana"])) := rep_top t tx (kk (by kernel_rfl : (T0 w.params).K 211 = some (hd.zo_194 w.params))) (by kernel_rfl) (by exact rfl) (.cons (.str _ _) (.cons (.str _ _) .nil))
  have s2 : Rep X h (.ref 213) (dS (some ["Bopo", "Hang", "Hani", "Hira", "Kana"])) := rep_top t tx (kk (by kernel_rfl : (T0 w.params).K 213 = some (hd.zo_196 w.params))) (by kernel_rfl) (by exact rfl) (.cons (.str _ _) (.cons (.str _ _) (.cons (.str _ _) (.cons (.str _ _) (.cons (.str _ _) .nil)))))
  have s3 : Rep X h (.ref 215) (dS (some ["Cyrl", "Latn"])) := rep_top t tx (kk (by kernel_rfl : (T0 w.params).K 215 = some (hd.zo_198 w.params))) (by kernel_rfl) (by exact rfl) (.cons (.str _ _) (.cons (.str _ _) .nil))
  refine .cons (rep_top t tx (kk (by kernel_rfl : (T0 w.params).K 212 = some (hd.zo_195 w.params))) (by kernel_rfl) (by exact rfl) (.cons (.int _ _) (.cons (.str _ _) (.cons s1 .nil)))) ?_
  refine .cons (rep_top t tx (kk (by kernel_rfl : (T0 w.params).K 214 = some (hd.zo_197 w.params))) (by kernel_rfl) (by exact rfl) (.cons (.int _ _) (.cons (.str _ _) (.cons s2 .nil)))) ?_
  refine .cons (rep_top t tx (kk (by kernel_rfl : (T0 w.params).K 216 = some (hd.zo_199 w.params))) (by kernel_rfl) (by exact rfl) (.cons (.int _ _) (.cons (.str _ _) (.cons s3 .nil)))) ?_
  exact .cons (rep_top t tx (kk (by kernel_rfl : (T0 w.params).K 217 = some (hd.zo_200 w.params))) (by kernel_rfl) (by exact rfl) (.cons (.int _ _) (.cons (.str _ _) (.cons .none .nil)))) .nil
theorem ev_rows (e : Ext (T0 w.params) T) {A : Around} {env : Env} {σ : Sg} {p : Pos} (hk : env.kindOf "_law_rows" = some .globalImplicit) : Ev prg w T A env σ (.Name "_law_rows" p) (.lst (rowsD.map rowD)) :=
  ev_glob (v := .ref 218) hk (by rw [e.mg]; kernel_rfl) (by kernel_rfl) fun X h t tx => rows_rep e t tx
/-- the law's own table -/
noncomputable def lwider (x : Str) : List Str := if x == "Hani" then ["Hanb", "Jpan", "Kore"] else if x == "Hira" then ["Jpan"] else if x == "Kana" then ["Jpan"] else if x == "Hang" then ["Kore"] else if x == "Bopo" then ["Hanb"] else []
noncomputable def lwiderV (x : Str) : Option Value := if x == "Hani" then some (.ref 220) else if x == "Hira" then some (.ref 221) else if x == "Kana" then some (.ref 222) else if x == "Hang" then some (.ref 223) else if x == "Bopo" then some (.ref 224) else none
theorem wider_map (e : Ext (T0 w.params) T) {h : Heap} (t : T.At h) : h.MapOf (PySem.strKind prg w) 219 lwiderV := by
  have ho := t.k _ _ (e.k _ _ (by kernel_rfl : (T0 w.params).K 219 = some (hd.zo_202 w.params)))
  refine ⟨_, _, _, ho, ⟨by kernel_rfl, rfl, rfl⟩, rfl, ?_, fun k => ?_⟩
  · intro en hen
    simp only [List.mem_toArray, List.mem_cons, List.not_mem_nil, or_false] at hen
    rcases hen with rfl | rfl | rfl | rfl | rfl
    · exact ⟨"Hani", is_str.mpr ⟨_, rfl⟩, rfl⟩
    · exact ⟨"Hira", is_str.mpr ⟨_, rfl⟩, rfl⟩
    · exact ⟨"Kana", is_str.mpr ⟨_, rfl⟩, rfl⟩
    · exact ⟨"Hang", is_str.mpr ⟨_, rfl⟩, rfl⟩
    · exact ⟨"Bopo", is_str.mpr ⟨_, rfl⟩, rfl⟩
  · unfold findBy lwiderV
    simp only [List.find?_toArray]
    have hs : ∀ (y : Str) (t : Tok), (PySem.strKind prg w).is k (.str y t) = (k == y) := fun y t => by
      rw [KeyKind.is_eq_decide (knd := PySem.strKind prg w) (k := y) (is_str.mpr ⟨t, rfl⟩) k]
      by_cases h : k = y <;> simp [h]
    have e1 : (k == ({ cps := { toList := [72, 97, 110, 105] } } : Str)) = (k == "Hani") := rfl
    have e2 : (k == ({ cps := { toList := [72, 105, 114, 97] } } : Str)) = (k == "Hira") := rfl
    have e3 : (k == ({ cps := { toList := [75, 97, 110, 97] } } : Str)) = (k == "Kana") := rfl
    have e4 : (k == ({ cps := { toList := [72, 97, 110, 103] } } : Str)) = (k == "Hang") := rfl
    have e5 : (k == ({ cps := { toList := [66, 111, 112, 111] } } : Str)) = (k == "Bopo") := rfl
    simp only [List.find?_cons, List.find?_nil, hs, e1, e2, e3, e4, e5]
    cases h1 : (k == "Hani")
    · cases h2 : (k == "Hira")
      · cases h3 : (k == "Kana")
        · cases h4 : (k == "Hang")
          · cases h5 : (k == "Bopo") <;> rfl
          · rfl
        · rfl
      · rfl
    · rfl
theorem wider_rep (e : Ext (T0 w.params) T) {X : Addr → Prop} {h : Heap} (t : T.At h) (tx : ∀ a o, T.K a = some o → ¬ X a) {dv : Value} (hdv : Rep X h dv (.lst [])) (x : Str) : Rep X h ((lwiderV x).getD dv) (.lst ((lwider x).map .str)) := by
  have kk : ∀ {a : Addr} {o : Obj}, (T0 w.params).K a = some o → T.K a = some o := fun h => e.k _ _ h
  unfold lwiderV lwider
  split
  · exact rep_topL t tx (kk (by kernel_rfl : (T0 w.params).K 220 = some (hd.zo_203 w.params))) (by kernel_rfl) (by exact rfl) (.cons (.str _ _) (.cons (.str _ _) (.cons (.str _ _) .nil)))
  split
  · exact rep_topL t tx (kk (by kernel_rfl : (T0 w.params).K 221 = some (hd.zo_204 w.params))) (by kernel_rfl) (by exact rfl) (.cons (.str _ _) .nil)
  split
  · exact rep_topL t tx (kk (by kernel_rfl : (T0 w.params).K 222 = some (hd.zo_205 w.params))) (by kernel_rfl) (by exact rfl) (.cons (.str _ _) .nil)
  split
  · exact rep_topL t tx (kk (by kernel_rfl : (T0 w.params).K 223 = some (hd.zo_206 w.params))) (by kernel_rfl) (by exact rfl) (.cons (.str _ _) .nil)
  split
  · exact rep_topL t tx (kk (by kernel_rfl : (T0 w.params).K 224 = some (hd.zo_207 w.params))) (by kernel_rfl) (by exact rfl) (.cons (.str _ _) .nil)
  · exact hdv
theorem ev_wider (e : Ext (T0 w.params) T) {A : Around} {env : Env} {σ : Sg} {p1 p2 pa pos : Pos} {ne : PySem.Expr} {x : Str} {pl : Sem Bool} (hk : env.kindOf "_law_wider" = some .globalImplicit) (hn : Ev prg w T A env σ ne (.str x))
    (hform : eval (.Call (.Attribute (.Name "_law_wider" p1) "get" pa) [ne, .List [] p2] [] pos) env = (do
      let ov ← eval (.Name "_law_wider" p1) env
      standAt pa.atName
      let (f, first) ← holding [ov] (getMethod ov "get" pl)
      callWith pos f first (backTo pos (starEach [ne, .List [] p2] env)) []))
    (hne : starEach [ne, .List [] p2] env = (false, eval ne env) :: starEach [.List [] p2] env) :
    Ev prg w T A env σ (.Call (.Attribute (.Name "_law_wider" p1) "get" pa) [ne, .List [] p2] [] pos) (.lst ((lwider x).map .str)) := .mk fun X s E => by
  refine PyProof.Rows.MethodCall_ (pl := pl) ?_ hform
  refine Name_function_global E.kind hk (loadGlobal_global (by rw [E.glob]; exact E.top.g) (by rw [e.mg]; kernel_rfl : T.mg "_law_wider" = some (.ref 219)) ?_) (by kernel_rfl)
  have ho := E.top.k _ _ (e.k _ _ (by kernel_rfl : (T0 w.params).K 219 = some (hd.zo_202 w.params)))
  have hT : s.TypeIs (.ref 219) "dict" := ⟨_, ho, by kernel_rfl⟩
  refine getMethod_builtin hT PySem.F.plainAttrs_dict PySem.F.slot_dict_get PySem.F.type_dict_get (fun a h => by cases h; exact ⟨_, ho, rfl⟩) ?_
  dsimp only
  refine PyProof.Rows.callWith_method1 ?_ hne rfl
  have hs : Evs prg w T A env σ [ne, .List [] p2] [.str x, .lst []] := evs_cons hne hn (evs_cons rfl (ev_list evs_nil (Nat.zero_le _)) evs_nil)
  refine wpAny_mono (hs.run X pos s E) (fun vs s₁ ⟨k₁, r₁⟩ => ?_) (fun _ _ f => f.elim)
  have E₁ := E.keep k₁.hk
  cases r₁ with
  | cons ra rb =>
    cases rb with
    | cons rb rc =>
      cases rc
      cases ra with
      | str _ tk =>
        rename_i v2
        have ho₁ := E₁.top.k _ _ (e.k _ _ (by kernel_rfl : (T0 w.params).K 219 = some (hd.zo_202 w.params)))
        have hT₁ : s₁.TypeIs (.ref 219) "dict" := ⟨_, ho₁, by kernel_rfl⟩
        refine call_meetsIn PySem.F.slot_dict_get hT₁ PySem.F.entry_dict_get (PySem.F.args_dict_get_3 _ _ _) (meets_dict_get_default (PySem.strKind prg w) 219 (is_str.mpr ⟨tk, rfl⟩ : (PySem.strKind prg w).is x (.str x tk) = true) (by decide) _) ⟨lwiderV, wider_map e E₁.top, ?_⟩
        exact ⟨k₁.trans (.tok _ _), wider_rep e E₁.top E₁.topX rb x⟩
end
end
section
open PySem PySem.W PySem.Calls PyProof.Rows PySem.SeqAt PySem.Spec
set_option autoImplicit false
set_option linter.unusedVariables false
set_option maxRecDepth 100000
noncomputable def dL : Option (List Str) → D
  | none => .none
  | some l => .lst (l.map .str)
noncomputable def rowOf (c : Int) : Int × Str × Option (List Str) := (c, scOf c, scxOf c)
noncomputable def isRow (c : Int) : D → Bool
  | .tup (.int i :: _) => i == c
  | _ => false
theorem isRow_row (c : Int) (r : Int × Str × Option (List Str)) : isRow c (rowD r) = (r.1 == c) := rfl
theorem rows_one {c : Int} (hc : c ∈ codes) : ((rowsD.map rowD).filter (isRow c)).map id = [rowD (rowOf c)] := by
  simp only [codes, rowsD, List.map_cons, List.map_nil, List.mem_cons, List.not_mem_nil, or_false] at hc
  rcases hc with rfl | rfl | rfl | rfl | rfl | rfl | rfl | rfl | rfl | rfl | rfl | rfl | rfl <;> rfl
noncomputable def lmore (b : Bool) (l : List Str) : List Str := l.flatMap fun n => (lwider n).filter fun _ => b
noncomputable def lset (b : Bool) (c : Int) : Option (List Str) := if (namesOf c).any (· == "Zyyy") || (namesOf c).any (· == "Zinh") then none else some (srt (dd (namesOf c ++ lmore b (namesOf c))))
theorem lmore_le (b : Bool) : ∀ c ∈ codes, (namesOf c ++ lmore b (namesOf c)).length ≤ 20 := by cases b <;> decide +kernel
noncomputable def foundE (P : Params) : PySem.Expr := match bodyOf (f_lset P) with | _ :: .Assign _ e _ :: _ => e | _ => .Constant .none 0 default
noncomputable def widD : D → List D
  | .str x => (lwider x).map .str
  | _ => []
theorem widD_le (d : D) : (widD d).length ≤ 3 := by
  cases d with
  | str x =>
    unfold widD lwider
    rw [List.length_map]
    split
    · decide
    split
    · decide
    split
    · decide
    split
    · decide
    split
    · decide
    · decide
  | _ => simp [widD]
theorem filter_const {α : Type} (b : Bool) (l : List α) : l.filter (fun _ => b) = if b then l else [] := by
  cases b <;> simp
theorem more_eq (b : Bool) (l : List Str) : (((l.map D.str).filter fun _ => true).flatMap fun d => ((widD d).filter fun _ => b).map fun d' => d') = (lmore b l).map .str := by
  rw [List.filter_eq_self.mpr (fun _ _ => rfl)]
  unfold lmore
  induction l with
  | nil => rfl
  | cons x l ih =>
    rw [List.map_cons, List.flatMap_cons, List.flatMap_cons, List.map_append, ih]
    congr 1
    show (((lwider x).map D.str).filter fun _ => b).map (fun d' => d') = ((lwider x).filter fun _ => b).map D.str
    rw [filter_const, filter_const]
    cases b <;> simp
section
variable {w : World} {n : Nat} {T : Top0}
theorem c_lset (e : Ext (T0 w.params) T) {c : Int} (hc : c ∈ codes) (b : Bool) : CallC prg w T (n + 1) (.ref 234) [.int c, .bool b] (dL (lset b c)) := by
  refine c_def ((k_lset w.params (.int c) (.bool b)).ext e) fun A L B X s R F => ?_
  have kcode : (callEnvC (f_lset w.params) L 234).kindOf "code" = some .cell := by kernel_rfl
  refine b_assign (d := rowD (rowOf c)) F ?_ rfl (.inl (by kernel_rfl)) ⟨by decide, by decide⟩ (fun _ h => nomatch h) fun s₁ F₁ => ?_
  · refine ev_item (k := 0) (.inr rfl) (ev_compR (d₀ := .lst (rowsD.map rowD)) (ds := rowsD.map rowD) (pb := isRow c) (f := id) (cl := [("code", L + 1)]) (cap := ["code"]) R (.inl rfl) (le_size (m := 13) (by simp [rowsD]) (by decide)) (ev_rows e (by kernel_rfl)) (fun _ => rfl) ?_ ?_ ?_ ?_ ?_ (rows_one hc)) ev_int rfl (by decide) (fun _ _ => rfl)
    · refine compOk_of (by kernel_rfl) (by kernel_rfl) (by kernel_rfl) (by kernel_rfl) (by kernel_rfl) (fun y hy => ?_) (by kernel_rfl) (fun y hy => ?_)
      · rcases List.mem_singleton.mp hy with rfl
        exact ⟨_, rfl, by kernel_rfl⟩
      · rcases List.mem_singleton.mp hy with rfl
        exact ⟨_, rfl⟩
    · exact noCell_of (by kernel_rfl)
    · kernel_rfl
    · intro C d hd
      obtain ⟨r, hr, rfl⟩ := List.mem_map.mp hd
      rw [isRow_row]
      exact evTs_one (evT_cmp (ev_item (k := 0) (.inl rfl) (ev_name rfl) ev_int rfl (by decide) (fun _ _ => rfl)) (ev_name rfl) cmp_eq_int rfl)
    · intro C d hd hp
      exact ev_name rfl
  have hfound : Ev prg w T A (callEnvC (f_lset w.params) L 234) (upS (sgOf [("code" : Str), "is_wide"] ([.int c, .bool b] ++ [])) "row" (rowD (rowOf c))) (foundE w.params) (.lst ((namesOf c).map .str)) := by
    have h2 : Ev prg w T A (callEnvC (f_lset w.params) L 234) (upS (sgOf [("code" : Str), "is_wide"] ([.int c, .bool b] ++ [])) "row" (rowD (rowOf c))) (.Subscript (.Name "row" ⟨153, 28, 153, 31⟩) (.Constant (.int 2) 0 ⟨153, 32, 153, 33⟩) ⟨153, 28, 153, 34⟩) (dS (scxOf c)) :=
      ev_item (k := 2) (.inl rfl) (ev_name rfl) ev_int rfl (by decide) (fun _ _ => rfl)
    unfold namesOf
    cases hx : scxOf c with
    | none =>
      rw [hx] at h2
      refine ev_ifexp (evT_cmp h2 ev_none cmp_isnot_none rfl) (fun h => by cases h) (fun _ => ev_list (evs_cons rfl (ev_item (k := 1) (.inl rfl) (ev_name rfl) ev_int rfl (by decide) (fun _ _ => rfl)) evs_nil) (le_size (m := 1) (Nat.le_refl _) (by decide)))
    | some l =>
      rw [hx] at h2
      have hl : l.length ≤ 5 := by
        have := names_le c hc
        unfold namesOf at this
        rw [hx] at this
        exact this
      refine ev_ifexp (evT_cmp h2 ev_none cmp_isnot_none rfl) (fun _ => ?_) (fun h => by cases h)
      refine ev_callT (n := n) (ds := [.tup (l.map .str)]) R (by kernel_rfl) (by rw [e.mg]; kernel_rfl) (by rw [e.mb]; kernel_rfl) (evs_cons rfl (ev_item (k := 2) (.inl rfl) (ev_name rfl) ev_int ?_ (by decide) (fun _ _ => rfl)) evs_nil) rfl (c_list_tup (by rw [List.length_map]; exact le_size hl (by decide)))
      show some (dS (scxOf c)) = _
      rw [hx]
      rfl
  refine b_assign F₁ hfound rfl (.inl (by kernel_rfl)) ⟨by decide, by decide⟩ (fun _ h => nomatch h) fun s₂ F₂ => ?_
  have hle := names_le c hc
  have hle2 := lmore_le b c hc
  have hset : lset b c = if (namesOf c).any (· == "Zyyy") || (namesOf c).any (· == "Zinh") then none else some (srt (dd (namesOf c ++ lmore b (namesOf c)))) := rfl
  generalize hN : namesOf c = N at F₂ hle hle2 hset
  refine b_if (b := N.any (· == "Zyyy") || (N.any (· == "Zinh") || false)) F₂ (evT_or (evT_cmp ev_str (ev_name rfl) cmp_in_lst rfl) fun _ => evT_or (evT_cmp ev_str (ev_name rfl) cmp_in_lst rfl) fun _ => evT_or_nil) (fun h s₃ F₃ => ?_) (fun h s₃ F₃ => b_nil ?_)
  · rw [Bool.or_false] at h
    rw [hset, if_pos h]
    exact b_ret F₃ ev_none fun v s'' G r => ⟨_, _, _, G, r⟩
  · rw [Bool.or_false] at h
    rw [hset, if_neg (by rw [h]; decide)]
    refine b_assignC F₃ (ce_comp2 (n := n) (x := "name") (x' := "script") (cl := [("is_wide", L + 2)]) (cap := ["is_wide"]) (d₀ := .lst (N.map .str)) (ds := N.map .str) (l := (lmore b N).map .str) (pb := fun _ => true) (dd := fun d => .lst (widD d)) (dl := widD) (pb' := fun _ _ => b) (f := fun _ d' => d') (N := 3)
      R (.inl rfl) ?_ (ev_name rfl) (fun _ => rfl) ?_ ?_ ?_ ?_ (by decide) ⟨by decide, by decide⟩ (by decide) ?_ ?_ (fun d => .inl rfl) widD_le (fun _ _ => rfl) ?_ ?_ (more_eq b N)) rfl (by kernel_rfl) ⟨by decide, by decide⟩ fun s₄ F₄ => ?_
    · rw [List.length_map]; exact le_size (m := 15) (by omega) (by decide)
    · refine compOk_of (by kernel_rfl) (by kernel_rfl) (by kernel_rfl) (by kernel_rfl) (by kernel_rfl) (fun y hy => ?_) (by kernel_rfl) (fun y hy => ?_)
      · rcases List.mem_singleton.mp hy with rfl
        exact ⟨_, rfl, by kernel_rfl⟩
      · rcases List.mem_singleton.mp hy with rfl
        exact ⟨_, rfl⟩
    · exact noCell_of (by kernel_rfl)
    · kernel_rfl
    · kernel_rfl
    · intro C d hd
      exact evTs_nil
    · intro C d hd _
      obtain ⟨x, hx, rfl⟩ := List.mem_map.mp hd
      exact ev_wider e (by kernel_rfl) (ev_name rfl) rfl rfl
    · intro C d hd _ d' hd'
      exact evTs_one (evT_bool (ev_name rfl) fun _ => rfl)
    · intro C d hd _ d' hd' _
      exact ev_name rfl
    refine b_ret F₄ ?_ fun v s'' G r => ⟨_, _, _, G, r⟩
    refine ev_sortedSet (n := n) (ss := N ++ lmore b N) R (by kernel_rfl) (by rw [e.mg]; kernel_rfl) (by rw [e.mb]; kernel_rfl) (by kernel_rfl) (by rw [e.mg]; kernel_rfl) (by rw [e.mb]; kernel_rfl) ?_ (by omega) rfl rfl
    refine ev_cast (ev_add (ev_name rfl) (ev_name rfl) (le_size (m := 20) ?_ (by decide))) (by rw [List.map_append])
    rw [List.length_map, List.length_map, ← List.length_append]
    exact hle2
end
end
section
open PySem PySem.W PySem.Calls PyProof.Rows PySem.SeqAt PySem.Spec
set_option autoImplicit false
set_option linter.unusedVariables false
set_option maxRecDepth 100000
noncomputable def dLL (ls : List (List Str)) : D := .lst (ls.map fun l => .lst (l.map .str))
theorem plain_LL (ls : List (List Str)) : (dLL ls).plain = true := by
  show plainL _ = true
  rw [plainL_eq, List.all_map]
  exact List.all_eq_true.mpr fun l _ => plain_strs l
theorem lay_LL : ∀ ls : List (List Str), (∀ l ∈ ls, okA l = true) → PyData.canLayAll0 (pyL (ls.map fun l => .lst (l.map .str))) = true
  | [], _ => rfl
  | l :: ls, h => by
    show (PyData.canLay0 (D.lst (l.map .str)).py && PyData.canLayAll0 (pyL (ls.map fun l => .lst (l.map .str)))) = true
    rw [lay_LL ls fun l hl => h l (List.mem_cons_of_mem _ hl), Bool.and_true, D.py, PyData.canLay0]
    exact lay_strs l (h l List.mem_cons_self)
theorem depth_LL : ∀ ls : List (List Str), PyData.depthAll (pyL (ls.map fun l => .lst (l.map .str))) ≤ 1
  | [] => Nat.zero_le _
  | l :: ls => by
    show max (PyData.depth (D.lst (l.map .str)).py) (PyData.depthAll (pyL (ls.map fun l => .lst (l.map .str)))) ≤ 1
    have := depth_LL ls
    rw [D.py, PyData.depth, depth_strs]
    omega
theorem shaped_LL {ls : List (List Str)} (h : ∀ l ∈ ls, okA l = true) : shaped (dLL ls).py = true := by
  rw [shaped, Bool.and_eq_true, dLL, D.py, PyData.canLay0, PyData.depth, lay_LL ls h]
  refine ⟨rfl, ?_⟩
  have := depth_LL ls
  simp only [decide_eq_true_eq]
  omega
theorem eqv_LL (ls : List (List Str)) : PyData.eqv (dLL ls).py (D.lst []).py = decide (ls = []) := by
  cases ls with
  | nil => rfl
  | cons l ls => rfl
noncomputable def lsomes (b : Bool) (t : List Int) : List (List Str) := t.filterMap (lset b)
noncomputable def lmet (b : Bool) (t : List Int) : Option (List Str) := match lsomes b t with
  | [] => none
  | l :: ls => some (l.filter fun x => decide (((l :: ls).filter fun o => !o.any (· == x)) = []))
theorem lset_okD : ∀ b : Bool, ∀ c ∈ codes, okA ((lset b c).getD []) = true ∧ ((lset b c).getD []).length ≤ 20 := by decide +kernel
theorem lsomes_ok {b : Bool} {t : List Int} (ht : ∀ c ∈ t, c ∈ codes) : ∀ l ∈ lsomes b t, okA l = true ∧ l.length ≤ 20 := fun l hl => by
  obtain ⟨c, hc, h⟩ := List.mem_filterMap.mp hl
  have := lset_okD b c (ht c hc)
  rw [h] at this
  exact this
noncomputable def notNone : D → Bool
  | .none => false
  | _ => true
theorem some_eq (b : Bool) (t : List Int) : ((t.map fun c => dL (lset b c)).filter notNone).map id = (lsomes b t).map fun l => .lst (l.map .str) := by
  unfold lsomes
  induction t with
  | nil => rfl
  | cons c t ih =>
    rw [List.map_cons, List.filterMap_cons]
    cases h : lset b c with
    | none => exact ih
    | some l =>
      show D.lst (l.map .str) :: ((t.map fun c => dL (lset b c)).filter notNone).map id = _
      rw [ih]; rfl
noncomputable def setF (b : Bool) : D → D
  | .int c => dL (lset b c)
  | _ => .none
theorem sets_eq (b : Bool) (t : List Int) : (((t.map D.int).filter fun _ => true).map (setF b)) = t.map fun c => dL (lset b c) := by
  rw [List.filter_eq_self.mpr (fun _ _ => rfl), List.map_map]; rfl
noncomputable def lacks (x : Str) : D → Bool
  | .lst l => !l.any fun d => match d with | .str y => y == x | _ => false
  | _ => false
theorem lacks_str (x : Str) (l : List Str) : lacks x (.lst (l.map .str)) = !l.any (· == x) := by
  show (!(l.map D.str).any _) = _
  rw [List.any_map]; rfl
theorem lacks_eq (x : Str) (ls : List (List Str)) : (((ls.map fun l => D.lst (l.map .str)).filter (lacks x)).map id) = (ls.filter fun o => !o.any (· == x)).map fun l => D.lst (l.map .str) := by
  induction ls with
  | nil => rfl
  | cons l ls ih =>
    rw [List.map_cons, List.filter_cons, List.filter_cons, lacks_str]
    cases !l.any (· == x)
    · exact ih
    · show D.lst (l.map .str) :: _ = D.lst (l.map .str) :: _
      rw [← ih]
noncomputable def inAll (ls : List (List Str)) : D → Bool
  | .str x => decide ((ls.filter fun o => !o.any (· == x)) = [])
  | _ => false
section
variable {w : World} {n : Nat} {T : Top0}
theorem c_lmet (e : Ext (T0 w.params) T) {t : List Int} (ht : ∀ c ∈ t, c ∈ codes) (htl : t.length ≤ 60) (b : Bool) : CallC prg w T (n + 2) (.ref 239) [.lst (t.map .int), .bool b] (dS (lmet b t)) := by
  refine c_def (n := n + 1) ((k_lmet w.params (.lst (t.map .int)) (.bool b)).ext e) fun A L B X s R F => ?_
  refine b_assignC F ((ce_comp (n := n + 1) (d₀ := .lst (t.map .int)) (ds := t.map .int) (pb := fun _ => true) (f := setF b) (cl := [("is_wide", L + 1)]) (cap := ["is_wide"]) R (.inl rfl) (by rw [List.length_map]; exact le_size htl (by decide)) (ev_name rfl) (fun _ => rfl) ?_ ?_ ?_ ?_ ?_).cast (sets_eq b t)) rfl (by kernel_rfl) ⟨by decide, by decide⟩ fun s₁ F₁ => ?_
  · refine compOk_of (by kernel_rfl) (by kernel_rfl) (by kernel_rfl) (by kernel_rfl) (by kernel_rfl) (fun y hy => ?_) (by kernel_rfl) (fun y hy => ?_)
    · rcases List.mem_singleton.mp hy with rfl
      exact ⟨_, rfl, by kernel_rfl⟩
    · rcases List.mem_singleton.mp hy with rfl
      exact ⟨_, rfl⟩
  · exact noCell_of (by kernel_rfl)
  · kernel_rfl
  · intro C d hd
    exact evTs_nil
  · intro C d hdm _
    obtain ⟨c, hc, rfl⟩ := List.mem_map.mp hdm
    exact ev_callF (n := n + 1) (f := 234) (ds := [.int c, .bool b]) R (by kernel_rfl) (by rw [e.mg]; kernel_rfl) (e.k _ _ (by kernel_rfl : (T0 w.params).K 234 = some (hd.zo_217 w.params))) (by exact rfl) (evs_cons rfl (ev_name rfl) (evs_cons rfl (ev_name rfl) evs_nil)) rfl (c_lset (n := n) e (ht c hc) b) (by kernel_rfl)
  refine b_assign (d := dLL (lsomes b t)) F₁ (ev_compR (n := n + 1) (d₀ := .lst (t.map fun c => dL (lset b c))) (ds := t.map fun c => dL (lset b c)) (pb := notNone) (f := id) (cl := []) (cap := []) R (.inl rfl) (by rw [List.length_map]; exact le_size htl (by decide)) (ev_name rfl) (fun _ => rfl) ?_ ?_ ?_ ?_ ?_ (some_eq b t)) rfl (.inr ⟨by kernel_rfl, L + 2, by kernel_rfl⟩) ⟨by decide, by decide⟩ (fun _ h => nomatch h) fun s₂ F₂ => ?_
  · exact compOk_of (by kernel_rfl) (by kernel_rfl) (by kernel_rfl) (by kernel_rfl) (by kernel_rfl) (fun y hy => nomatch hy) (by kernel_rfl) (fun y hy => nomatch hy)
  · exact noCell_of (by kernel_rfl)
  · kernel_rfl
  · intro C d hd
    obtain ⟨c, hc, rfl⟩ := List.mem_map.mp hd
    refine evTs_one (evT_cmp (ev_name rfl) ev_none ?_ rfl)
    have := cmp_isnot_none (prog := prg) (w := w) (A := A) (d := dL (lset b c))
    cases h : lset b c <;> rw [h] at this <;> exact this
  · intro C d hd _
    exact ev_name rfl
  have hsome := lsomes_ok (b := b) ht
  have hmet : lmet b t = match lsomes b t with
      | [] => none
      | l :: ls => some (l.filter fun x => decide (((l :: ls).filter fun o => !o.any (· == x)) = [])) := rfl
  have hlen : (lsomes b t).length ≤ 60 := Nat.le_trans (List.length_filterMap_le ..) htl
  generalize hS : lsomes b t = S at F₂ hsome hmet hlen
  have heq := cmp_eq (prog := prg) (w := w) (A := A) (n := n + 1) R (d := dLL S) (d' := .lst []) (plain_LL S) rfl (shaped_LL fun l hl => (hsome l hl).1) rfl
  rw [eqv_LL] at heq
  refine b_if F₂ (evT_cmp (ev_name rfl) (ev_list evs_nil (Nat.zero_le _)) heq rfl) (fun h s₃ F₃ => ?_) (fun h s₃ F₃ => b_nil ?_)
  · have hS0 : S = [] := by simpa using h
    subst hS0
    rw [hmet]
    exact b_ret F₃ ev_none fun v s'' G r => ⟨_, _, _, G, r⟩
  · obtain ⟨l, ls, rfl⟩ : ∃ l ls, S = l :: ls := by
      cases S with
      | nil => simp at h
      | cons l ls => exact ⟨l, ls, rfl⟩
    rw [hmet]
    dsimp only
    have hl := (hsome l List.mem_cons_self).2
    refine b_ret F₃ ?_ fun v s'' G r => ⟨_, _, _, G, r⟩
    refine ev_callT (n := n + 1) (ds := [.lst ((l.filter fun x => decide (((l :: ls).filter fun o => !o.any (· == x)) = [])).map .str)]) R (by kernel_rfl) (by rw [e.mg]; kernel_rfl) (by rw [e.mb]; kernel_rfl) (evs_cons rfl ?_ evs_nil) rfl (c_tuple_lst ?_)
    · refine ((ce_comp1 (n := n + 1) true (x := "script") (d₀ := .lst (l.map .str)) (ds := l.map .str) (pb := inAll (l :: ls)) (f := id) (cl := [("some", L + 2)]) (cap := ["some"]) R (.inl rfl) (by rw [List.length_map]; exact le_size hl (by decide)) (ev_item (k := 0) (.inr rfl) (ev_name rfl) ev_int rfl (by decide) (fun _ _ => rfl)) (fun _ => rfl) ?_ ?_ ?_ ?_ ?_ ?_).cast ?_).ev
      · refine compOk_of (by kernel_rfl) (by kernel_rfl) (by kernel_rfl) (by kernel_rfl) (by kernel_rfl) (fun y hy => ?_) (by kernel_rfl) (fun y hy => ?_)
        · rcases List.mem_singleton.mp hy with rfl
          exact ⟨_, rfl, by kernel_rfl⟩
        · rcases List.mem_singleton.mp hy with rfl
          exact ⟨_, rfl⟩
      · intro m; kernel_rfl
      · intro h; kernel_rfl
      · kernel_rfl
      · intro C d hd'
        obtain ⟨x, hx, rfl⟩ := List.mem_map.mp hd'
        have heq2 := cmp_eq (prog := prg) (w := w) (A := A) (n := n + 1) R (d := dLL ((l :: ls).filter fun o => !o.any (· == x))) (d' := .lst []) (plain_LL _) rfl (shaped_LL fun l hl => (hsome l (List.mem_filter.mp hl).1).1) rfl
        rw [eqv_LL] at heq2
        refine evTs_one (evT_cmp ?_ (ev_list evs_nil (Nat.zero_le _)) heq2 rfl)
        refine ((ce_comp (n := n + 1) (d₀ := dLL (l :: ls)) (ds := (l :: ls).map fun l => .lst (l.map .str)) (pb := lacks x) (f := id) (cl := [("script", C + 1)]) (cap := ["script"]) R (.inl rfl) (by rw [List.length_map]; exact le_size hlen (by decide)) (ev_name rfl) (fun _ => rfl) ?_ ?_ ?_ ?_ ?_).cast (lacks_eq x (l :: ls))).ev
        · refine compOk_of (by kernel_rfl) (by kernel_rfl) (by kernel_rfl) (by kernel_rfl) (by kernel_rfl) (fun y hy => ?_) (by kernel_rfl) (fun y hy => ?_)
          · rcases List.mem_singleton.mp hy with rfl
            exact ⟨_, rfl, by kernel_rfl⟩
          · rcases List.mem_singleton.mp hy with rfl
            exact ⟨_, rfl⟩
        · exact noCell_of (by kernel_rfl)
        · kernel_rfl
        · intro C' d hd''
          obtain ⟨o, ho, rfl⟩ := List.mem_map.mp hd''
          rw [lacks_str]
          exact evTs_one (evT_cmp (ev_name rfl) (ev_name rfl) cmp_notin_lst rfl)
        · intro C' d hd'' _
          exact ev_name rfl
      · intro C d hd' _
        exact ev_name rfl
      · rw [List.filter_map, List.map_map]
        rfl
    · rw [List.length_map]
      exact le_size (Nat.le_trans (List.length_filter_le ..) hl) (by decide)
end
end
section
open PySem PySem.W PySem.W.X PySem.Calls PyProof.Rows PySem.SeqAt PySem.Spec
set_option autoImplicit false
set_option linter.unusedVariables false
set_option maxRecDepth 100000
noncomputable abbrev prgH : Program := PySem.Challenge.rw_pb0593_01.prog
/-- the top's objects by number -/
noncomputable abbrev ktH (P : Params) : KT := hd.kt_460 P
theorem kt_same (P : Params) : ((List.range 246).map fun a => (ktH P).get a) = (List.range 246).map fun a => (hd.heap_227 P).lookup a := by kernel_rfl
theorem kt_in {P : Params} {h : Heap} (X : (hd.heap_227 P).In h) : ∀ a o, a < 246 → (ktH P).get a = some o → h.get? a = some o := fun a o ha e => by
  have h1 := congrArg (fun l => l[a]?) (kt_same P)
  simp only [List.getElem?_map, List.getElem?_range ha, Option.map_some] at h1
  rw [e] at h1
  exact X a o (by simpa using h1.symm)
/-- a tuple of the top that holds texts -/
noncomputable def okTup (P : Params) (a : Addr) : Bool := match Nat.blt a 246 with
  | true => match (ktH P).get a with
    | some ⟨.type t, _, .seq us _, _⟩ => t == "tuple" && us.toList.all fun v => match v with | .str x _ => PyData.strOk x | _ => false
    | _ => false
  | false => false
/-- None beside a tuple of texts -/
noncomputable def chkLike (P : Params) (o : Obj) : Option Value := match o.data with
  | .dict es _ => match es.toList with
    | [⟨_, .str x _, .none⟩, ⟨_, .str y _, .ref a⟩] => match x == ("one" : Str) && y == ("other" : Str) && okTup P a with
      | true => some (.bool false)
      | false => none
    | _ => none
  | _ => none
noncomputable abbrev f_like (P : Params) : FuncData := fdOf (hd.zo_85 P)
noncomputable def orcH (P : Params) (c : Code) : Option (Addr × (Obj → Option Value) × Code) := match c with
  | .func _ e => match e.func with
    | some f => match Nat.beq f 84 with
      | true => some (e.locals, chkLike P, .func (bodyOf (f_like P)) (callEnvC (f_like P) e.locals 84))
      | false => none
    | none => none
  | _ => none
theorem okTup_strs {P : Params} {a : Addr} (h : okTup P a = true) : ∃ o us ss k, a < 246 ∧ (ktH P).get a = some o ∧ o.cls = .type "tuple" ∧ o.data = .seq us k ∧ StrsAre us.toList ss ∧ okA ss = true := by
  unfold okTup at h
  cases hb : Nat.blt a 246 with
  | false => rw [hb] at h; cases h
  | true =>
    rw [hb] at h
    dsimp only at h
    split at h
    · rename_i t di us k sl ho
      rw [Bool.and_eq_true] at h
      obtain ⟨h1, h2⟩ := h
      have : ∀ vs : List Value, (vs.all fun v => match v with | .str x _ => PyData.strOk x | _ => false) = true → ∃ ss, StrsAre vs ss ∧ okA ss = true := by
        intro vs
        induction vs with
        | nil => exact fun _ => ⟨[], .nil, rfl⟩
        | cons v vs ih =>
          intro h
          rw [List.all_cons, Bool.and_eq_true] at h
          obtain ⟨ss, h3, h4⟩ := ih h.2
          cases v with
          | str x t => exact ⟨x :: ss, .cons x t h3, Bool.and_eq_true_iff.mpr ⟨h.1, h4⟩⟩
          | _ => exact Bool.noConfusion (show false = true from h.1)
      obtain ⟨ss, h3, h4⟩ := this _ h2
      exact ⟨_, us, ss, k, Z.blt_iff.mp hb, ho, by rw [beq_iff_eq.mp h1], rfl, h3, h4⟩
    · cases h
theorem orc_sound {w : World} {c c' : Code} {a : Addr} {chk : Obj → Option Value} {o : Obj} {v : Value} {A : Around} {Q : PySem.Fin → Shared → Prop} {E : Value → Shared → Prop} {s : Shared} (hc : orcH w.params c = some (a, chk, c')) (hk : chk o = some v) (e : c = c') (ho : s.heap.get? a = some o)
    (hkt : ∀ b ob, b < 246 → (ktH w.params).get b = some ob → s.heap.get? b = some ob) (hu : A.units + 100 < cLine) (hQ : Q (.done (.ret v)) s) : wpAny (model prgH w) A (denote table c) Q E s := by
  unfold orcH at hc
  split at hc
  · rename_i bd en
    split at hc
    · rename_i f hf
      split at hc
      · rename_i hb
        simp only [Option.some.injEq, Prod.mk.injEq] at hc
        obtain ⟨rfl, rfl, rfl⟩ := hc
        rw [e]
        unfold chkLike at hk
        split at hk
        · rename_i es ep hd0
          split at hk
          · rename_i h1 x t1 h2 y t2 a' hes
            split at hk
            · rename_i hcond
              cases hk
              simp only [Bool.and_eq_true] at hcond
              obtain ⟨⟨hx, hy⟩, htup⟩ := hcond
              have hx' := beq_iff_eq.mp hx
              have hy' := beq_iff_eq.mp hy
              subst hx' hy'
              obtain ⟨ob, us, ss, k, hlt, hob, hcl, hdt, hss, hok⟩ := okTup_strs htup
              have hrep : Rep (fun _ => False) s.heap (.ref a') (.tup (ss.map .str)) := by
                obtain ⟨⟨ul⟩, rfl⟩ : ∃ u', us = u' := ⟨us, rfl⟩
                exact .tup (vs := ul) ⟨ob, hkt a' ob hlt hob, hcl, k, hdt⟩ (fun z => z) (strs_rep hss)
              obtain ⟨as, hrd⟩ := hrep.reads (plain_strs ss)
              obtain ⟨esl⟩ := es
              simp only at hes
              subst hes
              have hns : s.heap.Ns en.locals (nsFind #[⟨h1, .str "one" t1, .none⟩, ⟨h2, .str "other" t2, .ref a'⟩]) := by
                refine ⟨o, _, ep, ho, hd0, fun en hen => ?_, fun _ => rfl⟩
                simp only [List.mem_toArray, List.mem_cons, List.not_mem_nil, or_false] at hen
                rcases hen with rfl | rfl
                · exact ⟨_, _, rfl⟩
                · exact ⟨_, _, rfl⟩
              show wpAny _ A (do point; match ← (execs (bodyOf (f_like w.params)) (callEnvC (f_like w.params) en.locals 84)).onRaise (leaving (callEnvC (f_like w.params) en.locals 84)) with | .ret v => ret v | _ => ret .none) _ _ s
              refine wpAny_bind (wpAny_point (wpAny_bind (wpAny_onRaise ?_)))
              refine wpAny_execs_cons (wpAny_Return_some (BoolOp_and ?_))
              refine wpAny_Compare1 ?_ rfl
              refine wpAny_Name (wpAny_loadName_local rfl (by kernel_rfl) hns (v := .none) rfl ?_) rfl
              refine wpAny_Name (wpAny_loadName_local rfl (by kernel_rfl) hns (v := .ref a') rfl ?_) rfl
              refine compareEq_shaped (da := .none) .none hrd rfl (shaped_tup hok) (by omega) ?_
              refine wpAny_truthy_bool ?_
              exact wpAny_pure hQ
            · cases hk
          · cases hk
        · cases hk
      · cases hc
    · cases hc
  · cases hc
noncomputable def callT (f : Value) (args : List Value) : Sem PySem.Fin := Sem.bind (call f args) fun v => Sem.pure (.done (.ret v))
noncomputable def hV (w : World) (A : Around) (Q : PySem.Fin → Shared → Prop) (h₀ : Heap) (g : Array GenState) (d : Drawn) (os : OsState) (n t : Nat) (bs : List Nat) : HV :=
  ⟨prgH, w, A, Q, fun _ _ => False, ktH w.params, 246, n, bs, h₀, t, g, d, os, orcH w.params⟩
/-- the world, one answer of its text told -/
noncomputable def wB (w : World) (b : Bool) : World := { w with params := { w.params with followText := fun x => match x == "special-get-raises" with
  | true => b
  | false => w.params.followText x } }
theorem wB_self (w : World) : wB w (w.params.followText "special-get-raises") = w := by
  obtain ⟨dr, pr⟩ := w
  obtain ⟨a1, a2, a3, a4, a5, a6, a7, a8, a9, a10, a11, a12, a13, a14, a15, a16⟩ := pr
  unfold wB
  dsimp only
  congr 2
  funext x
  cases h : x == "special-get-raises" with
  | true => rw [beq_iff_eq.mp h]
  | false => rfl
/-- what a run came to, and what it must have come to -/
noncomputable def outL (o : HO) (js : List Nat) : Option (Value × List (Option Obj) × Nat × Nat × List Nat × List Code) := match o with
  | .done (.done (.ret v)) S => some (v, js.map S.T.get, S.q, S.i, S.acc.map (·.1), S.ks.map (·.1))
  | _ => none
noncomputable def outR (o : HO) (v : Value) (objs : List Obj) (q i : Nat) : Option (Value × List (Option Obj) × Nat × Nat × List Nat × List Code) := match o with
  | .done (.done (.ret _)) S => some (v, objs.map some, q, i, S.acc.map (·.2), S.ks.map (·.2))
  | _ => some (v, [], 0, 0, [], [])
noncomputable def Came (o : HO) (v : Value) (js : List Nat) (objs : List Obj) (q i : Nat) : Prop := outL o js = outR o v objs q i
theorem map_good {α : Type} : ∀ {acc : List (α × α)}, acc.map (·.1) = acc.map (·.2) → ∀ p ∈ acc, p.1 = p.2
  | [], _, p, hp => nomatch hp
  | q :: acc, h, p, hp => by
    rw [List.map_cons, List.map_cons] at h
    injection h with h1 h2
    rcases List.mem_cons.mp hp with rfl | hp
    · exact h1
    · exact map_good h2 p hp
theorem adr2_at (n : Nat) : ∀ (bs : List Nat) (j : Nat) (h : j < bs.length), adr2 n bs j = bs[j]
  | [], _, h => by simp at h
  | b :: bs, 0, _ => rfl
  | b :: bs, j + 1, h => adr2_at n bs j (by simpa using h)
noncomputable def tstore (l : List Obj) : KT := (l.zipIdx.foldl (fun t p => tput 40 t p.2 p.1) .nil)
theorem tstore_get : ∀ (l : List Obj) (t : KT) (m j : Nat) (o : Obj), ((l.zipIdx m).foldl (fun t p => tput 40 t p.2 p.1) t).get j = some o → (m ≤ j ∧ j < m + l.length ∧ l[j - m]? = some o) ∨ t.get j = some o
  | [], t, m, j, o, h => .inr h
  | x :: l, t, m, j, o, h => by
    rw [List.zipIdx_cons, List.foldl_cons] at h
    rcases tstore_get l _ (m + 1) j o h with ⟨h1, h2, h3⟩ | h'
    · refine .inl ⟨by omega, by rw [List.length_cons]; omega, ?_⟩
      rw [show j - m = (j - (m + 1)) + 1 by omega, List.getElem?_cons_succ]
      exact h3
    · have z := tput_get _ 40 t m j o h'
      by_cases hj : j = m
      · rw [if_pos hj] at z
        subst hj; subst z
        exact .inl ⟨Nat.le_refl _, by rw [List.length_cons]; omega, by simp⟩
      · rw [if_neg hj] at z
        exact .inr z
theorem hrun {w : World} {A : Around} {s : Shared} {f : Value} {args : List Value} {Q : Value → Shared → Prop} {bs : List Nat} {objs : List Obj} {hints : List Nat} {v : Value} {js : List Nat} {objs' : List Obj} {q i N : Nat} {c₀ : Code}
    (hand : A.handled = none) (depth : A.depth + 310 < recursionLimit) (units : A.units + 700 < cLine)
    (hn : 246 ≤ s.heap.objs.size) (X : (hd.heap_227 w.params).In s.heap) (nodup : bs.Nodup) (lo : ∀ b ∈ bs, 246 ≤ b) (hlen : objs.length = bs.length) (hobj : ∀ (j : Nat) (b : Nat) (o : Obj), bs[j]? = some b → objs[j]? = some o → s.heap.get? b = some o)
    (run : ∀ (b : Bool) (Q' : PySem.Fin → Shared → Prop), Came (hsim (hV (wB w b) A Q' s.heap s.gens s.drawn s.os s.heap.objs.size s.toks bs) N c₀ .base (callT f args) ⟨tstore objs, 246 + bs.length, 0, hints, [], []⟩) v js objs' q i)
    (hQ : ∀ (h' : Heap), (∀ (k j : Nat) (o : Obj), js[k]? = some j → objs'[k]? = some o → h'.get? (Mine.adr 246 s.heap.objs.size bs (246 + j)) = some o) → (∀ b o, s.heap.get? b = some o → b ∉ bs → h'.get? b = some o) → Q v { s with heap := h', toks := s.toks + i }) :
    wpAny (model prgH w) A (call f args) Q (fun _ _ => False) s := by
  have hbs : ∀ b ∈ bs, b < s.heap.objs.size := fun b hb => by
    obtain ⟨j, hj⟩ := List.getElem?_of_mem hb
    have hjl : j < objs.length := by rw [hlen]; exact (List.getElem?_eq_some_iff.mp hj).1
    exact Heap.lt_size (hobj j b objs[j] hj (by simp [hjl]))
  have key : ∀ Q' : PySem.Fin → Shared → Prop, (∀ h', (∀ (k j : Nat) (o : Obj), js[k]? = some j → objs'[k]? = some o → h'.get? (Mine.adr 246 s.heap.objs.size bs (246 + j)) = some o) → (∀ b o, s.heap.get? b = some o → b ∉ bs → h'.get? b = some o) → Q' (.done (.ret v)) { s with heap := h', toks := s.toks + i }) →
      wpAny (model prgH w) A (callT f args) Q' (fun _ _ => False) s := by
    intro Q' hQ'
    have hr := run (w.params.followText "special-get-raises") Q'
    rw [wB_self] at hr
    let V : HV := hV w A Q' s.heap s.gens s.drawn s.os s.heap.objs.size s.toks bs
    have O : V.Ok := ⟨nodup, fun b hb => ⟨lo b hb, hbs b hb⟩, hn, rfl, hand, depth, units, fun c a chk c' o v A Q E s h1 h2 h3 h4 h5 h6 h7 => orc_sound h1 h2 h3 h4 h5 h6 h7⟩
    have I : Inv V ⟨tstore objs, 246 + bs.length, 0, hints, [], []⟩ s.heap := by
      refine ⟨Nat.le_refl _, ?_, fun a o ha e => kt_in X a o ha e, fun j o e => ?_, fun b o e _ => e⟩
      · have e : V.adr (246 + bs.length) = V.n + (246 + bs.length - 246 - bs.length) := adr_new (V := V) (Nat.le_refl _)
        show s.heap.objs.size = V.adr (246 + bs.length)
        rw [e]
        show s.heap.objs.size = s.heap.objs.size + (246 + bs.length - 246 - bs.length)
        omega
      · rcases tstore_get objs .nil 0 j o e with ⟨_, h2, h3⟩ | h'
        · rw [Nat.zero_add, hlen] at h2
          refine ⟨by show 246 + j < 246 + bs.length; omega, ?_⟩
          have e2 : V.adr (246 + j) = adr2 V.n V.bs (246 + j - 246) := adr_high (V := V) (Nat.le_add_right _ _)
          show s.heap.get? (V.adr (246 + j)) = some o
          rw [e2]
          show s.heap.get? (adr2 s.heap.objs.size bs (246 + j - 246)) = some o
          rw [Nat.add_sub_cancel_left]
          have hb : bs[j]? = some bs[j] := by simp [h2]
          have : adr2 s.heap.objs.size bs j = bs[j] := adr2_at _ _ _ h2
          rw [this]
          exact hobj j _ o hb (by simpa using h3)
        · cases h'
    have z := hsim_sound O N c₀ .base (callT f args) _ s.heap I trivial
    revert z hr
    show Came (hsim V N c₀ .base (callT f args) _) v js objs' q i → _
    cases hsim V N c₀ .base (callT f args) ⟨tstore objs, 246 + bs.length, 0, hints, [], []⟩ with
    | stop => exact fun h => nomatch h
    | err => exact fun h => nomatch h
    | done fin S =>
      intro hr z
      cases fin with
      | again => exact nomatch hr
      | done fl =>
        cases fl with
        | ret v' =>
          have hr' : some (v', js.map S.T.get, S.q, S.i, S.acc.map (·.1), S.ks.map (·.1)) = some (v, objs'.map some, q, i, S.acc.map (·.2), S.ks.map (·.2)) := hr
          simp only [Option.some.injEq, Prod.mk.injEq] at hr'
          obtain ⟨rfl, hT, rfl, rfl, hacc, hks⟩ := hr'
          have W := z ⟨map_good hacc, map_good hks⟩ fun h' I' => hQ' h' (fun k j o hj ho => ?_) I'.keep
          · have e : V.st s.heap 0 = s := rfl
            exact W
          · have hm : S.T.get j = some o := by
              have := congrArg (fun l => l[k]?) hT
              simp only [List.getElem?_map, hj, ho, Option.map_some] at this
              simpa using this
            exact (I'.own j o hm).2
        | _ => exact nomatch hr
  have := key (fun fin s' => ∃ v', fin = .done (.ret v') ∧ Q v' s') fun h' a b => ⟨v, rfl, hQ h' a b⟩
  intro Γ p hΓ
  have t := this Γ p hΓ
  unfold callT at t
  rw [show Sem.bind (call f args) (fun v => Sem.pure (PySem.Fin.done (.ret v))) = (call f args >>= fun v => pure (PySem.Fin.done (.ret v))) from rfl, Sem.wp_bind'] at t
  refine Sem.wp_mono _ Γ _ (fun a p' s' h' => ?_) (fun _ _ _ h' => h') p s t
  obtain ⟨v', e, h''⟩ := h'
  cases e
  exact h''
end
section
open PySem PySem.W PySem.W.X PySem.Calls PyProof.Rows PySem.SeqAt PySem.Spec
set_option autoImplicit false
set_option linter.unusedVariables false
set_option maxRecDepth 100000
/-- objects that lie at some places -/
structure Laid (objs : List Obj) (bs : List Nat) (h : Heap) : Prop where
  nodup : bs.Nodup
  lo : ∀ b ∈ bs, 246 ≤ b
  len : objs.length = bs.length
  at_ : ∀ (j : Nat) (b : Nat) (o : Obj), bs[j]? = some b → objs[j]? = some o → h.get? b = some o
noncomputable abbrev bsOf (m : Nat) (β : Nat → Nat) : List Nat := (List.range m).map β
theorem bs_get {m : Nat} {β : Nat → Nat} {j b : Nat} (h : (bsOf m β)[j]? = some b) : j < m ∧ b = β j := by
  unfold bsOf at h
  rw [List.getElem?_map] at h
  obtain ⟨k, hk, rfl⟩ := Option.map_eq_some_iff.mp h
  obtain ⟨hlt, e⟩ := List.getElem?_eq_some_iff.mp hk
  rw [List.getElem_range] at e
  rw [List.length_range] at hlt
  subst e
  exact ⟨hlt, rfl⟩
noncomputable abbrev codeH : Code := .builtin "mine" ⟨[], []⟩
theorem bs_len {m : Nat} {β : Nat → Nat} : (bsOf m β).length = m := by rw [List.length_map, List.length_range]
theorem bs_at {m : Nat} {β : Nat → Nat} {j : Nat} (h : j < m) : (bsOf m β)[j]? = some (β j) := by
  unfold bsOf
  rw [List.getElem?_map, List.getElem?_range h]; rfl
theorem adr_bs {n m : Nat} {β : Nat → Nat} {j : Nat} (h : j < m) : Mine.adr 246 n (bsOf m β) (246 + j) = β j := by
  unfold Mine.adr
  rw [show Nat.blt (246 + j) 246 = false from Z.bool_no Z.blt_iff (by omega)]
  dsimp only
  rw [Nat.add_sub_cancel_left, adr2_at n (bsOf m β) j (by rw [bs_len]; exact h)]
  have := bs_at (β := β) h
  rw [List.getElem?_eq_getElem (by rw [bs_len]; exact h)] at this
  exact Option.some.inj this
/-- a run that changes nothing -/
theorem callC_get {w : World} {T : Top0} (e : Ext (T0 w.params) T) {objs : List Obj} {β : Nat → Nat} {m : Nat} (hm : 0 < m) (hlen : objs.length = m) (hK : ∀ (j : Nat) (o : Obj), objs[j]? = some o → T.K (β j) = some o) (hnd : (bsOf m β).Nodup) (hlo : ∀ b ∈ bsOf m β, 246 ≤ b)
    {f v : Value} {c : Int} {d : D} {q i N : Nat} {hints : List Nat}
    (run : ∀ (A : Around) (Q' : PySem.Fin → Shared → Prop) (h₀ : Heap) (g : Array GenState) (dr : Drawn) (os : OsState) (n t : Nat) (b : Bool) (t2 : Nat), Came (hsim (hV (wB w b) A Q' h₀ g dr os n t (bsOf m β)) N codeH .base (callT f [.ref (β 0), .int c t2]) ⟨tstore objs, 246 + (bsOf m β).length, 0, hints, [], []⟩) v (List.range m) objs q i)
    (hv : ∀ (X : Addr → Prop) (h : Heap), T.At h → (∀ a o, T.K a = some o → ¬ X a) → Rep X h v d) : CallC prg w T 319 f [.obj (β 0), .int c] d := by
  refine .mk fun A X s vs R t L tx r => ?_
  cases r with
  | cons r1 r2 =>
    cases r2 with
    | cons r2 r3 =>
      cases r3
      cases r1 with
      | obj =>
        cases r2 with
        | int _ tk =>
          have t0 := e.at_ t
          have hX : (hd.heap_227 w.params).In s.heap := fun a o h => t0.k a o h
          have live : ∀ j, j < m → ∃ o, objs[j]? = some o ∧ s.heap.get? (β j) = some o := fun j hj => by
            have hj' : j < objs.length := by rw [hlen]; exact hj
            exact ⟨objs[j], by simp [hj'], t.k _ _ (hK j _ (by simp [hj']))⟩
          have hsz : 246 ≤ s.heap.objs.size := by
            obtain ⟨o, _, ho⟩ := live 0 hm
            have h1 : β 0 < s.heap.objs.size := Heap.lt_size ho
            have h2 := hlo (β 0) (List.mem_of_getElem? (bs_at hm))
            omega
          have hdep := R.depth
          have hun := R.units
          refine hrun (bs := bsOf m β) (objs := objs) (js := List.range m) (objs' := objs) (v := v) (q := q) (i := i) (N := N) (hints := hints) (c₀ := codeH) R.hand (by omega) (by omega) hsz hX hnd hlo (by rw [hlen, bs_len]) (fun j b o hj ho => ?_) (fun b Q' => run A Q' s.heap s.gens s.drawn s.os s.heap.objs.size s.toks b tk) fun h' h1 h2 => ?_
          · obtain ⟨_, rfl⟩ := bs_get hj
            exact t.k _ _ (hK j o ho)
          · have hk : Hk s.heap h' := fun b o hb => by
              by_cases hbm : b ∈ bsOf m β
              · obtain ⟨j, hj⟩ := List.getElem?_of_mem hbm
                obtain ⟨hlt, rfl⟩ := bs_get hj
                obtain ⟨o', ho', hs'⟩ := live j hlt
                rw [hb] at hs'
                cases hs'
                have := h1 j j o (by rw [List.getElem?_range hlt]) ho'
                rwa [adr_bs hlt] at this
              · exact h2 b o hb hbm
            have kp : Kp s { s with heap := h', toks := s.toks + i } := ⟨rfl, hk⟩
            exact ⟨kp, hv X h' (t.keep hk) tx⟩
end
section
open PySem PySem.W PySem.Calls PyProof.Rows PySem.SeqAt PySem.Spec
set_option autoImplicit false
set_option linter.unusedVariables false
set_option maxRecDepth 100000
section
variable (P : Params)
noncomputable abbrev f_law : FuncData := fdOf (hd.zo_227 P)
theorem k_law (v0 : D) : DefOk (T0 P) 244 (f_law P) (bodyOf (f_law P)) [("script" : Str)] [] [] [v0] (sgOf [("script" : Str)] ([v0] ++ [])) where
  o := ⟨hd.zo_227 P, by kernel_rfl, by kernel_rfl⟩
  code := ⟨243, hd.zo_226 P, _, _, by kernel_rfl, by kernel_rfl, by exact rfl, by exact rfl⟩
  body := by kernel_rfl
  bind := fun s vs t h => by match vs, h with | [v0], _ => exact BindsTo.of_eq (by kernel_rfl)
  dfl := fun X h => .nil
  len := rfl
  clo := by kernel_rfl
  glob := by kernel_rfl
  blt := by kernel_rfl
  kinds := fun x hx => by
    simp only [List.mem_cons, List.not_mem_nil, or_false] at hx
    subst hx
    exact ⟨⟨by decide, by decide⟩, .inl (by kernel_rfl)⟩
  cells := fun L n c h => by
    have e : cellsFrom L (f_law P).scope.names [] = [(("deck" : Str), L)] := by kernel_rfl
    rw [e] at h ⊢
    simp only [List.mem_cons, List.not_mem_nil, or_false, Prod.mk.injEq] at h
    obtain ⟨rfl, rfl⟩ := h
    rfl
  nodup := by decide
  sg := fun x d h => h
  co := by kernel_rfl
  gen := by kernel_rfl
  kind := by kernel_rfl
noncomputable abbrev f_deck : FuncData := fdOf (hd.zo_170 P)
theorem k_deck (v0 : D) : DefOk (T0 P) 187 (f_deck P) (bodyOf (f_deck P)) [("script" : Str)] [] [] [v0] (sgOf [("script" : Str)] ([v0] ++ [])) where
  o := ⟨hd.zo_170 P, by kernel_rfl, by kernel_rfl⟩
  code := ⟨186, hd.zo_169 P, _, _, by kernel_rfl, by kernel_rfl, by exact rfl, by exact rfl⟩
  body := by kernel_rfl
  bind := fun s vs t h => by match vs, h with | [v0], _ => exact BindsTo.of_eq (by kernel_rfl)
  dfl := fun X h => .nil
  len := rfl
  clo := by kernel_rfl
  glob := by kernel_rfl
  blt := by kernel_rfl
  kinds := fun x hx => by
    simp only [List.mem_cons, List.not_mem_nil, or_false] at hx
    subst hx
    exact ⟨⟨by decide, by decide⟩, .inl (by kernel_rfl)⟩
  cells := fun L n c h => by
    have e : cellsFrom L (f_deck P).scope.names [] = [] := by kernel_rfl
    rw [e] at h ⊢
    cases h
  nodup := by decide
  sg := fun x d h => h
  co := by kernel_rfl
  gen := by kernel_rfl
  kind := by kernel_rfl
noncomputable abbrev f_draw : FuncData := fdOf (hd.zo_177 P)
theorem k_draw (v0 v1 : D) : DefOk (T0 P) 194 (f_draw P) (bodyOf (f_draw P)) [("deck" : Str), ("below" : Str)] [] [] [v0, v1] (sgOf [("deck" : Str), ("below" : Str)] ([v0, v1] ++ [])) where
  o := ⟨hd.zo_177 P, by kernel_rfl, by kernel_rfl⟩
  code := ⟨193, hd.zo_176 P, _, _, by kernel_rfl, by kernel_rfl, by exact rfl, by exact rfl⟩
  body := by kernel_rfl
  bind := fun s vs t h => by match vs, h with | [v0, v1], _ => exact BindsTo.of_eq (by kernel_rfl)
  dfl := fun X h => .nil
  len := rfl
  clo := by kernel_rfl
  glob := by kernel_rfl
  blt := by kernel_rfl
  kinds := fun x hx => by
    simp only [List.mem_cons, List.not_mem_nil, or_false] at hx
    rcases hx with rfl | rfl
    · exact ⟨⟨by decide, by decide⟩, .inl (by kernel_rfl)⟩
    · exact ⟨⟨by decide, by decide⟩, .inl (by kernel_rfl)⟩
  cells := fun L n c h => by
    have e : cellsFrom L (f_draw P).scope.names [] = [] := by kernel_rfl
    rw [e] at h ⊢
    cases h
  nodup := by decide
  sg := fun x d h => h
  co := by kernel_rfl
  gen := by kernel_rfl
  kind := by kernel_rfl
noncomputable abbrev f_pick : FuncData := fdOf (hd.zo_184 P)
theorem k_pick (v0 v1 : D) : DefOk (T0 P) 201 (f_pick P) (bodyOf (f_pick P)) [("deck" : Str), ("some" : Str)] [] [] [v0, v1] (sgOf [("deck" : Str), ("some" : Str)] ([v0, v1] ++ [])) where
  o := ⟨hd.zo_184 P, by kernel_rfl, by kernel_rfl⟩
  code := ⟨200, hd.zo_183 P, _, _, by kernel_rfl, by kernel_rfl, by exact rfl, by exact rfl⟩
  body := by kernel_rfl
  bind := fun s vs t h => by match vs, h with | [v0, v1], _ => exact BindsTo.of_eq (by kernel_rfl)
  dfl := fun X h => .nil
  len := rfl
  clo := by kernel_rfl
  glob := by kernel_rfl
  blt := by kernel_rfl
  kinds := fun x hx => by
    simp only [List.mem_cons, List.not_mem_nil, or_false] at hx
    rcases hx with rfl | rfl
    · exact ⟨⟨by decide, by decide⟩, .inl (by kernel_rfl)⟩
    · exact ⟨⟨by decide, by decide⟩, .inl (by kernel_rfl)⟩
  cells := fun L n c h => by
    have e : cellsFrom L (f_pick P).scope.names [] = [] := by kernel_rfl
    rw [e] at h ⊢
    cases h
  nodup := by decide
  sg := fun x d h => h
  co := by kernel_rfl
  gen := by kernel_rfl
  kind := by kernel_rfl
end
end
section
open PySem PySem.W PySem.Calls PyProof.Rows PySem.SeqAt PySem.Spec
set_option autoImplicit false
set_option linter.unusedVariables false
set_option maxRecDepth 100000
section
variable (P : Params)
noncomputable abbrev f_dget : FuncData := fdOf (hd.zo_153 P)
theorem k_dget (v0 v1 v2 : D) : DefOk (T0 P) 168 (f_dget P) (bodyOf (f_dget P)) [("self" : Str), ("name" : Str), ("code" : Str)] [] [] [v0, v1, v2] (sgOf [("self" : Str), ("name" : Str), ("code" : Str)] ([v0, v1, v2] ++ [])) where
  o := ⟨hd.zo_153 P, by kernel_rfl, by kernel_rfl⟩
  code := ⟨167, hd.zo_152 P, _, _, by kernel_rfl, by kernel_rfl, by exact rfl, by exact rfl⟩
  body := by kernel_rfl
  bind := fun s vs t h => by match vs, h with | [v0, v1, v2], _ => exact BindsTo.of_eq (by kernel_rfl)
  dfl := fun X h => .nil
  len := rfl
  clo := by kernel_rfl
  glob := by kernel_rfl
  blt := by kernel_rfl
  kinds := fun x hx => by
    simp only [List.mem_cons, List.not_mem_nil, or_false] at hx
    rcases hx with rfl | rfl | rfl
    · exact ⟨⟨by decide, by decide⟩, .inl (by kernel_rfl)⟩
    · exact ⟨⟨by decide, by decide⟩, .inl (by kernel_rfl)⟩
    · exact ⟨⟨by decide, by decide⟩, .inl (by kernel_rfl)⟩
  cells := fun L n c h => by
    have e : cellsFrom L (f_dget P).scope.names [] = [] := by kernel_rfl
    rw [e] at h ⊢
    cases h
  nodup := by decide
  sg := fun x d h => h
  co := by kernel_rfl
  gen := by kernel_rfl
  kind := by kernel_rfl
noncomputable abbrev f_dput : FuncData := fdOf (hd.zo_146 P)
theorem k_dput (v0 v1 v2 v3 v4 : D) : DefOk (T0 P) 161 (f_dput P) (bodyOf (f_dput P)) [("self" : Str), ("name" : Str), ("first" : Str), ("last" : Str), ("value" : Str)] [] [] [v0, v1, v2, v3, v4] (sgOf [("self" : Str), ("name" : Str), ("first" : Str), ("last" : Str), ("value" : Str)] ([v0, v1, v2, v3, v4] ++ [])) where
  o := ⟨hd.zo_146 P, by kernel_rfl, by kernel_rfl⟩
  code := ⟨160, hd.zo_145 P, _, _, by kernel_rfl, by kernel_rfl, by exact rfl, by exact rfl⟩
  body := by kernel_rfl
  bind := fun s vs t h => by match vs, h with | [v0, v1, v2, v3, v4], _ => exact BindsTo.of_eq (by kernel_rfl)
  dfl := fun X h => .nil
  len := rfl
  clo := by kernel_rfl
  glob := by kernel_rfl
  blt := by kernel_rfl
  kinds := fun x hx => by
    simp only [List.mem_cons, List.not_mem_nil, or_false] at hx
    rcases hx with rfl | rfl | rfl | rfl | rfl
    · exact ⟨⟨by decide, by decide⟩, .inl (by kernel_rfl)⟩
    · exact ⟨⟨by decide, by decide⟩, .inl (by kernel_rfl)⟩
    · exact ⟨⟨by decide, by decide⟩, .inl (by kernel_rfl)⟩
    · exact ⟨⟨by decide, by decide⟩, .inl (by kernel_rfl)⟩
    · exact ⟨⟨by decide, by decide⟩, .inl (by kernel_rfl)⟩
  cells := fun L n c h => by
    have e : cellsFrom L (f_dput P).scope.names [] = [] := by kernel_rfl
    rw [e] at h ⊢
    cases h
  nodup := by decide
  sg := fun x d h => h
  co := by kernel_rfl
  gen := by kernel_rfl
  kind := by kernel_rfl
noncomputable abbrev f_dmap : FuncData := fdOf (hd.zo_160 P)
theorem k_dmap (v0 v1 : D) : DefOk (T0 P) 175 (f_dmap P) (bodyOf (f_dmap P)) [("self" : Str), ("name" : Str)] [] [] [v0, v1] (sgOf [("self" : Str), ("name" : Str)] ([v0, v1] ++ [])) where
  o := ⟨hd.zo_160 P, by kernel_rfl, by kernel_rfl⟩
  code := ⟨174, hd.zo_159 P, _, _, by kernel_rfl, by kernel_rfl, by exact rfl, by exact rfl⟩
  body := by kernel_rfl
  bind := fun s vs t h => by match vs, h with | [v0, v1], _ => exact BindsTo.of_eq (by kernel_rfl)
  dfl := fun X h => .nil
  len := rfl
  clo := by kernel_rfl
  glob := by kernel_rfl
  blt := by kernel_rfl
  kinds := fun x hx => by
    simp only [List.mem_cons, List.not_mem_nil, or_false] at hx
    rcases hx with rfl | rfl
    · exact ⟨⟨by decide, by decide⟩, .inl (by kernel_rfl)⟩
    · exact ⟨⟨by decide, by decide⟩, .inl (by kernel_rfl)⟩
  cells := fun L n c h => by
    have e : cellsFrom L (f_dmap P).scope.names [] = [] := by kernel_rfl
    rw [e] at h ⊢
    cases h
  nodup := by decide
  sg := fun x d h => h
  co := by kernel_rfl
  gen := by kernel_rfl
  kind := by kernel_rfl
end
end
section
open PySem PySem.W PySem.W.X PyProof.Rows
set_option autoImplicit false
set_option linter.unusedVariables false
set_option maxRecDepth 100000
noncomputable def st_data_0 (P : Params) (β τ : Nat → Nat) : List Obj := [
  ({ cls := (.ref 178), dict := (some (β 1)), data := .plain, slots := #[] } : Obj),
  ({ cls := (.type "dict"), dict := none, data := (.dict #[⟨PyData.keyHash P (⟨⟨[100, 101, 102, 97, 117, 108, 116, 115]⟩⟩ : Str), (.str (⟨⟨[100, 101, 102, 97, 117, 108, 116, 115]⟩⟩ : Str) (τ 0)), (.ref (β 2))⟩, ⟨PyData.keyHash P (⟨⟨[109, 97, 112, 115]⟩⟩ : Str), (.str (⟨⟨[109, 97, 112, 115]⟩⟩ : Str) (τ 1)), (.ref (β 3))⟩, ⟨PyData.keyHash P (⟨⟨[112, 114, 111, 112, 101, 114, 116, 105, 101, 115]⟩⟩ : Str), (.str (⟨⟨[112, 114, 111, 112, 101, 114, 116, 105, 101, 115]⟩⟩ : Str) (τ 2)), (.ref (β 4))⟩, ⟨PyData.keyHash P (⟨⟨[119, 111, 114, 100, 115]⟩⟩ : Str), (.str (⟨⟨[119, 111, 114, 100, 115]⟩⟩ : Str) (τ 3)), (.ref (β 5))⟩] 4), slots := #[] } : Obj),
  ({ cls := (.type "dict"), dict := none, data := (.dict #[⟨PyData.keyHash P (⟨⟨[103, 99]⟩⟩ : Str), (.str (⟨⟨[103, 99]⟩⟩ : Str) (τ 4)), (.str (⟨⟨[67, 110]⟩⟩ : Str) (τ 5))⟩, ⟨PyData.keyHash P (⟨⟨[99, 99, 99]⟩⟩ : Str), (.str (⟨⟨[99, 99, 99]⟩⟩ : Str) (τ 6)), (.int (0) (τ 7))⟩, ⟨PyData.keyHash P (⟨⟨[98, 99]⟩⟩ : Str), (.str (⟨⟨[98, 99]⟩⟩ : Str) (τ 8)), (.str (⟨⟨[76]⟩⟩ : Str) (τ 9))⟩, ⟨PyData.keyHash P (⟨⟨[108, 98]⟩⟩ : Str), (.str (⟨⟨[108, 98]⟩⟩ : Str) (τ 10)), (.str (⟨⟨[88, 88]⟩⟩ : Str) (τ 11))⟩, ⟨PyData.keyHash P (⟨⟨[101, 97]⟩⟩ : Str), (.str (⟨⟨[101, 97]⟩⟩ : Str) (τ 12)), (.str (⟨⟨[78]⟩⟩ : Str) (τ 13))⟩, ⟨PyData.keyHash P (⟨⟨[115, 99]⟩⟩ : Str), (.str (⟨⟨[115, 99]⟩⟩ : Str) (τ 14)), (.str (⟨⟨[90, 122, 122, 122]⟩⟩ : Str) (τ 15))⟩, ⟨PyData.keyHash P (⟨⟨[106, 116]⟩⟩ : Str), (.str (⟨⟨[106, 116]⟩⟩ : Str) (τ 16)), (.str (⟨⟨[85]⟩⟩ : Str) (τ 17))⟩, ⟨PyData.keyHash P (⟨⟨[105, 110, 99, 98]⟩⟩ : Str), (.str (⟨⟨[105, 110, 99, 98]⟩⟩ : Str) (τ 18)), (.str (⟨⟨[78, 111, 110, 101]⟩⟩ : Str) (τ 19))⟩, ⟨PyData.keyHash P (⟨⟨[103, 99, 98]⟩⟩ : Str), (.str (⟨⟨[103, 99, 98]⟩⟩ : Str) (τ 20)), (.str (⟨⟨[79, 116, 104, 101, 114]⟩⟩ : Str) (τ 21))⟩, ⟨PyData.keyHash P (⟨⟨[119, 98]⟩⟩ : Str), (.str (⟨⟨[119, 98]⟩⟩ : Str) (τ 22)), (.str (⟨⟨[79, 116, 104, 101, 114]⟩⟩ : Str) (τ 23))⟩, ⟨PyData.keyHash P (⟨⟨[115, 98]⟩⟩ : Str), (.str (⟨⟨[115, 98]⟩⟩ : Str) (τ 24)), (.str (⟨⟨[79, 116, 104, 101, 114]⟩⟩ : Str) (τ 25))⟩, ⟨PyData.keyHash P (⟨⟨[101, 120]⟩⟩ : Str), (.str (⟨⟨[101, 120]⟩⟩ : Str) (τ 26)), (.bool false)⟩, ⟨PyData.keyHash P (⟨⟨[115, 100]⟩⟩ : Str), (.str (⟨⟨[115, 100]⟩⟩ : Str) (τ 27)), (.bool false)⟩, ⟨PyData.keyHash P (⟨⟨[99, 97, 115, 101, 100]⟩⟩ : Str), (.str (⟨⟨[99, 97, 115, 101, 100]⟩⟩ : Str) (τ 28)), (.bool false)⟩, ⟨PyData.keyHash P (⟨⟨[99, 105]⟩⟩ : Str), (.str (⟨⟨[99, 105]⟩⟩ : Str) (τ 29)), (.bool false)⟩, ⟨PyData.keyHash P (⟨⟨[101, 112]⟩⟩ : Str), (.str (⟨⟨[101, 112]⟩⟩ : Str) (τ 30)), (.bool false)⟩, ⟨PyData.keyHash P (⟨⟨[100, 105]⟩⟩ : Str), (.str (⟨⟨[100, 105]⟩⟩ : Str) (τ 31)), (.bool false)⟩, ⟨PyData.keyHash P (⟨⟨[105, 100, 115]⟩⟩ : Str), (.str (⟨⟨[105, 100, 115]⟩⟩ : Str) (τ 32)), (.bool false)⟩, ⟨PyData.keyHash P (⟨⟨[105, 100, 99]⟩⟩ : Str), (.str (⟨⟨[105, 100, 99]⟩⟩ : Str) (τ 33)), (.bool false)⟩, ⟨PyData.keyHash P (⟨⟨[120, 105, 100, 115]⟩⟩ : Str), (.str (⟨⟨[120, 105, 100, 115]⟩⟩ : Str) (τ 34)), (.bool false)⟩, ⟨PyData.keyHash P (⟨⟨[120, 105, 100, 99]⟩⟩ : Str), (.str (⟨⟨[120, 105, 100, 99]⟩⟩ : Str) (τ 35)), (.bool false)⟩, ⟨PyData.keyHash P (⟨⟨[112, 97, 116, 95, 115, 121, 110]⟩⟩ : Str), (.str (⟨⟨[112, 97, 116, 95, 115, 121, 110]⟩⟩ : Str) (τ 36)), (.bool false)⟩, ⟨PyData.keyHash P (⟨⟨[112, 97, 116, 95, 119, 115]⟩⟩ : Str), (.str (⟨⟨[112, 97, 116, 95, 119, 115]⟩⟩ : Str) (τ 37)), (.bool false)⟩, ⟨PyData.keyHash P (⟨⟨[105, 100, 115, 116]⟩⟩ : Str), (.str (⟨⟨[105, 100, 115, 116]⟩⟩ : Str) (τ 38)), (.bool false)⟩, ⟨PyData.keyHash P (⟨⟨[100, 109]⟩⟩ : Str), (.str (⟨⟨[100, 109]⟩⟩ : Str) (τ 39)), .none⟩, ⟨PyData.keyHash P (⟨⟨[117, 99]⟩⟩ : Str), (.str (⟨⟨[117, 99]⟩⟩ : Str) (τ 40)), .none⟩, ⟨PyData.keyHash P (⟨⟨[108, 99]⟩⟩ : Str), (.str (⟨⟨[108, 99]⟩⟩ : Str) (τ 41)), .none⟩, ⟨PyData.keyHash P (⟨⟨[116, 99]⟩⟩ : Str), (.str (⟨⟨[116, 99]⟩⟩ : Str) (τ 42)), .none⟩, ⟨PyData.keyHash P (⟨⟨[99, 102]⟩⟩ : Str), (.str (⟨⟨[99, 102]⟩⟩ : Str) (τ 43)), .none⟩, ⟨PyData.keyHash P (⟨⟨[98, 109]⟩⟩ : Str), (.str (⟨⟨[98, 109]⟩⟩ : Str) (τ 44)), .none⟩, ⟨PyData.keyHash P (⟨⟨[98, 112, 98]⟩⟩ : Str), (.str (⟨⟨[98, 112, 98]⟩⟩ : Str) (τ 45)), .none⟩, ⟨PyData.keyHash P (⟨⟨[115, 99, 120]⟩⟩ : Str), (.str (⟨⟨[115, 99, 120]⟩⟩ : Str) (τ 46)), .none⟩, ⟨PyData.keyHash P (⟨⟨[110, 116]⟩⟩ : Str), (.str (⟨⟨[110, 116]⟩⟩ : Str) (τ 47)), .none⟩, ⟨PyData.keyHash P (⟨⟨[110, 118]⟩⟩ : Str), (.str (⟨⟨[110, 118]⟩⟩ : Str) (τ 48)), .none⟩, ⟨PyData.keyHash P (⟨⟨[110, 97, 109, 101]⟩⟩ : Str), (.str (⟨⟨[110, 97, 109, 101]⟩⟩ : Str) (τ 49)), .none⟩, ⟨PyData.keyHash P (⟨⟨[99, 111, 110, 102]⟩⟩ : Str), (.str (⟨⟨[99, 111, 110, 102]⟩⟩ : Str) (τ 50)), .none⟩, ⟨PyData.keyHash P (⟨⟨[110, 102, 107, 99, 95, 99, 102]⟩⟩ : Str), (.str (⟨⟨[110, 102, 107, 99, 95, 99, 102]⟩⟩ : Str) (τ 51)), .none⟩, ⟨PyData.keyHash P (⟨⟨[115, 117, 99]⟩⟩ : Str), (.str (⟨⟨[115, 117, 99]⟩⟩ : Str) (τ 52)), (.ref (β 6))⟩, ⟨PyData.keyHash P (⟨⟨[115, 108, 99]⟩⟩ : Str), (.str (⟨⟨[115, 108, 99]⟩⟩ : Str) (τ 53)), (.ref (β 7))⟩, ⟨PyData.keyHash P (⟨⟨[115, 116, 99]⟩⟩ : Str), (.str (⟨⟨[115, 116, 99]⟩⟩ : Str) (τ 54)), (.ref (β 8))⟩, ⟨PyData.keyHash P (⟨⟨[97, 108, 105, 97, 115]⟩⟩ : Str), (.str (⟨⟨[97, 108, 105, 97, 115]⟩⟩ : Str) (τ 55)), (.ref (β 9))⟩, ⟨PyData.keyHash P (⟨⟨[105, 100, 110, 97]⟩⟩ : Str), (.str (⟨⟨[105, 100, 110, 97]⟩⟩ : Str) (τ 56)), (.ref (β 10))⟩] 42), slots := #[] } : Obj),
  ({ cls := (.type "dict"), dict := none, data := (.dict #[] 0), slots := #[] } : Obj),
  ({ cls := (.type "dict"), dict := none, data := (.dict #[] 0), slots := #[] } : Obj),
  ({ cls := (.type "dict"), dict := none, data := (.dict #[] 0), slots := #[] } : Obj),
  ({ cls := (.type "tuple"), dict := none, data := (.seq #[] 0), slots := #[] } : Obj),
  ({ cls := (.type "tuple"), dict := none, data := (.seq #[] 0), slots := #[] } : Obj),
  ({ cls := (.type "tuple"), dict := none, data := (.seq #[] 0), slots := #[] } : Obj),
  ({ cls := (.type "tuple"), dict := none, data := (.seq #[] 0), slots := #[] } : Obj),
  ({ cls := (.type "tuple"), dict := none, data := (.seq #[(.str (⟨⟨[100, 105, 115, 97, 108, 108, 111, 119, 101, 100]⟩⟩ : Str) (τ 57)), (.ref (β 11))] 0), slots := #[] } : Obj),
  ({ cls := (.type "tuple"), dict := none, data := (.seq #[] 0), slots := #[] } : Obj)]
noncomputable def st_sc_0 (P : Params) (β τ : Nat → Nat) : List Obj := [
  ({ cls := (.ref 129), dict := (some (β 1)), data := .plain, slots := #[] } : Obj),
  ({ cls := (.type "dict"), dict := none, data := (.dict #[⟨PyData.keyHash P (⟨⟨[100, 101, 102, 97, 117, 108, 116]⟩⟩ : Str), (.str (⟨⟨[100, 101, 102, 97, 117, 108, 116]⟩⟩ : Str) (τ 0)), (.str (⟨⟨[90, 122, 122, 122]⟩⟩ : Str) (τ 1))⟩, ⟨PyData.keyHash P (⟨⟨[115, 116, 97, 114, 116, 115]⟩⟩ : Str), (.str (⟨⟨[115, 116, 97, 114, 116, 115]⟩⟩ : Str) (τ 2)), (.ref (β 2))⟩, ⟨PyData.keyHash P (⟨⟨[118, 97, 108, 117, 101, 115]⟩⟩ : Str), (.str (⟨⟨[118, 97, 108, 117, 101, 115]⟩⟩ : Str) (τ 3)), (.ref (β 3))⟩] 3), slots := #[] } : Obj),
  ({ cls := (.type "list"), dict := none, data := (.seq #[(.int (0) (τ 4))] 0), slots := #[] } : Obj),
  ({ cls := (.type "list"), dict := none, data := (.seq #[(.str (⟨⟨[90, 122, 122, 122]⟩⟩ : Str) (τ 1))] 0), slots := #[] } : Obj)]
noncomputable def st_sc_1 (P : Params) (β τ : Nat → Nat) : List Obj := [
  ({ cls := (.ref 129), dict := (some (β 1)), data := .plain, slots := #[] } : Obj),
  ({ cls := (.type "dict"), dict := none, data := (.dict #[⟨PyData.keyHash P (⟨⟨[100, 101, 102, 97, 117, 108, 116]⟩⟩ : Str), (.str (⟨⟨[100, 101, 102, 97, 117, 108, 116]⟩⟩ : Str) (τ 0)), (.str (⟨⟨[90, 122, 122, 122]⟩⟩ : Str) (τ 1))⟩, ⟨PyData.keyHash P (⟨⟨[115, 116, 97, 114, 116, 115]⟩⟩ : Str), (.str (⟨⟨[115, 116, 97, 114, 116, 115]⟩⟩ : Str) (τ 2)), (.ref (β 2))⟩, ⟨PyData.keyHash P (⟨⟨[118, 97, 108, 117, 101, 115]⟩⟩ : Str), (.str (⟨⟨[118, 97, 108, 117, 101, 115]⟩⟩ : Str) (τ 3)), (.ref (β 3))⟩] 3), slots := #[] } : Obj),
  ({ cls := (.type "list"), dict := none, data := (.seq #[(.int (0) (τ 4)), (.int (97) (τ 5)), (.int (98) (τ 6))] 0), slots := #[] } : Obj),
  ({ cls := (.type "list"), dict := none, data := (.seq #[(.str (⟨⟨[90, 122, 122, 122]⟩⟩ : Str) (τ 1)), (.str (⟨⟨[76, 97, 116, 110]⟩⟩ : Str) (τ 7)), (.str (⟨⟨[90, 122, 122, 122]⟩⟩ : Str) (τ 1))] 0), slots := #[] } : Obj)]
noncomputable def st_sc_2 (P : Params) (β τ : Nat → Nat) : List Obj := [
  ({ cls := (.ref 129), dict := (some (β 1)), data := .plain, slots := #[] } : Obj),
  ({ cls := (.type "dict"), dict := none, data := (.dict #[⟨PyData.keyHash P (⟨⟨[100, 101, 102, 97, 117, 108, 116]⟩⟩ : Str), (.str (⟨⟨[100, 101, 102, 97, 117, 108, 116]⟩⟩ : Str) (τ 0)), (.str (⟨⟨[90, 122, 122, 122]⟩⟩ : Str) (τ 1))⟩, ⟨PyData.keyHash P (⟨⟨[115, 116, 97, 114, 116, 115]⟩⟩ : Str), (.str (⟨⟨[115, 116, 97, 114, 116, 115]⟩⟩ : Str) (τ 2)), (.ref (β 2))⟩, ⟨PyData.keyHash P (⟨⟨[118, 97, 108, 117, 101, 115]⟩⟩ : Str), (.str (⟨⟨[118, 97, 108, 117, 101, 115]⟩⟩ : Str) (τ 3)), (.ref (β 3))⟩] 3), slots := #[] } : Obj),
  ({ cls := (.type "list"), dict := none, data := (.seq #[(.int (0) (τ 4)), (.int (97) (τ 5)), (.int (98) (τ 6)), (.int (1072) (τ 7)), (.int (1073) (τ 8))] 0), slots := #[] } : Obj),
  ({ cls := (.type "list"), dict := none, data := (.seq #[(.str (⟨⟨[90, 122, 122, 122]⟩⟩ : Str) (τ 1)), (.str (⟨⟨[76, 97, 116, 110]⟩⟩ : Str) (τ 9)), (.str (⟨⟨[90, 122, 122, 122]⟩⟩ : Str) (τ 1)), (.str (⟨⟨[67, 121, 114, 108]⟩⟩ : Str) (τ 10)), (.str (⟨⟨[90, 122, 122, 122]⟩⟩ : Str) (τ 1))] 0), slots := #[] } : Obj)]
noncomputable def st_sc_3 (P : Params) (β τ : Nat → Nat) : List Obj := [
  ({ cls := (.ref 129), dict := (some (β 1)), data := .plain, slots := #[] } : Obj),
  ({ cls := (.type "dict"), dict := none, data := (.dict #[⟨PyData.keyHash P (⟨⟨[100, 101, 102, 97, 117, 108, 116]⟩⟩ : Str), (.str (⟨⟨[100, 101, 102, 97, 117, 108, 116]⟩⟩ : Str) (τ 0)), (.str (⟨⟨[90, 122, 122, 122]⟩⟩ : Str) (τ 1))⟩, ⟨PyData.keyHash P (⟨⟨[115, 116, 97, 114, 116, 115]⟩⟩ : Str), (.str (⟨⟨[115, 116, 97, 114, 116, 115]⟩⟩ : Str) (τ 2)), (.ref (β 2))⟩, ⟨PyData.keyHash P (⟨⟨[118, 97, 108, 117, 101, 115]⟩⟩ : Str), (.str (⟨⟨[118, 97, 108, 117, 101, 115]⟩⟩ : Str) (τ 3)), (.ref (β 3))⟩] 3), slots := #[] } : Obj),
  ({ cls := (.type "list"), dict := none, data := (.seq #[(.int (0) (τ 4)), (.int (97) (τ 5)), (.int (98) (τ 6)), (.int (1072) (τ 7)), (.int (1073) (τ 8)), (.int (12354) (τ 9)), (.int (12355) (τ 10))] 0), slots := #[] } : Obj),
  ({ cls := (.type "list"), dict := none, data := (.seq #[(.str (⟨⟨[90, 122, 122, 122]⟩⟩ : Str) (τ 1)), (.str (⟨⟨[76, 97, 116, 110]⟩⟩ : Str) (τ 11)), (.str (⟨⟨[90, 122, 122, 122]⟩⟩ : Str) (τ 1)), (.str (⟨⟨[67, 121, 114, 108]⟩⟩ : Str) (τ 12)), (.str (⟨⟨[90, 122, 122, 122]⟩⟩ : Str) (τ 1)), (.str (⟨⟨[72, 105, 114, 97]⟩⟩ : Str) (τ 13)), (.str (⟨⟨[90, 122, 122, 122]⟩⟩ : Str) (τ 1))] 0), slots := #[] } : Obj)]
noncomputable def st_sc_4 (P : Params) (β τ : Nat → Nat) : List Obj := [
  ({ cls := (.ref 129), dict := (some (β 1)), data := .plain, slots := #[] } : Obj),
  ({ cls := (.type "dict"), dict := none, data := (.dict #[⟨PyData.keyHash P (⟨⟨[100, 101, 102, 97, 117, 108, 116]⟩⟩ : Str), (.str (⟨⟨[100, 101, 102, 97, 117, 108, 116]⟩⟩ : Str) (τ 0)), (.str (⟨⟨[90, 122, 122, 122]⟩⟩ : Str) (τ 1))⟩, ⟨PyData.keyHash P (⟨⟨[115, 116, 97, 114, 116, 115]⟩⟩ : Str), (.str (⟨⟨[115, 116, 97, 114, 116, 115]⟩⟩ : Str) (τ 2)), (.ref (β 2))⟩, ⟨PyData.keyHash P (⟨⟨[118, 97, 108, 117, 101, 115]⟩⟩ : Str), (.str (⟨⟨[118, 97, 108, 117, 101, 115]⟩⟩ : Str) (τ 3)), (.ref (β 3))⟩] 3), slots := #[] } : Obj),
  ({ cls := (.type "list"), dict := none, data := (.seq #[(.int (0) (τ 4)), (.int (97) (τ 5)), (.int (98) (τ 6)), (.int (1072) (τ 7)), (.int (1073) (τ 8)), (.int (12354) (τ 9)), (.int (12355) (τ 10)), (.int (12450) (τ 11)), (.int (12451) (τ 12))] 0), slots := #[] } : Obj),
  ({ cls := (.type "list"), dict := none, data := (.seq #[(.str (⟨⟨[90, 122, 122, 122]⟩⟩ : Str) (τ 1)), (.str (⟨⟨[76, 97, 116, 110]⟩⟩ : Str) (τ 13)), (.str (⟨⟨[90, 122, 122, 122]⟩⟩ : Str) (τ 1)), (.str (⟨⟨[67, 121, 114, 108]⟩⟩ : Str) (τ 14)), (.str (⟨⟨[90, 122, 122, 122]⟩⟩ : Str) (τ 1)), (.str (⟨⟨[72, 105, 114, 97]⟩⟩ : Str) (τ 15)), (.str (⟨⟨[90, 122, 122, 122]⟩⟩ : Str) (τ 1)), (.str (⟨⟨[75, 97, 110, 97]⟩⟩ : Str) (τ 16)), (.str (⟨⟨[90, 122, 122, 122]⟩⟩ : Str) (τ 1))] 0), slots := #[] } : Obj)]
noncomputable def st_sc_5 (P : Params) (β τ : Nat → Nat) : List Obj := [
  ({ cls := (.ref 129), dict := (some (β 1)), data := .plain, slots := #[] } : Obj),
  ({ cls := (.type "dict"), dict := none, data := (.dict #[⟨PyData.keyHash P (⟨⟨[100, 101, 102, 97, 117, 108, 116]⟩⟩ : Str), (.str (⟨⟨[100, 101, 102, 97, 117, 108, 116]⟩⟩ : Str) (τ 0)), (.str (⟨⟨[90, 122, 122, 122]⟩⟩ : Str) (τ 1))⟩, ⟨PyData.keyHash P (⟨⟨[115, 116, 97, 114, 116, 115]⟩⟩ : Str), (.str (⟨⟨[115, 116, 97, 114, 116, 115]⟩⟩ : Str) (τ 2)), (.ref (β 2))⟩, ⟨PyData.keyHash P (⟨⟨[118, 97, 108, 117, 101, 115]⟩⟩ : Str), (.str (⟨⟨[118, 97, 108, 117, 101, 115]⟩⟩ : Str) (τ 3)), (.ref (β 3))⟩] 3), slots := #[] } : Obj),
  ({ cls := (.type "list"), dict := none, data := (.seq #[(.int (0) (τ 4)), (.int (97) (τ 5)), (.int (98) (τ 6)), (.int (1072) (τ 7)), (.int (1073) (τ 8)), (.int (12354) (τ 9)), (.int (12355) (τ 10)), (.int (12450) (τ 11)), (.int (12451) (τ 12)), (.int (19968) (τ 13)), (.int (19969) (τ 14))] 0), slots := #[] } : Obj),
  ({ cls := (.type "list"), dict := none, data := (.seq #[(.str (⟨⟨[90, 122, 122, 122]⟩⟩ : Str) (τ 1)), (.str (⟨⟨[76, 97, 116, 110]⟩⟩ : Str) (τ 15)), (.str (⟨⟨[90, 122, 122, 122]⟩⟩ : Str) (τ 1)), (.str (⟨⟨[67, 121, 114, 108]⟩⟩ : Str) (τ 16)), (.str (⟨⟨[90, 122, 122, 122]⟩⟩ : Str) (τ 1)), (.str (⟨⟨[72, 105, 114, 97]⟩⟩ : Str) (τ 17)), (.str (⟨⟨[90, 122, 122, 122]⟩⟩ : Str) (τ 1)), (.str (⟨⟨[75, 97, 110, 97]⟩⟩ : Str) (τ 18)), (.str (⟨⟨[90, 122, 122, 122]⟩⟩ : Str) (τ 1)), (.str (⟨⟨[72, 97, 110, 105]⟩⟩ : Str) (τ 19)), (.str (⟨⟨[90, 122, 122, 122]⟩⟩ : Str) (τ 1))] 0), slots := #[] } : Obj)]
noncomputable def st_sc_6 (P : Params) (β τ : Nat → Nat) : List Obj := [
  ({ cls := (.ref 129), dict := (some (β 1)), data := .plain, slots := #[] } : Obj),
  ({ cls := (.type "dict"), dict := none, data := (.dict #[⟨PyData.keyHash P (⟨⟨[100, 101, 102, 97, 117, 108, 116]⟩⟩ : Str), (.str (⟨⟨[100, 101, 102, 97, 117, 108, 116]⟩⟩ : Str) (τ 0)), (.str (⟨⟨[90, 122, 122, 122]⟩⟩ : Str) (τ 1))⟩, ⟨PyData.keyHash P (⟨⟨[115, 116, 97, 114, 116, 115]⟩⟩ : Str), (.str (⟨⟨[115, 116, 97, 114, 116, 115]⟩⟩ : Str) (τ 2)), (.ref (β 2))⟩, ⟨PyData.keyHash P (⟨⟨[118, 97, 108, 117, 101, 115]⟩⟩ : Str), (.str (⟨⟨[118, 97, 108, 117, 101, 115]⟩⟩ : Str) (τ 3)), (.ref (β 3))⟩] 3), slots := #[] } : Obj),
  ({ cls := (.type "list"), dict := none, data := (.seq #[(.int (0) (τ 4)), (.int (97) (τ 5)), (.int (98) (τ 6)), (.int (1072) (τ 7)), (.int (1073) (τ 8)), (.int (12354) (τ 9)), (.int (12355) (τ 10)), (.int (12450) (τ 11)), (.int (12451) (τ 12)), (.int (19968) (τ 13)), (.int (19969) (τ 14)), (.int (44032) (τ 15)), (.int (44033) (τ 16))] 0), slots := #[] } : Obj),
  ({ cls := (.type "list"), dict := none, data := (.seq #[(.str (⟨⟨[90, 122, 122, 122]⟩⟩ : Str) (τ 1)), (.str (⟨⟨[76, 97, 116, 110]⟩⟩ : Str) (τ 17)), (.str (⟨⟨[90, 122, 122, 122]⟩⟩ : Str) (τ 1)), (.str (⟨⟨[67, 121, 114, 108]⟩⟩ : Str) (τ 18)), (.str (⟨⟨[90, 122, 122, 122]⟩⟩ : Str) (τ 1)), (.str (⟨⟨[72, 105, 114, 97]⟩⟩ : Str) (τ 19)), (.str (⟨⟨[90, 122, 122, 122]⟩⟩ : Str) (τ 1)), (.str (⟨⟨[75, 97, 110, 97]⟩⟩ : Str) (τ 20)), (.str (⟨⟨[90, 122, 122, 122]⟩⟩ : Str) (τ 1)), (.str (⟨⟨[72, 97, 110, 105]⟩⟩ : Str) (τ 21)), (.str (⟨⟨[90, 122, 122, 122]⟩⟩ : Str) (τ 1)), (.str (⟨⟨[72, 97, 110, 103]⟩⟩ : Str) (τ 22)), (.str (⟨⟨[90, 122, 122, 122]⟩⟩ : Str) (τ 1))] 0), slots := #[] } : Obj)]
noncomputable def st_sc_7 (P : Params) (β τ : Nat → Nat) : List Obj := [
  ({ cls := (.ref 129), dict := (some (β 1)), data := .plain, slots := #[] } : Obj),
  ({ cls := (.type "dict"), dict := none, data := (.dict #[⟨PyData.keyHash P (⟨⟨[100, 101, 102, 97, 117, 108, 116]⟩⟩ : Str), (.str (⟨⟨[100, 101, 102, 97, 117, 108, 116]⟩⟩ : Str) (τ 0)), (.str (⟨⟨[90, 122, 122, 122]⟩⟩ : Str) (τ 1))⟩, ⟨PyData.keyHash P (⟨⟨[115, 116, 97, 114, 116, 115]⟩⟩ : Str), (.str (⟨⟨[115, 116, 97, 114, 116, 115]⟩⟩ : Str) (τ 2)), (.ref (β 2))⟩, ⟨PyData.keyHash P (⟨⟨[118, 97, 108, 117, 101, 115]⟩⟩ : Str), (.str (⟨⟨[118, 97, 108, 117, 101, 115]⟩⟩ : Str) (τ 3)), (.ref (β 3))⟩] 3), slots := #[] } : Obj),
  ({ cls := (.type "list"), dict := none, data := (.seq #[(.int (0) (τ 4)), (.int (97) (τ 5)), (.int (98) (τ 6)), (.int (1072) (τ 7)), (.int (1073) (τ 8)), (.int (12354) (τ 9)), (.int (12355) (τ 10)), (.int (12450) (τ 11)), (.int (12451) (τ 12)), (.int (12549) (τ 13)), (.int (12550) (τ 14)), (.int (19968) (τ 15)), (.int (19969) (τ 16)), (.int (44032) (τ 17)), (.int (44033) (τ 18))] 0), slots := #[] } : Obj),
  ({ cls := (.type "list"), dict := none, data := (.seq #[(.str (⟨⟨[90, 122, 122, 122]⟩⟩ : Str) (τ 1)), (.str (⟨⟨[76, 97, 116, 110]⟩⟩ : Str) (τ 19)), (.str (⟨⟨[90, 122, 122, 122]⟩⟩ : Str) (τ 1)), (.str (⟨⟨[67, 121, 114, 108]⟩⟩ : Str) (τ 20)), (.str (⟨⟨[90, 122, 122, 122]⟩⟩ : Str) (τ 1)), (.str (⟨⟨[72, 105, 114, 97]⟩⟩ : Str) (τ 21)), (.str (⟨⟨[90, 122, 122, 122]⟩⟩ : Str) (τ 1)), (.str (⟨⟨[75, 97, 110, 97]⟩⟩ : Str) (τ 22)), (.str (⟨⟨[90, 122, 122, 122]⟩⟩ : Str) (τ 1)), (.str (⟨⟨[66, 111, 112, 111]⟩⟩ : Str) (τ 23)), (.str (⟨⟨[90, 122, 122, 122]⟩⟩ : Str) (τ 1)), (.str (⟨⟨[72, 97, 110, 105]⟩⟩ : Str) (τ 24)), (.str (⟨⟨[90, 122, 122, 122]⟩⟩ : Str) (τ 1)), (.str (⟨⟨[72, 97, 110, 103]⟩⟩ : Str) (τ 25)), (.str (⟨⟨[90, 122, 122, 122]⟩⟩ : Str) (τ 1))] 0), slots := #[] } : Obj)]
noncomputable def st_sc_8 (P : Params) (β τ : Nat → Nat) : List Obj := [
  ({ cls := (.ref 129), dict := (some (β 1)), data := .plain, slots := #[] } : Obj),
  ({ cls := (.type "dict"), dict := none, data := (.dict #[⟨PyData.keyHash P (⟨⟨[100, 101, 102, 97, 117, 108, 116]⟩⟩ : Str), (.str (⟨⟨[100, 101, 102, 97, 117, 108, 116]⟩⟩ : Str) (τ 0)), (.str (⟨⟨[90, 122, 122, 122]⟩⟩ : Str) (τ 1))⟩, ⟨PyData.keyHash P (⟨⟨[115, 116, 97, 114, 116, 115]⟩⟩ : Str), (.str (⟨⟨[115, 116, 97, 114, 116, 115]⟩⟩ : Str) (τ 2)), (.ref (β 2))⟩, ⟨PyData.keyHash P (⟨⟨[118, 97, 108, 117, 101, 115]⟩⟩ : Str), (.str (⟨⟨[118, 97, 108, 117, 101, 115]⟩⟩ : Str) (τ 3)), (.ref (β 3))⟩] 3), slots := #[] } : Obj),
  ({ cls := (.type "list"), dict := none, data := (.seq #[(.int (0) (τ 4)), (.int (32) (τ 5)), (.int (33) (τ 6)), (.int (97) (τ 7)), (.int (98) (τ 8)), (.int (1072) (τ 9)), (.int (1073) (τ 10)), (.int (12354) (τ 11)), (.int (12355) (τ 12)), (.int (12450) (τ 13)), (.int (12451) (τ 14)), (.int (12549) (τ 15)), (.int (12550) (τ 16)), (.int (19968) (τ 17)), (.int (19969) (τ 18)), (.int (44032) (τ 19)), (.int (44033) (τ 20))] 0), slots := #[] } : Obj),
  ({ cls := (.type "list"), dict := none, data := (.seq #[(.str (⟨⟨[90, 122, 122, 122]⟩⟩ : Str) (τ 1)), (.str (⟨⟨[90, 121, 121, 121]⟩⟩ : Str) (τ 21)), (.str (⟨⟨[90, 122, 122, 122]⟩⟩ : Str) (τ 1)), (.str (⟨⟨[76, 97, 116, 110]⟩⟩ : Str) (τ 22)), (.str (⟨⟨[90, 122, 122, 122]⟩⟩ : Str) (τ 1)), (.str (⟨⟨[67, 121, 114, 108]⟩⟩ : Str) (τ 23)), (.str (⟨⟨[90, 122, 122, 122]⟩⟩ : Str) (τ 1)), (.str (⟨⟨[72, 105, 114, 97]⟩⟩ : Str) (τ 24)), (.str (⟨⟨[90, 122, 122, 122]⟩⟩ : Str) (τ 1)), (.str (⟨⟨[75, 97, 110, 97]⟩⟩ : Str) (τ 25)), (.str (⟨⟨[90, 122, 122, 122]⟩⟩ : Str) (τ 1)), (.str (⟨⟨[66, 111, 112, 111]⟩⟩ : Str) (τ 26)), (.str (⟨⟨[90, 122, 122, 122]⟩⟩ : Str) (τ 1)), (.str (⟨⟨[72, 97, 110, 105]⟩⟩ : Str) (τ 27)), (.str (⟨⟨[90, 122, 122, 122]⟩⟩ : Str) (τ 1)), (.str (⟨⟨[72, 97, 110, 103]⟩⟩ : Str) (τ 28)), (.str (⟨⟨[90, 122, 122, 122]⟩⟩ : Str) (τ 1))] 0), slots := #[] } : Obj)]
noncomputable def st_sc_9 (P : Params) (β τ : Nat → Nat) : List Obj := [
  ({ cls := (.ref 129), dict := (some (β 1)), data := .plain, slots := #[] } : Obj),
  ({ cls := (.type "dict"), dict := none, data := (.dict #[⟨PyData.keyHash P (⟨⟨[100, 101, 102, 97, 117, 108, 116]⟩⟩ : Str), (.str (⟨⟨[100, 101, 102, 97, 117, 108, 116]⟩⟩ : Str) (τ 0)), (.str (⟨⟨[90, 122, 122, 122]⟩⟩ : Str) (τ 1))⟩, ⟨PyData.keyHash P (⟨⟨[115, 116, 97, 114, 116, 115]⟩⟩ : Str), (.str (⟨⟨[115, 116, 97, 114, 116, 115]⟩⟩ : Str) (τ 2)), (.ref (β 2))⟩, ⟨PyData.keyHash P (⟨⟨[118, 97, 108, 117, 101, 115]⟩⟩ : Str), (.str (⟨⟨[118, 97, 108, 117, 101, 115]⟩⟩ : Str) (τ 3)), (.ref (β 3))⟩] 3), slots := #[] } : Obj),
  ({ cls := (.type "list"), dict := none, data := (.seq #[(.int (0) (τ 4)), (.int (32) (τ 5)), (.int (33) (τ 6)), (.int (97) (τ 7)), (.int (98) (τ 8)), (.int (768) (τ 9)), (.int (769) (τ 10)), (.int (1072) (τ 11)), (.int (1073) (τ 12)), (.int (12354) (τ 13)), (.int (12355) (τ 14)), (.int (12450) (τ 15)), (.int (12451) (τ 16)), (.int (12549) (τ 17)), (.int (12550) (τ 18)), (.int (19968) (τ 19)), (.int (19969) (τ 20)), (.int (44032) (τ 21)), (.int (44033) (τ 22))] 0), slots := #[] } : Obj),
  ({ cls := (.type "list"), dict := none, data := (.seq #[(.str (⟨⟨[90, 122, 122, 122]⟩⟩ : Str) (τ 1)), (.str (⟨⟨[90, 121, 121, 121]⟩⟩ : Str) (τ 23)), (.str (⟨⟨[90, 122, 122, 122]⟩⟩ : Str) (τ 1)), (.str (⟨⟨[76, 97, 116, 110]⟩⟩ : Str) (τ 24)), (.str (⟨⟨[90, 122, 122, 122]⟩⟩ : Str) (τ 1)), (.str (⟨⟨[90, 105, 110, 104]⟩⟩ : Str) (τ 25)), (.str (⟨⟨[90, 122, 122, 122]⟩⟩ : Str) (τ 1)), (.str (⟨⟨[67, 121, 114, 108]⟩⟩ : Str) (τ 26)), (.str (⟨⟨[90, 122, 122, 122]⟩⟩ : Str) (τ 1)), (.str (⟨⟨[72, 105, 114, 97]⟩⟩ : Str) (τ 27)), (.str (⟨⟨[90, 122, 122, 122]⟩⟩ : Str) (τ 1)), (.str (⟨⟨[75, 97, 110, 97]⟩⟩ : Str) (τ 28)), (.str (⟨⟨[90, 122, 122, 122]⟩⟩ : Str) (τ 1)), (.str (⟨⟨[66, 111, 112, 111]⟩⟩ : Str) (τ 29)), (.str (⟨⟨[90, 122, 122, 122]⟩⟩ : Str) (τ 1)), (.str (⟨⟨[72, 97, 110, 105]⟩⟩ : Str) (τ 30)), (.str (⟨⟨[90, 122, 122, 122]⟩⟩ : Str) (τ 1)), (.str (⟨⟨[72, 97, 110, 103]⟩⟩ : Str) (τ 31)), (.str (⟨⟨[90, 122, 122, 122]⟩⟩ : Str) (τ 1))] 0), slots := #[] } : Obj)]
noncomputable def st_sc_10 (P : Params) (β τ : Nat → Nat) : List Obj := [
  ({ cls := (.ref 129), dict := (some (β 1)), data := .plain, slots := #[] } : Obj),
  ({ cls := (.type "dict"), dict := none, data := (.dict #[⟨PyData.keyHash P (⟨⟨[100, 101, 102, 97, 117, 108, 116]⟩⟩ : Str), (.str (⟨⟨[100, 101, 102, 97, 117, 108, 116]⟩⟩ : Str) (τ 0)), (.str (⟨⟨[90, 122, 122, 122]⟩⟩ : Str) (τ 1))⟩, ⟨PyData.keyHash P (⟨⟨[115, 116, 97, 114, 116, 115]⟩⟩ : Str), (.str (⟨⟨[115, 116, 97, 114, 116, 115]⟩⟩ : Str) (τ 2)), (.ref (β 2))⟩, ⟨PyData.keyHash P (⟨⟨[118, 97, 108, 117, 101, 115]⟩⟩ : Str), (.str (⟨⟨[118, 97, 108, 117, 101, 115]⟩⟩ : Str) (τ 3)), (.ref (β 3))⟩] 3), slots := #[] } : Obj),
  ({ cls := (.type "list"), dict := none, data := (.seq #[(.int (0) (τ 4)), (.int (32) (τ 5)), (.int (33) (τ 6)), (.int (97) (τ 7)), (.int (98) (τ 8)), (.int (768) (τ 9)), (.int (769) (τ 10)), (.int (1072) (τ 11)), (.int (1073) (τ 12)), (.int (12354) (τ 13)), (.int (12355) (τ 14)), (.int (12450) (τ 15)), (.int (12451) (τ 16)), (.int (12540) (τ 17)), (.int (12541) (τ 18)), (.int (12549) (τ 19)), (.int (12550) (τ 20)), (.int (19968) (τ 21)), (.int (19969) (τ 22)), (.int (44032) (τ 23)), (.int (44033) (τ 24))] 0), slots := #[] } : Obj),
  ({ cls := (.type "list"), dict := none, data := (.seq #[(.str (⟨⟨[90, 122, 122, 122]⟩⟩ : Str) (τ 1)), (.str (⟨⟨[90, 121, 121, 121]⟩⟩ : Str) (τ 25)), (.str (⟨⟨[90, 122, 122, 122]⟩⟩ : Str) (τ 1)), (.str (⟨⟨[76, 97, 116, 110]⟩⟩ : Str) (τ 26)), (.str (⟨⟨[90, 122, 122, 122]⟩⟩ : Str) (τ 1)), (.str (⟨⟨[90, 105, 110, 104]⟩⟩ : Str) (τ 27)), (.str (⟨⟨[90, 122, 122, 122]⟩⟩ : Str) (τ 1)), (.str (⟨⟨[67, 121, 114, 108]⟩⟩ : Str) (τ 28)), (.str (⟨⟨[90, 122, 122, 122]⟩⟩ : Str) (τ 1)), (.str (⟨⟨[72, 105, 114, 97]⟩⟩ : Str) (τ 29)), (.str (⟨⟨[90, 122, 122, 122]⟩⟩ : Str) (τ 1)), (.str (⟨⟨[75, 97, 110, 97]⟩⟩ : Str) (τ 30)), (.str (⟨⟨[90, 122, 122, 122]⟩⟩ : Str) (τ 1)), (.str (⟨⟨[90, 121, 121, 121]⟩⟩ : Str) (τ 31)), (.str (⟨⟨[90, 122, 122, 122]⟩⟩ : Str) (τ 1)), (.str (⟨⟨[66, 111, 112, 111]⟩⟩ : Str) (τ 32)), (.str (⟨⟨[90, 122, 122, 122]⟩⟩ : Str) (τ 1)), (.str (⟨⟨[72, 97, 110, 105]⟩⟩ : Str) (τ 33)), (.str (⟨⟨[90, 122, 122, 122]⟩⟩ : Str) (τ 1)), (.str (⟨⟨[72, 97, 110, 103]⟩⟩ : Str) (τ 34)), (.str (⟨⟨[90, 122, 122, 122]⟩⟩ : Str) (τ 1))] 0), slots := #[] } : Obj)]
noncomputable def st_sc_11 (P : Params) (β τ : Nat → Nat) : List Obj := [
  ({ cls := (.ref 129), dict := (some (β 1)), data := .plain, slots := #[] } : Obj),
  ({ cls := (.type "dict"), dict := none, data := (.dict #[⟨PyData.keyHash P (⟨⟨[100, 101, 102, 97, 117, 108, 116]⟩⟩ : Str), (.str (⟨⟨[100, 101, 102, 97, 117, 108, 116]⟩⟩ : Str) (τ 0)), (.str (⟨⟨[90, 122, 122, 122]⟩⟩ : Str) (τ 1))⟩, ⟨PyData.keyHash P (⟨⟨[115, 116, 97, 114, 116, 115]⟩⟩ : Str), (.str (⟨⟨[115, 116, 97, 114, 116, 115]⟩⟩ : Str) (τ 2)), (.ref (β 2))⟩, ⟨PyData.keyHash P (⟨⟨[118, 97, 108, 117, 101, 115]⟩⟩ : Str), (.str (⟨⟨[118, 97, 108, 117, 101, 115]⟩⟩ : Str) (τ 3)), (.ref (β 3))⟩] 3), slots := #[] } : Obj),
  ({ cls := (.type "list"), dict := none, data := (.seq #[(.int (0) (τ 4)), (.int (32) (τ 5)), (.int (33) (τ 6)), (.int (97) (τ 7)), (.int (98) (τ 8)), (.int (768) (τ 9)), (.int (769) (τ 10)), (.int (1072) (τ 11)), (.int (1073) (τ 12)), (.int (12289) (τ 13)), (.int (12290) (τ 14)), (.int (12354) (τ 15)), (.int (12355) (τ 16)), (.int (12450) (τ 17)), (.int (12451) (τ 18)), (.int (12540) (τ 19)), (.int (12541) (τ 20)), (.int (12549) (τ 21)), (.int (12550) (τ 22)), (.int (19968) (τ 23)), (.int (19969) (τ 24)), (.int (44032) (τ 25)), (.int (44033) (τ 26))] 0), slots := #[] } : Obj),
  ({ cls := (.type "list"), dict := none, data := (.seq #[(.str (⟨⟨[90, 122, 122, 122]⟩⟩ : Str) (τ 1)), (.str (⟨⟨[90, 121, 121, 121]⟩⟩ : Str) (τ 27)), (.str (⟨⟨[90, 122, 122, 122]⟩⟩ : Str) (τ 1)), (.str (⟨⟨[76, 97, 116, 110]⟩⟩ : Str) (τ 28)), (.str (⟨⟨[90, 122, 122, 122]⟩⟩ : Str) (τ 1)), (.str (⟨⟨[90, 105, 110, 104]⟩⟩ : Str) (τ 29)), (.str (⟨⟨[90, 122, 122, 122]⟩⟩ : Str) (τ 1)), (.str (⟨⟨[67, 121, 114, 108]⟩⟩ : Str) (τ 30)), (.str (⟨⟨[90, 122, 122, 122]⟩⟩ : Str) (τ 1)), (.str (⟨⟨[90, 121, 121, 121]⟩⟩ : Str) (τ 31)), (.str (⟨⟨[90, 122, 122, 122]⟩⟩ : Str) (τ 1)), (.str (⟨⟨[72, 105, 114, 97]⟩⟩ : Str) (τ 32)), (.str (⟨⟨[90, 122, 122, 122]⟩⟩ : Str) (τ 1)), (.str (⟨⟨[75, 97, 110, 97]⟩⟩ : Str) (τ 33)), (.str (⟨⟨[90, 122, 122, 122]⟩⟩ : Str) (τ 1)), (.str (⟨⟨[90, 121, 121, 121]⟩⟩ : Str) (τ 34)), (.str (⟨⟨[90, 122, 122, 122]⟩⟩ : Str) (τ 1)), (.str (⟨⟨[66, 111, 112, 111]⟩⟩ : Str) (τ 35)), (.str (⟨⟨[90, 122, 122, 122]⟩⟩ : Str) (τ 1)), (.str (⟨⟨[72, 97, 110, 105]⟩⟩ : Str) (τ 36)), (.str (⟨⟨[90, 122, 122, 122]⟩⟩ : Str) (τ 1)), (.str (⟨⟨[72, 97, 110, 103]⟩⟩ : Str) (τ 37)), (.str (⟨⟨[90, 122, 122, 122]⟩⟩ : Str) (τ 1))] 0), slots := #[] } : Obj)]
noncomputable def st_sc_12 (P : Params) (β τ : Nat → Nat) : List Obj := [
  ({ cls := (.ref 129), dict := (some (β 1)), data := .plain, slots := #[] } : Obj),
  ({ cls := (.type "dict"), dict := none, data := (.dict #[⟨PyData.keyHash P (⟨⟨[100, 101, 102, 97, 117, 108, 116]⟩⟩ : Str), (.str (⟨⟨[100, 101, 102, 97, 117, 108, 116]⟩⟩ : Str) (τ 0)), (.str (⟨⟨[90, 122, 122, 122]⟩⟩ : Str) (τ 1))⟩, ⟨PyData.keyHash P (⟨⟨[115, 116, 97, 114, 116, 115]⟩⟩ : Str), (.str (⟨⟨[115, 116, 97, 114, 116, 115]⟩⟩ : Str) (τ 2)), (.ref (β 2))⟩, ⟨PyData.keyHash P (⟨⟨[118, 97, 108, 117, 101, 115]⟩⟩ : Str), (.str (⟨⟨[118, 97, 108, 117, 101, 115]⟩⟩ : Str) (τ 3)), (.ref (β 3))⟩] 3), slots := #[] } : Obj),
  ({ cls := (.type "list"), dict := none, data := (.seq #[(.int (0) (τ 4)), (.int (32) (τ 5)), (.int (33) (τ 6)), (.int (97) (τ 7)), (.int (98) (τ 8)), (.int (768) (τ 9)), (.int (769) (τ 10)), (.int (867) (τ 11)), (.int (868) (τ 12)), (.int (1072) (τ 13)), (.int (1073) (τ 14)), (.int (12289) (τ 15)), (.int (12290) (τ 16)), (.int (12354) (τ 17)), (.int (12355) (τ 18)), (.int (12450) (τ 19)), (.int (12451) (τ 20)), (.int (12540) (τ 21)), (.int (12541) (τ 22)), (.int (12549) (τ 23)), (.int (12550) (τ 24)), (.int (19968) (τ 25)), (.int (19969) (τ 26)), (.int (44032) (τ 27)), (.int (44033) (τ 28))] 0), slots := #[] } : Obj),
  ({ cls := (.type "list"), dict := none, data := (.seq #[(.str (⟨⟨[90, 122, 122, 122]⟩⟩ : Str) (τ 1)), (.str (⟨⟨[90, 121, 121, 121]⟩⟩ : Str) (τ 29)), (.str (⟨⟨[90, 122, 122, 122]⟩⟩ : Str) (τ 1)), (.str (⟨⟨[76, 97, 116, 110]⟩⟩ : Str) (τ 30)), (.str (⟨⟨[90, 122, 122, 122]⟩⟩ : Str) (τ 1)), (.str (⟨⟨[90, 105, 110, 104]⟩⟩ : Str) (τ 31)), (.str (⟨⟨[90, 122, 122, 122]⟩⟩ : Str) (τ 1)), (.str (⟨⟨[90, 105, 110, 104]⟩⟩ : Str) (τ 32)), (.str (⟨⟨[90, 122, 122, 122]⟩⟩ : Str) (τ 1)), (.str (⟨⟨[67, 121, 114, 108]⟩⟩ : Str) (τ 33)), (.str (⟨⟨[90, 122, 122, 122]⟩⟩ : Str) (τ 1)), (.str (⟨⟨[90, 121, 121, 121]⟩⟩ : Str) (τ 34)), (.str (⟨⟨[90, 122, 122, 122]⟩⟩ : Str) (τ 1)), (.str (⟨⟨[72, 105, 114, 97]⟩⟩ : Str) (τ 35)), (.str (⟨⟨[90, 122, 122, 122]⟩⟩ : Str) (τ 1)), (.str (⟨⟨[75, 97, 110, 97]⟩⟩ : Str) (τ 36)), (.str (⟨⟨[90, 122, 122, 122]⟩⟩ : Str) (τ 1)), (.str (⟨⟨[90, 121, 121, 121]⟩⟩ : Str) (τ 37)), (.str (⟨⟨[90, 122, 122, 122]⟩⟩ : Str) (τ 1)), (.str (⟨⟨[66, 111, 112, 111]⟩⟩ : Str) (τ 38)), (.str (⟨⟨[90, 122, 122, 122]⟩⟩ : Str) (τ 1)), (.str (⟨⟨[72, 97, 110, 105]⟩⟩ : Str) (τ 39)), (.str (⟨⟨[90, 122, 122, 122]⟩⟩ : Str) (τ 1)), (.str (⟨⟨[72, 97, 110, 103]⟩⟩ : Str) (τ 40)), (.str (⟨⟨[90, 122, 122, 122]⟩⟩ : Str) (τ 1))] 0), slots := #[] } : Obj)]
noncomputable def st_sc_13 (P : Params) (β τ : Nat → Nat) : List Obj := [
  ({ cls := (.ref 129), dict := (some (β 1)), data := .plain, slots := #[] } : Obj),
  ({ cls := (.type "dict"), dict := none, data := (.dict #[⟨PyData.keyHash P (⟨⟨[100, 101, 102, 97, 117, 108, 116]⟩⟩ : Str), (.str (⟨⟨[100, 101, 102, 97, 117, 108, 116]⟩⟩ : Str) (τ 0)), (.str (⟨⟨[90, 122, 122, 122]⟩⟩ : Str) (τ 1))⟩, ⟨PyData.keyHash P (⟨⟨[115, 116, 97, 114, 116, 115]⟩⟩ : Str), (.str (⟨⟨[115, 116, 97, 114, 116, 115]⟩⟩ : Str) (τ 2)), (.ref (β 2))⟩, ⟨PyData.keyHash P (⟨⟨[118, 97, 108, 117, 101, 115]⟩⟩ : Str), (.str (⟨⟨[118, 97, 108, 117, 101, 115]⟩⟩ : Str) (τ 3)), (.ref (β 3))⟩] 3), slots := #[] } : Obj),
  ({ cls := (.type "list"), dict := none, data := (.seq #[(.int (0) (τ 4)), (.int (32) (τ 5)), (.int (33) (τ 6)), (.int (97) (τ 7)), (.int (98) (τ 8)), (.int (768) (τ 9)), (.int (769) (τ 10)), (.int (867) (τ 11)), (.int (868) (τ 12)), (.int (1072) (τ 13)), (.int (1073) (τ 14)), (.int (12289) (τ 15)), (.int (12290) (τ 16)), (.int (12354) (τ 17)), (.int (12355) (τ 18)), (.int (12450) (τ 19)), (.int (12451) (τ 20)), (.int (12540) (τ 21)), (.int (12541) (τ 22)), (.int (12549) (τ 23)), (.int (12550) (τ 24)), (.int (19968) (τ 25)), (.int (19969) (τ 26)), (.int (44032) (τ 27)), (.int (44033) (τ 28))] 0), slots := #[] } : Obj),
  ({ cls := (.type "list"), dict := none, data := (.seq #[(.str (⟨⟨[90, 122, 122, 122]⟩⟩ : Str) (τ 1)), (.str (⟨⟨[90, 121, 121, 121]⟩⟩ : Str) (τ 29)), (.str (⟨⟨[90, 122, 122, 122]⟩⟩ : Str) (τ 1)), (.str (⟨⟨[76, 97, 116, 110]⟩⟩ : Str) (τ 30)), (.str (⟨⟨[90, 122, 122, 122]⟩⟩ : Str) (τ 1)), (.str (⟨⟨[90, 105, 110, 104]⟩⟩ : Str) (τ 31)), (.str (⟨⟨[90, 122, 122, 122]⟩⟩ : Str) (τ 1)), (.str (⟨⟨[90, 105, 110, 104]⟩⟩ : Str) (τ 32)), (.str (⟨⟨[90, 122, 122, 122]⟩⟩ : Str) (τ 1)), (.str (⟨⟨[67, 121, 114, 108]⟩⟩ : Str) (τ 33)), (.str (⟨⟨[90, 122, 122, 122]⟩⟩ : Str) (τ 1)), (.str (⟨⟨[90, 121, 121, 121]⟩⟩ : Str) (τ 34)), (.str (⟨⟨[90, 122, 122, 122]⟩⟩ : Str) (τ 1)), (.str (⟨⟨[72, 105, 114, 97]⟩⟩ : Str) (τ 35)), (.str (⟨⟨[90, 122, 122, 122]⟩⟩ : Str) (τ 1)), (.str (⟨⟨[75, 97, 110, 97]⟩⟩ : Str) (τ 36)), (.str (⟨⟨[90, 122, 122, 122]⟩⟩ : Str) (τ 1)), (.str (⟨⟨[90, 121, 121, 121]⟩⟩ : Str) (τ 37)), (.str (⟨⟨[90, 122, 122, 122]⟩⟩ : Str) (τ 1)), (.str (⟨⟨[66, 111, 112, 111]⟩⟩ : Str) (τ 38)), (.str (⟨⟨[90, 122, 122, 122]⟩⟩ : Str) (τ 1)), (.str (⟨⟨[72, 97, 110, 105]⟩⟩ : Str) (τ 39)), (.str (⟨⟨[90, 122, 122, 122]⟩⟩ : Str) (τ 1)), (.str (⟨⟨[72, 97, 110, 103]⟩⟩ : Str) (τ 40)), (.str (⟨⟨[90, 122, 122, 122]⟩⟩ : Str) (τ 1))] 0), slots := #[] } : Obj)]
noncomputable def st_scx_0 (P : Params) (β τ : Nat → Nat) : List Obj := [
  ({ cls := (.ref 129), dict := (some (β 1)), data := .plain, slots := #[] } : Obj),
  ({ cls := (.type "dict"), dict := none, data := (.dict #[⟨PyData.keyHash P (⟨⟨[100, 101, 102, 97, 117, 108, 116]⟩⟩ : Str), (.str (⟨⟨[100, 101, 102, 97, 117, 108, 116]⟩⟩ : Str) (τ 0)), .none⟩, ⟨PyData.keyHash P (⟨⟨[115, 116, 97, 114, 116, 115]⟩⟩ : Str), (.str (⟨⟨[115, 116, 97, 114, 116, 115]⟩⟩ : Str) (τ 1)), (.ref (β 2))⟩, ⟨PyData.keyHash P (⟨⟨[118, 97, 108, 117, 101, 115]⟩⟩ : Str), (.str (⟨⟨[118, 97, 108, 117, 101, 115]⟩⟩ : Str) (τ 2)), (.ref (β 3))⟩] 3), slots := #[] } : Obj),
  ({ cls := (.type "list"), dict := none, data := (.seq #[(.int (0) (τ 3))] 0), slots := #[] } : Obj),
  ({ cls := (.type "list"), dict := none, data := (.seq #[.none] 0), slots := #[] } : Obj)]
noncomputable def st_scx_1 (P : Params) (β τ : Nat → Nat) : List Obj := [
  ({ cls := (.ref 129), dict := (some (β 1)), data := .plain, slots := #[] } : Obj),
  ({ cls := (.type "dict"), dict := none, data := (.dict #[⟨PyData.keyHash P (⟨⟨[100, 101, 102, 97, 117, 108, 116]⟩⟩ : Str), (.str (⟨⟨[100, 101, 102, 97, 117, 108, 116]⟩⟩ : Str) (τ 0)), .none⟩, ⟨PyData.keyHash P (⟨⟨[115, 116, 97, 114, 116, 115]⟩⟩ : Str), (.str (⟨⟨[115, 116, 97, 114, 116, 115]⟩⟩ : Str) (τ 1)), (.ref (β 2))⟩, ⟨PyData.keyHash P (⟨⟨[118, 97, 108, 117, 101, 115]⟩⟩ : Str), (.str (⟨⟨[118, 97, 108, 117, 101, 115]⟩⟩ : Str) (τ 2)), (.ref (β 3))⟩] 3), slots := #[] } : Obj),
  ({ cls := (.type "list"), dict := none, data := (.seq #[(.int (0) (τ 3)), (.int (12540) (τ 4)), (.int (12541) (τ 5))] 0), slots := #[] } : Obj),
  ({ cls := (.type "list"), dict := none, data := (.seq #[.none, (.ref 211), .none] 0), slots := #[] } : Obj)]
noncomputable def st_scx_2 (P : Params) (β τ : Nat → Nat) : List Obj := [
  ({ cls := (.ref 129), dict := (some (β 1)), data := .plain, slots := #[] } : Obj),
  ({ cls := (.type "dict"), dict := none, data := (.dict #[⟨PyData.keyHash P (⟨⟨[100, 101, 102, 97, 117, 108, 116]⟩⟩ : Str), (.str (⟨⟨[100, 101, 102, 97, 117, 108, 116]⟩⟩ : Str) (τ 0)), .none⟩, ⟨PyData.keyHash P (⟨⟨[115, 116, 97, 114, 116, 115]⟩⟩ : Str), (.str (⟨⟨[115, 116, 97, 114, 116, 115]⟩⟩ : Str) (τ 1)), (.ref (β 2))⟩, ⟨PyData.keyHash P (⟨⟨[118, 97, 108, 117, 101, 115]⟩⟩ : Str), (.str (⟨⟨[118, 97, 108, 117, 101, 115]⟩⟩ : Str) (τ 2)), (.ref (β 3))⟩] 3), slots := #[] } : Obj),
  ({ cls := (.type "list"), dict := none, data := (.seq #[(.int (0) (τ 3)), (.int (12289) (τ 4)), (.int (12290) (τ 5)), (.int (12540) (τ 6)), (.int (12541) (τ 7))] 0), slots := #[] } : Obj),
  ({ cls := (.type "list"), dict := none, data := (.seq #[.none, (.ref 213), .none, (.ref 211), .none] 0), slots := #[] } : Obj)]
noncomputable def st_scx_3 (P : Params) (β τ : Nat → Nat) : List Obj := [
  ({ cls := (.ref 129), dict := (some (β 1)), data := .plain, slots := #[] } : Obj),
  ({ cls := (.type "dict"), dict := none, data := (.dict #[⟨PyData.keyHash P (⟨⟨[100, 101, 102, 97, 117, 108, 116]⟩⟩ : Str), (.str (⟨⟨[100, 101, 102, 97, 117, 108, 116]⟩⟩ : Str) (τ 0)), .none⟩, ⟨PyData.keyHash P (⟨⟨[115, 116, 97, 114, 116, 115]⟩⟩ : Str), (.str (⟨⟨[115, 116, 97, 114, 116, 115]⟩⟩ : Str) (τ 1)), (.ref (β 2))⟩, ⟨PyData.keyHash P (⟨⟨[118, 97, 108, 117, 101, 115]⟩⟩ : Str), (.str (⟨⟨[118, 97, 108, 117, 101, 115]⟩⟩ : Str) (τ 2)), (.ref (β 3))⟩] 3), slots := #[] } : Obj),
  ({ cls := (.type "list"), dict := none, data := (.seq #[(.int (0) (τ 3)), (.int (867) (τ 4)), (.int (868) (τ 5)), (.int (12289) (τ 6)), (.int (12290) (τ 7)), (.int (12540) (τ 8)), (.int (12541) (τ 9))] 0), slots := #[] } : Obj),
  ({ cls := (.type "list"), dict := none, data := (.seq #[.none, (.ref 215), .none, (.ref 213), .none, (.ref 211), .none] 0), slots := #[] } : Obj)]
end
section
open PySem PySem.W PySem.Calls PyProof.Rows PySem.SeqAt PySem.Spec
set_option autoImplicit false
set_option linter.unusedVariables false
set_option maxRecDepth 100000
section
variable {prog : Program} {w : World} {T : Top0} {n : Nat}
/-- into a def, whatever it changes -/
theorem enter_def {f : Addr} {fd : FuncData} {body : List Stmt} {names : List Str} {dv : List Value} {dd ds : List D} {σ : Sg} {A : Around} {X : Addr → Prop} {s : Shared} {vs₀ : List Value} {Q : Value → Shared → Prop} (K : DefOk T f fd body names dv dd ds σ) (R : Room (n + 1) A) (t : T.At s.heap)
    (L : ∀ b, X b → ∃ o, s.heap.get? b = some o) (tx : ∀ a o, T.K a = some o → ¬ X a) (r : RepL X s.heap vs₀ ds)
    (h : ∀ (A' : Around) (L : Addr) (s₁ : Shared), Room n A' → FS T (callEnvC fd L f) s.heap s X [] σ none s₁ →
      wpAny (model prog w) A' (execs body (callEnvC fd L f)) (fun fl s' => Q (match fl with | .ret v => v | _ => .none) s') (fun _ _ => False) s₁) :
    wpAny (model prog w) A (call (.ref f) vs₀) Q (fun _ _ => False) s := by
  have hvl₀ := r.length
  have hbd := K.bind s vs₀ t hvl₀
  replace r := r.append (K.dfl X s.heap)
  generalize vs₀ ++ dv = vs at r hbd
  obtain ⟨o, ho, hdat⟩ := K.o
  have hvl : vs.length = names.length := by rw [r.length, K.len]
  have hbk : ∀ x ∈ names.zip vs, fd.scope.names.lookup x.1 = some .local ∨ (fd.scope.names.lookup x.1 = some .cell ∧ ((cellsFrom (s.heap.objs.size + 1) fd.scope.names []).lookup x.1).isSome = true) := fun x hx => by
    have hm : x.1 ∈ names := by rw [← zip_fst hvl]; exact List.mem_map.mpr ⟨x, hx, rfl⟩
    rcases (K.kinds x.1 hm).2 with h | ⟨h, hc⟩
    · exact .inl h
    · obtain ⟨c, hc⟩ := hc (s.heap.objs.size + 1)
      exact .inr ⟨h, by rw [hc]; rfl⟩
  refine wpAny_call (call_cellsB (by have := R.depth; omega) (t.k _ _ ho) hdat t.lim ?_ K.body hbd K.clo hbk (fun s₁ inc => ?_) K.co K.gen K.kind)
  · obtain ⟨c, o, vs, t', e1, e2, e3, e4⟩ := K.code
    exact ⟨c, o, vs, t', e1, t.k _ _ e2, e3, e4⟩
  clear hbk
  generalize hE : callEnvC fd s.heap.objs.size f = env at inc
  have hl : env.locals = s.heap.objs.size := by rw [← hE]; rfl
  have hcl : env.cells = cellsFrom (s.heap.objs.size + 1) fd.scope.names [] := by rw [← hE]; rfl
  have ic := inc.toInCall
  have fresh : ∀ b ∈ places env [], s.heap.get? b = none := fun b hb => by
    simp only [places, List.mem_cons, List.append_nil] at hb
    rcases hb with rfl | hb
    · exact Heap.get?_none_of_le ic.fresh
    · obtain ⟨⟨m, c⟩, hm, rfl⟩ := List.mem_map.mp hb
      exact Heap.get?_none_of_le (Nat.le_trans ic.fresh (Nat.le_of_lt (inc.above m c hm)))
  have hks : env.kindOf = fun x => fd.scope.names.lookup x := by rw [← hE]; rfl
  have F : FS T env s.heap s X [] σ none s₁ := by
    refine ⟨_, _, { same := (let ⟨_, _, e⟩ := ic.same; by rw [e]), keep := .of ic.keep, ns := ic.ns, cell := inc.cell, apart := inc.apart, above := fun m c hm => Nat.ne_of_gt (inc.above m c hm), kind := (by rw [← hE]; exact K.kind), glob := (by rw [← hE]; exact K.glob), blt := (by rw [← hE]; exact K.blt), old := fun _ _ e => e, fresh := fresh, top := t, off := fun b hb => ?_, live := L, xa := fun b hb z => ?_, tx := tx, liveP := fun b hb => ?_, ownA := fun b hb => (nomatch hb), get := fun x d hx => ?_, mine := trivial }⟩
    · have hf := fresh b hb
      have hnl : ∀ c o, s.heap.get? c = some o → b ≠ c := fun c o e z => by rw [← z, hf] at e; cases e
      refine ⟨?_, ?_, ?_, ?_⟩
      · cases e : T.K b with
        | none => rfl
        | some o => exact absurd rfl (hnl b o (t.k b o e))
      · obtain ⟨o, _, _, ho, _⟩ := t.g; exact hnl _ o ho
      · obtain ⟨o, _, _, ho, _⟩ := t.b; exact hnl _ o ho
      · obtain ⟨_, ⟨o, _, _, ho, _⟩, _⟩ := t.lim; exact hnl _ o ho
    · obtain ⟨o, ho⟩ := L b z; rw [fresh b hb] at ho; cases ho
    · simp only [places, List.mem_cons, List.append_nil] at hb
      rcases hb with rfl | hb
      · obtain ⟨o, _, _, ho, _⟩ := ic.ns; exact ⟨o, ho⟩
      · obtain ⟨⟨m, c⟩, hm, rfl⟩ := List.mem_map.mp hb
        obtain ⟨o, ho, _⟩ := inc.cell m c (by rw [hcl] at hm ⊢; exact K.cells _ m c hm)
        exact ⟨o, ho⟩
    · obtain ⟨v, hv, rv⟩ := r.zip (K.sg x d hx)
      have hm : x ∈ names := by rw [← zip_fst hvl]; exact List.mem_map.mpr ⟨(x, v), hv, rfl⟩
      have hnd : ((names.zip vs).map (·.1)).Nodup := by rw [zip_fst hvl]; exact K.nodup
      obtain ⟨⟨a1, a2⟩, a3⟩ := K.kinds x hm
      have rv' : Rep (wth X (places env [])) s₁.heap v d := rv.under fresh (.of ic.keep)
      refine ⟨a1, a2, ?_⟩
      rcases a3 with a3 | ⟨a3, hc⟩
      · exact .inl ⟨by rw [hks]; exact a3, v, bindL_get _ _ _ x v hnd hv (by rw [hks]; exact a3), rv'⟩
      · obtain ⟨c, hc⟩ := hc (s.heap.objs.size + 1)
        exact .inr ⟨by rw [hks]; exact a3, c, v, by rw [hcl]; exact hc, bindC_get _ _ _ x v hnd hv (by rw [hks]; show fd.scope.names.lookup x ≠ _; rw [a3]; simp), rv'⟩
  subst hE
  exact wpAny_mono (h _ _ s₁ (R.deeper _) F) (fun fl s' z => z) (fun _ _ f => f.elim)
end
section
variable {prog : Program} {w : World} {T T' : Top0} {A : Around} {env : Env} {σ σ' : Sg} {n : Nat} {B₀ : Heap} {B s s' : Shared} {X X' : Addr → Prop} {own : List Addr} {ow ow' : Ow}
/-- what is laid aside was changed, and other things are laid aside -/
theorem FS.reX (F : FS T env B₀ B X own σ none s) (he : outer s' = outer s) (hk : ∀ b o, ¬ X b → s.heap.get? b = some o → s'.heap.get? b = some o) (hX' : ∀ b, X' b → X b ∨ s.heap.get? b = none) (hl : ∀ b, X' b → ∃ o, s'.heap.get? b = some o)
    (hB : ∀ b, X b → B₀.get? b = none) (hT : ∀ b, X b → T.K b = none ∧ b ≠ mainGlobals ∧ b ≠ builtinsNs ∧ b ≠ cStatics) : FS T env B₀ s' X' own σ none s' := by
  obtain ⟨m, cm, F⟩ := F.rebase
  have nX : ∀ b ∈ places env own, ¬ X b := F.xa
  have tS' : T.At s'.heap := by
    refine ⟨F.top.g.at' fun o e => hk _ o (fun z => (hT _ z).2.1 rfl) e, F.top.b.at' fun o e => hk _ o (fun z => (hT _ z).2.2.1 rfl) e, ?_, fun a o e => hk a o (F.tx a o e) (F.top.k a o e)⟩
    obtain ⟨mc, h1, h2⟩ := F.top.lim
    exact ⟨mc, h1.at' fun o e => hk _ o (fun z => (hT _ z).2.2.2 rfl) e, h2⟩
  have re : ∀ v d, Rep (wth X (places env own)) s.heap v d → Rep (wth X' (places env own)) s'.heap v d := fun v d r => by
    have r1 : Rep (wth (fun b => X b ∨ X' b) (places env own)) s.heap v d := r.avoid fun b hb => by
      rcases hb with (hb | hb) | hb
      · exact .inl (.inl hb)
      · exact (hX' b hb).imp .inl id
      · exact .inl (.inr hb)
    have r2 : Rep (wth (fun b => X b ∨ X' b) (places env own)) s'.heap v d := r1.mono fun b o hx e => hk b o (fun z => hx (.inl (.inl z))) e
    exact r2.avoid fun b hb => .inl (hb.imp .inr id)
  refine ⟨m, cm, { F with same := rfl, keep := fun _ _ _ e => e, ns := F.ns.at' fun o e => hk _ o (nX _ List.mem_cons_self) e, cell := fun n c hc => ?_, old := fun b o e => hk b o (fun z => by rw [hB b z] at e; cases e) (F.old b o e), top := tS', live := hl, xa := fun b hb z => ?_, tx := fun a o e z => ?_, liveP := fun b hb => ?_, get := fun x d hx => ?_, mine := trivial }⟩
  · obtain ⟨o, ho', hd⟩ := F.cell n c hc
    exact ⟨o, hk c o (nX _ (List.mem_cons_of_mem _ (List.mem_append_left _ (List.mem_map.mpr ⟨(n, c), mem_of_lookup hc, rfl⟩)))) ho', hd⟩
  · rcases hX' b z with h | h
    · exact nX b hb h
    · obtain ⟨o, ho⟩ := F.liveP b hb; rw [h] at ho; cases ho
  · rcases hX' a z with h | h
    · exact F.tx a o e h
    · rw [F.top.k a o e] at h; cases h
  · obtain ⟨o, ho⟩ := F.liveP b hb
    exact ⟨o, hk b o (nX b hb) ho⟩
  · obtain ⟨a1, a2, ⟨a3, v, hv, r⟩ | ⟨a3, c, v, hc, hv, r⟩⟩ := F.get x d hx
    · exact ⟨a1, a2, .inl ⟨a3, v, hv, re v d r⟩⟩
    · exact ⟨a1, a2, .inr ⟨a3, c, v, hc, hv, re v d r⟩⟩
/-- another top -/
theorem FS.reT (F : FS T env B₀ B X own σ none s) (t' : T'.At s.heap) (off' : ∀ b ∈ places env own, T'.K b = none) (tx' : ∀ a o, T'.K a = some o → ¬ X a) : FS T' env B₀ s X own σ none s := by
  obtain ⟨m, cm, F⟩ := F.rebase
  exact ⟨m, cm, { F with top := t', off := fun b hb => ⟨off' b hb, (F.off b hb).2⟩, tx := tx' }⟩
end
end
section
open PySem PySem.W PySem.W.X PySem.Calls PyProof.Rows PySem.SeqAt PySem.Spec
set_option autoImplicit false
set_option linter.unusedVariables false
set_option maxRecDepth 100000
noncomputable abbrev newBs (n : Nat) (bs js : List Nat) : List Nat := js.map fun j => Mine.adr 246 n bs (246 + j)
theorem range_getD : ∀ (l : List Nat), (List.range l.length).map (fun j => l.getD j 0) = l := fun l => by
  apply List.ext_getElem
  · simp
  · intro i h1 h2
    simp [h2]
theorem adr_cases {n : Nat} {bs : List Nat} {j : Nat} : Mine.adr 246 n bs (246 + j) ∈ bs ∨ n ≤ Mine.adr 246 n bs (246 + j) := by
  unfold Mine.adr
  rw [show Nat.blt (246 + j) 246 = false from Z.bool_no Z.blt_iff (by omega)]
  dsimp only
  rw [Nat.add_sub_cancel_left]
  by_cases h : j < bs.length
  · exact .inl (adr2_old n bs j h)
  · rw [adr2_new n bs j (by omega)]
    exact .inr (Nat.le_add_right _ _)
theorem adr_inj' {n : Nat} {bs : List Nat} (hn : bs.Nodup) (hb : ∀ b ∈ bs, b < n) {i j : Nat} (h : Mine.adr 246 n bs (246 + i) = Mine.adr 246 n bs (246 + j)) : i = j := by
  unfold Mine.adr at h
  rw [show Nat.blt (246 + i) 246 = false from Z.bool_no Z.blt_iff (by omega), show Nat.blt (246 + j) 246 = false from Z.bool_no Z.blt_iff (by omega)] at h
  dsimp only at h
  rw [Nat.add_sub_cancel_left, Nat.add_sub_cancel_left] at h
  exact adr2_inj n bs hn hb i j h
theorem map_nodup {f : Nat → Nat} (hf : ∀ i j, f i = f j → i = j) : ∀ {l : List Nat}, l.Nodup → (l.map f).Nodup
  | [], _ => .nil
  | x :: l, h => by
    rw [List.nodup_cons] at h
    rw [List.map_cons, List.nodup_cons]
    refine ⟨fun m => ?_, map_nodup hf h.2⟩
    obtain ⟨y, hy, e⟩ := List.mem_map.mp m
    exact h.1 (hf _ _ e ▸ hy)
/-- a run that changes what lies at some places -/
theorem step_run {w : World} {A : Around} {s : Shared} {f : Value} {args : List Value} {Q : Value → Shared → Prop} {bs : List Nat} {objs : List Obj} {hints : List Nat} {v : Value} {js : List Nat} {objs' : List Obj} {q i N : Nat} (R : Room 318 A)
    (hn : 246 ≤ s.heap.objs.size) (X : (hd.heap_227 w.params).In s.heap) (L : Laid objs bs s.heap)
    (run : ∀ (b : Bool) (Q' : PySem.Fin → Shared → Prop), Came (hsim (hV (wB w b) A Q' s.heap s.gens s.drawn s.os s.heap.objs.size s.toks bs) N codeH .base (callT f args) ⟨tstore objs, 246 + bs.length, 0, hints, [], []⟩) v js objs' q i)
    (hjs : js.Nodup) (hl' : objs'.length = js.length)
    (hQ : ∀ (h' : Heap) (tk : Nat), Laid objs' (newBs s.heap.objs.size bs js) h' → (∀ b o, b ∉ bs → s.heap.get? b = some o → h'.get? b = some o) → (∀ b ∈ newBs s.heap.objs.size bs js, b ∈ bs ∨ s.heap.get? b = none) → Q v { s with heap := h', toks := tk }) :
    wpAny (model prgH w) A (call f args) Q (fun _ _ => False) s := by
  have hdep := R.depth
  have hun := R.units
  have live : ∀ b ∈ bs, b < s.heap.objs.size := fun b hb => by
    obtain ⟨j, hj⟩ := List.getElem?_of_mem hb
    have hlt : j < objs.length := by rw [L.len]; exact (List.getElem?_eq_some_iff.mp hj).1
    exact Heap.lt_size (L.at_ j b objs[j] hj (by simp [hlt]))
  refine hrun R.hand (by omega) (by omega) hn X L.nodup L.lo L.len L.at_ run fun h' h1 h2 => hQ h' _ ⟨map_nodup (fun i j e => adr_inj' L.nodup live e) hjs, fun b hb => ?_, by rw [hl', List.length_map], fun k b o hk ho => ?_⟩ (fun b o hb e => h2 b o e hb) fun b hb => ?_
  · obtain ⟨j, _, rfl⟩ := List.mem_map.mp hb
    rcases adr_cases (n := s.heap.objs.size) (bs := bs) (j := j) with h | h
    · exact L.lo _ h
    · omega
  · rw [List.getElem?_map] at hk
    obtain ⟨j, hj, rfl⟩ := Option.map_eq_some_iff.mp hk
    exact h1 k j o hj ho
  · obtain ⟨j, _, rfl⟩ := List.mem_map.mp hb
    rcases adr_cases (n := s.heap.objs.size) (bs := bs) (j := j) with h | h
    · exact .inl h
    · exact .inr (Heap.get?_none_of_le h)
/-- places told by a function -/
theorem laid_fun {objs' : List Obj} {l : List Nat} {m : Nat} {h : Heap} (L : Laid objs' l h) (hm : l.length = m) : Laid objs' (bsOf m (fun j => l.getD j 0)) h := by
  subst hm
  unfold bsOf
  rw [range_getD]
  exact L
theorem mem_bs {l : List Nat} {m b : Nat} (hm : l.length = m) (h : b ∈ bsOf m (fun j => l.getD j 0)) : b ∈ l := by
  subst hm
  unfold bsOf at h
  rwa [range_getD] at h
theorem laid_size {objs : List Obj} {m : Nat} {β : Nat → Nat} {h : Heap} (L : Laid objs (bsOf m β) h) (hm : 0 < m) : 246 ≤ h.objs.size := by
  have h0 : 0 < objs.length := by rw [L.len, bs_len]; exact hm
  have := Heap.lt_size (L.at_ 0 (β 0) objs[0] (bs_at hm) (by simp [h0]))
  have h2 := L.lo (β 0) (List.mem_of_getElem? (bs_at hm))
  have h3 : (β 0 : Nat) < h.objs.size := this
  omega
end
section
open PySem PySem.W PySem.W.X PyProof.Rows
set_option autoImplicit false
set_option linter.unusedVariables false
set_option maxRecDepth 100000
theorem run_sc_0 {w : World} {A : Around} {Q' : PySem.Fin → Shared → Prop} {h₀ : Heap} {g : Array GenState} {d : Drawn} {os : OsState} {n t : Nat} (b : Bool) {t4 : Nat} : Came (hsim (hV (wB w b) A Q' h₀ g d os n t []) 350 (.builtin "mine" ⟨[], []⟩) .base (callT (.ref 129) [(.str (⟨⟨[90, 122, 122, 122]⟩⟩ : Str) t4)]) ⟨tstore [], 246, 0, [129, 129, 129, 129, 129, 129, 129, 129, 129, 129, 129, 129, 129, 129, 129, 129, 129, 129, 129, 129, 129, 129, 129, 129, 128, 129, 129, 247, 129, 247, 129, 129, 128, 98, 98, 97, 248, 248, 248, 248, 2, 248, 248, 247, 129, 129, 128, 247, 129, 247, 129, 247, 129, 129, 128, 247, 129, 246, 246, 246, 248, 247, 129, 129, 128, 247, 129, 247, 129, 247, 129, 129, 128, 247, 129, 246, 246, 246, 248, 248, 247, 129, 129, 128, 247, 129, 247, 129, 247, 129, 129, 128, 247, 129, 246, 246, 246], [], []⟩)
  (.ref (n + 1)) [1, 0, 3, 4] (st_sc_0 w.params (fun j => ([1, 0, 3, 4].map fun i => Mine.adr 246 n [] (246 + i)).getD j 0) (fun j => ([(t + 3), t4, (t + 6), (t + 8), (t + 4)] : List Nat).getD j 0)) 251 9 := by
  unfold Came
  cases b <;> kernel_rfl
end
section
open PySem PySem.W PySem.W.X PyProof.Rows
set_option autoImplicit false
set_option linter.unusedVariables false
set_option maxRecDepth 100000
theorem run_sc_1 {w : World} {A : Around} {Q' : PySem.Fin → Shared → Prop} {h₀ : Heap} {g : Array GenState} {d : Drawn} {os : OsState} {n t : Nat} (b : Bool) {β τ : Nat → Nat} {t2 t3 t4 : Nat} : Came (hsim (hV (wB w b) A Q' h₀ g d os n t ((List.range 4).map β)) 1182 (.builtin "mine" ⟨[], []⟩) .base (callT (.ref 112) [(.ref (β 0)), (.int (97) t2), (.int (97) t3), (.str (⟨⟨[76, 97, 116, 110]⟩⟩ : Str) t4)]) ⟨tstore (st_sc_0 w.params β τ), 250, 0, [112, 111, 250, 250, 250, 250, 250, 250, 250, 250, 2, 250, 250, 3, 250, 246, 129, 129, 128, 246, 129, 129, 128, 246, 246, 129, 247, 250, 77, 77, 76, 251, 251, 251, 251, 2, 251, 251, 3, 0, 251, 248, 248, 248, 251, 251, 251, 251, 251, 251, 251, 251, 251, 251, 248, 248, 248, 248, 248, 251, 251, 251, 251, 251, 251, 251, 250, 250, 3, 250, 246, 129, 129, 128, 246, 129, 129, 128, 246, 246, 129, 247, 250, 77, 77, 76, 252, 252, 252, 252, 2, 252, 252, 3, 0, 252, 248, 248, 248, 252, 252, 252, 252, 252, 252, 252, 252, 252, 252, 248, 248, 248, 248, 248, 252, 252, 252, 252, 252, 252, 252, 250, 250, 250, 246, 129, 129, 128, 246, 129, 129, 128, 246, 246, 129, 247, 250, 249, 249, 249, 249, 249, 250, 250, 250, 250, 255, 255, 255, 255, 256, 256, 256, 256, 256, 255, 256, 256, 256, 256, 256, 256, 255, 256, 256, 256, 256, 256, 256, 255, 256, 256, 258, 250, 250, 250, 250, 250, 3, 3, 250, 250, 84, 84, 83, 259, 259, 259, 259, 2, 259, 259, 259, 250, 253, 253, 253, 253, 250, 253, 253, 253, 253, 250, 254, 254, 254, 254, 250, 254, 254, 254, 254, 250, 3, 250, 246, 129, 129, 128, 246, 129, 129, 128, 246, 246, 129, 247, 250, 249, 249, 249, 249, 249, 250, 84, 84, 83, 260, 260, 260, 260, 2, 260, 260, 260, 250, 246, 129, 129, 128, 246, 129, 129, 128, 246, 246, 129, 247, 250, 248, 248, 248, 248, 261, 261, 261, 261, 261, 248, 250, 262, 253, 262, 262, 253, 262, 253, 250, 246, 129, 129, 128, 246, 129, 129, 128, 246, 246, 129, 247, 250, 248, 248, 248, 248, 264, 264, 264, 264, 264, 248, 263, 265, 263, 263, 265, 263, 265, 250, 246, 129, 129, 128, 246, 129, 246, 129, 246, 129, 129, 128, 246, 129, 247, 247, 247, 250, 246, 129, 129, 128, 246, 129, 129, 128, 246, 246, 129, 247, 250, 249, 249, 249, 249, 267, 267, 267, 267, 267, 249, 250, 268, 254, 268, 268, 254, 268, 254, 250, 246, 129, 129, 128, 246, 129, 129, 128, 246, 246, 129, 247, 250, 249, 249, 249, 249, 270, 270, 270, 270, 270, 249, 269, 271, 269, 269, 271, 269, 271, 250, 246, 129, 129, 128, 246, 129, 246, 129, 246, 129, 129, 128, 246, 129, 247, 247, 247], [], []⟩)
  .none [0, 1, 20, 26] (st_sc_1 w.params (fun j => ([0, 1, 20, 26].map fun i => Mine.adr 246 n ((List.range 4).map β) (246 + i)).getD j 0) (fun j => ([(τ 0), (τ 1), (τ 2), (τ 3), (τ 4), t2, (t + 57), t4] : List Nat).getD j 0)) 273 72 := by
  unfold Came
  cases b <;> kernel_rfl
end
section
open PySem PySem.W PySem.W.X PyProof.Rows
set_option autoImplicit false
set_option linter.unusedVariables false
set_option maxRecDepth 100000
theorem run_sc_2 {w : World} {A : Around} {Q' : PySem.Fin → Shared → Prop} {h₀ : Heap} {g : Array GenState} {d : Drawn} {os : OsState} {n t : Nat} (b : Bool) {β τ : Nat → Nat} {t2 t3 t4 : Nat} : Came (hsim (hV (wB w b) A Q' h₀ g d os n t ((List.range 4).map β)) 1322 (.builtin "mine" ⟨[], []⟩) .base (callT (.ref 112) [(.ref (β 0)), (.int (1072) t2), (.int (1072) t3), (.str (⟨⟨[67, 121, 114, 108]⟩⟩ : Str) t4)]) ⟨tstore (st_sc_1 w.params β τ), 250, 0, [112, 111, 250, 250, 250, 250, 250, 250, 250, 250, 2, 250, 250, 3, 250, 246, 129, 129, 128, 246, 129, 129, 128, 246, 246, 129, 247, 250, 77, 77, 76, 251, 251, 251, 251, 2, 251, 251, 3, 0, 251, 248, 248, 248, 251, 251, 251, 251, 251, 251, 251, 251, 251, 251, 248, 248, 248, 248, 248, 251, 251, 251, 251, 251, 251, 251, 251, 251, 251, 251, 251, 248, 248, 248, 248, 248, 251, 251, 251, 251, 251, 251, 251, 250, 250, 3, 250, 246, 129, 129, 128, 246, 129, 129, 128, 246, 246, 129, 247, 250, 77, 77, 76, 252, 252, 252, 252, 2, 252, 252, 3, 0, 252, 248, 248, 248, 252, 252, 252, 252, 252, 252, 252, 252, 252, 252, 248, 248, 248, 248, 248, 252, 252, 252, 252, 252, 252, 252, 252, 252, 252, 252, 252, 248, 248, 248, 248, 248, 252, 252, 252, 252, 252, 252, 252, 250, 250, 250, 246, 129, 129, 128, 246, 129, 129, 128, 246, 246, 129, 247, 250, 249, 249, 249, 249, 249, 250, 250, 250, 250, 255, 255, 255, 255, 256, 256, 256, 256, 256, 255, 256, 256, 256, 256, 256, 256, 255, 256, 256, 256, 256, 256, 256, 255, 256, 256, 258, 250, 250, 250, 250, 250, 3, 3, 250, 250, 84, 84, 83, 259, 259, 259, 259, 2, 259, 259, 259, 250, 253, 253, 253, 253, 250, 253, 253, 253, 253, 250, 254, 254, 254, 254, 250, 254, 254, 254, 254, 250, 3, 250, 246, 129, 129, 128, 246, 129, 129, 128, 246, 246, 129, 247, 250, 249, 249, 249, 249, 249, 250, 84, 84, 83, 260, 260, 260, 260, 2, 260, 260, 260, 250, 246, 129, 129, 128, 246, 129, 129, 128, 246, 246, 129, 247, 250, 248, 248, 248, 248, 261, 261, 261, 261, 261, 248, 250, 262, 253, 262, 262, 253, 262, 253, 250, 246, 129, 129, 128, 246, 129, 129, 128, 246, 246, 129, 247, 250, 248, 248, 248, 248, 264, 264, 264, 264, 264, 248, 263, 265, 263, 263, 265, 263, 265, 250, 246, 129, 129, 128, 246, 129, 246, 129, 246, 129, 129, 128, 246, 129, 247, 247, 247, 250, 246, 129, 129, 128, 246, 129, 129, 128, 246, 246, 129, 247, 250, 249, 249, 249, 249, 267, 267, 267, 267, 267, 249, 250, 268, 254, 268, 268, 254, 268, 254, 250, 246, 129, 129, 128, 246, 129, 129, 128, 246, 246, 129, 247, 250, 249, 249, 249, 249, 270, 270, 270, 270, 270, 249, 269, 271, 269, 269, 271, 269, 271, 250, 246, 129, 129, 128, 246, 129, 246, 129, 246, 129, 129, 128, 246, 129, 247, 247, 247], [], []⟩)
  .none [0, 1, 20, 26] (st_sc_2 w.params (fun j => ([0, 1, 20, 26].map fun i => Mine.adr 246 n ((List.range 4).map β) (246 + i)).getD j 0) (fun j => ([(τ 0), (τ 1), (τ 2), (τ 3), (τ 4), (τ 5), (τ 6), t2, (t + 71), (τ 7), t4] : List Nat).getD j 0)) 273 86 := by
  unfold Came
  cases b <;> kernel_rfl
end
section
open PySem PySem.W PySem.W.X PyProof.Rows
set_option autoImplicit false
set_option linter.unusedVariables false
set_option maxRecDepth 100000
theorem run_sc_3 {w : World} {A : Around} {Q' : PySem.Fin → Shared → Prop} {h₀ : Heap} {g : Array GenState} {d : Drawn} {os : OsState} {n t : Nat} (b : Bool) {β τ : Nat → Nat} {t2 t3 t4 : Nat} : Came (hsim (hV (wB w b) A Q' h₀ g d os n t ((List.range 4).map β)) 1322 (.builtin "mine" ⟨[], []⟩) .base (callT (.ref 112) [(.ref (β 0)), (.int (12354) t2), (.int (12354) t3), (.str (⟨⟨[72, 105, 114, 97]⟩⟩ : Str) t4)]) ⟨tstore (st_sc_2 w.params β τ), 250, 0, [112, 111, 250, 250, 250, 250, 250, 250, 250, 250, 2, 250, 250, 3, 250, 246, 129, 129, 128, 246, 129, 129, 128, 246, 246, 129, 247, 250, 77, 77, 76, 251, 251, 251, 251, 2, 251, 251, 3, 0, 251, 248, 248, 248, 251, 251, 251, 251, 251, 251, 251, 251, 251, 251, 248, 248, 248, 248, 248, 251, 251, 251, 251, 251, 251, 251, 251, 251, 251, 251, 251, 248, 248, 248, 248, 248, 251, 251, 251, 251, 251, 251, 251, 250, 250, 3, 250, 246, 129, 129, 128, 246, 129, 129, 128, 246, 246, 129, 247, 250, 77, 77, 76, 252, 252, 252, 252, 2, 252, 252, 3, 0, 252, 248, 248, 248, 252, 252, 252, 252, 252, 252, 252, 252, 252, 252, 248, 248, 248, 248, 248, 252, 252, 252, 252, 252, 252, 252, 252, 252, 252, 252, 252, 248, 248, 248, 248, 248, 252, 252, 252, 252, 252, 252, 252, 250, 250, 250, 246, 129, 129, 128, 246, 129, 129, 128, 246, 246, 129, 247, 250, 249, 249, 249, 249, 249, 250, 250, 250, 250, 255, 255, 255, 255, 256, 256, 256, 256, 256, 255, 256, 256, 256, 256, 256, 256, 255, 256, 256, 256, 256, 256, 256, 255, 256, 256, 258, 250, 250, 250, 250, 250, 3, 3, 250, 250, 84, 84, 83, 259, 259, 259, 259, 2, 259, 259, 259, 250, 253, 253, 253, 253, 250, 253, 253, 253, 253, 250, 254, 254, 254, 254, 250, 254, 254, 254, 254, 250, 3, 250, 246, 129, 129, 128, 246, 129, 129, 128, 246, 246, 129, 247, 250, 249, 249, 249, 249, 249, 250, 84, 84, 83, 260, 260, 260, 260, 2, 260, 260, 260, 250, 246, 129, 129, 128, 246, 129, 129, 128, 246, 246, 129, 247, 250, 248, 248, 248, 248, 261, 261, 261, 261, 261, 248, 250, 262, 253, 262, 262, 253, 262, 253, 250, 246, 129, 129, 128, 246, 129, 129, 128, 246, 246, 129, 247, 250, 248, 248, 248, 248, 264, 264, 264, 264, 264, 248, 263, 265, 263, 263, 265, 263, 265, 250, 246, 129, 129, 128, 246, 129, 246, 129, 246, 129, 129, 128, 246, 129, 247, 247, 247, 250, 246, 129, 129, 128, 246, 129, 129, 128, 246, 246, 129, 247, 250, 249, 249, 249, 249, 267, 267, 267, 267, 267, 249, 250, 268, 254, 268, 268, 254, 268, 254, 250, 246, 129, 129, 128, 246, 129, 129, 128, 246, 246, 129, 247, 250, 249, 249, 249, 249, 270, 270, 270, 270, 270, 249, 269, 271, 269, 269, 271, 269, 271, 250, 246, 129, 129, 128, 246, 129, 246, 129, 246, 129, 129, 128, 246, 129, 247, 247, 247], [], []⟩)
  .none [0, 1, 20, 26] (st_sc_3 w.params (fun j => ([0, 1, 20, 26].map fun i => Mine.adr 246 n ((List.range 4).map β) (246 + i)).getD j 0) (fun j => ([(τ 0), (τ 1), (τ 2), (τ 3), (τ 4), (τ 5), (τ 6), (τ 7), (τ 8), t2, (t + 71), (τ 9), (τ 10), t4] : List Nat).getD j 0)) 273 86 := by
  unfold Came
  cases b <;> kernel_rfl
end
section
open PySem PySem.W PySem.W.X PyProof.Rows
set_option autoImplicit false
set_option linter.unusedVariables false
set_option maxRecDepth 100000
theorem run_sc_4 {w : World} {A : Around} {Q' : PySem.Fin → Shared → Prop} {h₀ : Heap} {g : Array GenState} {d : Drawn} {os : OsState} {n t : Nat} (b : Bool) {β τ : Nat → Nat} {t2 t3 t4 : Nat} : Came (hsim (hV (wB w b) A Q' h₀ g d os n t ((List.range 4).map β)) 1462 (.builtin "mine" ⟨[], []⟩) .base (callT (.ref 112) [(.ref (β 0)), (.int (12450) t2), (.int (12450) t3), (.str (⟨⟨[75, 97, 110, 97]⟩⟩ : Str) t4)]) ⟨tstore (st_sc_3 w.params β τ), 250, 0, [112, 111, 250, 250, 250, 250, 250, 250, 250, 250, 2, 250, 250, 3, 250, 246, 129, 129, 128, 246, 129, 129, 128, 246, 246, 129, 247, 250, 77, 77, 76, 251, 251, 251, 251, 2, 251, 251, 3, 0, 251, 248, 248, 248, 251, 251, 251, 251, 251, 251, 251, 251, 251, 251, 248, 248, 248, 248, 248, 251, 251, 251, 251, 251, 251, 251, 251, 251, 251, 251, 251, 248, 248, 248, 248, 248, 251, 251, 251, 251, 251, 251, 251, 251, 251, 251, 251, 251, 248, 248, 248, 248, 248, 251, 251, 251, 251, 251, 251, 251, 250, 250, 3, 250, 246, 129, 129, 128, 246, 129, 129, 128, 246, 246, 129, 247, 250, 77, 77, 76, 252, 252, 252, 252, 2, 252, 252, 3, 0, 252, 248, 248, 248, 252, 252, 252, 252, 252, 252, 252, 252, 252, 252, 248, 248, 248, 248, 248, 252, 252, 252, 252, 252, 252, 252, 252, 252, 252, 252, 252, 248, 248, 248, 248, 248, 252, 252, 252, 252, 252, 252, 252, 252, 252, 252, 252, 252, 248, 248, 248, 248, 248, 252, 252, 252, 252, 252, 252, 252, 250, 250, 250, 246, 129, 129, 128, 246, 129, 129, 128, 246, 246, 129, 247, 250, 249, 249, 249, 249, 249, 250, 250, 250, 250, 255, 255, 255, 255, 256, 256, 256, 256, 256, 255, 256, 256, 256, 256, 256, 256, 255, 256, 256, 256, 256, 256, 256, 255, 256, 256, 258, 250, 250, 250, 250, 250, 3, 3, 250, 250, 84, 84, 83, 259, 259, 259, 259, 2, 259, 259, 259, 250, 253, 253, 253, 253, 250, 253, 253, 253, 253, 250, 254, 254, 254, 254, 250, 254, 254, 254, 254, 250, 3, 250, 246, 129, 129, 128, 246, 129, 129, 128, 246, 246, 129, 247, 250, 249, 249, 249, 249, 249, 250, 84, 84, 83, 260, 260, 260, 260, 2, 260, 260, 260, 250, 246, 129, 129, 128, 246, 129, 129, 128, 246, 246, 129, 247, 250, 248, 248, 248, 248, 261, 261, 261, 261, 261, 248, 250, 262, 253, 262, 262, 253, 262, 253, 250, 246, 129, 129, 128, 246, 129, 129, 128, 246, 246, 129, 247, 250, 248, 248, 248, 248, 264, 264, 264, 264, 264, 248, 263, 265, 263, 263, 265, 263, 265, 250, 246, 129, 129, 128, 246, 129, 246, 129, 246, 129, 129, 128, 246, 129, 247, 247, 247, 250, 246, 129, 129, 128, 246, 129, 129, 128, 246, 246, 129, 247, 250, 249, 249, 249, 249, 267, 267, 267, 267, 267, 249, 250, 268, 254, 268, 268, 254, 268, 254, 250, 246, 129, 129, 128, 246, 129, 129, 128, 246, 246, 129, 247, 250, 249, 249, 249, 249, 270, 270, 270, 270, 270, 249, 269, 271, 269, 269, 271, 269, 271, 250, 246, 129, 129, 128, 246, 129, 246, 129, 246, 129, 129, 128, 246, 129, 247, 247, 247], [], []⟩)
  .none [0, 1, 20, 26] (st_sc_4 w.params (fun j => ([0, 1, 20, 26].map fun i => Mine.adr 246 n ((List.range 4).map β) (246 + i)).getD j 0) (fun j => ([(τ 0), (τ 1), (τ 2), (τ 3), (τ 4), (τ 5), (τ 6), (τ 7), (τ 8), (τ 9), (τ 10), t2, (t + 85), (τ 11), (τ 12), (τ 13), t4] : List Nat).getD j 0)) 273 100 := by
  unfold Came
  cases b <;> kernel_rfl
end
section
open PySem PySem.W PySem.W.X PyProof.Rows
set_option autoImplicit false
set_option linter.unusedVariables false
set_option maxRecDepth 100000
theorem run_sc_5 {w : World} {A : Around} {Q' : PySem.Fin → Shared → Prop} {h₀ : Heap} {g : Array GenState} {d : Drawn} {os : OsState} {n t : Nat} (b : Bool) {β τ : Nat → Nat} {t2 t3 t4 : Nat} : Came (hsim (hV (wB w b) A Q' h₀ g d os n t ((List.range 4).map β)) 1462 (.builtin "mine" ⟨[], []⟩) .base (callT (.ref 112) [(.ref (β 0)), (.int (19968) t2), (.int (19968) t3), (.str (⟨⟨[72, 97, 110, 105]⟩⟩ : Str) t4)]) ⟨tstore (st_sc_4 w.params β τ), 250, 0, [112, 111, 250, 250, 250, 250, 250, 250, 250, 250, 2, 250, 250, 3, 250, 246, 129, 129, 128, 246, 129, 129, 128, 246, 246, 129, 247, 250, 77, 77, 76, 251, 251, 251, 251, 2, 251, 251, 3, 0, 251, 248, 248, 248, 251, 251, 251, 251, 251, 251, 251, 251, 251, 251, 248, 248, 248, 248, 248, 251, 251, 251, 251, 251, 251, 251, 251, 251, 251, 251, 251, 248, 248, 248, 248, 248, 251, 251, 251, 251, 251, 251, 251, 251, 251, 251, 251, 251, 248, 248, 248, 248, 248, 251, 251, 251, 251, 251, 251, 251, 250, 250, 3, 250, 246, 129, 129, 128, 246, 129, 129, 128, 246, 246, 129, 247, 250, 77, 77, 76, 252, 252, 252, 252, 2, 252, 252, 3, 0, 252, 248, 248, 248, 252, 252, 252, 252, 252, 252, 252, 252, 252, 252, 248, 248, 248, 248, 248, 252, 252, 252, 252, 252, 252, 252, 252, 252, 252, 252, 252, 248, 248, 248, 248, 248, 252, 252, 252, 252, 252, 252, 252, 252, 252, 252, 252, 252, 248, 248, 248, 248, 248, 252, 252, 252, 252, 252, 252, 252, 250, 250, 250, 246, 129, 129, 128, 246, 129, 129, 128, 246, 246, 129, 247, 250, 249, 249, 249, 249, 249, 250, 250, 250, 250, 255, 255, 255, 255, 256, 256, 256, 256, 256, 255, 256, 256, 256, 256, 256, 256, 255, 256, 256, 256, 256, 256, 256, 255, 256, 256, 258, 250, 250, 250, 250, 250, 3, 3, 250, 250, 84, 84, 83, 259, 259, 259, 259, 2, 259, 259, 259, 250, 253, 253, 253, 253, 250, 253, 253, 253, 253, 250, 254, 254, 254, 254, 250, 254, 254, 254, 254, 250, 3, 250, 246, 129, 129, 128, 246, 129, 129, 128, 246, 246, 129, 247, 250, 249, 249, 249, 249, 249, 250, 84, 84, 83, 260, 260, 260, 260, 2, 260, 260, 260, 250, 246, 129, 129, 128, 246, 129, 129, 128, 246, 246, 129, 247, 250, 248, 248, 248, 248, 261, 261, 261, 261, 261, 248, 250, 262, 253, 262, 262, 253, 262, 253, 250, 246, 129, 129, 128, 246, 129, 129, 128, 246, 246, 129, 247, 250, 248, 248, 248, 248, 264, 264, 264, 264, 264, 248, 263, 265, 263, 263, 265, 263, 265, 250, 246, 129, 129, 128, 246, 129, 246, 129, 246, 129, 129, 128, 246, 129, 247, 247, 247, 250, 246, 129, 129, 128, 246, 129, 129, 128, 246, 246, 129, 247, 250, 249, 249, 249, 249, 267, 267, 267, 267, 267, 249, 250, 268, 254, 268, 268, 254, 268, 254, 250, 246, 129, 129, 128, 246, 129, 129, 128, 246, 246, 129, 247, 250, 249, 249, 249, 249, 270, 270, 270, 270, 270, 249, 269, 271, 269, 269, 271, 269, 271, 250, 246, 129, 129, 128, 246, 129, 246, 129, 246, 129, 129, 128, 246, 129, 247, 247, 247], [], []⟩)
  .none [0, 1, 20, 26] (st_sc_5 w.params (fun j => ([0, 1, 20, 26].map fun i => Mine.adr 246 n ((List.range 4).map β) (246 + i)).getD j 0) (fun j => ([(τ 0), (τ 1), (τ 2), (τ 3), (τ 4), (τ 5), (τ 6), (τ 7), (τ 8), (τ 9), (τ 10), (τ 11), (τ 12), t2, (t + 85), (τ 13), (τ 14), (τ 15), (τ 16), t4] : List Nat).getD j 0)) 273 100 := by
  unfold Came
  cases b <;> kernel_rfl
end
section
open PySem PySem.W PySem.W.X PyProof.Rows
set_option autoImplicit false
set_option linter.unusedVariables false
set_option maxRecDepth 100000
theorem run_sc_6 {w : World} {A : Around} {Q' : PySem.Fin → Shared → Prop} {h₀ : Heap} {g : Array GenState} {d : Drawn} {os : OsState} {n t : Nat} (b : Bool) {β τ : Nat → Nat} {t2 t3 t4 : Nat} : Came (hsim (hV (wB w b) A Q' h₀ g d os n t ((List.range 4).map β)) 1462 (.builtin "mine" ⟨[], []⟩) .base (callT (.ref 112) [(.ref (β 0)), (.int (44032) t2), (.int (44032) t3), (.str (⟨⟨[72, 97, 110, 103]⟩⟩ : Str) t4)]) ⟨tstore (st_sc_5 w.params β τ), 250, 0, [112, 111, 250, 250, 250, 250, 250, 250, 250, 250, 2, 250, 250, 3, 250, 246, 129, 129, 128, 246, 129, 129, 128, 246, 246, 129, 247, 250, 77, 77, 76, 251, 251, 251, 251, 2, 251, 251, 3, 0, 251, 248, 248, 248, 251, 251, 251, 251, 251, 251, 251, 251, 251, 251, 248, 248, 248, 248, 248, 251, 251, 251, 251, 251, 251, 251, 251, 251, 251, 251, 251, 248, 248, 248, 248, 248, 251, 251, 251, 251, 251, 251, 251, 251, 251, 251, 251, 251, 248, 248, 248, 248, 248, 251, 251, 251, 251, 251, 251, 251, 250, 250, 3, 250, 246, 129, 129, 128, 246, 129, 129, 128, 246, 246, 129, 247, 250, 77, 77, 76, 252, 252, 252, 252, 2, 252, 252, 3, 0, 252, 248, 248, 248, 252, 252, 252, 252, 252, 252, 252, 252, 252, 252, 248, 248, 248, 248, 248, 252, 252, 252, 252, 252, 252, 252, 252, 252, 252, 252, 252, 248, 248, 248, 248, 248, 252, 252, 252, 252, 252, 252, 252, 252, 252, 252, 252, 252, 248, 248, 248, 248, 248, 252, 252, 252, 252, 252, 252, 252, 250, 250, 250, 246, 129, 129, 128, 246, 129, 129, 128, 246, 246, 129, 247, 250, 249, 249, 249, 249, 249, 250, 250, 250, 250, 255, 255, 255, 255, 256, 256, 256, 256, 256, 255, 256, 256, 256, 256, 256, 256, 255, 256, 256, 256, 256, 256, 256, 255, 256, 256, 258, 250, 250, 250, 250, 250, 3, 3, 250, 250, 84, 84, 83, 259, 259, 259, 259, 2, 259, 259, 259, 250, 253, 253, 253, 253, 250, 253, 253, 253, 253, 250, 254, 254, 254, 254, 250, 254, 254, 254, 254, 250, 3, 250, 246, 129, 129, 128, 246, 129, 129, 128, 246, 246, 129, 247, 250, 249, 249, 249, 249, 249, 250, 84, 84, 83, 260, 260, 260, 260, 2, 260, 260, 260, 250, 246, 129, 129, 128, 246, 129, 129, 128, 246, 246, 129, 247, 250, 248, 248, 248, 248, 261, 261, 261, 261, 261, 248, 250, 262, 253, 262, 262, 253, 262, 253, 250, 246, 129, 129, 128, 246, 129, 129, 128, 246, 246, 129, 247, 250, 248, 248, 248, 248, 264, 264, 264, 264, 264, 248, 263, 265, 263, 263, 265, 263, 265, 250, 246, 129, 129, 128, 246, 129, 246, 129, 246, 129, 129, 128, 246, 129, 247, 247, 247, 250, 246, 129, 129, 128, 246, 129, 129, 128, 246, 246, 129, 247, 250, 249, 249, 249, 249, 267, 267, 267, 267, 267, 249, 250, 268, 254, 268, 268, 254, 268, 254, 250, 246, 129, 129, 128, 246, 129, 129, 128, 246, 246, 129, 247, 250, 249, 249, 249, 249, 270, 270, 270, 270, 270, 249, 269, 271, 269, 269, 271, 269, 271, 250, 246, 129, 129, 128, 246, 129, 246, 129, 246, 129, 129, 128, 246, 129, 247, 247, 247], [], []⟩)
  .none [0, 1, 20, 26] (st_sc_6 w.params (fun j => ([0, 1, 20, 26].map fun i => Mine.adr 246 n ((List.range 4).map β) (246 + i)).getD j 0) (fun j => ([(τ 0), (τ 1), (τ 2), (τ 3), (τ 4), (τ 5), (τ 6), (τ 7), (τ 8), (τ 9), (τ 10), (τ 11), (τ 12), (τ 13), (τ 14), t2, (t + 85), (τ 15), (τ 16), (τ 17), (τ 18), (τ 19), t4] : List Nat).getD j 0)) 273 100 := by
  unfold Came
  cases b <;> kernel_rfl
end
section
open PySem PySem.W PySem.W.X PyProof.Rows
set_option autoImplicit false
set_option linter.unusedVariables false
set_option maxRecDepth 100000
theorem run_sc_7 {w : World} {A : Around} {Q' : PySem.Fin → Shared → Prop} {h₀ : Heap} {g : Array GenState} {d : Drawn} {os : OsState} {n t : Nat} (b : Bool) {β τ : Nat → Nat} {t2 t3 t4 : Nat} : Came (hsim (hV (wB w b) A Q' h₀ g d os n t ((List.range 4).map β)) 1578 (.builtin "mine" ⟨[], []⟩) .base (callT (.ref 112) [(.ref (β 0)), (.int (12549) t2), (.int (12549) t3), (.str (⟨⟨[66, 111, 112, 111]⟩⟩ : Str) t4)]) ⟨tstore (st_sc_6 w.params β τ), 250, 0, [112, 111, 250, 250, 250, 250, 250, 250, 250, 250, 2, 250, 250, 3, 250, 246, 129, 129, 128, 246, 129, 129, 128, 246, 246, 129, 247, 250, 77, 77, 76, 251, 251, 251, 251, 2, 251, 251, 3, 0, 251, 248, 248, 248, 251, 251, 251, 251, 251, 251, 251, 251, 251, 251, 248, 248, 248, 248, 248, 251, 251, 251, 251, 251, 251, 251, 251, 251, 251, 251, 251, 248, 248, 248, 248, 248, 251, 251, 251, 251, 251, 251, 251, 251, 251, 251, 251, 251, 248, 248, 248, 248, 248, 251, 251, 251, 251, 251, 251, 251, 251, 251, 251, 251, 251, 248, 248, 248, 248, 248, 251, 251, 251, 251, 251, 251, 251, 250, 250, 3, 250, 246, 129, 129, 128, 246, 129, 129, 128, 246, 246, 129, 247, 250, 77, 77, 76, 252, 252, 252, 252, 2, 252, 252, 3, 0, 252, 248, 248, 248, 252, 252, 252, 252, 252, 252, 252, 252, 252, 252, 248, 248, 248, 248, 248, 252, 252, 252, 252, 252, 252, 252, 252, 252, 252, 252, 252, 248, 248, 248, 248, 248, 252, 252, 252, 252, 252, 252, 252, 252, 252, 252, 252, 252, 248, 248, 248, 248, 248, 252, 252, 252, 252, 252, 252, 252, 252, 252, 252, 252, 252, 248, 248, 248, 248, 248, 252, 252, 252, 252, 252, 252, 252, 250, 250, 250, 246, 129, 129, 128, 246, 129, 129, 128, 246, 246, 129, 247, 250, 249, 249, 249, 249, 249, 250, 250, 250, 250, 255, 255, 255, 255, 256, 256, 256, 256, 256, 255, 256, 256, 256, 256, 256, 256, 255, 256, 256, 256, 256, 256, 256, 255, 256, 256, 258, 250, 250, 250, 250, 250, 3, 3, 250, 250, 84, 84, 83, 259, 259, 259, 259, 2, 259, 259, 259, 250, 253, 253, 253, 253, 250, 253, 253, 253, 253, 250, 254, 254, 254, 254, 250, 254, 254, 254, 254, 250, 3, 250, 246, 129, 129, 128, 246, 129, 129, 128, 246, 246, 129, 247, 250, 249, 249, 249, 249, 249, 250, 84, 84, 83, 260, 260, 260, 260, 2, 260, 260, 260, 250, 246, 129, 129, 128, 246, 129, 129, 128, 246, 246, 129, 247, 250, 248, 248, 248, 248, 261, 261, 261, 261, 261, 248, 250, 262, 253, 262, 262, 253, 262, 253, 250, 246, 129, 129, 128, 246, 129, 129, 128, 246, 246, 129, 247, 250, 248, 248, 248, 248, 264, 264, 264, 264, 264, 248, 263, 265, 263, 263, 265, 263, 265, 250, 246, 129, 129, 128, 246, 129, 246, 129, 246, 129, 129, 128, 246, 129, 247, 247, 247, 250, 246, 129, 129, 128, 246, 129, 129, 128, 246, 246, 129, 247, 250, 249, 249, 249, 249, 267, 267, 267, 267, 267, 249, 250, 268, 254, 268, 268, 254, 268, 254, 250, 246, 129, 129, 128, 246, 129, 129, 128, 246, 246, 129, 247, 250, 249, 249, 249, 249, 270, 270, 270, 270, 270, 249, 269, 271, 269, 269, 271, 269, 271, 250, 246, 129, 129, 128, 246, 129, 246, 129, 246, 129, 129, 128, 246, 129, 247, 247, 247], [], []⟩)
  .none [0, 1, 20, 26] (st_sc_7 w.params (fun j => ([0, 1, 20, 26].map fun i => Mine.adr 246 n ((List.range 4).map β) (246 + i)).getD j 0) (fun j => ([(τ 0), (τ 1), (τ 2), (τ 3), (τ 4), (τ 5), (τ 6), (τ 7), (τ 8), (τ 9), (τ 10), (τ 11), (τ 12), t2, (t + 91), (τ 13), (τ 14), (τ 15), (τ 16), (τ 17), (τ 18), (τ 19), (τ 20), t4, (τ 21), (τ 22)] : List Nat).getD j 0)) 273 106 := by
  unfold Came
  cases b <;> kernel_rfl
end
section
open PySem PySem.W PySem.W.X PyProof.Rows
set_option autoImplicit false
set_option linter.unusedVariables false
set_option maxRecDepth 100000
theorem run_sc_8 {w : World} {A : Around} {Q' : PySem.Fin → Shared → Prop} {h₀ : Heap} {g : Array GenState} {d : Drawn} {os : OsState} {n t : Nat} (b : Bool) {β τ : Nat → Nat} {t2 t3 t4 : Nat} : Came (hsim (hV (wB w b) A Q' h₀ g d os n t ((List.range 4).map β)) 1566 (.builtin "mine" ⟨[], []⟩) .base (callT (.ref 112) [(.ref (β 0)), (.int (32) t2), (.int (32) t3), (.str (⟨⟨[90, 121, 121, 121]⟩⟩ : Str) t4)]) ⟨tstore (st_sc_7 w.params β τ), 250, 0, [112, 111, 250, 250, 250, 250, 250, 250, 250, 250, 2, 250, 250, 3, 250, 246, 129, 129, 128, 246, 129, 129, 128, 246, 246, 129, 247, 250, 77, 77, 76, 251, 251, 251, 251, 2, 251, 251, 3, 0, 251, 248, 248, 248, 251, 251, 251, 251, 251, 251, 251, 251, 251, 251, 248, 248, 248, 248, 248, 251, 251, 251, 251, 251, 251, 251, 251, 251, 251, 251, 251, 248, 248, 248, 248, 248, 251, 251, 251, 251, 251, 251, 251, 251, 251, 251, 251, 251, 248, 248, 248, 248, 248, 251, 251, 251, 251, 251, 251, 251, 251, 251, 251, 251, 251, 248, 248, 248, 248, 248, 251, 251, 251, 251, 251, 251, 251, 250, 250, 3, 250, 246, 129, 129, 128, 246, 129, 129, 128, 246, 246, 129, 247, 250, 77, 77, 76, 252, 252, 252, 252, 2, 252, 252, 3, 0, 252, 248, 248, 248, 252, 252, 252, 252, 252, 252, 252, 252, 252, 252, 248, 248, 248, 248, 248, 252, 252, 252, 252, 252, 252, 252, 252, 252, 252, 252, 252, 248, 248, 248, 248, 248, 252, 252, 252, 252, 252, 252, 252, 252, 252, 252, 252, 252, 248, 248, 248, 248, 248, 252, 252, 252, 252, 252, 252, 252, 252, 252, 252, 252, 252, 248, 248, 248, 248, 248, 252, 252, 252, 252, 252, 252, 252, 250, 250, 250, 246, 129, 129, 128, 246, 129, 129, 128, 246, 246, 129, 247, 250, 249, 249, 249, 249, 249, 250, 250, 250, 250, 255, 255, 255, 255, 256, 256, 256, 256, 256, 255, 256, 256, 256, 256, 256, 256, 255, 256, 256, 256, 256, 256, 256, 255, 256, 256, 258, 250, 250, 250, 250, 250, 3, 3, 250, 250, 84, 84, 83, 259, 259, 259, 259, 2, 259, 259, 259, 250, 253, 253, 253, 253, 250, 253, 253, 253, 253, 250, 254, 254, 254, 254, 250, 254, 254, 254, 254, 250, 3, 250, 246, 129, 129, 128, 246, 129, 129, 128, 246, 246, 129, 247, 250, 249, 249, 249, 249, 249, 250, 84, 84, 83, 260, 260, 260, 260, 2, 260, 260, 260, 250, 246, 129, 129, 128, 246, 129, 129, 128, 246, 246, 129, 247, 250, 248, 248, 248, 248, 261, 261, 261, 261, 261, 248, 250, 262, 253, 262, 262, 253, 262, 253, 250, 246, 129, 129, 128, 246, 129, 129, 128, 246, 246, 129, 247, 250, 248, 248, 248, 248, 264, 264, 264, 264, 264, 248, 263, 265, 263, 263, 265, 263, 265, 250, 246, 129, 129, 128, 246, 129, 246, 129, 246, 129, 129, 128, 246, 129, 247, 247, 247, 250, 246, 129, 129, 128, 246, 129, 129, 128, 246, 246, 129, 247, 250, 249, 249, 249, 249, 267, 267, 267, 267, 267, 249, 250, 268, 254, 268, 268, 254, 268, 254, 250, 246, 129, 129, 128, 246, 129, 129, 128, 246, 246, 129, 247, 250, 249, 249, 249, 249, 270, 270, 270, 270, 270, 249, 269, 271, 269, 269, 271, 269, 271, 250, 246, 129, 129, 128, 246, 129, 246, 129, 246, 129, 129, 128, 246, 129, 247, 247, 247], [], []⟩)
  .none [0, 1, 20, 26] (st_sc_8 w.params (fun j => ([0, 1, 20, 26].map fun i => Mine.adr 246 n ((List.range 4).map β) (246 + i)).getD j 0) (fun j => ([(τ 0), (τ 1), (τ 2), (τ 3), (τ 4), t2, (t + 87), (τ 5), (τ 6), (τ 7), (τ 8), (τ 9), (τ 10), (τ 11), (τ 12), (τ 13), (τ 14), (τ 15), (τ 16), (τ 17), (τ 18), t4, (τ 19), (τ 20), (τ 21), (τ 22), (τ 23), (τ 24), (τ 25)] : List Nat).getD j 0)) 273 102 := by
  unfold Came
  cases b <;> kernel_rfl
end
section
open PySem PySem.W PySem.W.X PyProof.Rows
set_option autoImplicit false
set_option linter.unusedVariables false
set_option maxRecDepth 100000
theorem run_sc_9 {w : World} {A : Around} {Q' : PySem.Fin → Shared → Prop} {h₀ : Heap} {g : Array GenState} {d : Drawn} {os : OsState} {n t : Nat} (b : Bool) {β τ : Nat → Nat} {t2 t3 t4 : Nat} : Came (hsim (hV (wB w b) A Q' h₀ g d os n t ((List.range 4).map β)) 1566 (.builtin "mine" ⟨[], []⟩) .base (callT (.ref 112) [(.ref (β 0)), (.int (768) t2), (.int (768) t3), (.str (⟨⟨[90, 105, 110, 104]⟩⟩ : Str) t4)]) ⟨tstore (st_sc_8 w.params β τ), 250, 0, [112, 111, 250, 250, 250, 250, 250, 250, 250, 250, 2, 250, 250, 3, 250, 246, 129, 129, 128, 246, 129, 129, 128, 246, 246, 129, 247, 250, 77, 77, 76, 251, 251, 251, 251, 2, 251, 251, 3, 0, 251, 248, 248, 248, 251, 251, 251, 251, 251, 251, 251, 251, 251, 251, 248, 248, 248, 248, 248, 251, 251, 251, 251, 251, 251, 251, 251, 251, 251, 251, 251, 248, 248, 248, 248, 248, 251, 251, 251, 251, 251, 251, 251, 251, 251, 251, 251, 251, 248, 248, 248, 248, 248, 251, 251, 251, 251, 251, 251, 251, 251, 251, 251, 251, 251, 248, 248, 248, 248, 248, 251, 251, 251, 251, 251, 251, 251, 250, 250, 3, 250, 246, 129, 129, 128, 246, 129, 129, 128, 246, 246, 129, 247, 250, 77, 77, 76, 252, 252, 252, 252, 2, 252, 252, 3, 0, 252, 248, 248, 248, 252, 252, 252, 252, 252, 252, 252, 252, 252, 252, 248, 248, 248, 248, 248, 252, 252, 252, 252, 252, 252, 252, 252, 252, 252, 252, 252, 248, 248, 248, 248, 248, 252, 252, 252, 252, 252, 252, 252, 252, 252, 252, 252, 252, 248, 248, 248, 248, 248, 252, 252, 252, 252, 252, 252, 252, 252, 252, 252, 252, 252, 248, 248, 248, 248, 248, 252, 252, 252, 252, 252, 252, 252, 250, 250, 250, 246, 129, 129, 128, 246, 129, 129, 128, 246, 246, 129, 247, 250, 249, 249, 249, 249, 249, 250, 250, 250, 250, 255, 255, 255, 255, 256, 256, 256, 256, 256, 255, 256, 256, 256, 256, 256, 256, 255, 256, 256, 256, 256, 256, 256, 255, 256, 256, 258, 250, 250, 250, 250, 250, 3, 3, 250, 250, 84, 84, 83, 259, 259, 259, 259, 2, 259, 259, 259, 250, 253, 253, 253, 253, 250, 253, 253, 253, 253, 250, 254, 254, 254, 254, 250, 254, 254, 254, 254, 250, 3, 250, 246, 129, 129, 128, 246, 129, 129, 128, 246, 246, 129, 247, 250, 249, 249, 249, 249, 249, 250, 84, 84, 83, 260, 260, 260, 260, 2, 260, 260, 260, 250, 246, 129, 129, 128, 246, 129, 129, 128, 246, 246, 129, 247, 250, 248, 248, 248, 248, 261, 261, 261, 261, 261, 248, 250, 262, 253, 262, 262, 253, 262, 253, 250, 246, 129, 129, 128, 246, 129, 129, 128, 246, 246, 129, 247, 250, 248, 248, 248, 248, 264, 264, 264, 264, 264, 248, 263, 265, 263, 263, 265, 263, 265, 250, 246, 129, 129, 128, 246, 129, 246, 129, 246, 129, 129, 128, 246, 129, 247, 247, 247, 250, 246, 129, 129, 128, 246, 129, 129, 128, 246, 246, 129, 247, 250, 249, 249, 249, 249, 267, 267, 267, 267, 267, 249, 250, 268, 254, 268, 268, 254, 268, 254, 250, 246, 129, 129, 128, 246, 129, 129, 128, 246, 246, 129, 247, 250, 249, 249, 249, 249, 270, 270, 270, 270, 270, 249, 269, 271, 269, 269, 271, 269, 271, 250, 246, 129, 129, 128, 246, 129, 246, 129, 246, 129, 129, 128, 246, 129, 247, 247, 247], [], []⟩)
  .none [0, 1, 20, 26] (st_sc_9 w.params (fun j => ([0, 1, 20, 26].map fun i => Mine.adr 246 n ((List.range 4).map β) (246 + i)).getD j 0) (fun j => ([(τ 0), (τ 1), (τ 2), (τ 3), (τ 4), (τ 5), (τ 6), (τ 7), (τ 8), t2, (t + 87), (τ 9), (τ 10), (τ 11), (τ 12), (τ 13), (τ 14), (τ 15), (τ 16), (τ 17), (τ 18), (τ 19), (τ 20), (τ 21), (τ 22), t4, (τ 23), (τ 24), (τ 25), (τ 26), (τ 27), (τ 28)] : List Nat).getD j 0)) 273 102 := by
  unfold Came
  cases b <;> kernel_rfl
end
section
open PySem PySem.W PySem.W.X PyProof.Rows
set_option autoImplicit false
set_option linter.unusedVariables false
set_option maxRecDepth 100000
theorem run_sc_10 {w : World} {A : Around} {Q' : PySem.Fin → Shared → Prop} {h₀ : Heap} {g : Array GenState} {d : Drawn} {os : OsState} {n t : Nat} (b : Bool) {β τ : Nat → Nat} {t2 t3 t4 : Nat} : Came (hsim (hV (wB w b) A Q' h₀ g d os n t ((List.range 4).map β)) 1578 (.builtin "mine" ⟨[], []⟩) .base (callT (.ref 112) [(.ref (β 0)), (.int (12540) t2), (.int (12540) t3), (.str (⟨⟨[90, 121, 121, 121]⟩⟩ : Str) t4)]) ⟨tstore (st_sc_9 w.params β τ), 250, 0, [112, 111, 250, 250, 250, 250, 250, 250, 250, 250, 2, 250, 250, 3, 250, 246, 129, 129, 128, 246, 129, 129, 128, 246, 246, 129, 247, 250, 77, 77, 76, 251, 251, 251, 251, 2, 251, 251, 3, 0, 251, 248, 248, 248, 251, 251, 251, 251, 251, 251, 251, 251, 251, 251, 248, 248, 248, 248, 248, 251, 251, 251, 251, 251, 251, 251, 251, 251, 251, 251, 251, 248, 248, 248, 248, 248, 251, 251, 251, 251, 251, 251, 251, 251, 251, 251, 251, 251, 248, 248, 248, 248, 248, 251, 251, 251, 251, 251, 251, 251, 251, 251, 251, 251, 251, 248, 248, 248, 248, 248, 251, 251, 251, 251, 251, 251, 251, 250, 250, 3, 250, 246, 129, 129, 128, 246, 129, 129, 128, 246, 246, 129, 247, 250, 77, 77, 76, 252, 252, 252, 252, 2, 252, 252, 3, 0, 252, 248, 248, 248, 252, 252, 252, 252, 252, 252, 252, 252, 252, 252, 248, 248, 248, 248, 248, 252, 252, 252, 252, 252, 252, 252, 252, 252, 252, 252, 252, 248, 248, 248, 248, 248, 252, 252, 252, 252, 252, 252, 252, 252, 252, 252, 252, 252, 248, 248, 248, 248, 248, 252, 252, 252, 252, 252, 252, 252, 252, 252, 252, 252, 252, 248, 248, 248, 248, 248, 252, 252, 252, 252, 252, 252, 252, 250, 250, 250, 246, 129, 129, 128, 246, 129, 129, 128, 246, 246, 129, 247, 250, 249, 249, 249, 249, 249, 250, 250, 250, 250, 255, 255, 255, 255, 256, 256, 256, 256, 256, 255, 256, 256, 256, 256, 256, 256, 255, 256, 256, 256, 256, 256, 256, 255, 256, 256, 258, 250, 250, 250, 250, 250, 3, 3, 250, 250, 84, 84, 83, 259, 259, 259, 259, 2, 259, 259, 259, 250, 253, 253, 253, 253, 250, 253, 253, 253, 253, 250, 254, 254, 254, 254, 250, 254, 254, 254, 254, 250, 3, 250, 246, 129, 129, 128, 246, 129, 129, 128, 246, 246, 129, 247, 250, 249, 249, 249, 249, 249, 250, 84, 84, 83, 260, 260, 260, 260, 2, 260, 260, 260, 250, 246, 129, 129, 128, 246, 129, 129, 128, 246, 246, 129, 247, 250, 248, 248, 248, 248, 261, 261, 261, 261, 261, 248, 250, 262, 253, 262, 262, 253, 262, 253, 250, 246, 129, 129, 128, 246, 129, 129, 128, 246, 246, 129, 247, 250, 248, 248, 248, 248, 264, 264, 264, 264, 264, 248, 263, 265, 263, 263, 265, 263, 265, 250, 246, 129, 129, 128, 246, 129, 246, 129, 246, 129, 129, 128, 246, 129, 247, 247, 247, 250, 246, 129, 129, 128, 246, 129, 129, 128, 246, 246, 129, 247, 250, 249, 249, 249, 249, 267, 267, 267, 267, 267, 249, 250, 268, 254, 268, 268, 254, 268, 254, 250, 246, 129, 129, 128, 246, 129, 129, 128, 246, 246, 129, 247, 250, 249, 249, 249, 249, 270, 270, 270, 270, 270, 249, 269, 271, 269, 269, 271, 269, 271, 250, 246, 129, 129, 128, 246, 129, 246, 129, 246, 129, 129, 128, 246, 129, 247, 247, 247], [], []⟩)
  .none [0, 1, 20, 26] (st_sc_10 w.params (fun j => ([0, 1, 20, 26].map fun i => Mine.adr 246 n ((List.range 4).map β) (246 + i)).getD j 0) (fun j => ([(τ 0), (τ 1), (τ 2), (τ 3), (τ 4), (τ 5), (τ 6), (τ 7), (τ 8), (τ 9), (τ 10), (τ 11), (τ 12), (τ 13), (τ 14), (τ 15), (τ 16), t2, (t + 91), (τ 17), (τ 18), (τ 19), (τ 20), (τ 21), (τ 22), (τ 23), (τ 24), (τ 25), (τ 26), (τ 27), (τ 28), t4, (τ 29), (τ 30), (τ 31)] : List Nat).getD j 0)) 273 106 := by
  unfold Came
  cases b <;> kernel_rfl
end
section
open PySem PySem.W PySem.W.X PyProof.Rows
set_option autoImplicit false
set_option linter.unusedVariables false
set_option maxRecDepth 100000
theorem run_sc_11 {w : World} {A : Around} {Q' : PySem.Fin → Shared → Prop} {h₀ : Heap} {g : Array GenState} {d : Drawn} {os : OsState} {n t : Nat} (b : Bool) {β τ : Nat → Nat} {t2 t3 t4 : Nat} : Came (hsim (hV (wB w b) A Q' h₀ g d os n t ((List.range 4).map β)) 1578 (.builtin "mine" ⟨[], []⟩) .base (callT (.ref 112) [(.ref (β 0)), (.int (12289) t2), (.int (12289) t3), (.str (⟨⟨[90, 121, 121, 121]⟩⟩ : Str) t4)]) ⟨tstore (st_sc_10 w.params β τ), 250, 0, [112, 111, 250, 250, 250, 250, 250, 250, 250, 250, 2, 250, 250, 3, 250, 246, 129, 129, 128, 246, 129, 129, 128, 246, 246, 129, 247, 250, 77, 77, 76, 251, 251, 251, 251, 2, 251, 251, 3, 0, 251, 248, 248, 248, 251, 251, 251, 251, 251, 251, 251, 251, 251, 251, 248, 248, 248, 248, 248, 251, 251, 251, 251, 251, 251, 251, 251, 251, 251, 251, 251, 248, 248, 248, 248, 248, 251, 251, 251, 251, 251, 251, 251, 251, 251, 251, 251, 251, 248, 248, 248, 248, 248, 251, 251, 251, 251, 251, 251, 251, 251, 251, 251, 251, 251, 248, 248, 248, 248, 248, 251, 251, 251, 251, 251, 251, 251, 250, 250, 3, 250, 246, 129, 129, 128, 246, 129, 129, 128, 246, 246, 129, 247, 250, 77, 77, 76, 252, 252, 252, 252, 2, 252, 252, 3, 0, 252, 248, 248, 248, 252, 252, 252, 252, 252, 252, 252, 252, 252, 252, 248, 248, 248, 248, 248, 252, 252, 252, 252, 252, 252, 252, 252, 252, 252, 252, 252, 248, 248, 248, 248, 248, 252, 252, 252, 252, 252, 252, 252, 252, 252, 252, 252, 252, 248, 248, 248, 248, 248, 252, 252, 252, 252, 252, 252, 252, 252, 252, 252, 252, 252, 248, 248, 248, 248, 248, 252, 252, 252, 252, 252, 252, 252, 250, 250, 250, 246, 129, 129, 128, 246, 129, 129, 128, 246, 246, 129, 247, 250, 249, 249, 249, 249, 249, 250, 250, 250, 250, 255, 255, 255, 255, 256, 256, 256, 256, 256, 255, 256, 256, 256, 256, 256, 256, 255, 256, 256, 256, 256, 256, 256, 255, 256, 256, 258, 250, 250, 250, 250, 250, 3, 3, 250, 250, 84, 84, 83, 259, 259, 259, 259, 2, 259, 259, 259, 250, 253, 253, 253, 253, 250, 253, 253, 253, 253, 250, 254, 254, 254, 254, 250, 254, 254, 254, 254, 250, 3, 250, 246, 129, 129, 128, 246, 129, 129, 128, 246, 246, 129, 247, 250, 249, 249, 249, 249, 249, 250, 84, 84, 83, 260, 260, 260, 260, 2, 260, 260, 260, 250, 246, 129, 129, 128, 246, 129, 129, 128, 246, 246, 129, 247, 250, 248, 248, 248, 248, 261, 261, 261, 261, 261, 248, 250, 262, 253, 262, 262, 253, 262, 253, 250, 246, 129, 129, 128, 246, 129, 129, 128, 246, 246, 129, 247, 250, 248, 248, 248, 248, 264, 264, 264, 264, 264, 248, 263, 265, 263, 263, 265, 263, 265, 250, 246, 129, 129, 128, 246, 129, 246, 129, 246, 129, 129, 128, 246, 129, 247, 247, 247, 250, 246, 129, 129, 128, 246, 129, 129, 128, 246, 246, 129, 247, 250, 249, 249, 249, 249, 267, 267, 267, 267, 267, 249, 250, 268, 254, 268, 268, 254, 268, 254, 250, 246, 129, 129, 128, 246, 129, 129, 128, 246, 246, 129, 247, 250, 249, 249, 249, 249, 270, 270, 270, 270, 270, 249, 269, 271, 269, 269, 271, 269, 271, 250, 246, 129, 129, 128, 246, 129, 246, 129, 246, 129, 129, 128, 246, 129, 247, 247, 247], [], []⟩)
  .none [0, 1, 20, 26] (st_sc_11 w.params (fun j => ([0, 1, 20, 26].map fun i => Mine.adr 246 n ((List.range 4).map β) (246 + i)).getD j 0) (fun j => ([(τ 0), (τ 1), (τ 2), (τ 3), (τ 4), (τ 5), (τ 6), (τ 7), (τ 8), (τ 9), (τ 10), (τ 11), (τ 12), t2, (t + 91), (τ 13), (τ 14), (τ 15), (τ 16), (τ 17), (τ 18), (τ 19), (τ 20), (τ 21), (τ 22), (τ 23), (τ 24), (τ 25), (τ 26), (τ 27), (τ 28), t4, (τ 29), (τ 30), (τ 31), (τ 32), (τ 33), (τ 34)] : List Nat).getD j 0)) 273 106 := by
  unfold Came
  cases b <;> kernel_rfl
end
section
open PySem PySem.W PySem.W.X PyProof.Rows
set_option autoImplicit false
set_option linter.unusedVariables false
set_option maxRecDepth 100000
theorem run_sc_12 {w : World} {A : Around} {Q' : PySem.Fin → Shared → Prop} {h₀ : Heap} {g : Array GenState} {d : Drawn} {os : OsState} {n t : Nat} (b : Bool) {β τ : Nat → Nat} {t2 t3 t4 : Nat} : Came (hsim (hV (wB w b) A Q' h₀ g d os n t ((List.range 4).map β)) 1706 (.builtin "mine" ⟨[], []⟩) .base (callT (.ref 112) [(.ref (β 0)), (.int (867) t2), (.int (867) t3), (.str (⟨⟨[90, 105, 110, 104]⟩⟩ : Str) t4)]) ⟨tstore (st_sc_11 w.params β τ), 250, 0, [112, 111, 250, 250, 250, 250, 250, 250, 250, 250, 2, 250, 250, 3, 250, 246, 129, 129, 128, 246, 129, 129, 128, 246, 246, 129, 247, 250, 77, 77, 76, 251, 251, 251, 251, 2, 251, 251, 3, 0, 251, 248, 248, 248, 251, 251, 251, 251, 251, 251, 251, 251, 251, 251, 248, 248, 248, 248, 248, 251, 251, 251, 251, 251, 251, 251, 251, 251, 251, 251, 251, 248, 248, 248, 248, 248, 251, 251, 251, 251, 251, 251, 251, 251, 251, 251, 251, 251, 248, 248, 248, 248, 248, 251, 251, 251, 251, 251, 251, 251, 251, 251, 251, 251, 251, 248, 248, 248, 248, 248, 251, 251, 251, 251, 251, 251, 251, 251, 251, 251, 251, 251, 248, 248, 248, 248, 248, 251, 251, 251, 251, 251, 251, 251, 250, 250, 3, 250, 246, 129, 129, 128, 246, 129, 129, 128, 246, 246, 129, 247, 250, 77, 77, 76, 252, 252, 252, 252, 2, 252, 252, 3, 0, 252, 248, 248, 248, 252, 252, 252, 252, 252, 252, 252, 252, 252, 252, 248, 248, 248, 248, 248, 252, 252, 252, 252, 252, 252, 252, 252, 252, 252, 252, 252, 248, 248, 248, 248, 248, 252, 252, 252, 252, 252, 252, 252, 252, 252, 252, 252, 252, 248, 248, 248, 248, 248, 252, 252, 252, 252, 252, 252, 252, 252, 252, 252, 252, 252, 248, 248, 248, 248, 248, 252, 252, 252, 252, 252, 252, 252, 252, 252, 252, 252, 252, 248, 248, 248, 248, 248, 252, 252, 252, 252, 252, 252, 252, 250, 250, 250, 246, 129, 129, 128, 246, 129, 129, 128, 246, 246, 129, 247, 250, 249, 249, 249, 249, 249, 250, 250, 250, 250, 255, 255, 255, 255, 256, 256, 256, 256, 256, 255, 256, 256, 256, 256, 256, 256, 255, 256, 256, 256, 256, 256, 256, 255, 256, 256, 258, 250, 250, 250, 250, 250, 3, 3, 250, 250, 84, 84, 83, 259, 259, 259, 259, 2, 259, 259, 259, 250, 253, 253, 253, 253, 250, 253, 253, 253, 253, 250, 254, 254, 254, 254, 250, 254, 254, 254, 254, 250, 3, 250, 246, 129, 129, 128, 246, 129, 129, 128, 246, 246, 129, 247, 250, 249, 249, 249, 249, 249, 250, 84, 84, 83, 260, 260, 260, 260, 2, 260, 260, 260, 250, 246, 129, 129, 128, 246, 129, 129, 128, 246, 246, 129, 247, 250, 248, 248, 248, 248, 261, 261, 261, 261, 261, 248, 250, 262, 253, 262, 262, 253, 262, 253, 250, 246, 129, 129, 128, 246, 129, 129, 128, 246, 246, 129, 247, 250, 248, 248, 248, 248, 264, 264, 264, 264, 264, 248, 263, 265, 263, 263, 265, 263, 265, 250, 246, 129, 129, 128, 246, 129, 246, 129, 246, 129, 129, 128, 246, 129, 247, 247, 247, 250, 246, 129, 129, 128, 246, 129, 129, 128, 246, 246, 129, 247, 250, 249, 249, 249, 249, 267, 267, 267, 267, 267, 249, 250, 268, 254, 268, 268, 254, 268, 254, 250, 246, 129, 129, 128, 246, 129, 129, 128, 246, 246, 129, 247, 250, 249, 249, 249, 249, 270, 270, 270, 270, 270, 249, 269, 271, 269, 269, 271, 269, 271, 250, 246, 129, 129, 128, 246, 129, 246, 129, 246, 129, 129, 128, 246, 129, 247, 247, 247], [], []⟩)
  .none [0, 1, 20, 26] (st_sc_12 w.params (fun j => ([0, 1, 20, 26].map fun i => Mine.adr 246 n ((List.range 4).map β) (246 + i)).getD j 0) (fun j => ([(τ 0), (τ 1), (τ 2), (τ 3), (τ 4), (τ 5), (τ 6), (τ 7), (τ 8), (τ 9), (τ 10), t2, (t + 101), (τ 11), (τ 12), (τ 13), (τ 14), (τ 15), (τ 16), (τ 17), (τ 18), (τ 19), (τ 20), (τ 21), (τ 22), (τ 23), (τ 24), (τ 25), (τ 26), (τ 27), (τ 28), (τ 29), t4, (τ 30), (τ 31), (τ 32), (τ 33), (τ 34), (τ 35), (τ 36), (τ 37)] : List Nat).getD j 0)) 273 116 := by
  unfold Came
  cases b <;> kernel_rfl
end
section
open PySem PySem.W PySem.W.X PyProof.Rows
set_option autoImplicit false
set_option linter.unusedVariables false
set_option maxRecDepth 100000
theorem run_sc_13 {w : World} {A : Around} {Q' : PySem.Fin → Shared → Prop} {h₀ : Heap} {g : Array GenState} {d : Drawn} {os : OsState} {n t : Nat} (b : Bool) {β τ : Nat → Nat} {t2 t3 t4 : Nat} : Came (hsim (hV (wB w b) A Q' h₀ g d os n t ((List.range 4).map β)) 1763 (.builtin "mine" ⟨[], []⟩) .base (callT (.ref 112) [(.ref (β 0)), (.int (57344) t2), (.int (57344) t3), (.str (⟨⟨[90, 122, 122, 122]⟩⟩ : Str) t4)]) ⟨tstore (st_sc_12 w.params β τ), 250, 0, [112, 111, 250, 250, 250, 250, 250, 250, 250, 250, 2, 250, 250, 3, 250, 246, 129, 129, 128, 246, 129, 129, 128, 246, 246, 129, 247, 250, 77, 77, 76, 251, 251, 251, 251, 2, 251, 251, 3, 0, 251, 248, 248, 248, 251, 251, 251, 251, 251, 251, 251, 251, 251, 251, 248, 248, 248, 248, 248, 251, 251, 251, 251, 251, 251, 251, 251, 251, 251, 251, 251, 248, 248, 248, 248, 248, 251, 251, 251, 251, 251, 251, 251, 251, 251, 251, 251, 251, 248, 248, 248, 248, 248, 251, 251, 251, 251, 251, 251, 251, 251, 251, 251, 251, 251, 248, 248, 248, 248, 248, 251, 251, 251, 251, 251, 251, 251, 250, 250, 3, 250, 246, 129, 129, 128, 246, 129, 129, 128, 246, 246, 129, 247, 250, 77, 77, 76, 252, 252, 252, 252, 2, 252, 252, 3, 0, 252, 248, 248, 248, 252, 252, 252, 252, 252, 252, 252, 252, 252, 252, 248, 248, 248, 248, 248, 252, 252, 252, 252, 252, 252, 252, 252, 252, 252, 252, 252, 248, 248, 248, 248, 248, 252, 252, 252, 252, 252, 252, 252, 252, 252, 252, 252, 252, 248, 248, 248, 248, 248, 252, 252, 252, 252, 252, 252, 252, 252, 252, 252, 252, 252, 248, 248, 248, 248, 248, 252, 252, 252, 252, 252, 252, 252, 250, 250, 250, 246, 129, 129, 128, 246, 129, 129, 128, 246, 246, 129, 247, 250, 249, 249, 249, 249, 249, 250, 250, 250, 250, 255, 255, 255, 255, 256, 256, 256, 256, 256, 255, 256, 256, 256, 256, 256, 256, 255, 256, 256, 256, 256, 256, 256, 255, 256, 256, 258, 250, 250, 250, 250, 250, 3, 3, 250, 250, 84, 84, 83, 259, 259, 259, 259, 2, 259, 259, 259, 3, 0, 259, 3, 0, 3, 0, 259, 3, 0, 250, 3, 250, 246, 129, 129, 128, 246, 129, 129, 128, 246, 246, 129, 247, 250, 249, 249, 249, 249, 249, 250, 84, 84, 83, 260, 260, 260, 260, 2, 260, 260, 260, 3, 0, 260, 3, 0, 3, 0, 260, 3, 0, 250, 253, 253, 253, 253, 261, 261, 261, 261, 261, 253, 250, 254, 254, 254, 254, 263, 263, 263, 263, 263, 254, 265, 265, 265, 265, 266, 266, 266, 266, 266, 265, 266, 266, 266, 266, 266, 266, 265, 266, 266, 266, 266, 266, 266, 265, 266, 266, 268, 250, 250, 250, 250, 250, 246, 129, 129, 128, 246, 129, 129, 128, 246, 246, 129, 247, 250, 248, 248, 248, 248, 269, 269, 269, 269, 269, 248, 250, 270, 262, 270, 270, 262, 270, 262, 250, 246, 129, 129, 128, 246, 129, 129, 128, 246, 246, 129, 247, 250, 248, 248, 248, 248, 272, 272, 272, 272, 272, 248, 271, 273, 271, 271, 273, 271, 273, 250, 246, 129, 129, 128, 246, 129, 246, 129, 246, 129, 129, 128, 246, 129, 247, 247, 247, 250, 246, 129, 129, 128, 246, 129, 129, 128, 246, 246, 129, 247, 250, 249, 249, 249, 249, 275, 275, 275, 275, 275, 249, 250, 276, 264, 276, 276, 264, 276, 264, 250, 246, 129, 129, 128, 246, 129, 129, 128, 246, 246, 129, 247, 250, 249, 249, 249, 249, 278, 278, 278, 278, 278, 249, 277, 279, 277, 277, 279, 277, 279, 250, 246, 129, 129, 128, 246, 129, 246, 129, 246, 129, 129, 128, 246, 129, 247, 247, 247], [], []⟩)
  .none [0, 1, 28, 34] (st_sc_13 w.params (fun j => ([0, 1, 28, 34].map fun i => Mine.adr 246 n ((List.range 4).map β) (246 + i)).getD j 0) (fun j => ([(τ 0), (τ 1), (τ 2), (τ 3), (τ 4), (τ 5), (τ 6), (τ 7), (τ 8), (τ 9), (τ 10), (τ 11), (τ 12), (τ 13), (τ 14), (τ 15), (τ 16), (τ 17), (τ 18), (τ 19), (τ 20), (τ 21), (τ 22), (τ 23), (τ 24), (τ 25), (τ 26), (τ 27), (τ 28), (τ 29), (τ 30), (τ 31), (τ 32), (τ 33), (τ 34), (τ 35), (τ 36), (τ 37), (τ 38), (τ 39), (τ 40)] : List Nat).getD j 0)) 281 120 := by
  unfold Came
  cases b <;> kernel_rfl
end
section
open PySem PySem.W PySem.W.X PyProof.Rows
set_option autoImplicit false
set_option linter.unusedVariables false
set_option maxRecDepth 100000
theorem run_scx_0 {w : World} {A : Around} {Q' : PySem.Fin → Shared → Prop} {h₀ : Heap} {g : Array GenState} {d : Drawn} {os : OsState} {n t : Nat} (b : Bool) : Came (hsim (hV (wB w b) A Q' h₀ g d os n t []) 350 (.builtin "mine" ⟨[], []⟩) .base (callT (.ref 129) [.none]) ⟨tstore [], 246, 0, [129, 129, 129, 129, 129, 129, 129, 129, 129, 129, 129, 129, 129, 129, 129, 129, 129, 129, 129, 129, 129, 129, 129, 129, 128, 129, 129, 247, 129, 247, 129, 129, 128, 98, 98, 97, 248, 248, 248, 248, 2, 248, 248, 247, 129, 129, 128, 247, 129, 247, 129, 247, 129, 129, 128, 247, 129, 246, 246, 246, 248, 247, 129, 129, 128, 247, 129, 247, 129, 247, 129, 129, 128, 247, 129, 246, 246, 246, 248, 248, 247, 129, 129, 128, 247, 129, 247, 129, 247, 129, 129, 128, 247, 129, 246, 246, 246], [], []⟩)
  (.ref (n + 1)) [1, 0, 3, 4] (st_scx_0 w.params (fun j => ([1, 0, 3, 4].map fun i => Mine.adr 246 n [] (246 + i)).getD j 0) (fun j => ([(t + 3), (t + 6), (t + 8), (t + 4)] : List Nat).getD j 0)) 251 9 := by
  unfold Came
  cases b <;> kernel_rfl
end
section
open PySem PySem.W PySem.W.X PyProof.Rows
set_option autoImplicit false
set_option linter.unusedVariables false
set_option maxRecDepth 100000
theorem run_scx_1 {w : World} {A : Around} {Q' : PySem.Fin → Shared → Prop} {h₀ : Heap} {g : Array GenState} {d : Drawn} {os : OsState} {n t : Nat} (b : Bool) {β τ : Nat → Nat} {t2 t3 : Nat} : Came (hsim (hV (wB w b) A Q' h₀ g d os n t ((List.range 4).map β)) 1156 (.builtin "mine" ⟨[], []⟩) .base (callT (.ref 112) [(.ref (β 0)), (.int (12540) t2), (.int (12540) t3), (.ref 211)]) ⟨tstore (st_scx_0 w.params β τ), 250, 0, [112, 111, 250, 250, 250, 250, 250, 250, 250, 250, 2, 250, 250, 3, 250, 246, 129, 129, 128, 246, 129, 129, 128, 246, 246, 129, 247, 250, 77, 77, 76, 251, 251, 251, 251, 2, 251, 251, 3, 0, 251, 248, 248, 248, 251, 251, 251, 251, 251, 251, 251, 251, 251, 251, 248, 248, 248, 248, 248, 251, 251, 251, 251, 251, 251, 251, 250, 250, 3, 250, 246, 129, 129, 128, 246, 129, 129, 128, 246, 246, 129, 247, 250, 77, 77, 76, 252, 252, 252, 252, 2, 252, 252, 3, 0, 252, 248, 248, 248, 252, 252, 252, 252, 252, 252, 252, 252, 252, 252, 248, 248, 248, 248, 248, 252, 252, 252, 252, 252, 252, 252, 250, 250, 250, 246, 129, 129, 128, 246, 129, 129, 128, 246, 246, 129, 247, 250, 249, 249, 249, 249, 249, 250, 250, 250, 250, 255, 255, 255, 255, 256, 256, 256, 256, 256, 255, 256, 256, 256, 256, 256, 256, 255, 256, 256, 256, 256, 256, 256, 255, 256, 256, 258, 250, 250, 250, 250, 250, 3, 3, 250, 250, 84, 84, 83, 259, 259, 259, 259, 2, 259, 250, 253, 253, 253, 253, 250, 253, 253, 253, 253, 250, 254, 254, 254, 254, 250, 254, 254, 254, 254, 250, 3, 250, 246, 129, 129, 128, 246, 129, 129, 128, 246, 246, 129, 247, 250, 249, 249, 249, 249, 249, 250, 84, 84, 83, 260, 260, 260, 260, 2, 260, 250, 246, 129, 129, 128, 246, 129, 129, 128, 246, 246, 129, 247, 250, 248, 248, 248, 248, 261, 261, 261, 261, 261, 248, 250, 262, 253, 262, 262, 253, 262, 253, 250, 246, 129, 129, 128, 246, 129, 129, 128, 246, 246, 129, 247, 250, 248, 248, 248, 248, 264, 264, 264, 264, 264, 248, 263, 265, 263, 263, 265, 263, 265, 250, 246, 129, 129, 128, 246, 129, 246, 129, 246, 129, 129, 128, 246, 129, 247, 247, 247, 250, 246, 129, 129, 128, 246, 129, 129, 128, 246, 246, 129, 247, 250, 249, 249, 249, 249, 267, 267, 267, 267, 267, 249, 250, 268, 254, 268, 268, 254, 268, 254, 250, 246, 129, 129, 128, 246, 129, 129, 128, 246, 246, 129, 247, 250, 249, 249, 249, 249, 270, 270, 270, 270, 270, 249, 269, 271, 269, 269, 271, 269, 271, 250, 246, 129, 129, 128, 246, 129, 246, 129, 246, 129, 129, 128, 246, 129, 247, 247, 247], [], []⟩)
  .none [0, 1, 20, 26] (st_scx_1 w.params (fun j => ([0, 1, 20, 26].map fun i => Mine.adr 246 n ((List.range 4).map β) (246 + i)).getD j 0) (fun j => ([(τ 0), (τ 1), (τ 2), (τ 3), t2, (t + 57)] : List Nat).getD j 0)) 273 72 := by
  unfold Came
  cases b <;> kernel_rfl
end
section
open PySem PySem.W PySem.W.X PyProof.Rows
set_option autoImplicit false
set_option linter.unusedVariables false
set_option maxRecDepth 100000
theorem run_scx_2 {w : World} {A : Around} {Q' : PySem.Fin → Shared → Prop} {h₀ : Heap} {g : Array GenState} {d : Drawn} {os : OsState} {n t : Nat} (b : Bool) {β τ : Nat → Nat} {t2 t3 : Nat} : Came (hsim (hV (wB w b) A Q' h₀ g d os n t ((List.range 4).map β)) 1284 (.builtin "mine" ⟨[], []⟩) .base (callT (.ref 112) [(.ref (β 0)), (.int (12289) t2), (.int (12289) t3), (.ref 213)]) ⟨tstore (st_scx_1 w.params β τ), 250, 0, [112, 111, 250, 250, 250, 250, 250, 250, 250, 250, 2, 250, 250, 3, 250, 246, 129, 129, 128, 246, 129, 129, 128, 246, 246, 129, 247, 250, 77, 77, 76, 251, 251, 251, 251, 2, 251, 251, 3, 0, 251, 248, 248, 248, 251, 251, 251, 251, 251, 251, 251, 251, 251, 251, 248, 248, 248, 248, 248, 251, 251, 251, 251, 251, 251, 251, 251, 251, 251, 251, 251, 248, 248, 248, 248, 248, 251, 251, 251, 251, 251, 251, 251, 250, 250, 3, 250, 246, 129, 129, 128, 246, 129, 129, 128, 246, 246, 129, 247, 250, 77, 77, 76, 252, 252, 252, 252, 2, 252, 252, 3, 0, 252, 248, 248, 248, 252, 252, 252, 252, 252, 252, 252, 252, 252, 252, 248, 248, 248, 248, 248, 252, 252, 252, 252, 252, 252, 252, 252, 252, 252, 252, 252, 248, 248, 248, 248, 248, 252, 252, 252, 252, 252, 252, 252, 250, 250, 250, 246, 129, 129, 128, 246, 129, 129, 128, 246, 246, 129, 247, 250, 249, 249, 249, 249, 249, 250, 250, 250, 250, 255, 255, 255, 255, 256, 256, 256, 256, 256, 255, 256, 256, 256, 256, 256, 256, 255, 256, 256, 256, 256, 256, 256, 255, 256, 256, 258, 250, 250, 250, 250, 250, 3, 3, 250, 250, 84, 84, 83, 259, 259, 259, 259, 2, 259, 250, 253, 253, 253, 253, 250, 253, 253, 253, 253, 250, 254, 254, 254, 254, 250, 254, 254, 254, 254, 250, 3, 250, 246, 129, 129, 128, 246, 129, 129, 128, 246, 246, 129, 247, 250, 249, 249, 249, 249, 249, 250, 84, 84, 83, 260, 260, 260, 260, 2, 260, 250, 246, 129, 129, 128, 246, 129, 129, 128, 246, 246, 129, 247, 250, 248, 248, 248, 248, 261, 261, 261, 261, 261, 248, 250, 262, 253, 262, 262, 253, 262, 253, 250, 246, 129, 129, 128, 246, 129, 129, 128, 246, 246, 129, 247, 250, 248, 248, 248, 248, 264, 264, 264, 264, 264, 248, 263, 265, 263, 263, 265, 263, 265, 250, 246, 129, 129, 128, 246, 129, 246, 129, 246, 129, 129, 128, 246, 129, 247, 247, 247, 250, 246, 129, 129, 128, 246, 129, 129, 128, 246, 246, 129, 247, 250, 249, 249, 249, 249, 267, 267, 267, 267, 267, 249, 250, 268, 254, 268, 268, 254, 268, 254, 250, 246, 129, 129, 128, 246, 129, 129, 128, 246, 246, 129, 247, 250, 249, 249, 249, 249, 270, 270, 270, 270, 270, 249, 269, 271, 269, 269, 271, 269, 271, 250, 246, 129, 129, 128, 246, 129, 246, 129, 246, 129, 129, 128, 246, 129, 247, 247, 247], [], []⟩)
  .none [0, 1, 20, 26] (st_scx_2 w.params (fun j => ([0, 1, 20, 26].map fun i => Mine.adr 246 n ((List.range 4).map β) (246 + i)).getD j 0) (fun j => ([(τ 0), (τ 1), (τ 2), (τ 3), t2, (t + 67), (τ 4), (τ 5)] : List Nat).getD j 0)) 273 82 := by
  unfold Came
  cases b <;> kernel_rfl
end
section
open PySem PySem.W PySem.W.X PyProof.Rows
set_option autoImplicit false
set_option linter.unusedVariables false
set_option maxRecDepth 100000
theorem run_scx_3 {w : World} {A : Around} {Q' : PySem.Fin → Shared → Prop} {h₀ : Heap} {g : Array GenState} {d : Drawn} {os : OsState} {n t : Nat} (b : Bool) {β τ : Nat → Nat} {t2 t3 : Nat} : Came (hsim (hV (wB w b) A Q' h₀ g d os n t ((List.range 4).map β)) 1412 (.builtin "mine" ⟨[], []⟩) .base (callT (.ref 112) [(.ref (β 0)), (.int (867) t2), (.int (867) t3), (.ref 215)]) ⟨tstore (st_scx_2 w.params β τ), 250, 0, [112, 111, 250, 250, 250, 250, 250, 250, 250, 250, 2, 250, 250, 3, 250, 246, 129, 129, 128, 246, 129, 129, 128, 246, 246, 129, 247, 250, 77, 77, 76, 251, 251, 251, 251, 2, 251, 251, 3, 0, 251, 248, 248, 248, 251, 251, 251, 251, 251, 251, 251, 251, 251, 251, 248, 248, 248, 248, 248, 251, 251, 251, 251, 251, 251, 251, 251, 251, 251, 251, 251, 248, 248, 248, 248, 248, 251, 251, 251, 251, 251, 251, 251, 251, 251, 251, 251, 251, 248, 248, 248, 248, 248, 251, 251, 251, 251, 251, 251, 251, 250, 250, 3, 250, 246, 129, 129, 128, 246, 129, 129, 128, 246, 246, 129, 247, 250, 77, 77, 76, 252, 252, 252, 252, 2, 252, 252, 3, 0, 252, 248, 248, 248, 252, 252, 252, 252, 252, 252, 252, 252, 252, 252, 248, 248, 248, 248, 248, 252, 252, 252, 252, 252, 252, 252, 252, 252, 252, 252, 252, 248, 248, 248, 248, 248, 252, 252, 252, 252, 252, 252, 252, 252, 252, 252, 252, 252, 248, 248, 248, 248, 248, 252, 252, 252, 252, 252, 252, 252, 250, 250, 250, 246, 129, 129, 128, 246, 129, 129, 128, 246, 246, 129, 247, 250, 249, 249, 249, 249, 249, 250, 250, 250, 250, 255, 255, 255, 255, 256, 256, 256, 256, 256, 255, 256, 256, 256, 256, 256, 256, 255, 256, 256, 256, 256, 256, 256, 255, 256, 256, 258, 250, 250, 250, 250, 250, 3, 3, 250, 250, 84, 84, 83, 259, 259, 259, 259, 2, 259, 250, 253, 253, 253, 253, 250, 253, 253, 253, 253, 250, 254, 254, 254, 254, 250, 254, 254, 254, 254, 250, 3, 250, 246, 129, 129, 128, 246, 129, 129, 128, 246, 246, 129, 247, 250, 249, 249, 249, 249, 249, 250, 84, 84, 83, 260, 260, 260, 260, 2, 260, 250, 246, 129, 129, 128, 246, 129, 129, 128, 246, 246, 129, 247, 250, 248, 248, 248, 248, 261, 261, 261, 261, 261, 248, 250, 262, 253, 262, 262, 253, 262, 253, 250, 246, 129, 129, 128, 246, 129, 129, 128, 246, 246, 129, 247, 250, 248, 248, 248, 248, 264, 264, 264, 264, 264, 248, 263, 265, 263, 263, 265, 263, 265, 250, 246, 129, 129, 128, 246, 129, 246, 129, 246, 129, 129, 128, 246, 129, 247, 247, 247, 250, 246, 129, 129, 128, 246, 129, 129, 128, 246, 246, 129, 247, 250, 249, 249, 249, 249, 267, 267, 267, 267, 267, 249, 250, 268, 254, 268, 268, 254, 268, 254, 250, 246, 129, 129, 128, 246, 129, 129, 128, 246, 246, 129, 247, 250, 249, 249, 249, 249, 270, 270, 270, 270, 270, 249, 269, 271, 269, 269, 271, 269, 271, 250, 246, 129, 129, 128, 246, 129, 246, 129, 246, 129, 129, 128, 246, 129, 247, 247, 247], [], []⟩)
  .none [0, 1, 20, 26] (st_scx_3 w.params (fun j => ([0, 1, 20, 26].map fun i => Mine.adr 246 n ((List.range 4).map β) (246 + i)).getD j 0) (fun j => ([(τ 0), (τ 1), (τ 2), (τ 3), t2, (t + 77), (τ 4), (τ 5), (τ 6), (τ 7)] : List Nat).getD j 0)) 273 92 := by
  unfold Came
  cases b <;> kernel_rfl
end
section
open PySem PySem.W PySem.W.X PyProof.Rows
set_option autoImplicit false
set_option linter.unusedVariables false
set_option maxRecDepth 100000
theorem run_data_0f {w : World} {A : Around} {Q' : PySem.Fin → Shared → Prop} {h₀ : Heap} {g : Array GenState} {d : Drawn} {os : OsState} {n t : Nat} : Came (hsim (hV (wB w false) A Q' h₀ g d os n t []) 2172 (.builtin "mine" ⟨[], []⟩) .base (callT (.ref 178) []) ⟨tstore [], 246, 0, [178, 178, 178, 178, 178, 178, 178, 178, 178, 178, 178, 178, 178, 178, 178, 178, 178, 178, 178, 178, 178, 178, 247, 178, 247, 178, 178, 177, 154, 154, 153, 248, 248, 2, 3, 140, 140, 139, 2, 250, 250, 250, 250, 250, 250, 250, 250, 250, 250, 250, 250, 250, 250, 250, 250, 250, 250, 250, 250, 250, 250, 250, 250, 250, 250, 250, 250, 250, 250, 250, 250, 249, 249, 251, 251, 251, 252, 252, 252, 252, 252, 251, 252, 252, 249, 249, 249, 249, 250, 250, 250, 250, 250, 250, 250, 250, 252, 252, 252, 252, 251, 252, 252, 249, 249, 249, 249, 250, 250, 250, 250, 250, 250, 250, 250, 252, 252, 252, 252, 251, 252, 252, 249, 249, 249, 249, 250, 250, 250, 250, 250, 250, 250, 250, 252, 252, 252, 252, 251, 252, 252, 254, 255, 255, 255, 256, 256, 256, 256, 256, 255, 256, 256, 249, 249, 249, 249, 250, 250, 250, 250, 250, 250, 250, 250, 256, 256, 256, 256, 255, 256, 256, 249, 249, 249, 249, 250, 250, 250, 250, 250, 250, 250, 250, 256, 256, 256, 256, 255, 256, 256, 249, 249, 249, 249, 250, 250, 250, 250, 250, 250, 250, 250, 256, 256, 256, 256, 255, 256, 256, 249, 249, 249, 249, 250, 250, 250, 250, 250, 250, 250, 250, 256, 256, 256, 256, 255, 256, 256, 249, 249, 249, 249, 250, 250, 250, 250, 250, 250, 250, 250, 256, 256, 256, 256, 255, 256, 256, 249, 249, 249, 249, 250, 250, 250, 250, 250, 250, 250, 250, 256, 256, 256, 256, 255, 256, 256, 249, 249, 249, 249, 250, 250, 250, 250, 250, 250, 250, 250, 256, 256, 256, 256, 255, 256, 256, 249, 249, 249, 249, 250, 250, 250, 250, 250, 250, 250, 250, 256, 256, 256, 256, 255, 256, 256, 249, 249, 249, 249, 250, 250, 250, 250, 250, 250, 250, 250, 256, 256, 256, 256, 255, 256, 256, 249, 249, 249, 249, 250, 250, 250, 250, 250, 250, 250, 250, 256, 256, 256, 256, 255, 256, 256, 249, 249, 249, 249, 250, 250, 250, 250, 250, 250, 250, 250, 256, 256, 256, 256, 255, 256, 256, 249, 249, 249, 249, 250, 250, 250, 250, 250, 250, 250, 250, 256, 256, 256, 256, 255, 256, 256, 249, 249, 249, 249, 250, 250, 250, 250, 250, 250, 250, 250, 256, 256, 256, 256, 255, 256, 256, 258, 259, 259, 259, 260, 260, 260, 260, 260, 259, 260, 260, 249, 249, 249, 249, 250, 250, 250, 250, 250, 250, 250, 250, 260, 260, 260, 260, 259, 260, 260, 249, 249, 249, 249, 250, 250, 250, 250, 250, 250, 250, 250, 260, 260, 260, 260, 259, 260, 260, 249, 249, 249, 249, 250, 250, 250, 250, 250, 250, 250, 250, 260, 260, 260, 260, 259, 260, 260, 249, 249, 249, 249, 250, 250, 250, 250, 250, 250, 250, 250, 260, 260, 260, 260, 259, 260, 260, 249, 249, 249, 249, 250, 250, 250, 250, 250, 250, 250, 250, 260, 260, 260, 260, 259, 260, 260, 249, 249, 249, 249, 250, 250, 250, 250, 250, 250, 250, 250, 260, 260, 260, 260, 259, 260, 260, 249, 249, 249, 249, 250, 250, 250, 250, 250, 250, 250, 250, 260, 260, 260, 260, 259, 260, 260, 249, 249, 249, 249, 250, 250, 250, 250, 250, 250, 250, 250, 260, 260, 260, 260, 259, 260, 260, 249, 249, 249, 249, 250, 250, 250, 250, 250, 250, 250, 250, 260, 260, 260, 260, 259, 260, 260, 249, 249, 249, 249, 250, 250, 250, 250, 250, 250, 250, 250, 260, 260, 260, 260, 259, 260, 260, 249, 249, 249, 249, 250, 250, 250, 250, 250, 250, 250, 250, 260, 260, 260, 260, 259, 260, 260, 249, 249, 249, 249, 250, 250, 250, 250, 250, 250, 250, 250, 260, 260, 260, 260, 259, 260, 260, 249, 249, 249, 249, 250, 250, 250, 250, 250, 250, 250, 250, 260, 260, 260, 260, 259, 260, 260, 262, 263, 263, 263, 264, 264, 264, 264, 264, 263, 264, 264, 249, 249, 249, 249, 250, 250, 250, 250, 250, 250, 250, 250, 264, 264, 264, 264, 263, 264, 264, 249, 249, 249, 249, 250, 250, 250, 250, 250, 250, 250, 250, 264, 264, 264, 264, 263, 264, 264, 249, 249, 249, 249, 250, 250, 250, 250, 250, 250, 250, 250, 264, 264, 264, 264, 263, 264, 264, 249, 249, 249, 249, 250, 250, 250, 250, 250, 250, 250, 250, 264, 264, 264, 264, 263, 264, 264, 270, 249, 250, 250, 250, 250, 250, 250, 250, 250, 249, 248, 247, 178, 178, 177, 247, 178, 247, 178, 247, 178, 178, 177, 247, 178, 246, 246, 246, 248, 247, 178, 178, 177, 247, 178, 247, 178, 247, 178, 178, 177, 247, 178, 246, 246, 246, 248, 247, 178, 178, 177, 247, 178, 247, 178, 247, 178, 178, 177, 247, 178, 246, 246, 246, 248, 247, 178, 178, 177, 247, 178, 247, 178, 247, 178, 178, 177, 247, 178, 246, 246, 246], [], []⟩)
  (.ref (n + 1)) [1, 0, 4, 27, 28, 29, 19, 20, 21, 22, 26, 25] (st_data_0 w.params (fun j => ([1, 0, 4, 27, 28, 29, 19, 20, 21, 22, 26, 25].map fun i => Mine.adr 246 n [] (246 + i)).getD j 0) (fun j => ([(t + 132), (t + 134), (t + 136), (t + 138), (t + 1), (t + 2), (t + 3), (t + 4), (t + 5), (t + 6), (t + 7), (t + 8), (t + 9), (t + 10), (t + 11), (t + 12), (t + 13), (t + 14), (t + 15), (t + 16), (t + 26), (t + 30), (t + 27), (t + 33), (t + 28), (t + 36), (t + 38), (t + 39), (t + 40), (t + 41), (t + 42), (t + 43), (t + 44), (t + 45), (t + 46), (t + 47), (t + 48), (t + 49), (t + 50), (t + 77), (t + 78), (t + 79), (t + 80), (t + 81), (t + 82), (t + 83), (t + 84), (t + 85), (t + 86), (t + 87), (t + 88), (t + 89), (t + 116), (t + 117), (t + 118), (t + 119), (t + 129), (t + 128)] : List Nat).getD j 0)) 276 139 := by
  unfold Came
  kernel_rfl
theorem run_data_0t {w : World} {A : Around} {Q' : PySem.Fin → Shared → Prop} {h₀ : Heap} {g : Array GenState} {d : Drawn} {os : OsState} {n t : Nat} : Came (hsim (hV (wB w true) A Q' h₀ g d os n t []) 2172 (.builtin "mine" ⟨[], []⟩) .base (callT (.ref 178) []) ⟨tstore [], 246, 0, [178, 178, 178, 178, 178, 178, 178, 178, 178, 178, 178, 178, 178, 178, 178, 178, 178, 178, 178, 178, 178, 178, 247, 178, 247, 178, 178, 177, 154, 154, 153, 248, 248, 2, 3, 140, 140, 139, 2, 250, 250, 250, 250, 250, 250, 250, 250, 250, 250, 250, 250, 250, 250, 250, 250, 250, 250, 250, 250, 250, 250, 250, 250, 250, 250, 250, 250, 250, 250, 250, 250, 249, 249, 251, 251, 251, 252, 252, 252, 252, 252, 251, 252, 252, 249, 249, 249, 249, 250, 250, 250, 250, 250, 250, 250, 250, 252, 252, 252, 252, 251, 252, 252, 249, 249, 249, 249, 250, 250, 250, 250, 250, 250, 250, 250, 252, 252, 252, 252, 251, 252, 252, 249, 249, 249, 249, 250, 250, 250, 250, 250, 250, 250, 250, 252, 252, 252, 252, 251, 252, 252, 254, 255, 255, 255, 256, 256, 256, 256, 256, 255, 256, 256, 249, 249, 249, 249, 250, 250, 250, 250, 250, 250, 250, 250, 256, 256, 256, 256, 255, 256, 256, 249, 249, 249, 249, 250, 250, 250, 250, 250, 250, 250, 250, 256, 256, 256, 256, 255, 256, 256, 249, 249, 249, 249, 250, 250, 250, 250, 250, 250, 250, 250, 256, 256, 256, 256, 255, 256, 256, 249, 249, 249, 249, 250, 250, 250, 250, 250, 250, 250, 250, 256, 256, 256, 256, 255, 256, 256, 249, 249, 249, 249, 250, 250, 250, 250, 250, 250, 250, 250, 256, 256, 256, 256, 255, 256, 256, 249, 249, 249, 249, 250, 250, 250, 250, 250, 250, 250, 250, 256, 256, 256, 256, 255, 256, 256, 249, 249, 249, 249, 250, 250, 250, 250, 250, 250, 250, 250, 256, 256, 256, 256, 255, 256, 256, 249, 249, 249, 249, 250, 250, 250, 250, 250, 250, 250, 250, 256, 256, 256, 256, 255, 256, 256, 249, 249, 249, 249, 250, 250, 250, 250, 250, 250, 250, 250, 256, 256, 256, 256, 255, 256, 256, 249, 249, 249, 249, 250, 250, 250, 250, 250, 250, 250, 250, 256, 256, 256, 256, 255, 256, 256, 249, 249, 249, 249, 250, 250, 250, 250, 250, 250, 250, 250, 256, 256, 256, 256, 255, 256, 256, 249, 249, 249, 249, 250, 250, 250, 250, 250, 250, 250, 250, 256, 256, 256, 256, 255, 256, 256, 249, 249, 249, 249, 250, 250, 250, 250, 250, 250, 250, 250, 256, 256, 256, 256, 255, 256, 256, 258, 259, 259, 259, 260, 260, 260, 260, 260, 259, 260, 260, 249, 249, 249, 249, 250, 250, 250, 250, 250, 250, 250, 250, 260, 260, 260, 260, 259, 260, 260, 249, 249, 249, 249, 250, 250, 250, 250, 250, 250, 250, 250, 260, 260, 260, 260, 259, 260, 260, 249, 249, 249, 249, 250, 250, 250, 250, 250, 250, 250, 250, 260, 260, 260, 260, 259, 260, 260, 249, 249, 249, 249, 250, 250, 250, 250, 250, 250, 250, 250, 260, 260, 260, 260, 259, 260, 260, 249, 249, 249, 249, 250, 250, 250, 250, 250, 250, 250, 250, 260, 260, 260, 260, 259, 260, 260, 249, 249, 249, 249, 250, 250, 250, 250, 250, 250, 250, 250, 260, 260, 260, 260, 259, 260, 260, 249, 249, 249, 249, 250, 250, 250, 250, 250, 250, 250, 250, 260, 260, 260, 260, 259, 260, 260, 249, 249, 249, 249, 250, 250, 250, 250, 250, 250, 250, 250, 260, 260, 260, 260, 259, 260, 260, 249, 249, 249, 249, 250, 250, 250, 250, 250, 250, 250, 250, 260, 260, 260, 260, 259, 260, 260, 249, 249, 249, 249, 250, 250, 250, 250, 250, 250, 250, 250, 260, 260, 260, 260, 259, 260, 260, 249, 249, 249, 249, 250, 250, 250, 250, 250, 250, 250, 250, 260, 260, 260, 260, 259, 260, 260, 249, 249, 249, 249, 250, 250, 250, 250, 250, 250, 250, 250, 260, 260, 260, 260, 259, 260, 260, 249, 249, 249, 249, 250, 250, 250, 250, 250, 250, 250, 250, 260, 260, 260, 260, 259, 260, 260, 262, 263, 263, 263, 264, 264, 264, 264, 264, 263, 264, 264, 249, 249, 249, 249, 250, 250, 250, 250, 250, 250, 250, 250, 264, 264, 264, 264, 263, 264, 264, 249, 249, 249, 249, 250, 250, 250, 250, 250, 250, 250, 250, 264, 264, 264, 264, 263, 264, 264, 249, 249, 249, 249, 250, 250, 250, 250, 250, 250, 250, 250, 264, 264, 264, 264, 263, 264, 264, 249, 249, 249, 249, 250, 250, 250, 250, 250, 250, 250, 250, 264, 264, 264, 264, 263, 264, 264, 270, 249, 250, 250, 250, 250, 250, 250, 250, 250, 249, 248, 247, 178, 178, 177, 247, 178, 247, 178, 247, 178, 178, 177, 247, 178, 246, 246, 246, 248, 247, 178, 178, 177, 247, 178, 247, 178, 247, 178, 178, 177, 247, 178, 246, 246, 246, 248, 247, 178, 178, 177, 247, 178, 247, 178, 247, 178, 178, 177, 247, 178, 246, 246, 246, 248, 247, 178, 178, 177, 247, 178, 247, 178, 247, 178, 178, 177, 247, 178, 246, 246, 246], [], []⟩)
  (.ref (n + 1)) [1, 0, 4, 27, 28, 29, 19, 20, 21, 22, 26, 25] (st_data_0 w.params (fun j => ([1, 0, 4, 27, 28, 29, 19, 20, 21, 22, 26, 25].map fun i => Mine.adr 246 n [] (246 + i)).getD j 0) (fun j => ([(t + 132), (t + 134), (t + 136), (t + 138), (t + 1), (t + 2), (t + 3), (t + 4), (t + 5), (t + 6), (t + 7), (t + 8), (t + 9), (t + 10), (t + 11), (t + 12), (t + 13), (t + 14), (t + 15), (t + 16), (t + 26), (t + 30), (t + 27), (t + 33), (t + 28), (t + 36), (t + 38), (t + 39), (t + 40), (t + 41), (t + 42), (t + 43), (t + 44), (t + 45), (t + 46), (t + 47), (t + 48), (t + 49), (t + 50), (t + 77), (t + 78), (t + 79), (t + 80), (t + 81), (t + 82), (t + 83), (t + 84), (t + 85), (t + 86), (t + 87), (t + 88), (t + 89), (t + 116), (t + 117), (t + 118), (t + 119), (t + 129), (t + 128)] : List Nat).getD j 0)) 276 139 := by
  unfold Came
  kernel_rfl
theorem run_data_0 {w : World} {A : Around} {Q' : PySem.Fin → Shared → Prop} {h₀ : Heap} {g : Array GenState} {d : Drawn} {os : OsState} {n t : Nat} (b : Bool) : Came (hsim (hV (wB w b) A Q' h₀ g d os n t []) 2172 (.builtin "mine" ⟨[], []⟩) .base (callT (.ref 178) []) ⟨tstore [], 246, 0, [178, 178, 178, 178, 178, 178, 178, 178, 178, 178, 178, 178, 178, 178, 178, 178, 178, 178, 178, 178, 178, 178, 247, 178, 247, 178, 178, 177, 154, 154, 153, 248, 248, 2, 3, 140, 140, 139, 2, 250, 250, 250, 250, 250, 250, 250, 250, 250, 250, 250, 250, 250, 250, 250, 250, 250, 250, 250, 250, 250, 250, 250, 250, 250, 250, 250, 250, 250, 250, 250, 250, 249, 249, 251, 251, 251, 252, 252, 252, 252, 252, 251, 252, 252, 249, 249, 249, 249, 250, 250, 250, 250, 250, 250, 250, 250, 252, 252, 252, 252, 251, 252, 252, 249, 249, 249, 249, 250, 250, 250, 250, 250, 250, 250, 250, 252, 252, 252, 252, 251, 252, 252, 249, 249, 249, 249, 250, 250, 250, 250, 250, 250, 250, 250, 252, 252, 252, 252, 251, 252, 252, 254, 255, 255, 255, 256, 256, 256, 256, 256, 255, 256, 256, 249, 249, 249, 249, 250, 250, 250, 250, 250, 250, 250, 250, 256, 256, 256, 256, 255, 256, 256, 249, 249, 249, 249, 250, 250, 250, 250, 250, 250, 250, 250, 256, 256, 256, 256, 255, 256, 256, 249, 249, 249, 249, 250, 250, 250, 250, 250, 250, 250, 250, 256, 256, 256, 256, 255, 256, 256, 249, 249, 249, 249, 250, 250, 250, 250, 250, 250, 250, 250, 256, 256, 256, 256, 255, 256, 256, 249, 249, 249, 249, 250, 250, 250, 250, 250, 250, 250, 250, 256, 256, 256, 256, 255, 256, 256, 249, 249, 249, 249, 250, 250, 250, 250, 250, 250, 250, 250, 256, 256, 256, 256, 255, 256, 256, 249, 249, 249, 249, 250, 250, 250, 250, 250, 250, 250, 250, 256, 256, 256, 256, 255, 256, 256, 249, 249, 249, 249, 250, 250, 250, 250, 250, 250, 250, 250, 256, 256, 256, 256, 255, 256, 256, 249, 249, 249, 249, 250, 250, 250, 250, 250, 250, 250, 250, 256, 256, 256, 256, 255, 256, 256, 249, 249, 249, 249, 250, 250, 250, 250, 250, 250, 250, 250, 256, 256, 256, 256, 255, 256, 256, 249, 249, 249, 249, 250, 250, 250, 250, 250, 250, 250, 250, 256, 256, 256, 256, 255, 256, 256, 249, 249, 249, 249, 250, 250, 250, 250, 250, 250, 250, 250, 256, 256, 256, 256, 255, 256, 256, 249, 249, 249, 249, 250, 250, 250, 250, 250, 250, 250, 250, 256, 256, 256, 256, 255, 256, 256, 258, 259, 259, 259, 260, 260, 260, 260, 260, 259, 260, 260, 249, 249, 249, 249, 250, 250, 250, 250, 250, 250, 250, 250, 260, 260, 260, 260, 259, 260, 260, 249, 249, 249, 249, 250, 250, 250, 250, 250, 250, 250, 250, 260, 260, 260, 260, 259, 260, 260, 249, 249, 249, 249, 250, 250, 250, 250, 250, 250, 250, 250, 260, 260, 260, 260, 259, 260, 260, 249, 249, 249, 249, 250, 250, 250, 250, 250, 250, 250, 250, 260, 260, 260, 260, 259, 260, 260, 249, 249, 249, 249, 250, 250, 250, 250, 250, 250, 250, 250, 260, 260, 260, 260, 259, 260, 260, 249, 249, 249, 249, 250, 250, 250, 250, 250, 250, 250, 250, 260, 260, 260, 260, 259, 260, 260, 249, 249, 249, 249, 250, 250, 250, 250, 250, 250, 250, 250, 260, 260, 260, 260, 259, 260, 260, 249, 249, 249, 249, 250, 250, 250, 250, 250, 250, 250, 250, 260, 260, 260, 260, 259, 260, 260, 249, 249, 249, 249, 250, 250, 250, 250, 250, 250, 250, 250, 260, 260, 260, 260, 259, 260, 260, 249, 249, 249, 249, 250, 250, 250, 250, 250, 250, 250, 250, 260, 260, 260, 260, 259, 260, 260, 249, 249, 249, 249, 250, 250, 250, 250, 250, 250, 250, 250, 260, 260, 260, 260, 259, 260, 260, 249, 249, 249, 249, 250, 250, 250, 250, 250, 250, 250, 250, 260, 260, 260, 260, 259, 260, 260, 249, 249, 249, 249, 250, 250, 250, 250, 250, 250, 250, 250, 260, 260, 260, 260, 259, 260, 260, 262, 263, 263, 263, 264, 264, 264, 264, 264, 263, 264, 264, 249, 249, 249, 249, 250, 250, 250, 250, 250, 250, 250, 250, 264, 264, 264, 264, 263, 264, 264, 249, 249, 249, 249, 250, 250, 250, 250, 250, 250, 250, 250, 264, 264, 264, 264, 263, 264, 264, 249, 249, 249, 249, 250, 250, 250, 250, 250, 250, 250, 250, 264, 264, 264, 264, 263, 264, 264, 249, 249, 249, 249, 250, 250, 250, 250, 250, 250, 250, 250, 264, 264, 264, 264, 263, 264, 264, 270, 249, 250, 250, 250, 250, 250, 250, 250, 250, 249, 248, 247, 178, 178, 177, 247, 178, 247, 178, 247, 178, 178, 177, 247, 178, 246, 246, 246, 248, 247, 178, 178, 177, 247, 178, 247, 178, 247, 178, 178, 177, 247, 178, 246, 246, 246, 248, 247, 178, 178, 177, 247, 178, 247, 178, 247, 178, 178, 177, 247, 178, 246, 246, 246, 248, 247, 178, 178, 177, 247, 178, 247, 178, 247, 178, 178, 177, 247, 178, 246, 246, 246], [], []⟩)
  (.ref (n + 1)) [1, 0, 4, 27, 28, 29, 19, 20, 21, 22, 26, 25] (st_data_0 w.params (fun j => ([1, 0, 4, 27, 28, 29, 19, 20, 21, 22, 26, 25].map fun i => Mine.adr 246 n [] (246 + i)).getD j 0) (fun j => ([(t + 132), (t + 134), (t + 136), (t + 138), (t + 1), (t + 2), (t + 3), (t + 4), (t + 5), (t + 6), (t + 7), (t + 8), (t + 9), (t + 10), (t + 11), (t + 12), (t + 13), (t + 14), (t + 15), (t + 16), (t + 26), (t + 30), (t + 27), (t + 33), (t + 28), (t + 36), (t + 38), (t + 39), (t + 40), (t + 41), (t + 42), (t + 43), (t + 44), (t + 45), (t + 46), (t + 47), (t + 48), (t + 49), (t + 50), (t + 77), (t + 78), (t + 79), (t + 80), (t + 81), (t + 82), (t + 83), (t + 84), (t + 85), (t + 86), (t + 87), (t + 88), (t + 89), (t + 116), (t + 117), (t + 118), (t + 119), (t + 129), (t + 128)] : List Nat).getD j 0)) 276 139 := by
  cases b
  · exact run_data_0f
  · exact run_data_0t
end
section
open PySem PySem.W PySem.W.X PySem.Calls PyProof.Rows PySem.SeqAt PySem.Spec
set_option autoImplicit false
set_option linter.unusedVariables false
set_option maxRecDepth 100000
noncomputable abbrev StF := Params → (Nat → Nat) → (Nat → Nat) → List Obj
/-- one call of RangeMap.put -/
noncomputable def PutC (w : World) (st st' : StF) (c : Int) (val : Nat → Value) : Prop := ∀ (A : Around) (s : Shared) (Q : Value → Shared → Prop) (β τ : Nat → Nat) (t2 t3 t4 : Nat), Room 318 A → (hd.heap_227 w.params).In s.heap → Laid (st w.params β τ) (bsOf 4 β) s.heap →
  (∀ (β' τ' : Nat → Nat) (h' : Heap) (tk : Nat), β' 0 = β 0 → Laid (st' w.params β' τ') (bsOf 4 β') h' → (∀ b o, b ∉ bsOf 4 β → s.heap.get? b = some o → h'.get? b = some o) → (∀ b ∈ bsOf 4 β', b ∈ bsOf 4 β ∨ s.heap.get? b = none) → Q .none { s with heap := h', toks := tk }) →
  wpAny (model prgH w) A (call (.ref 112) [.ref (β 0), .int c t2, .int c t3, val t4]) Q (fun _ _ => False) s
/-- one call of RangeMap -/
noncomputable def NewC (w : World) (st' : StF) (val : Nat → Value) : Prop := ∀ (A : Around) (s : Shared) (Q : Value → Shared → Prop) (t4 : Nat), Room 318 A → (hd.heap_227 w.params).In s.heap → 246 ≤ s.heap.objs.size →
  (∀ (β' τ' : Nat → Nat) (h' : Heap) (tk : Nat), Laid (st' w.params β' τ') (bsOf 4 β') h' → Hk s.heap h' → (∀ b ∈ bsOf 4 β', s.heap.get? b = none) → Q (.ref (β' 0)) { s with heap := h', toks := tk }) →
  wpAny (model prgH w) A (call (.ref 129) [val t4]) Q (fun _ _ => False) s
section
variable {w : World}
theorem put_sc_0 : PutC w st_sc_0 st_sc_1 97 (fun t => .str "Latn" t) := fun A s Q β τ t2 t3 t4 R X L hQ =>
  step_run (bs := bsOf 4 β) R (laid_size L (by decide)) X L (fun b Q' => run_sc_1 b) (by decide) rfl fun h' tk L' k1 k2 => hQ (fun j => (newBs s.heap.objs.size (bsOf 4 β) [0, 1, 20, 26]).getD j 0) _ h' tk (adr_bs (n := s.heap.objs.size) (m := 4) (β := β) (j := 0) (by decide)) (laid_fun (m := 4) L' rfl) k1 (fun b hb => k2 b (mem_bs (m := 4) (l := newBs s.heap.objs.size (bsOf 4 β) [0, 1, 20, 26]) rfl hb))
theorem put_sc_1 : PutC w st_sc_1 st_sc_2 1072 (fun t => .str "Cyrl" t) := fun A s Q β τ t2 t3 t4 R X L hQ =>
  step_run (bs := bsOf 4 β) R (laid_size L (by decide)) X L (fun b Q' => run_sc_2 b) (by decide) rfl fun h' tk L' k1 k2 => hQ (fun j => (newBs s.heap.objs.size (bsOf 4 β) [0, 1, 20, 26]).getD j 0) _ h' tk (adr_bs (n := s.heap.objs.size) (m := 4) (β := β) (j := 0) (by decide)) (laid_fun (m := 4) L' rfl) k1 (fun b hb => k2 b (mem_bs (m := 4) (l := newBs s.heap.objs.size (bsOf 4 β) [0, 1, 20, 26]) rfl hb))
theorem put_sc_2 : PutC w st_sc_2 st_sc_3 12354 (fun t => .str "Hira" t) := fun A s Q β τ t2 t3 t4 R X L hQ =>
  step_run (bs := bsOf 4 β) R (laid_size L (by decide)) X L (fun b Q' => run_sc_3 b) (by decide) rfl fun h' tk L' k1 k2 => hQ (fun j => (newBs s.heap.objs.size (bsOf 4 β) [0, 1, 20, 26]).getD j 0) _ h' tk (adr_bs (n := s.heap.objs.size) (m := 4) (β := β) (j := 0) (by decide)) (laid_fun (m := 4) L' rfl) k1 (fun b hb => k2 b (mem_bs (m := 4) (l := newBs s.heap.objs.size (bsOf 4 β) [0, 1, 20, 26]) rfl hb))
theorem put_sc_3 : PutC w st_sc_3 st_sc_4 12450 (fun t => .str "Kana" t) := fun A s Q β τ t2 t3 t4 R X L hQ =>
  step_run (bs := bsOf 4 β) R (laid_size L (by decide)) X L (fun b Q' => run_sc_4 b) (by decide) rfl fun h' tk L' k1 k2 => hQ (fun j => (newBs s.heap.objs.size (bsOf 4 β) [0, 1, 20, 26]).getD j 0) _ h' tk (adr_bs (n := s.heap.objs.size) (m := 4) (β := β) (j := 0) (by decide)) (laid_fun (m := 4) L' rfl) k1 (fun b hb => k2 b (mem_bs (m := 4) (l := newBs s.heap.objs.size (bsOf 4 β) [0, 1, 20, 26]) rfl hb))
theorem put_sc_4 : PutC w st_sc_4 st_sc_5 19968 (fun t => .str "Hani" t) := fun A s Q β τ t2 t3 t4 R X L hQ =>
  step_run (bs := bsOf 4 β) R (laid_size L (by decide)) X L (fun b Q' => run_sc_5 b) (by decide) rfl fun h' tk L' k1 k2 => hQ (fun j => (newBs s.heap.objs.size (bsOf 4 β) [0, 1, 20, 26]).getD j 0) _ h' tk (adr_bs (n := s.heap.objs.size) (m := 4) (β := β) (j := 0) (by decide)) (laid_fun (m := 4) L' rfl) k1 (fun b hb => k2 b (mem_bs (m := 4) (l := newBs s.heap.objs.size (bsOf 4 β) [0, 1, 20, 26]) rfl hb))
theorem put_sc_5 : PutC w st_sc_5 st_sc_6 44032 (fun t => .str "Hang" t) := fun A s Q β τ t2 t3 t4 R X L hQ =>
  step_run (bs := bsOf 4 β) R (laid_size L (by decide)) X L (fun b Q' => run_sc_6 b) (by decide) rfl fun h' tk L' k1 k2 => hQ (fun j => (newBs s.heap.objs.size (bsOf 4 β) [0, 1, 20, 26]).getD j 0) _ h' tk (adr_bs (n := s.heap.objs.size) (m := 4) (β := β) (j := 0) (by decide)) (laid_fun (m := 4) L' rfl) k1 (fun b hb => k2 b (mem_bs (m := 4) (l := newBs s.heap.objs.size (bsOf 4 β) [0, 1, 20, 26]) rfl hb))
theorem put_sc_6 : PutC w st_sc_6 st_sc_7 12549 (fun t => .str "Bopo" t) := fun A s Q β τ t2 t3 t4 R X L hQ =>
  step_run (bs := bsOf 4 β) R (laid_size L (by decide)) X L (fun b Q' => run_sc_7 b) (by decide) rfl fun h' tk L' k1 k2 => hQ (fun j => (newBs s.heap.objs.size (bsOf 4 β) [0, 1, 20, 26]).getD j 0) _ h' tk (adr_bs (n := s.heap.objs.size) (m := 4) (β := β) (j := 0) (by decide)) (laid_fun (m := 4) L' rfl) k1 (fun b hb => k2 b (mem_bs (m := 4) (l := newBs s.heap.objs.size (bsOf 4 β) [0, 1, 20, 26]) rfl hb))
theorem put_sc_7 : PutC w st_sc_7 st_sc_8 32 (fun t => .str "Zyyy" t) := fun A s Q β τ t2 t3 t4 R X L hQ =>
  step_run (bs := bsOf 4 β) R (laid_size L (by decide)) X L (fun b Q' => run_sc_8 b) (by decide) rfl fun h' tk L' k1 k2 => hQ (fun j => (newBs s.heap.objs.size (bsOf 4 β) [0, 1, 20, 26]).getD j 0) _ h' tk (adr_bs (n := s.heap.objs.size) (m := 4) (β := β) (j := 0) (by decide)) (laid_fun (m := 4) L' rfl) k1 (fun b hb => k2 b (mem_bs (m := 4) (l := newBs s.heap.objs.size (bsOf 4 β) [0, 1, 20, 26]) rfl hb))
theorem put_sc_8 : PutC w st_sc_8 st_sc_9 768 (fun t => .str "Zinh" t) := fun A s Q β τ t2 t3 t4 R X L hQ =>
  step_run (bs := bsOf 4 β) R (laid_size L (by decide)) X L (fun b Q' => run_sc_9 b) (by decide) rfl fun h' tk L' k1 k2 => hQ (fun j => (newBs s.heap.objs.size (bsOf 4 β) [0, 1, 20, 26]).getD j 0) _ h' tk (adr_bs (n := s.heap.objs.size) (m := 4) (β := β) (j := 0) (by decide)) (laid_fun (m := 4) L' rfl) k1 (fun b hb => k2 b (mem_bs (m := 4) (l := newBs s.heap.objs.size (bsOf 4 β) [0, 1, 20, 26]) rfl hb))
theorem put_sc_9 : PutC w st_sc_9 st_sc_10 12540 (fun t => .str "Zyyy" t) := fun A s Q β τ t2 t3 t4 R X L hQ =>
  step_run (bs := bsOf 4 β) R (laid_size L (by decide)) X L (fun b Q' => run_sc_10 b) (by decide) rfl fun h' tk L' k1 k2 => hQ (fun j => (newBs s.heap.objs.size (bsOf 4 β) [0, 1, 20, 26]).getD j 0) _ h' tk (adr_bs (n := s.heap.objs.size) (m := 4) (β := β) (j := 0) (by decide)) (laid_fun (m := 4) L' rfl) k1 (fun b hb => k2 b (mem_bs (m := 4) (l := newBs s.heap.objs.size (bsOf 4 β) [0, 1, 20, 26]) rfl hb))
theorem put_sc_10 : PutC w st_sc_10 st_sc_11 12289 (fun t => .str "Zyyy" t) := fun A s Q β τ t2 t3 t4 R X L hQ =>
  step_run (bs := bsOf 4 β) R (laid_size L (by decide)) X L (fun b Q' => run_sc_11 b) (by decide) rfl fun h' tk L' k1 k2 => hQ (fun j => (newBs s.heap.objs.size (bsOf 4 β) [0, 1, 20, 26]).getD j 0) _ h' tk (adr_bs (n := s.heap.objs.size) (m := 4) (β := β) (j := 0) (by decide)) (laid_fun (m := 4) L' rfl) k1 (fun b hb => k2 b (mem_bs (m := 4) (l := newBs s.heap.objs.size (bsOf 4 β) [0, 1, 20, 26]) rfl hb))
theorem put_sc_11 : PutC w st_sc_11 st_sc_12 867 (fun t => .str "Zinh" t) := fun A s Q β τ t2 t3 t4 R X L hQ =>
  step_run (bs := bsOf 4 β) R (laid_size L (by decide)) X L (fun b Q' => run_sc_12 b) (by decide) rfl fun h' tk L' k1 k2 => hQ (fun j => (newBs s.heap.objs.size (bsOf 4 β) [0, 1, 20, 26]).getD j 0) _ h' tk (adr_bs (n := s.heap.objs.size) (m := 4) (β := β) (j := 0) (by decide)) (laid_fun (m := 4) L' rfl) k1 (fun b hb => k2 b (mem_bs (m := 4) (l := newBs s.heap.objs.size (bsOf 4 β) [0, 1, 20, 26]) rfl hb))
theorem put_sc_12 : PutC w st_sc_12 st_sc_13 57344 (fun t => .str "Zzzz" t) := fun A s Q β τ t2 t3 t4 R X L hQ =>
  step_run (bs := bsOf 4 β) R (laid_size L (by decide)) X L (fun b Q' => run_sc_13 b) (by decide) rfl fun h' tk L' k1 k2 => hQ (fun j => (newBs s.heap.objs.size (bsOf 4 β) [0, 1, 28, 34]).getD j 0) _ h' tk (adr_bs (n := s.heap.objs.size) (m := 4) (β := β) (j := 0) (by decide)) (laid_fun (m := 4) L' rfl) k1 (fun b hb => k2 b (mem_bs (m := 4) (l := newBs s.heap.objs.size (bsOf 4 β) [0, 1, 28, 34]) rfl hb))
theorem put_scx_0 : PutC w st_scx_0 st_scx_1 12540 (fun _ => .ref 211) := fun A s Q β τ t2 t3 t4 R X L hQ =>
  step_run (bs := bsOf 4 β) R (laid_size L (by decide)) X L (fun b Q' => run_scx_1 b) (by decide) rfl fun h' tk L' k1 k2 => hQ (fun j => (newBs s.heap.objs.size (bsOf 4 β) [0, 1, 20, 26]).getD j 0) _ h' tk (adr_bs (n := s.heap.objs.size) (m := 4) (β := β) (j := 0) (by decide)) (laid_fun (m := 4) L' rfl) k1 (fun b hb => k2 b (mem_bs (m := 4) (l := newBs s.heap.objs.size (bsOf 4 β) [0, 1, 20, 26]) rfl hb))
theorem put_scx_1 : PutC w st_scx_1 st_scx_2 12289 (fun _ => .ref 213) := fun A s Q β τ t2 t3 t4 R X L hQ =>
  step_run (bs := bsOf 4 β) R (laid_size L (by decide)) X L (fun b Q' => run_scx_2 b) (by decide) rfl fun h' tk L' k1 k2 => hQ (fun j => (newBs s.heap.objs.size (bsOf 4 β) [0, 1, 20, 26]).getD j 0) _ h' tk (adr_bs (n := s.heap.objs.size) (m := 4) (β := β) (j := 0) (by decide)) (laid_fun (m := 4) L' rfl) k1 (fun b hb => k2 b (mem_bs (m := 4) (l := newBs s.heap.objs.size (bsOf 4 β) [0, 1, 20, 26]) rfl hb))
theorem put_scx_2 : PutC w st_scx_2 st_scx_3 867 (fun _ => .ref 215) := fun A s Q β τ t2 t3 t4 R X L hQ =>
  step_run (bs := bsOf 4 β) R (laid_size L (by decide)) X L (fun b Q' => run_scx_3 b) (by decide) rfl fun h' tk L' k1 k2 => hQ (fun j => (newBs s.heap.objs.size (bsOf 4 β) [0, 1, 20, 26]).getD j 0) _ h' tk (adr_bs (n := s.heap.objs.size) (m := 4) (β := β) (j := 0) (by decide)) (laid_fun (m := 4) L' rfl) k1 (fun b hb => k2 b (mem_bs (m := 4) (l := newBs s.heap.objs.size (bsOf 4 β) [0, 1, 20, 26]) rfl hb))
theorem new_sc : NewC w st_sc_0 (fun t => .str "Zzzz" t) := fun A s Q t4 R X hn hQ =>
  step_run (bs := []) (objs := []) R hn X ⟨.nil, fun b hb => (nomatch hb), rfl, fun j b o hj _ => by simp at hj⟩ (fun b Q' => run_sc_0 b) (by decide) rfl fun h' tk L' k1 k2 => hQ (fun j => (newBs s.heap.objs.size [] [1, 0, 3, 4]).getD j 0) _ h' tk (laid_fun (m := 4) L' rfl) (fun b o e => k1 b o (by simp) e) (fun b hb => (k2 b (mem_bs (m := 4) (l := newBs s.heap.objs.size [] [1, 0, 3, 4]) rfl hb)).elim (fun z => (nomatch z)) id)
theorem new_scx : NewC w st_scx_0 (fun _ => .none) := fun A s Q t4 R X hn hQ =>
  step_run (bs := []) (objs := []) R hn X ⟨.nil, fun b hb => (nomatch hb), rfl, fun j b o hj _ => by simp at hj⟩ (fun b Q' => run_scx_0 b) (by decide) rfl fun h' tk L' k1 k2 => hQ (fun j => (newBs s.heap.objs.size [] [1, 0, 3, 4]).getD j 0) _ h' tk (laid_fun (m := 4) L' rfl) (fun b o e => k1 b o (by simp) e) (fun b hb => (k2 b (mem_bs (m := 4) (l := newBs s.heap.objs.size [] [1, 0, 3, 4]) rfl hb)).elim (fun z => (nomatch z)) id)
theorem new_data (A : Around) (s : Shared) (Q : Value → Shared → Prop) (R : Room 318 A) (X : (hd.heap_227 w.params).In s.heap) (hn : 246 ≤ s.heap.objs.size)
    (hQ : ∀ (β' τ' : Nat → Nat) (h' : Heap) (tk : Nat), Laid (st_data_0 w.params β' τ') (bsOf 12 β') h' → Hk s.heap h' → (∀ b ∈ bsOf 12 β', s.heap.get? b = none) → Q (.ref (β' 0)) { s with heap := h', toks := tk }) :
    wpAny (model prgH w) A (call (.ref 178) []) Q (fun _ _ => False) s :=
  step_run (bs := []) (objs := []) R hn X ⟨.nil, fun b hb => (nomatch hb), rfl, fun j b o hj _ => by simp at hj⟩ (fun b Q' => run_data_0 b) (by decide) rfl fun h' tk L' k1 k2 => hQ (fun j => (newBs s.heap.objs.size [] [1, 0, 4, 27, 28, 29, 19, 20, 21, 22, 26, 25]).getD j 0) _ h' tk (laid_fun (m := 12) L' rfl) (fun b o e => k1 b o (by simp) e) (fun b hb => (k2 b (mem_bs (m := 12) (l := newBs s.heap.objs.size [] [1, 0, 4, 27, 28, 29, 19, 20, 21, 22, 26, 25]) rfl hb)).elim (fun z => (nomatch z)) id)
end
end
section
open PySem PySem.W PySem.W.X PySem.Calls PyProof.Rows PySem.SeqAt PySem.Spec
set_option autoImplicit false
set_option linter.unusedVariables false
set_option maxRecDepth 100000
/-- a top that knows some objects more -/
noncomputable def Top0.plus (T : Top0) (l : List (Addr × Obj)) : Top0 := ⟨T.mg, T.mb, fun a => match T.K a with | some o => some o | none => l.lookup a⟩
theorem Top0.plus_ext (T : Top0) (l : List (Addr × Obj)) : Ext T (T.plus l) := ⟨rfl, rfl, fun a o e => by show (match T.K a with | some o => some o | none => l.lookup a) = _; rw [e]⟩
theorem mem_lookup {l : List (Addr × Obj)} {a : Addr} {o : Obj} : l.lookup a = some o → (a, o) ∈ l := by
  induction l with
  | nil => intro h; cases h
  | cons x l ih =>
    obtain ⟨b, p⟩ := x
    intro h
    rw [List.lookup_cons] at h
    by_cases e : a = b
    · subst e
      rw [beq_self_eq_true] at h
      cases h
      exact List.mem_cons_self
    · rw [show (a == b) = false by simpa using e] at h
      exact List.mem_cons_of_mem _ (ih h)
theorem Top0.plus_at {T : Top0} {l : List (Addr × Obj)} {h : Heap} (t : T.At h) (hl : ∀ x ∈ l, h.get? x.1 = some x.2) : (T.plus l).At h := by
  refine ⟨t.g, t.b, t.lim, fun a o e => ?_⟩
  have e' : (match T.K a with | some o => some o | none => l.lookup a) = some o := e
  cases q : T.K a with
  | some o' => rw [q] at e'; cases e'; exact t.k a o q
  | none => rw [q] at e'; exact hl _ (mem_lookup e')
theorem Top0.plus_k {T : Top0} {l : List (Addr × Obj)} {h : Heap} (t : T.At h) (hl : ∀ x ∈ l, h.get? x.1 = some x.2) {a : Addr} {o : Obj} (e : (a, o) ∈ l) : (T.plus l).K a = some o := by
  show (match T.K a with | some o => some o | none => l.lookup a) = some o
  have ho := hl _ e
  cases q : T.K a with
  | some o' =>
    have := t.k a o' q
    rw [ho] at this
    exact this.symm
  | none =>
    cases q2 : l.lookup a with
    | none =>
      exfalso
      rw [List.lookup_eq_none_iff] at q2
      have := q2 _ e
      simp at this
    | some o' =>
      have := hl _ (mem_lookup q2)
      rw [ho] at this
      exact this.symm
theorem Top0.plus_off {T : Top0} {l : List (Addr × Obj)} {a : Addr} (h : T.K a = none) (hl : ∀ x ∈ l, x.1 ≠ a) : (T.plus l).K a = none := by
  show (match T.K a with | some o => some o | none => l.lookup a) = none
  rw [h]
  cases q : l.lookup a with
  | none => rfl
  | some o => exact absurd rfl (hl _ (mem_lookup q))
theorem Top0.plus_in {T : Top0} {l : List (Addr × Obj)} {a : Addr} {o : Obj} (h : (T.plus l).K a = some o) : T.K a = some o ∨ (a, o) ∈ l := by
  have e' : (match T.K a with | some o => some o | none => l.lookup a) = some o := h
  cases q : T.K a with
  | some o' => rw [q] at e'; exact .inl e'
  | none => rw [q] at e'; exact .inr (mem_lookup e')
/-- a method of an object, whatever it changes -/
theorem meth_eff {w : World} {A : Around} {env : Env} {s : Shared} {K : Frag} {C g : Addr} {name : Str} {o e : PySem.Expr} {es : List PySem.Expr} {pa pos : Pos} {pl : Sem Bool} {Q : Value → Shared → Prop} {E : Value → Shared → Prop}
    (ho : wpAny (model prgH w) A (eval o env) (fun v s₁ => ∃ da ox od, v = .ref da ∧ K.In s₁.heap ∧ InstAt s₁.heap da ox C od ∧ MethOf K C g od name ∧
      wpAny (model prgH w) A (spliced (backTo pos (starEach (e :: es) env))) (fun vs s₂ => K.In s₂.heap ∧ wpAny (model prgH w) A (call (.ref g) (.ref da :: vs)) Q E s₂) E s₁) E s)
    (hform : eval (.Call (.Attribute o name pa) (e :: es) [] pos) env = (do
      let ov ← eval o env
      standAt pa.atName
      let (f, first) ← holding [ov] (getMethod ov name pl)
      callWith pos f first (backTo pos (starEach (e :: es) env)) (backToKw pos (keywordEach [] env))))
    (hpl : ((backTo pos (starEach (e :: es) env)).any (·.1) || (backToKw pos (keywordEach [] env)).any (·.1.isNone)) = false) (hne : starEach (e :: es) env = (false, eval e env) :: starEach es env) :
    wpAny (model prgH w) A (eval (.Call (.Attribute o name pa) (e :: es) [] pos) env) Q E s := by
  refine methodCall_KW (pl := pl) ?_ hform
  refine wpAny_mono ho (fun v s₁ h₁ => ?_) (fun _ _ f => f)
  obtain ⟨da, ox, od, rfl, hK, hI, M, h₁⟩ := h₁
  refine method_fn hK hI M.ga M.gx M.fn M.ty M.sh ?_
  refine callWith_KW (kws := []) hK M.kp rfl ?_ hpl hne
  refine wpAny_mono h₁ (fun vs s₂ ⟨k₂, r₂⟩ => ?_) (fun _ _ f => f)
  exact wpAny_pure ⟨k₂, r₂⟩
/-- the objects that hold the database together -/
structure MapsAt (w : World) (δ : Nat → Nat) (kvs : List (Str × Value)) (h : Heap) : Prop where
  ds : ∃ τ, ∀ j, j < 3 → ∀ o, (st_data_0 w.params δ τ)[j]? = some o → h.get? (δ j) = some o
  mp : h.DictOf (PySem.strKind prg w) (δ 3) kvs
  lo : ∀ j, j < 4 → 246 ≤ δ j
  nd : ∀ j, j < 3 → δ j ≠ δ 3
theorem MapsAt.at_ {w : World} {δ : Nat → Nat} {kvs : List (Str × Value)} {h h' : Heap} (M : MapsAt w δ kvs h) (hk : ∀ j, j < 4 → ∀ o, h.get? (δ j) = some o → h'.get? (δ j) = some o) : MapsAt w δ kvs h' := by
  obtain ⟨τ, ht⟩ := M.ds
  exact ⟨⟨τ, fun j hj o ho => hk j (by omega) o (ht j hj o ho)⟩, M.mp.at fun o e => hk 3 (by decide) o e, M.lo, M.nd⟩
theorem MapsAt.keep {w : World} {δ : Nat → Nat} {kvs : List (Str × Value)} {h h' : Heap} (M : MapsAt w δ kvs h) (hk : Hk h h') : MapsAt w δ kvs h' := M.at_ fun _ _ o e => hk _ o e
/-- what a table by texts leads to -/
noncomputable def unE (e : DictEntry) : Str × Tok × Value := match e.key with | .str x t => (x, t, e.val) | _ => ("", 0, .none)
noncomputable def mkE (P : Params) (x : Str × Tok × Value) : DictEntry := ⟨PyData.keyHash P x.1, .str x.1 x.2.1, x.2.2⟩
theorem mapOf_entries {w : World} {h : Heap} {a : Addr} {es : Array DictEntry} {ep : Nat} (ho : h.get? a = some { cls := .type "dict", dict := none, data := .dict es ep, slots := #[] }) (e : es.toList = (es.toList.map unE).map (mkE w.params)) :
    h.MapOf (PySem.strKind prg w) a (fun k => findBy (PySem.strKind prg w).is es k) := by
  refine ⟨_, es, ep, ho, ⟨rfl, rfl, rfl⟩, rfl, fun en hen => ?_, fun k => rfl⟩
  have hen' : en ∈ es.toList := hen.val
  rw [e] at hen'
  obtain ⟨x, _, rfl⟩ := List.mem_map.mp hen'
  exact ⟨x.1, is_str.mpr ⟨_, rfl⟩, rfl⟩
end
section
open PySem PySem.W PySem.Calls PyProof.Rows PySem.SeqAt PySem.Spec
set_option autoImplicit false
set_option linter.unusedVariables false
set_option maxRecDepth 100000
section
variable {prog : Program} {w : World} {T T' : Top0} {A : Around} {env : Env} {σ σ' : Sg} {n : Nat} {B₀ : Heap} {s s' : Shared} {X X' : Addr → Prop} {E' : Value → Shared → Prop} {P : Flow → Shared → Prop}
  {rest : List Stmt}
/-- a frame at work that changes only what is new -/
structure FX (T : Top0) (env : Env) (B₀ : Heap) (X : Addr → Prop) (σ : Sg) (s : Shared) : Prop where
  fs : FS T env B₀ s X [] σ none s
  xB : ∀ b, X b → B₀.get? b = none
  gl : ∃ T₁ : Top0, T₁.At B₀
theorem FX.hk (F : FX T env B₀ X σ s) : Hk B₀ s.heap := F.fs.kp.1
theorem FX.envR (F : FX T env B₀ X σ s) : EnvR T env σ (wth X (places env [])) s.heap := F.fs.envR
theorem FX.hT (F : FX T env B₀ X σ s) : ∀ b, X b → T.K b = none ∧ b ≠ mainGlobals ∧ b ≠ builtinsNs ∧ b ≠ cStatics := fun b hb => by
  obtain ⟨m, cm, G⟩ := F.fs
  obtain ⟨T₁, t₁⟩ := F.gl
  have hb0 := F.xB b hb
  refine ⟨?_, fun e => ?_, fun e => ?_, fun e => ?_⟩
  · cases e : T.K b with
    | none => rfl
    | some o => exact absurd hb (G.tx b o e)
  · obtain ⟨o, _, _, ho, _⟩ := t₁.g; rw [← e, hb0] at ho; cases ho
  · obtain ⟨o, _, _, ho, _⟩ := t₁.b; rw [← e, hb0] at ho; cases ho
  · obtain ⟨_, ⟨o, _, _, ho, _⟩, _⟩ := t₁.lim; rw [← e, hb0] at ho; cases ho
theorem FX.keep (F : FX T env B₀ X σ s) (k : Kp s s') : FX T env B₀ X σ s' := ⟨(F.fs.keep k).rebase, F.xB, F.gl⟩
theorem FX.sub (F : FX T env B₀ X σ s) (h : ∀ x d, σ' x = some d → σ x = some d) : FX T env B₀ X σ' s := ⟨F.fs.sub h, F.xB, F.gl⟩
theorem FX.live (F : FX T env B₀ X σ s) : ∀ b, X b → ∃ o, s.heap.get? b = some o := fun b hb => by
  obtain ⟨m, cm, G⟩ := F.fs
  exact G.live b hb
theorem FX.step (F : FX T env B₀ X σ s) (he : outer s' = outer s) (hk : ∀ b o, ¬ X b → s.heap.get? b = some o → s'.heap.get? b = some o) (hX' : ∀ b, X' b → X b ∨ s.heap.get? b = none) (hl : ∀ b, X' b → ∃ o, s'.heap.get? b = some o) : FX T env B₀ X' σ s' :=
  ⟨F.fs.reX he hk hX' hl F.xB F.hT, fun b hb => (hX' b hb).elim (F.xB b) fun h => (by
    cases e : B₀.get? b with
    | none => rfl
    | some o => rw [F.hk b o e] at h; cases h), F.gl⟩
/-- fewer things are laid aside -/
theorem FX.subX (F : FX T env B₀ X σ s) (h : ∀ b, X' b → X b) : FX T env B₀ X' σ s :=
  F.step rfl (fun b o _ e => e) (fun b hb => .inl (h b hb)) fun b hb => F.live b (h b hb)
/-- a for statement whose body changes what is laid aside -/
theorem b_forJ {target iter : PySem.Expr} {body : List Stmt} {p : Pos} {d₀ : D} {ds : List D} (σs σt : Nat → Sg) (J : Nat → (Addr → Prop) → Heap → Prop)
    (hJ : ∀ i X h h', J i X h → (∀ b o, X b → h.get? b = some o → h'.get? b = some o) → J i X h')
    (F : FX T env B₀ X (σs 0) s) (j0 : J 0 X s.heap) (hA : A.handled = none) (hd : d₀ = .lst ds ∨ d₀ = .tup ds) (hi : Ev prog w T A env (σs 0) iter d₀) (hsi : ∀ x, foldedSetIterable iter env x = pure x)
    (htk : ∀ i d, ds[i]? = some d → Takes prog w T A env target d (σs i) (σt i) none)
    (hbody : ∀ i d, ds[i]? = some d → ∀ X I s₂, FX T env B₀ (wI X I) (σt i) s₂ → ¬ X I → J i X s₂.heap →
      wpAny (model prog w) A (execs body env) (fun f s₃ => match f with
        | .next | .cont => ∃ X', FX T env B₀ (wI X' I) (σs (i + 1)) s₃ ∧ J (i + 1) X' s₃.heap ∧ outer s₃ = outer s₂ ∧ (∀ b o, ¬ X b → b ∉ places env [] → s₂.heap.get? b = some o → s₃.heap.get? b = some o) ∧ (∀ b, X' b → X b ∨ s₂.heap.get? b = none)
        | _ => False) (fun _ _ => False) s₂)
    (hrest : ∀ X' s', FX T env B₀ X' (σs ds.length) s' → J ds.length X' s'.heap → outer s' = outer s → wpAny (model prog w) A (execs rest env) P E' s') :
    wpAny (model prog w) A (execs (.For target iter body [] p :: rest) env) P E' s := by
  refine wpAny_execs_cons (wpAny_For ?_ hsi)
  refine wpAny_mono (hi.run _ s F.envR) (fun v s₁ ⟨k, r⟩ => ?_) (fun _ _ f => f.elim)
  have F₁ := F.keep k
  have j1 : J 0 X s₁.heap := hJ _ _ _ _ j0 fun b o _ e => k.hk b o e
  refine pyIter_seq hA hd r fun I ax items o o' St hI hax ⟨hIe, haxX⟩ hr hIt hfo hst => ?_
  have F₂ := F₁.fs.addX (I := I) (Kp.push s₁ o' s₁.toks) hI ⟨o', hIe ▸ Heap.get?_push_size _ hfo⟩
  have tI : T.K I = none ∧ I ≠ mainGlobals ∧ I ≠ builtinsNs ∧ I ≠ cStatics := off_new F₁.envR.top hI
  have bI : B₀.get? I = none := by
    cases e : B₀.get? I with
    | none => rfl
    | some o => rw [F₁.hk I o e] at hI; cases hI
  have hIp : I ∉ places env [] := fun z => by
    obtain ⟨m, cm, G⟩ := F₁.fs
    obtain ⟨o, ho⟩ := G.liveP I z; rw [hI] at ho; cases ho
  have xI : ¬ X I := fun z => by
    obtain ⟨o, ho⟩ := F₁.live I z; rw [hI] at ho; cases ho
  have hne : ax ≠ I := fun z => by rw [z, hI] at hax; cases hax
  have haxp : ax ∉ places env [] := fun z => haxX (.inr z)
  have hr2 : RepL (wth (wI X I) (places env [])) (s₁.heap.push o') items ds :=
    (hr.avoid (Y := wth (wI X I) (places env [])) fun b hb => by
      rcases hb with (hb | rfl) | hb
      · exact .inl (.inl hb)
      · exact .inr hI
      · exact .inl (.inr hb)).keep fun b q e => Heap.get?_push_of_some _ e
  have hlen : items.length = ds.length := hr.length
  have fx : ∀ {X' : Addr → Prop} {s' : Shared} {σ'}, FS T env B₀ s' (wI X' I) [] σ' none s' → (∀ b, X' b → B₀.get? b = none) → FX T env B₀ (wI X' I) σ' s' := fun {X' s' σ'} G h => ⟨G, fun b hb => hb.elim (h b) fun e => e ▸ bI, F.gl⟩
  refine codeAny_forLoop_any (fun k s' => ∃ i X', i ≤ ds.length ∧ k = ds.length + 1 - i ∧ FX T env B₀ (wI X' I) (σs i) s' ∧ J i X' s'.heap ∧ RepL (wth (wI X' I) (places env [])) s'.heap items ds ∧ St i s'.heap ∧
    outer s' = outer s₁ ∧ ¬ X' I ∧ ¬ X' ax ∧ ∃ o, s'.heap.get? ax = some o) ?_ (ds.length + 1) ⟨0, X, Nat.zero_le _, rfl, fx F₂ F₁.xB, hJ _ _ _ _ j1 (fun b o _ e => Heap.get?_push_of_some _ e), hr2, hst, rfl, xI, fun z => haxX (.inl z), o, Heap.get?_push_of_some _ hax⟩
  rintro k s' ⟨i, X', hi', rfl, F', J', hr', st', he', xI', xA', ⟨oa, hoa⟩⟩
  have nX' : ∀ {b}, X' b → b ∉ [I] := fun {b} hb => by simp only [List.mem_singleton]; exact fun z => xI' (z ▸ hb)
  by_cases hlt : i < ds.length
  · refine hIt.walks.item i _ _ _ (by rw [hlen]; exact hlt) st' fun v h₁ tk₁ hv hst₁ hk₁ => ?_
    obtain ⟨d, hd⟩ : ∃ d, ds[i]? = some d := ⟨ds[i], by simp [hlt]⟩
    have F₃ := F'.fs.touchX (s' := { s' with heap := h₁, toks := tk₁ }) (I := I) (.inr rfl) (fun _ _ => tI) bI rfl (fun b o hb e => hk₁ b o (by simpa using hb) e) (let ⟨o, ho, _⟩ := hIt.live _ _ hst₁; ⟨o, ho⟩)
    have hr₃ : RepL (wth (wI X' I) (places env [])) h₁ items ds := hr'.mono fun b o hb e => hk₁ b o (by simp only [List.mem_singleton]; exact fun z => hb (.inl (.inr z))) e
    have J₃ : J i X' h₁ := hJ _ _ _ _ J' fun b o hb e => hk₁ b o (nX' hb) e
    have hoa₃ : h₁.get? ax = some oa := hk₁ ax oa (by simpa using hne) hoa
    obtain ⟨v', hv', rv⟩ := hr₃.get hd
    rw [hv] at hv'
    cases hv'
    refine wpAny_mono (htk i d hd B₀ _ _ [] I v _ (fun _ s₂ => FS T env B₀ { s' with heap := h₁, toks := tk₁ } (wI X' I) [] (σt i) none s₂) (fun _ _ => False) F₃ rv (hIt.live _ _ hst₁) fun s₂ G => G) (fun _ s₁' h' => ?_) (fun _ _ f => f.elim)
    refine wpAny_mono h' (fun _ s₂ G => ?_) (fun _ _ f => f.elim)
    have hXp : ∀ b, X' b → b ∉ places env [] := fun b hb z => by
      obtain ⟨m, cm, G'⟩ := G
      exact G'.xa b z (.inl hb)
    have k₂ : Bt (places env []) h₁ s₂.heap := by obtain ⟨m, cm, G'⟩ := G; exact G'.keep
    have J₂ : J i X' s₂.heap := hJ _ _ _ _ J₃ fun b o hb e => k₂ b o (hXp b hb) e
    have st₂ : St (i + 1) s₂.heap := hIt.walks.frame _ _ _ hst₁ fun b hb o e => by
      simp only [List.mem_cons, List.not_mem_nil, or_false] at hb
      rcases hb with rfl | rfl
      · exact k₂ _ o hIp e
      · exact k₂ _ o haxp e
    have hr₄ := hr₃.past k₂
    have hoa₄ := k₂ ax oa haxp hoa₃
    obtain ⟨oI, hoI⟩ : ∃ o, s₂.heap.get? I = some o := let ⟨o, ho, _⟩ := hIt.live _ _ st₂; ⟨o, ho⟩
    refine wpAny_mono (hbody i d hd X' I s₂ (fx G.rebase fun b hb => F'.xB b (.inl hb)) xI' J₂) (fun f s₃ h₃ => ?_) (fun _ _ f => f.elim)
    have cont : (∃ X'', FX T env B₀ (wI X'' I) (σs (i + 1)) s₃ ∧ J (i + 1) X'' s₃.heap ∧ outer s₃ = outer s₂ ∧ (∀ b o, ¬ X' b → b ∉ places env [] → s₂.heap.get? b = some o → s₃.heap.get? b = some o) ∧ (∀ b, X'' b → X' b ∨ s₂.heap.get? b = none)) →
        ∃ X'', FX T env B₀ (wI X'' I) (σs (i + 1)) s₃ ∧ J (i + 1) X'' s₃.heap ∧ RepL (wth (wI X'' I) (places env [])) s₃.heap items ds ∧ St (i + 1) s₃.heap ∧ outer s₃ = outer s₁ ∧ ¬ X'' I ∧ ¬ X'' ax ∧ ∃ o, s₃.heap.get? ax = some o := by
      rintro ⟨X'', F₅, J₅, o₅, k₅, x₅⟩
      refine ⟨X'', F₅, J₅, ?_, hIt.walks.frame _ _ _ st₂ fun b hb o e => ?_, by rw [o₅, G.kp.2]; exact he', fun z => ?_, fun z => ?_, oa, k₅ ax oa xA' haxp hoa₄⟩
      · have h5 : RepL (wth (wI X' I) (places env [])) s₃.heap items ds := hr₄.mono fun b o hb e => k₅ b o (fun z => hb (.inl (.inl z))) (fun z => hb (.inr z)) e
        have h6 : RepL (wth (fun b => wI X' I b ∨ X'' b) (places env [])) s₂.heap items ds := hr₄.avoid fun b hb => by
          rcases hb with (hb | hb) | hb
          · exact .inl (.inl hb)
          · exact (x₅ b hb).imp (fun z => .inl (.inl z)) id
          · exact .inl (.inr hb)
        have h7 : RepL (wth (fun b => wI X' I b ∨ X'' b) (places env [])) s₃.heap items ds := h6.mono fun b o hb e => k₅ b o (fun z => hb (.inl (.inl (.inl z)))) (fun z => hb (.inr z)) e
        exact h7.avoid fun b hb => by
          rcases hb with (hb | hb) | hb
          · exact .inl (.inl (.inr hb))
          · exact .inl (.inl (.inl (.inr hb)))
          · exact .inl (.inr hb)
      · simp only [List.mem_cons, List.not_mem_nil, or_false] at hb
        rcases hb with rfl | rfl
        · exact k₅ _ o xI' hIp e
        · exact k₅ _ o xA' haxp e
      · rcases x₅ _ z with h | h
        · exact xI' h
        · rw [hoI] at h; cases h
      · rcases x₅ _ z with h | h
        · exact xA' h
        · rw [hoa₄] at h; cases h
    cases f with
    | next => obtain ⟨X'', a⟩ := cont h₃; exact ⟨ds.length + 1 - (i + 1), by omega, i + 1, X'', hlt, rfl, a⟩
    | cont => obtain ⟨X'', a⟩ := cont h₃; exact ⟨ds.length + 1 - (i + 1), by omega, i + 1, X'', hlt, rfl, a⟩
    | brk => exact h₃.elim
    | ret v => exact h₃.elim
  · have hin : i = ds.length := by omega
    subst hin
    refine hIt.walks.done _ _ _ (by rw [hlen]; exact st') fun h₁ tk₁ hk₁ => ?_
    have F₃ := F'.fs.touchOff (s' := { s' with heap := h₁, toks := tk₁ }) xI' tI bI rfl (fun b o hb e => hk₁ b o (by simpa using hb) e)
    refine wpAny_execs_nil (hrest X' _ ⟨F₃, fun b hb => F'.xB b (.inl hb), F.gl⟩ (hJ _ _ _ _ J' fun b o hb e => hk₁ b o (nX' hb) e) ?_)
    exact he'.trans k.eq
end
end
section
open PySem PySem.W PySem.Calls PyProof.Rows PySem.SeqAt PySem.Spec
set_option autoImplicit false
set_option linter.unusedVariables false
set_option maxRecDepth 100000
section
variable {prog : Program} {w : World} {T T' : Top0} {A : Around} {env : Env} {σ σ' : Sg} {n : Nat} {B₀ : Heap} {B s s' : Shared} {X X' : Addr → Prop} {own : List Addr} {ow ow' : Ow} {E' : Value → Shared → Prop} {P : Flow → Shared → Prop}
  {rest : List Stmt}
/-- figures -/
theorem ev_int2 {l r : PySem.Expr} {op : Operator} {pos : Pos} {a b c : Int} (hl : Ev prog w T A env σ l (.int a)) (hr : Ev prog w T A env σ r (.int b))
    (rule : ∀ (s : Shared) (t u : Tok) (Q : Value → Shared → Prop), Q (.int c s.toks) { s with toks := s.toks + 1 } → wpAny (model prog w) A (binaryOp op (.int a t) (.int b u)) Q (fun _ _ => False) s) : Ev prog w T A env σ (.BinOp l op r pos) (.int c) := .mk fun X s E => by
  refine wpAny_BinOp ?_
  refine wpAny_mono (hl.run X s E) (fun v s₁ ⟨k₁, r₁⟩ => ?_) (fun _ _ f => f)
  have E₁ := E.keep k₁.hk
  refine wpAny_mono (hr.run X s₁ E₁) (fun i s₂ ⟨k₂, r₂⟩ => ?_) (fun _ _ f => f)
  cases r₁
  cases r₂
  exact rule _ _ _ _ ⟨(k₁.trans k₂).trans (.tok _ _), .int _ _⟩
theorem ev_addI {l r : PySem.Expr} {pos : Pos} {a b : Int} (hl : Ev prog w T A env σ l (.int a)) (hr : Ev prog w T A env σ r (.int b)) : Ev prog w T A env σ (.BinOp l .Add r pos) (.int (a + b)) := ev_int2 hl hr fun s t u Q h => wpAny_add_int h
theorem ev_mulI {l r : PySem.Expr} {pos : Pos} {a b : Int} (hl : Ev prog w T A env σ l (.int a)) (hr : Ev prog w T A env σ r (.int b)) (hm : IntMulOk a b) : Ev prog w T A env σ (.BinOp l .Mult r pos) (.int (a * b)) := ev_int2 hl hr fun s t u Q h => mul_int h hm
theorem ev_modI {l r : PySem.Expr} {pos : Pos} {a b : Int} (hl : Ev prog w T A env σ l (.int a)) (hr : Ev prog w T A env σ r (.int b)) (hb : b ≠ 0) : Ev prog w T A env σ (.BinOp l .Mod r pos) (.int (a.fmod b)) := ev_int2 hl hr fun s t u Q h => mod_int' hb h
theorem ev_divI {l r : PySem.Expr} {pos : Pos} {a b : Int} (hl : Ev prog w T A env σ l (.int a)) (hr : Ev prog w T A env σ r (.int b)) (hb : b ≠ 0) (hs : b.natAbs < 1073741824) : Ev prog w T A env σ (.BinOp l .FloorDiv r pos) (.int (a.fdiv b)) := ev_int2 hl hr fun s t u Q h => floordiv_int hb h (.inl (PyProof.noPylong_small hs))
theorem cmp_ge_int {a b : Int} : Cmp prog w A .GtE (.int a) (.int b) (decide (b ≤ a)) := by
  refine .mk fun X s v v' r r' => ?_
  cases r
  cases r'
  exact ge_int ⟨.refl s, rfl⟩
/-- data that lie nowhere -/
noncomputable def D.flat : D → Bool
  | .tup _ => false
  | .lst _ => false
  | _ => true
theorem Rep.flat {X X' : Addr → Prop} {h h' : Heap} {v : Value} {d : D} (r : Rep X h v d) (f : d.flat = true) : Rep X' h' v d := by
  cases r with
  | none => exact .none
  | bool b => exact .bool b
  | int i t => exact .int i t
  | str s t => exact .str s t
  | obj a => exact .obj a
  | tup _ _ _ => cases f
  | lst _ _ _ => cases f
end
end
section
open PySem PySem.W PySem.W.X PySem.Calls PyProof.Rows PySem.SeqAt PySem.Spec
set_option autoImplicit false
set_option linter.unusedVariables false
set_option maxRecDepth 100000
theorem top_hi' {P : Params} {a : Addr} (h : 246 ≤ a) : (T0 P).K a = none ∧ a ≠ mainGlobals ∧ a ≠ builtinsNs ∧ a ≠ cStatics := by
  refine ⟨?_, fun e => absurd (e ▸ h) (by decide), fun e => absurd (e ▸ h) (by decide), fun e => absurd (e ▸ h) (by decide)⟩
  have hall : (hd.heap_227 P).all (fun p => Nat.blt p.1 246) = true := by kernel_rfl
  rw [List.all_eq_true] at hall
  show (hd.heap_227 P).lookup a = none
  rw [List.lookup_eq_none_iff]
  intro p hp
  have := Z.blt_iff.mp (hall p hp)
  have hne : a ≠ p.1 := fun e => absurd (e ▸ this : a < 246) (Nat.not_lt.mpr h)
  simpa using hne
section
variable {P : Params} {env : Env} {σ : Sg} {B₀ : Heap} {B s s' : Shared} {l l' : List (Addr × Obj)}
/-- some objects were changed -/
theorem FS.mut (F : FS ((T0 P).plus l) env B₀ B (fun _ => False) [] σ none s) (fl : ∀ x d, σ x = some d → d.flat = true) (he : outer s' = outer s) (hl' : ∀ x ∈ l', s'.heap.get? x.1 = some x.2) (hi : ∀ x ∈ l', 246 ≤ x.1)
    (hp : ∀ b ∈ places env [], ∀ x ∈ l', x.1 ≠ b) (hk : ∀ b o, (∀ x ∈ l', x.1 ≠ b) → s.heap.get? b = some o → s'.heap.get? b = some o) : FS ((T0 P).plus l') env {} s' (fun _ => False) [] σ none s' := by
  obtain ⟨m, cm, F⟩ := F.rebase
  have tp : (T0 P).At s.heap := (Top0.plus_ext _ _).at_ F.top
  have ne : ∀ a, (T0 P).K a ≠ none ∨ a = mainGlobals ∨ a = builtinsNs ∨ a = cStatics → ∀ x ∈ l', x.1 ≠ a := fun a ha x hx e => by
    obtain ⟨h1, h2, h3, h4⟩ := top_hi' (P := P) (hi x hx)
    rw [e] at h1 h2 h3 h4
    rcases ha with ha | ha | ha | ha
    · exact ha h1
    · exact h2 ha
    · exact h3 ha
    · exact h4 ha
  have tp' : (T0 P).At s'.heap := by
    refine ⟨tp.g.at' fun o e => hk _ o (ne _ (.inr (.inl rfl))) e, tp.b.at' fun o e => hk _ o (ne _ (.inr (.inr (.inl rfl)))) e, ?_, fun a o e => hk a o (ne a (.inl (by rw [e]; simp))) (tp.k a o e)⟩
    obtain ⟨mc, h1, h2⟩ := tp.lim
    exact ⟨mc, h1.at' fun o e => hk _ o (ne _ (.inr (.inr (.inr rfl)))) e, h2⟩
  refine ⟨m, cm, { F with same := rfl, keep := fun _ _ _ e => e, ns := F.ns.at' fun o e => hk _ o (hp _ List.mem_cons_self) e, cell := fun n c hc => ?_, old := fun b o e => (by cases e), fresh := fun b hb => rfl, top := Top0.plus_at tp' hl', off := fun b hb => ⟨Top0.plus_off ?_ (hp b hb), (F.off b hb).2⟩, live := fun b hb => hb.elim, tx := fun a o e z => z, liveP := fun b hb => ?_, get := fun x d hx => ?_, mine := trivial }⟩
  · obtain ⟨o, ho', hd⟩ := F.cell n c hc
    exact ⟨o, hk c o (hp c (List.mem_cons_of_mem _ (List.mem_append_left _ (List.mem_map.mpr ⟨(n, c), mem_of_lookup hc, rfl⟩)))) ho', hd⟩
  · cases e : (T0 P).K b with
    | none => rfl
    | some o =>
      have := (Top0.plus_ext (T0 P) l).k b o e
      rw [(F.off b hb).1] at this; cases this
  · obtain ⟨o, ho⟩ := F.liveP b hb
    exact ⟨o, hk b o (hp b hb) ho⟩
  · have fd := fl x d hx
    obtain ⟨a1, a2, ⟨a3, v, hv, r⟩ | ⟨a3, c, v, hc, hv, r⟩⟩ := F.get x d hx
    · exact ⟨a1, a2, .inl ⟨a3, v, hv, r.flat fd⟩⟩
    · exact ⟨a1, a2, .inr ⟨a3, c, v, hc, hv, r.flat fd⟩⟩
end
/-- the deck of the law -/
structure DeckAt (w : World) (D C : Addr) (l : List Int) (k : Int) (h : Heap) : Prop where
  dict : ∃ m tm tk, h.DictOf (PySem.strKind prg w) D [("cells", .ref C), ("mixed", .int m tm), ("turn", .int k tk)]
  list : ∃ vs n, IsL h C vs n ∧ IntsAre vs.toList l
  lo : 246 ≤ D ∧ 246 ≤ C ∧ D ≠ C
structure DeckT (w : World) (T : Top0) (D C : Addr) (l : List Int) (m k : Int) : Prop where
  dict : ∃ tm tk, ∀ h, T.At h → h.DictOf (PySem.strKind prg w) D [("cells", .ref C), ("mixed", .int m tm), ("turn", .int k tk)]
  list : ∃ vs n, IntsAre vs.toList l ∧ ∀ h, T.At h → IsL h C vs n
theorem DeckAt.keep {w : World} {D C : Addr} {l : List Int} {k : Int} {h h' : Heap} (Z : DeckAt w D C l k h) (hk : ∀ o, h.get? D = some o → h'.get? D = some o) (hc : ∀ o, h.get? C = some o → h'.get? C = some o) : DeckAt w D C l k h' := by
  obtain ⟨m, tm, tk, hd⟩ := Z.dict
  obtain ⟨vs, n, hl, hi⟩ := Z.list
  exact ⟨⟨m, tm, tk, hd.at hk⟩, ⟨vs, n, hc _ hl, hi⟩, Z.lo⟩
theorem DeckAt.top {w : World} {T : Top0} {D C : Addr} {l : List Int} {k : Int} {h : Heap} (Z : DeckAt w D C l k h) (t : T.At h) : ∃ oD oC m, (∀ x ∈ [(D, oD), (C, oC)], h.get? x.1 = some x.2) ∧ DeckT w (T.plus [(D, oD), (C, oC)]) D C l m k ∧ (∃ o, (T.plus [(D, oD), (C, oC)]).K C = some o) := by
  obtain ⟨m, tm, tk, oD, es, ep, hD, rD⟩ := Z.dict
  obtain ⟨vs, n, hC, hi⟩ := Z.list
  generalize hoC : ({ cls := .type "list", dict := none, data := .seq vs n, slots := #[] } : Obj) = oC at hC
  have hC' : h.get? C = some oC := by rw [← hoC]; exact hC
  have hl : ∀ x ∈ [(D, oD), (C, oC)], h.get? x.1 = some x.2 := fun x hx => by
    simp only [List.mem_cons, List.not_mem_nil, or_false] at hx
    rcases hx with rfl | rfl
    · exact hD
    · exact hC'
  exact ⟨oD, oC, m, hl, ⟨⟨tm, tk, fun h' t' => ⟨oD, es, ep, t'.k _ _ (Top0.plus_k t hl (by simp)), rD⟩⟩, ⟨vs, n, hi, fun h' t' => by show h'.get? C = _; rw [hoC]; exact t'.k _ _ (Top0.plus_k t hl (by simp))⟩⟩, oC, Top0.plus_k t hl (by simp)⟩
noncomputable def flatS (σ : Sg) : Prop := ∀ x d, σ x = some d → d.flat = true
theorem flatS.up {σ : Sg} (h : flatS σ) {x : Str} {d : D} (hd : d.flat = true) : flatS (upS σ x d) := fun y e hy => by
  unfold upS at hy
  by_cases q : y = x
  · rw [if_pos q] at hy; cases hy; exact hd
  · rw [if_neg q] at hy; exact h y e hy
theorem flatS.sg {names : List Str} {ds : List D} (h : ∀ d ∈ ds, d.flat = true) : flatS (sgOf names ds) := fun x d hx => by
  unfold sgOf at hx
  have hm : ∀ {l : List (Str × D)}, l.lookup x = some d → (x, d) ∈ l := fun {l} => by
    induction l with
    | nil => intro h; cases h
    | cons p l ih =>
      obtain ⟨b, q⟩ := p
      intro h
      rw [List.lookup_cons] at h
      by_cases e : x = b
      · subst e
        rw [beq_self_eq_true] at h
        cases h
        exact List.mem_cons_self
      · rw [show (x == b) = false by simpa using e] at h
        exact List.mem_cons_of_mem _ (ih h)
  exact h d (List.of_mem_zip (hm hx)).2
/-- the deck was changed -/
theorem deck_mut {w : World} {env : Env} {σ : Sg} {B₀ : Heap} {B s s' : Shared} {lst : List (Addr × Obj)} {D C : Addr} {l' : List Int} {k' : Int} (F : FS ((T0 w.params).plus lst) env B₀ B (fun _ => False) [] σ none s) (fl : flatS σ) (Z : DeckAt w D C l' k' s'.heap) (he : outer s' = outer s)
    (hp : ∀ b ∈ places env [], b ≠ D ∧ b ≠ C) (hk : ∀ b o, b ≠ D → b ≠ C → s.heap.get? b = some o → s'.heap.get? b = some o) :
    ∃ oD oC m, FS ((T0 w.params).plus [(D, oD), (C, oC)]) env {} s' (fun _ => False) [] σ none s' ∧ DeckT w ((T0 w.params).plus [(D, oD), (C, oC)]) D C l' m k' ∧ (∃ o, ((T0 w.params).plus [(D, oD), (C, oC)]).K C = some o) := by
  have t0 : (T0 w.params).At s.heap := by
    obtain ⟨m, cm, G⟩ := F
    exact (Top0.plus_ext _ _).at_ G.topS
  have t1 : (T0 w.params).At s'.heap := by
    have e1 := top_hi' (P := w.params) Z.lo.1
    have e2 := top_hi' (P := w.params) Z.lo.2.1
    refine ⟨t0.g.at' fun o e => hk _ o (Ne.symm e1.2.1) (Ne.symm e2.2.1) e, t0.b.at' fun o e => hk _ o (Ne.symm e1.2.2.1) (Ne.symm e2.2.2.1) e, ?_, fun a o e => hk a o (fun z => by rw [z, e1.1] at e; cases e) (fun z => by rw [z, e2.1] at e; cases e) (t0.k a o e)⟩
    obtain ⟨mc, h1, h2⟩ := t0.lim
    exact ⟨mc, h1.at' fun o e => hk _ o (Ne.symm e1.2.2.2) (Ne.symm e2.2.2.2) e, h2⟩
  obtain ⟨oD, oC, m, hl, ZT, hC⟩ := Z.top t1
  refine ⟨oD, oC, m, F.mut fl he hl (fun x hx => ?_) (fun b hb x hx => ?_) (fun b o hn e => hk b o (fun z => hn (D, oD) (by simp) z.symm) (fun z => hn (C, oC) (by simp) z.symm) e), ZT, hC⟩
  · simp only [List.mem_cons, List.not_mem_nil, or_false] at hx
    rcases hx with rfl | rfl
    · exact Z.lo.1
    · exact Z.lo.2.1
  · simp only [List.mem_cons, List.not_mem_nil, or_false] at hx
    rcases hx with rfl | rfl
    · exact Ne.symm (hp b hb).1
    · exact Ne.symm (hp b hb).2
end
section
open PySem PySem.W PySem.W.X PySem.Calls PyProof.Rows PySem.SeqAt PySem.Spec
set_option autoImplicit false
set_option linter.unusedVariables false
set_option maxRecDepth 100000
section
variable {prog : Program} {w : World} {T : Top0} {A : Around} {env : Env} {σ : Sg} {n : Nat}
theorem evT_inMap {l r : PySem.Expr} {p : Pos} {k : Str} {M : Addr} {f : Str → Option Value} (hl : Ev prog w T A env σ l (.str k)) (hr : Ev prog w T A env σ r (.obj M)) (hM : ∀ h, T.At h → h.MapOf (PySem.strKind prog w) M f) (lo : (M == sysModules) = false) (hm : behindInMarks .In r = false) :
    EvT prog w T A env σ (.Compare l [.In] [r] p) (f k).isSome := .mk fun X s E => by
  refine wpAny_isTrue_Compare1 ?_ hm
  refine wpAny_mono (hl.run X s E) (fun v s₁ ⟨k₁, r₁⟩ => ?_) (fun _ _ f => f)
  have E₁ := E.keep k₁.hk
  refine wpAny_mono (hr.run X s₁ E₁) (fun v' s₂ ⟨k₂, r₂⟩ => ?_) (fun _ _ f => f)
  have E₂ := E₁.keep k₂.hk
  cases r₁ with
  | str _ t =>
    cases r₂
    refine wpAny_in_of (knd := PySem.strKind prog w) (is_str.mpr ⟨t, rfl⟩) lo (hM _ E₂.top) ?_
    exact wpAny_truthy_bool ⟨(k₁.trans k₂).trans (.tok _ _), rfl⟩
theorem ev_itemMap {e sl : PySem.Expr} {pos : Pos} {k : Str} {M r : Addr} {f : Str → Option Value} (he : Ev prog w T A env σ e (.obj M)) (hs : Ev prog w T A env σ sl (.str k)) (hM : ∀ h, T.At h → h.MapOf (PySem.strKind prog w) M f) (hT : ∀ h, T.At h → ∃ o, h.get? M = some o ∧ o.cls = .type "dict") (hf : f k = some (.ref r))
    (hsub : ∀ a x u, subscripted sl false (.ref a) (.str x u) = operate [.ref a, .str x u] (getItem (.ref a) (.str x u))) : Ev prog w T A env σ (.Subscript e sl pos) (.obj r) := .mk fun X s E => by
  refine Subscript_ ?_
  refine wpAny_mono (he.run X s E) (fun v s₁ ⟨k₁, r₁⟩ => ?_) (fun _ _ f => f)
  have E₁ := E.keep k₁.hk
  refine wpAny_mono (hs.run X s₁ E₁) (fun i s₂ ⟨k₂, r₂⟩ => ?_) (fun _ _ f => f)
  have E₂ := E₁.keep k₂.hk
  cases r₁
  cases r₂ with
  | str _ t =>
    obtain ⟨o, ho, hc⟩ := hT _ E₂.top
    exact PyProof.Rows.tail_any ⟨o, ho, hc⟩ slot_dict_getitem.lookup (wpAny_getItem_of (knd := PySem.strKind prog w) (is_str.mpr ⟨t, rfl⟩) (hM _ E₂.top) hf ⟨(k₁.trans k₂).trans (.tok _ _), .obj r⟩) (hsub M k t)
theorem ev_attr {K : Frag} {e : PySem.Expr} {name : Str} {pos : Pos} {x C y : Addr} {ox : Obj} {od : Option Obj} (he : Ev prog w T A env σ e (.obj x)) (hK : ∀ h, T.At h → K.In h) (hI : ∀ h, T.At h → InstAt h x ox C od) (hga : findIn K (.ref C) "__getattribute__" = some (some (.builtin "object.__getattribute__")))
    (hf : findObj K C od name = some (.value (.ref y)))
    (hform : eval (.Attribute e name pos) env = (do
      let o ← eval e env
      standAt pos.atName
      let r ← holding [o] (getAttr o name true)
      letTemporaryGo e o r
      pure r)) : Ev prog w T A env σ (.Attribute e name pos) (.obj y) := .mk fun X s E => by
  refine PyProof.Rows.Attribute_any_ ?_ hform
  refine wpAny_mono (he.run X s E) (fun v s₁ ⟨k₁, r₁⟩ => ?_) (fun _ _ f => f)
  have E₁ := E.keep k₁.hk
  cases r₁
  exact get_value (hK _ E₁.top) (hI _ E₁.top) hga hf rfl ⟨k₁.trans (.tok _ _), .obj y⟩
end
/-- what the names of the database's maps lead to -/
noncomputable def mapsF (r1 r2 : Addr) (k : Str) : Option Value := if k == "sc" then some (.ref r1) else if k == "scx" then some (.ref r2) else none
/-- what is known of the database at the end -/
structure DbT (w : World) (T : Top0) (δ β γ τd τ τ' : Nat → Nat) : Prop where
  ext : Ext (T0 w.params) T
  d0 : ∃ o, (st_data_0 w.params δ τd)[0]? = some o ∧ T.K (δ 0) = some o
  d1 : ∃ o, (st_data_0 w.params δ τd)[1]? = some o ∧ T.K (δ 1) = some o
  mp : ∃ oM, T.K (δ 3) = some oM ∧ oM.cls = .type "dict" ∧ ∀ h : Heap, h.get? (δ 3) = some oM → h.MapOf (PySem.strKind prg w) (δ 3) (mapsF (β 0) (γ 0))
  lo : 246 ≤ δ 3
  sc : ∀ (j : Nat) (o : Obj), (st_sc_13 w.params β τ)[j]? = some o → T.K (β j) = some o
  scn : (bsOf 4 β).Nodup
  scl : ∀ b ∈ bsOf 4 β, 246 ≤ b
  scx : ∀ (j : Nat) (o : Obj), (st_scx_3 w.params γ τ')[j]? = some o → T.K (γ j) = some o
  scxn : (bsOf 4 γ).Nodup
  scxl : ∀ b ∈ bsOf 4 γ, 246 ≤ b
section
variable {w : World} {T : Top0} {δ β γ τd τ τ' : Nat → Nat}
theorem inst_data (D : DbT w T δ β γ τd τ τ') : ∃ ox od, (∀ h, T.At h → InstAt h (δ 0) ox 178 (some od)) ∧ (st_data_0 w.params δ τd)[1]? = some od := by
  obtain ⟨o, ho, hk⟩ := D.d0
  obtain ⟨o1, ho1, hk1⟩ := D.d1
  refine ⟨o, o1, fun h t => ?_, ho1⟩
  have h1 := t.k _ _ hk
  have h2 := t.k _ _ hk1
  cases ho
  exact ⟨h1, rfl, rfl, h2⟩
theorem inst_rm {β : Nat → Nat} {st : List Obj} {o0 o1 : Obj} (hs : ∀ (j : Nat) (o : Obj), st[j]? = some o → T.K (β j) = some o) (h0 : st[0]? = some o0) (h1 : st[1]? = some o1) (hc : o0 = ⟨.ref 129, some (β 1), .plain, #[]⟩) : ∀ h, T.At h → InstAt h (β 0) o0 129 (some o1) := fun h t => by
  have a := t.k _ _ (hs 0 _ h0)
  have b := t.k _ _ (hs 1 _ h1)
  subst hc
  exact ⟨a, rfl, rfl, b⟩
theorem c_dget (Z : DbT w T δ β γ τd τ τ') {k : Str} {r : Addr} {c : Int} {d : D} (hk : mapsF (β 0) (γ 0) k = some (.ref r)) {o0 o1 : Obj} (hI : ∀ h, T.At h → InstAt h r o0 129 (some o1)) (M : MethOf (hd.heap_227 w.params) 129 105 (some o1) "get")
    (hc : CallC prg w T 319 (.ref 105) [.obj r, .int c] d) : CallC prg w T 320 (.ref 168) [.obj (δ 0), .str k, .int c] d := by
  refine c_def (n := 319) ((k_dget w.params (.obj (δ 0)) (.str k) (.int c)).ext Z.ext) fun A L B X s R F => ?_
  obtain ⟨ox, od, hID, hod⟩ := inst_data Z
  obtain ⟨oM, hM, hMc, hMap⟩ := Z.mp
  have hK : ∀ h, T.At h → (hd.heap_227 w.params).In h := fun h t a o x => t.k a o (Z.ext.k a o x)
  have hMp : ∀ h, T.At h → h.MapOf (PySem.strKind prg w) (δ 3) (mapsF (β 0) (γ 0)) := fun h t => hMap h (t.k _ _ hM)
  have hlo : (δ 3 == sysModules) = false := by
    have := Z.lo
    simp only [beq_eq_false_iff_ne]
    intro e
    rw [e] at this
    exact absurd this (by decide)
  cases hod
  refine b_if (b := (mapsF (β 0) (γ 0) k).isSome) F (evT_inMap (ev_name rfl) (ev_attr (ev_name rfl) hK hID (by kernel_rfl) (by kernel_rfl) (by with_unfolding_all rfl)) hMp hlo rfl) (fun h s₁ F₁ => ?_) (fun h s₁ F₁ => ?_)
  · refine b_ret F₁ ?_ fun v s'' G r => ⟨_, _, _, G, r⟩
    refine ev_meth (n := 319) R hK hI M ?_ (evs_cons rfl (ev_name rfl) evs_nil) hc rfl rfl rfl
    exact ev_itemMap (ev_attr (ev_name rfl) hK hID (by kernel_rfl) (by kernel_rfl) (by with_unfolding_all rfl)) (ev_name rfl) hMp (fun h t => ⟨oM, t.k _ _ hM, hMc⟩) hk (fun _ _ _ => rfl)
  · rw [hk] at h; cases h
end
end
section
open PySem PySem.W PySem.W.X PySem.Calls PyProof.Rows PySem.SeqAt PySem.Spec
set_option autoImplicit false
set_option linter.unusedVariables false
set_option maxRecDepth 100000
section
variable {w : World} {T : Top0} {A : Around} {env : Env} {σ : Sg} {n : Nat} {Dk C : Addr} {l : List Int} {m k : Int}
theorem ev_itemMapV {e sl : PySem.Expr} {pos : Pos} {k : Str} {M : Addr} {v : Value} {d : D} {f : Str → Option Value} (he : Ev prgH w T A env σ e (.obj M)) (hs : Ev prgH w T A env σ sl (.str k)) (hM : ∀ h, T.At h → h.MapOf (PySem.strKind prg w) M f) (hf : f k = some v)
    (hr : ∀ X h, T.At h → (∀ a o, T.K a = some o → ¬ X a) → (∀ b, X b → ∃ o, h.get? b = some o) → Rep X h v d) (hsub : ∀ a x u, subscripted sl false (.ref a) (.str x u) = operate [.ref a, .str x u] (getItem (.ref a) (.str x u))) : Ev prgH w T A env σ (.Subscript e sl pos) d := .mk fun X s E => by
  refine Subscript_ ?_
  refine wpAny_mono (he.run X s E) (fun v s₁ ⟨k₁, r₁⟩ => ?_) (fun _ _ f => f)
  have E₁ := E.keep k₁.hk
  refine wpAny_mono (hs.run X s₁ E₁) (fun i s₂ ⟨k₂, r₂⟩ => ?_) (fun _ _ f => f)
  have E₂ := E₁.keep k₂.hk
  cases r₁
  cases r₂ with
  | str _ t =>
    exact PyProof.Rows.tail_any (hM _ E₂.top).typeIs slot_dict_getitem.lookup (wpAny_getItem_of (knd := PySem.strKind prg w) (is_str.mpr ⟨t, rfl⟩) (hM _ E₂.top) hf ⟨(k₁.trans k₂).trans (.tok _ _), hr X _ E₂.top E₂.topX E₂.live⟩) (hsub M k t)
theorem DeckT.turn (Z : DeckT w T Dk C l m k) {p : Pos} {q : Pos} {kk : Nat} {x : PySem.Expr} (h : Ev prgH w T A env σ x (.obj Dk)) : Ev prgH w T A env σ (.Subscript x (.Constant (.str "turn") kk q) p) (.int k) := by
  obtain ⟨tm, tk, hd⟩ := Z.dict
  exact ev_itemMapV h ev_str (fun h t => (hd h t).mapOf) (v := .int k tk) (by kernel_rfl) (fun _ _ _ _ _ => .int _ _) fun _ _ _ => rfl
theorem DeckT.mixed (Z : DeckT w T Dk C l m k) {p : Pos} {q : Pos} {kk : Nat} {x : PySem.Expr} (h : Ev prgH w T A env σ x (.obj Dk)) : Ev prgH w T A env σ (.Subscript x (.Constant (.str "mixed") kk q) p) (.int m) := by
  obtain ⟨tm, tk, hd⟩ := Z.dict
  exact ev_itemMapV h ev_str (fun h t => (hd h t).mapOf) (v := .int m tm) (by kernel_rfl) (fun _ _ _ _ _ => .int _ _) fun _ _ _ => rfl
theorem DeckT.cellsR (Z : DeckT w T Dk C l m k) {p : Pos} {q : Pos} {kk : Nat} {x : PySem.Expr} (h : Ev prgH w T A env σ x (.obj Dk)) : Ev prgH w T A env σ (.Subscript x (.Constant (.str "cells") kk q) p) (.obj C) := by
  obtain ⟨tm, tk, hd⟩ := Z.dict
  exact ev_itemMapV h ev_str (fun h t => (hd h t).mapOf) (v := .ref C) (by kernel_rfl) (fun _ _ _ _ _ => .obj _) fun _ _ _ => rfl
theorem ints_repL {X : Addr → Prop} {h : Heap} : ∀ {vs : List Value} {ns : List Int}, IntsAre vs ns → RepL X h vs (ns.map .int)
  | _, _, .nil => .nil
  | _, _, .cons n t r => .cons (.int n t) (ints_repL r)
theorem DeckT.cellsL (Z : DeckT w T Dk C l m k) (hC : ∃ o, T.K C = some o) {p : Pos} {q : Pos} {kk : Nat} {x : PySem.Expr} (h : Ev prgH w T A env σ x (.obj Dk)) : Ev prgH w T A env σ (.Subscript x (.Constant (.str "cells") kk q) p) (.lst (l.map .int)) := by
  obtain ⟨tm, tk, hd⟩ := Z.dict
  obtain ⟨vs, n, hi, hl⟩ := Z.list
  obtain ⟨oC, hC⟩ := hC
  exact ev_itemMapV h ev_str (fun h t => (hd h t).mapOf) (v := .ref C) (by kernel_rfl) (fun X h t tx _ => .lst ⟨_, hl h t, rfl, n, rfl⟩ (tx _ _ hC) (by have := ints_repL (X := X) (h := h) hi; simpa using this)) fun _ _ _ => rfl
theorem cmp_ints_nil (R : Room n A) (l : List Int) : Cmp prgH w A .NotEq (.lst (l.map .int)) (.lst []) (!l.isEmpty) := by
  have h := cmp_ne (prog := prgH) (w := w) (A := A) (n := n) R (d := .lst (l.map .int)) (d' := .lst []) (plain_ints l) rfl shaped_ints rfl
  cases l with
  | nil => exact h
  | cons a l => exact h
end
end
section
open PySem PySem.W PySem.W.X PySem.Calls PyProof.Rows PySem.SeqAt PySem.Spec
set_option autoImplicit false
set_option linter.unusedVariables false
set_option maxRecDepth 100000
section
variable {prog : Program} {w : World} {T : Top0} {A : Around} {env : Env} {σ : Sg} {n : Nat} {B₀ : Heap} {B s s' : Shared} {X : Addr → Prop} {own : List Addr} {ow : Ow} {P : Flow → Shared → Prop} {E' : Value → Shared → Prop} {rest : List Stmt}
/-- two ways that meet again -/
theorem b_ifM {t : PySem.Expr} {body orelse : List Stmt} {p : Pos} {b : Bool} {M : Shared → Prop} (F : FS T env B₀ B X own σ ow s) (ht : EvT prog w T A env σ t b)
    (h1 : b = true → ∀ s', FS T env B₀ B X own σ ow s' → wpAny (model prog w) A (execs body env) (fun f s'' => match f with | .next => M s'' | f => P f s'') E' s')
    (h0 : b = false → ∀ s', FS T env B₀ B X own σ ow s' → wpAny (model prog w) A (execs orelse env) (fun f s'' => match f with | .next => M s'' | f => P f s'') E' s')
    (hr : ∀ s', M s' → wpAny (model prog w) A (execs rest env) P E' s') :
    wpAny (model prog w) A (execs (.If t body orelse p :: rest) env) P E' s := by
  refine b_if F ht (fun hb s' F' => ?_) (fun hb s' F' => ?_)
  · refine wpAny_mono (h1 hb s' F') (fun f s'' h => ?_) (fun _ _ f => f)
    cases f with
    | next => exact hr s'' h
    | _ => exact h
  · refine wpAny_mono (h0 hb s' F') (fun f s'' h => ?_) (fun _ _ f => f)
    cases f with
    | next => exact hr s'' h
    | _ => exact h
end
/-- all but the deck stands -/
structure Rel2 (s₀ : Shared) (Dk C : Addr) (s : Shared) : Prop where
  eq : outer s = outer s₀
  hk : ∀ x o, x ≠ Dk → x ≠ C → s₀.heap.get? x = some o → s.heap.get? x = some o
theorem Rel2.trans {a b c : Shared} {Dk C : Addr} (x : Rel2 a Dk C b) (y : Rel2 b Dk C c) : Rel2 a Dk C c := ⟨y.eq.trans x.eq, fun q o h1 h2 e => y.hk q o h1 h2 (x.hk q o h1 h2 e)⟩
theorem Rel2.of {a b : Shared} {Dk C : Addr} (k : Kp a b) : Rel2 a Dk C b := ⟨k.eq, fun q o _ _ e => k.hk q o e⟩
theorem FS.relS {T : Top0} {env : Env} {σ : Sg} {B₀ : Heap} {B s s₀ : Shared} {X : Addr → Prop} {Dk C : Addr} (F : FS T env B₀ B X [] σ none s) (hf : ∀ b ∈ places env [], s₀.heap.get? b = none) (r : Rel2 s₀ Dk C B) : Rel2 s₀ Dk C s := by
  obtain ⟨m, cm, G⟩ := F
  exact ⟨G.same.trans r.eq, fun x o h1 h2 e => G.keep x o (fun z => by rw [hf x z] at e; cases e) (r.hk x o h1 h2 e)⟩
theorem sizeOk {n : Nat} (h : n ≤ 1000) : n ≤ sizeLine := Nat.le_trans h (by decide)
theorem ints_pop {vs : Array Value} {l : List Int} (h : IntsAre vs.toList l) (hl : l.isEmpty = false) : ∃ c t l', vs[vs.size - 1]? = some (.int c t) ∧ IntsAre (vs.eraseIdxIfInBounds (vs.size - 1)).toList l' ∧ l'.length + 1 = l.length := by
  have hlen := h.length
  rw [Array.length_toList] at hlen
  have hpos : 0 < l.length := by
    cases l with
    | nil => cases hl
    | cons a l => exact Nat.succ_pos _
  have hp : vs.size - 1 < vs.size := by omega
  obtain ⟨d, hd⟩ : ∃ d, (l.map D.int)[vs.size - 1]? = some d := ⟨_, List.getElem?_eq_getElem (by rw [List.length_map]; omega)⟩
  obtain ⟨v, hv, rv⟩ := (ints_repL (X := fun _ => False) (h := {}) h).get hd
  rw [Array.getElem?_toList] at hv
  rw [List.getElem?_map] at hd
  obtain ⟨c, _, rfl⟩ := Option.map_eq_some_iff.mp hd
  cases rv with
  | int _ t =>
    refine ⟨c, t, l.take (vs.size - 1), hv, ?_, by rw [List.length_take]; omega⟩
    have e : (vs.eraseIdxIfInBounds (vs.size - 1)).toList = vs.toList.take (vs.size - 1) := by
      unfold Array.eraseIdxIfInBounds
      rw [dif_pos hp, Array.toList_eraseIdx, List.eraseIdx_eq_take_drop_succ, List.drop_eq_nil_of_le (by rw [Array.length_toList]; omega), List.append_nil]
    rw [e]
    exact h.take _
section
variable {w : World} {n : Nat}
theorem c_draw {A : Around} {s : Shared} {Dk C : Addr} {l : List Int} {k b : Int} {t : Tok} {Q : Value → Shared → Prop} (R : Room (n + 1) A) (t0 : (T0 w.params).At s.heap) (Z : DeckAt w Dk C l k s.heap) (hk : 0 ≤ k ∧ k < 1000) (hl : l.length ≤ 1000) (hb : 0 < b ∧ b < 1000)
    (hQ : ∀ r tr l' s', 0 ≤ r → r < b → Rel2 s Dk C s' → DeckAt w Dk C l' (k + 1) s'.heap → l'.length ≤ l.length → Q (.int r tr) s') :
    wpAny (model prgH w) A (call (.ref 194) [.ref Dk, .int b t]) Q (fun _ _ => False) s := by
  obtain ⟨oD, oC, m, hl0, ZT, _⟩ := Z.top t0
  refine enter_def (n := n) (X := fun _ => False) ((k_draw w.params (.obj Dk) (.int b)).ext (Top0.plus_ext _ _)) R (Top0.plus_at t0 hl0) (fun b hb => hb.elim) (fun a o _ z => z) (.cons (.obj _) (.cons (.int _ _) .nil)) fun A' L s₁ R' F => ?_
  have hfr : ∀ b ∈ places (callEnvC (f_draw w.params) L 194) [], s.heap.get? b = none := by obtain ⟨m, cm, G⟩ := F; exact G.fresh
  have hp : ∀ b ∈ places (callEnvC (f_draw w.params) L 194) [], b ≠ Dk ∧ b ≠ C := fun b hb => by
    have := hfr b hb
    refine ⟨fun z => ?_, fun z => ?_⟩
    · rw [z, hl0 (Dk, oD) (by simp)] at this; cases this
    · rw [z, hl0 (C, oC) (by simp)] at this; cases this
  have hne := Z.lo.2.2
  have fl0 : flatS (sgOf [("deck" : Str), ("below" : Str)] ([.obj Dk, .int b] ++ [])) := flatS.sg fun d hd => by
    simp only [List.append_nil, List.mem_cons, List.not_mem_nil, or_false] at hd
    rcases hd with rfl | rfl <;> rfl
  -- the turn
  refine wpAny_execs_cons (wpAny_Assign_Subscript ?_ (by rfl))
  refine wpAny_mono ((ev_addI (ZT.turn (ev_name rfl)) ev_int).run _ s₁ F.envR) (fun v s₂ ⟨k₂, r₂⟩ => ?_) (fun _ _ f => f.elim)
  cases r₂ with
  | int _ tk₂ =>
  have F₂ := F.keep k₂
  refine wpAny_mono ((ev_name rfl : Ev prgH w _ _ _ _ _ (.obj Dk)).run _ s₂ F₂.envR) (fun v s₃ ⟨k₃, r₃⟩ => ?_) (fun _ _ f => f.elim)
  cases r₃
  have F₃ := F₂.keep k₃
  refine wpAny_mono (ev_str.run _ s₃ F₃.envR) (fun v s₄ ⟨k₄, r₄⟩ => ?_) (fun _ _ f => f.elim)
  cases r₄ with
  | str _ tk₄ =>
  have F₄ := F₃.keep k₄
  obtain ⟨tm, tk, hd⟩ := ZT.dict
  obtain ⟨vs, nn, hi, hvl⟩ := ZT.list
  refine wpAny_setItem_pairs (knd := PySem.strKind prg w) (is_str.mpr ⟨_, rfl⟩) (hd _ F₄.envR.top) (fun h₅ d₅ sb => ?_) (Nat.le_of_ble_eq_true rfl)
  have Z₅ : DeckAt w Dk C l (k + 1) h₅ := ⟨⟨m, tm, _, d₅⟩, ⟨vs, nn, sb.extBut _ _ (Ne.symm hne) (hvl _ F₄.envR.top), hi⟩, Z.lo⟩
  obtain ⟨oD', oC', m', F₅, ZT₅, hC₅⟩ := deck_mut (s' := { s₄ with heap := h₅, toks := s₄.toks + 1 }) F₄ fl0 Z₅ rfl hp (fun b o h1 _ e => sb.extBut b o h1 e)
  have r₅ : Rel2 s Dk C { s₄ with heap := h₅, toks := s₄.toks + 1 } := ((F₄.relS hfr (Rel2.of (.refl s))).trans ⟨rfl, fun x o h1 _ e => sb.extBut x o h1 e⟩)
  refine b_assign F₅ (ev_addI (ZT₅.mixed (ev_name rfl)) (ev_mulI (ev_mulI ev_int (ZT₅.turn (ev_name rfl)) (.of_left (by decide))) (ZT₅.turn (ev_name rfl)) (.of_right (intBits_le_64 (by omega) (by omega))))) rfl (.inl (by kernel_rfl)) ⟨by decide, by decide⟩ (fun p h => by cases h) fun s₆ F₆ => ?_
  generalize m' + 65521 * (k + 1) * (k + 1) = f at F₆
  have subE : ∀ {σ : Sg} {f : Int}, σ "figure" = some (.int f) → σ "below" = some (.int b) → ∀ x d, upS (upS (fun _ => none) "figure" (.int f)) "below" (.int b) x = some d → σ x = some d := fun {σ f} h1 h2 x d h => by
    unfold upS at h
    split at h
    · rename_i e; cases h; rw [e]; exact h2
    · split at h
      · rename_i e; cases h; rw [e]; exact h1
      · cases h
  have hl1 : ∀ {l' : List Int}, l'.length ≤ l.length → l'.length ≤ 1000 := fun h => Nat.le_trans h hl
  refine b_ifM (M := fun s' => ∃ (l' : List Int) (f : Int) (T' : Top0) (B' : Shared), FS T' (callEnvC (f_draw w.params) L 194) {} B' (fun _ => False) [] (upS (upS (fun _ => none) "figure" (.int f)) "below" (.int b)) none s' ∧ Rel2 s Dk C B' ∧ DeckAt w Dk C l' (k + 1) B'.heap ∧ l'.length ≤ l.length)
    F₆ (evT_cmp (ZT₅.cellsL hC₅ (ev_name rfl)) (ev_list evs_nil (Nat.zero_le _)) (cmp_ints_nil R' l) rfl) (fun hbb s₇ F₇ => ?_) (fun _ s₇ F₇ => b_nil ⟨l, f, _, _, F₇.sub (subE rfl rfl), r₅, Z₅, Nat.le_refl _⟩) (fun s₇ hM => ?_)
  · have hle : l.isEmpty = false := by simpa using hbb
    obtain ⟨vs, nn, hi, hvl⟩ := ZT₅.list
    obtain ⟨c, tc, l', hy, hi', hlen'⟩ := ints_pop hi hle
    have hszv : vs.size ≤ sizeLine := by
      have := hi.length
      rw [Array.length_toList] at this
      rw [this]; exact sizeOk hl
    refine wpAny_execs_cons (wpAny_Assign_Name ?_ (by rfl))
    refine PyProof.Rows.MethodCall_ ?_ (by with_unfolding_all rfl)
    refine wpAny_mono ((ZT₅.cellsR (ev_name rfl)).run _ s₇ F₇.envR) (fun v s₈ ⟨k₈, r₈⟩ => ?_) (fun _ _ f => f.elim)
    cases r₈
    have F₈ := F₇.keep k₈
    have hIs := hvl _ F₈.envR.top
    refine getMethod_builtin ⟨_, hIs, rfl⟩ PySem.F.plainAttrs_list PySem.F.slot_list_pop PySem.F.type_list_pop (fun a e => by cases e; exact ⟨_, hIs, rfl⟩) ?_
    dsimp only
    refine PySem.P.pop_list hIs hy ?_ hszv
    have hIs' := IsL.update hIs (fun xs => xs.eraseIdxIfInBounds (vs.size - 1))
    generalize hh : s₈.heap.update C (Obj.mapSeq fun xs => xs.eraseIdxIfInBounds (vs.size - 1)) = h₉ at hIs' ⊢
    have up : ∀ x o, x ≠ C → s₈.heap.get? x = some o → h₉.get? x = some o := fun x o hx e => by rw [← hh, Heap.get?_update_ne _ _ _ _ hx]; exact e
    obtain ⟨tm', tk', hd'⟩ := ZT₅.dict
    have Z₉ : DeckAt w Dk C l' (k + 1) h₉ := ⟨⟨m', tm', tk', (hd' _ F₈.envR.top).at fun o e => up _ o hne e⟩, ⟨_, _, hIs', hi'⟩, Z.lo⟩
    have fl6 : flatS (upS (sgOf [("deck" : Str), ("below" : Str)] ([.obj Dk, .int b] ++ [])) "figure" (.int f)) := fl0.up rfl
    obtain ⟨oD₉, oC₉, m₉, F₉, ZT₉, hC₉⟩ := deck_mut (s' := { s₈ with heap := h₉ }) F₈ fl6 Z₉ rfl hp (fun x o _ h2 e => up x o h2 e)
    have r₉ : Rel2 s Dk C { s₈ with heap := h₉ } := ((F₈.relS hfr r₅).trans ⟨rfl, fun x o _ h2 e => up x o h2 e⟩)
    refine F₉.store (d := .int c) (.inl (by kernel_rfl)) ⟨by decide, by decide⟩ (fun p h => by cases h) (.int _ _) fun sa Fa => ?_
    refine b_if Fa (evT_cmp (ev_name rfl) ev_int cmp_ge_int rfl) (fun hc sb Fb => ?_) (fun hc sb Fb => b_nil ?_)
    · refine wpAny_execs_cons (wpAny_Expr_any (wpAny_Call_append rfl rfl rfl rfl ?_) rfl rfl)
      refine wpAny_mono ((ZT₉.cellsR (ev_name rfl)).run _ sb Fb.envR) (fun v sc ⟨kc, rc⟩ => ?_) (fun _ _ f => f.elim)
      cases rc
      have Fc := Fb.keep kc
      obtain ⟨vc, nc, hic, hvc⟩ := ZT₉.list
      have hIc := hvc _ Fc.envR.top
      refine ⟨C, vc, rfl, ⟨_, nc, hIc, rfl, rfl, rfl⟩, ?_⟩
      refine wpAny_mono ((ev_divI (ev_name rfl) (ev_name rfl) (show b ≠ 0 by omega) (show b.natAbs < 1073741824 by omega) : Ev prgH w _ _ _ _ _ (.int (c.fdiv b))).run _ sc Fc.envR) (fun v sd ⟨kd, rd⟩ => ?_) (fun _ _ f => f.elim)
      cases rd with
      | int _ td =>
      have Fd := Fc.keep kd
      have hId := hvc _ Fd.envR.top
      have hszc : vc.size ≤ sizeLine := by
        have := hic.length
        rw [Array.length_toList] at this
        rw [this]; exact sizeOk (hl1 (by omega))
      refine call_meets PySem.F.slot_list_append ⟨_, hId, rfl⟩ PySem.F.entry_list_append (PySem.F.args_list_append_2 _ _) (list_append C vc nc (.int (c.fdiv b) td) hszc) ⟨hId, ?_⟩
      have hIe := IsL.update hId (fun xs => xs.push (.int (c.fdiv b) td))
      generalize hhe : sd.heap.update C (Obj.mapSeq fun xs => xs.push (.int (c.fdiv b) td)) = he at hIe ⊢
      have upe : ∀ x o, x ≠ C → sd.heap.get? x = some o → he.get? x = some o := fun x o hx e => by rw [← hhe, Heap.get?_update_ne _ _ _ _ hx]; exact e
      obtain ⟨tm'', tk'', hd''⟩ := ZT₉.dict
      have Ze : DeckAt w Dk C (l' ++ [c.fdiv b]) (k + 1) he := ⟨⟨m₉, tm'', tk'', (hd'' _ Fd.envR.top).at fun o e => upe _ o hne e⟩, ⟨_, _, hIe, by rw [Array.toList_push]; exact hic.append (.cons _ _ .nil)⟩, Z.lo⟩
      obtain ⟨oDe, oCe, me, Fe, ZTe, hCe⟩ := deck_mut (s' := { sd with heap := he, toks := sd.toks }) Fd (fl6.up rfl) Ze rfl hp (fun x o _ h2 e => upe x o h2 e)
      have re : Rel2 s Dk C { sd with heap := he, toks := sd.toks } := ((Fd.relS hfr r₉).trans ⟨rfl, fun x o _ h2 e => upe x o h2 e⟩)
      refine b_ret Fe (ev_modI (ev_name rfl) (ev_name rfl) (show b ≠ 0 by omega) : Ev prgH w _ _ _ _ _ (.int (c.fmod b))) fun v sf Ff rf => ?_
      cases rf with
      | int _ tf =>
      refine hQ _ _ (l' ++ [c.fdiv b]) sf (Int.fmod_nonneg_of_pos _ hb.1) (Int.fmod_lt_of_pos _ hb.1) (Ff.relS hfr re) ?_ (by rw [List.length_append]; simp; omega)
      obtain ⟨_, _, Gf⟩ := Ff
      exact Ze.keep (fun o e => Gf.keep _ o (fun z => (hp _ z).1 rfl) e) (fun o e => Gf.keep _ o (fun z => (hp _ z).2 rfl) e)
    · refine b_assign Fb (ev_addI (ev_name rfl) (ev_modI (ev_name rfl) ev_int (by decide))) rfl (.inl (by kernel_rfl)) ⟨by decide, by decide⟩ (fun p h => by cases h) fun sc Fc => b_nil ?_
      exact ⟨l', _, _, _, Fc.sub (subE rfl rfl), r₉, Z₉, by omega⟩
  · obtain ⟨l', f', T', B', F₈, r₈, Z₈, hl8⟩ := hM
    refine b_assign F₈ (ev_modI (ev_mulI (ev_modI (ev_name rfl) ev_int (by decide)) ev_int (.of_right (by decide))) ev_int (by decide)) rfl (.inl (by kernel_rfl)) ⟨by decide, by decide⟩ (fun p h => by cases h) fun s₉ F₉ => ?_
    have hb1 : 0 ≤ (f'.fmod 2147483629 * 40692).fmod 2147483647 := Int.fmod_nonneg_of_pos _ (by decide)
    have hb2 : (f'.fmod 2147483629 * 40692).fmod 2147483647 < 2147483647 := Int.fmod_lt_of_pos _ (by decide)
    generalize (f'.fmod 2147483629 * 40692).fmod 2147483647 = g at F₉ hb1 hb2
    refine b_assign F₉ (ev_modI (ev_addI (ev_mulI (ev_name rfl) (ev_name rfl) (.of_right (intBits_le_64 (by omega) (by omega)))) ev_int) ev_int (by decide) : Ev prgH w _ _ _ _ _ (.int ((g * g + 10223).fmod 2147483587))) rfl (.inl (by kernel_rfl)) ⟨by decide, by decide⟩ (fun p h => by cases h) fun sa Fa => ?_
    refine b_ret Fa (ev_modI (ev_divI (ev_modI (ev_mulI (ev_name rfl) ev_int (.of_right (by decide))) ev_int (by decide)) ev_int (by decide) (by decide)) (ev_name rfl) (show b ≠ 0 by omega)) fun v sf Ff rf => ?_
    cases rf with
    | int _ tf =>
    refine hQ _ _ l' sf (Int.fmod_nonneg_of_pos _ hb.1) (Int.fmod_lt_of_pos _ hb.1) (Ff.relS hfr r₈) ?_ hl8
    obtain ⟨_, _, Gf⟩ := Ff
    exact Z₈.keep (fun o e => Gf.keep _ o (fun z => (hp _ z).1 rfl) e) (fun o e => Gf.keep _ o (fun z => (hp _ z).2 rfl) e)
end
end
section
open PySem PySem.W PySem.W.X PySem.Calls PyProof.Rows PySem.SeqAt PySem.Spec
set_option autoImplicit false
set_option linter.unusedVariables false
set_option maxRecDepth 100000
section
variable {w : World} {n : Nat} {T : Top0} {A : Around} {env : Env} {σ : Sg}
theorem t0_rel {s s' : Shared} {Dk C : Addr} (t : (T0 w.params).At s.heap) (r : Rel2 s Dk C s') (h1 : 246 ≤ Dk) (h2 : 246 ≤ C) : (T0 w.params).At s'.heap := by
  have e1 := top_hi' (P := w.params) h1
  have e2 := top_hi' (P := w.params) h2
  refine ⟨t.g.at' fun o e => r.hk _ o (Ne.symm e1.2.1) (Ne.symm e2.2.1) e, t.b.at' fun o e => r.hk _ o (Ne.symm e1.2.2.1) (Ne.symm e2.2.2.1) e, ?_, fun a o e => r.hk a o (fun z => by rw [z, e1.1] at e; cases e) (fun z => by rw [z, e2.1] at e; cases e) (t.k a o e)⟩
  obtain ⟨mc, h1, h2⟩ := t.lim
  exact ⟨mc, h1.at' fun o e => r.hk _ o (Ne.symm e1.2.2.2) (Ne.symm e2.2.2.2) e, h2⟩
theorem ev_obj {e : PySem.Expr} {a : Addr} {d : D} (he : Ev prgH w T A env σ e (.obj a)) (hr : ∀ X h, T.At h → (∀ a o, T.K a = some o → ¬ X a) → Rep X h (.ref a) d) : Ev prgH w T A env σ e d := .mk fun X s E =>
  wpAny_mono (he.run X s E) (fun v s' ⟨k, r⟩ => by cases r; exact ⟨k, hr X _ (E.keep k.hk).top (E.keep k.hk).topX⟩) (fun _ _ f => f)
theorem c_len {l : List D} (hl : l.length < 1000) : CallC prgH w T n (.builtin "len") [.lst l] (.int l.length) := by
  refine .mk fun A X s vs R t L tx r => ?_
  cases r with
  | cons r r' =>
    cases r'
    cases r with
    | lst ht hx hr =>
      rename_i _ us
      have hz : us.toArray.size = l.length := by rw [List.size_toArray, hr.length]
      refine call_len_list ht (by rw [hz]; omega) ?_
      rw [hz]
      exact ⟨.tok _ _, .int _ _⟩
/-- a list of the top -/
structure TopL (w : World) (a : Addr) (vs : List Value) (ds : List D) : Prop where
  list : ∀ h, (T0 w.params).At h → h.IsList a vs.toArray
  rep : ∀ X h, (T0 w.params).At h → (∀ a o, (T0 w.params).K a = some o → ¬ X a) → RepL X h vs ds
  top : ∃ o, (T0 w.params).K a = some o
theorem c_pick {s : Shared} {Dk C a : Addr} {l : List Int} {k : Int} {vs : List Value} {ds : List D} {Q : Value → Shared → Prop} (R : Room (n + 2) A) (t0 : (T0 w.params).At s.heap) (Z : DeckAt w Dk C l k s.heap) (hk : 0 ≤ k ∧ k < 1000) (hl : l.length ≤ 1000) (TL : TopL w a vs ds) (hn : 0 < ds.length ∧ ds.length < 1000)
    (hQ : ∀ (i : Nat) (v : Value) (l' : List Int) (s' : Shared), vs[i]? = some v → Rel2 s Dk C s' → DeckAt w Dk C l' (k + 1) s'.heap → l'.length ≤ l.length → Q v s') :
    wpAny (model prgH w) A (call (.ref 201) [.ref Dk, .ref a]) Q (fun _ _ => False) s := by
  refine enter_def (n := n + 1) (X := fun _ => False) (k_pick w.params (.obj Dk) (.obj a)) R t0 (fun b hb => hb.elim) (fun a o _ z => z) (.cons (.obj _) (.cons (.obj _) .nil)) fun A' L s₁ R' F => ?_
  have hfr : ∀ b ∈ places (callEnvC (f_pick w.params) L 201) [], s.heap.get? b = none := by obtain ⟨m, cm, G⟩ := F; exact G.fresh
  refine wpAny_execs_cons (wpAny_Return_some ?_)
  refine Subscript_ ?_
  refine wpAny_mono ((ev_name rfl : Ev prgH w _ _ _ _ _ (.obj a)).run _ s₁ F.envR) (fun v s₂ ⟨k₂, r₂⟩ => ?_) (fun _ _ f => f.elim)
  cases r₂
  have E₂ := (F.keep k₂).envR
  refine Call_ ?_
  refine Name_function_global E₂.kind (by kernel_rfl) (loadGlobal_global (by rw [E₂.glob]; exact E₂.top.g) (by kernel_rfl : (T0 w.params).mg "_law_draw" = some (.ref 194)) ?_) (by decide)
  obtain ⟨o, ho, hdat⟩ := (k_draw w.params (.obj Dk) (.int ds.length)).o
  refine callWith_def hdat ?_ rfl
  refine wpAny_mono ((evs_cons rfl (ev_name rfl) (evs_cons rfl (ev_callB (n := n) (R'.less (Nat.le_succ _)) (by kernel_rfl) (by kernel_rfl) (by kernel_rfl) (evs_cons rfl (ev_obj (ev_name rfl) fun X h t tx => .lst (TL.list h t) (tx _ _ TL.top.choose_spec) (TL.rep X h t tx)) evs_nil) rfl (c_len hn.2)) evs_nil) : Evs prgH w _ _ _ _ _ [.obj Dk, .int ds.length]).run _ _ s₂ E₂) (fun vs' s₃ ⟨k₃, r₃⟩ => ?_) (fun _ _ f => f.elim)
  have E₃ := E₂.keep k₃.hk
  refine ⟨E₃.top.k _ _ ho, ?_⟩
  have K03 : Kp s s₃ := ((⟨F.kp.2, F.kp.1⟩ : Kp s s₁).trans k₂).trans k₃
  cases r₃ with
  | cons ra rb =>
    cases ra
    cases rb with
    | cons rb rc =>
      cases rc
      cases rb with
      | int _ tb =>
        refine c_draw (n := n) R' E₃.top (Z.keep (fun o e => K03.hk _ o e) (fun o e => K03.hk _ o e)) hk hl ⟨by omega, by omega⟩ fun r tr l' s₄ h0 hr r₄ Z₄ hl' => ?_
        have t₄ := t0_rel E₃.top r₄ Z₄.lo.1 Z₄.lo.2.1
        have hL := TL.list _ t₄
        have hlen : vs.length = ds.length := (TL.rep (fun _ => False) _ t₄ (fun _ _ _ z => z)).length
        obtain ⟨v, hv⟩ : ∃ v, vs[r.toNat]? = some v := ⟨_, List.getElem?_eq_getElem (by omega)⟩
        have er : r = (r.toNat : Int) := by omega
        rw [er]
        refine PyProof.Rows.tail_any hL.typeIs slot_list_getitem.lookup (wpAny_getItem_list hL (by omega) (by omega) (by simpa only [List.getElem?_toArray, Int.toNat_natCast] using hv) ?_) rfl
        exact hQ r.toNat v l' s₄ hv ((Rel2.of K03).trans r₄) Z₄ hl'
end
end
section
open PySem PySem.W PySem.W.X PySem.Calls PyProof.Rows PySem.SeqAt PySem.Spec
set_option autoImplicit false
set_option linter.unusedVariables false
set_option maxRecDepth 100000
section
variable {prog : Program} {w : World} {T : Top0} {A : Around} {env : Env} {σ σ' : Sg} {n : Nat} {B₀ : Heap} {B s s' : Shared} {X : Addr → Prop} {own : List Addr} {E' : Value → Shared → Prop} {P : Flow → Shared → Prop} {rest : List Stmt}
theorem ints_ofRepL {X : Addr → Prop} {h : Heap} : ∀ {vs : List Value} {ns : List Int}, RepL X h vs (ns.map .int) → IntsAre vs ns
  | _, [], .nil => .nil
  | _, _ :: _, .cons (.int n t) r => .cons n t (ints_ofRepL r)
/-- what a slice of figures lays -/
noncomputable def Sliced (s : Shared) (ns : List Int) (v : Value) (s' : Shared) : Prop := Kp s s' ∧ ∃ D its, v = .ref D ∧ (∀ b o, s.heap.get? b = some o → b < D) ∧ s.heap.get? D = none ∧ IsL s'.heap D its 0 ∧ IntsAre its.toList ns
theorem x_slice {e : PySem.Expr} {p pos : Pos} {ns : List Int} {lower upper step : Option PySem.Expr} {lo hi st : Option Int} (he : Ev prog w T A env σ e (.lst (ns.map .int))) (hsz : ns.length ≤ 1000) (h0 : st ≠ some 0) (E : EnvR T env σ X s.heap)
    (hp : ∀ s₁, EnvR T env σ X s₁.heap → wpAny (model prog w) A (evalPart lower env) (fun l s₁' => wpAny (model prog w) A (evalPart upper env) (fun u s₂ => wpAny (model prog w) A (evalPart step env) (fun k s₃ => Kp s₁ s₃ ∧ IsPart l lo ∧ IsPart u hi ∧ IsPart k st) (fun _ _ => False) s₂) (fun _ _ => False) s₁') (fun _ _ => False) s₁)
    (ops : Addr → Addr → List Value) (hs : ∀ l i, subscripted (.Slice lower upper step p) false (.ref l) (.ref i) = operate (ops l i) (getItem (.ref l) (.ref i))) (ht : ∀ l r, letTemporaryGo e (.ref l) r = pure ()) :
    wpAny (model prog w) A (eval (.Subscript e (.Slice lower upper step p) pos) env) (fun v s' => Sliced s (pickNums ns lo hi st) v s') (fun _ _ => False) s := by
  refine Subscript_ ?_
  refine wpAny_mono (he.run X s E) (fun v s₁ ⟨k₁, r₁⟩ => ?_) (fun _ _ f => f)
  have E₁ := E.keep k₁.hk
  refine wpAny_Slice ?_
  refine wpAny_mono (hp s₁ E₁) (fun l s₂ h₂ => ?_) (fun _ _ f => f)
  refine wpAny_mono h₂ (fun u s₃ h₃ => ?_) (fun _ _ f => f)
  refine wpAny_mono h₃ (fun k s₄ ⟨k₄, pl, pu, pk⟩ => ?_) (fun _ _ f => f)
  have r₄ := r₁.keep k₄.hk
  cases r₄ with
  | lst hl hx hr =>
    rename_i _ us _
    have hii := ints_ofRepL hr
    have hz : us.toArray.size ≤ sizeLine := by rw [List.size_toArray, hii.length]; exact sizeOk hsz
    refine subscriptTail_ops (Heap.IsList.typeIs (s := { s₄ with heap := s₄.heap.push { cls := .type "slice", data := .fields #[l, u, k] } }) (hl.push _)) list_getitem_lookup
      (wpAny_getItem_list_slice (hl.push _) (Heap.IsSliceOf.new ..) pl pu pk h0 ?_ hz) (hs _ _) (ht _)
    have kA := Kp.push s₄ { cls := .type "slice", data := .fields #[l, u, k] } s₄.toks
    have kB := Kp.push { s₄ with heap := s₄.heap.push { cls := .type "slice", data := .fields #[l, u, k] } } { cls := .type "list", data := .seq (slicePick us.toArray lo hi st) } s₄.toks
    refine ⟨((k₁.trans k₄).trans kA).trans kB, _, _, rfl, fun b o e => Heap.lt_size (((k₁.trans k₄).trans kA).hk _ o e), ?_, Heap.get?_push_size _ rfl, hii.pick _ _ _⟩
    cases e : s.heap.get? (s₄.heap.push { cls := .type "slice", data := .fields #[l, u, k] }).objs.size with
    | none => rfl
    | some o =>
      have := ((k₁.trans k₄).trans kA).hk _ o e
      exact absurd (Heap.lt_size this) (Nat.lt_irrefl _)
theorem ev_sliced {e : PySem.Expr} {ns : List Int} (h : ∀ X s, EnvR T env σ X s.heap → wpAny (model prog w) A (eval e env) (fun v s' => Sliced s ns v s') (fun _ _ => False) s) : Ev prog w T A env σ e (.lst (ns.map .int)) := .mk fun X s E => by
  refine wpAny_mono (h X s E) (fun v s' ⟨k, D, its, e, _, hD, hl, hi⟩ => ?_) (fun _ _ f => f)
  subst e
  refine ⟨k, .lst (vs := its.toList) ⟨_, hl, rfl, 0, by simp⟩ (fun z => ?_) (ints_repL hi)⟩
  obtain ⟨o, ho⟩ := E.live D z
  rw [hD] at ho; cases ho
theorem ev_negI {e : PySem.Expr} {p : Pos} {i : Int} (he : Ev prog w T A env σ e (.int i)) : Ev prog w T A env σ (.UnaryOp .USub e p) (.int (-i)) := .mk fun X s E => by
  refine wpAny_UnaryOp ?_
  refine wpAny_mono (he.run X s E) (fun v s₁ ⟨k₁, r₁⟩ => ?_) (fun _ _ f => f)
  cases r₁
  exact PyProof.Rows.neg_int ⟨k₁.trans (.tok _ _), .int _ _⟩
theorem c_int {c : Int} : CallC prog w T n (.type "int") [.int c] (.int c) := by
  refine .mk fun A X s vs R t L tx r => ?_
  cases r with
  | cons r r' =>
    cases r'
    cases r
    exact call_int_int ⟨.refl _, .int _ _⟩
theorem unpack2 {t : Addr} {v1 v2 : Value} {Q : List Value → Shared → Prop} (hh : A.handled = none) (ht : IsTup s.heap t [v1, v2].toArray)
    (hQ : ∀ h', Heap.ExtBut s.heap.objs.size s.heap h' → Q [v1, v2] { s with heap := h' }) : wpAny (model prog w) A (unpackItems (.ref t) 2 none) Q E' s :=
  (unpackItems_tuple (items := [v1, v2].toArray) hh ht hQ : wpAny (model prog w) A (unpackItems (.ref t) [v1, v2].toArray.size none) Q E' s)
/-- two names get two values at once -/
theorem b_assign2 {x y : Str} {elts : List PySem.Expr} {k : Nat} {tpos p : Pos} {e : PySem.Expr} {d₁ d₂ : D} (F : FS T env B₀ B X own σ none s) (hA : A.handled = none) (he : Ev prog w T A env σ e (.tup [d₁, d₂])) (hs : swapsWithSole [.Tuple elts k tpos] e p.line env = pure false)
    (hw : swappedStores [.Tuple elts k tpos] e env = pure (some [x, y])) (hx : env.kindOf x = some .local) (hy : env.kindOf y = some .local) (dx : x ≠ ("__debug__" : Str) ∧ x ≠ ("__classdict__" : Str)) (dy : y ≠ ("__debug__" : Str) ∧ y ≠ ("__classdict__" : Str))
    (h : ∀ s', FS T env B₀ B X own (upS (upS σ y d₂) x d₁) none s' → wpAny (model prog w) A (execs rest env) P E' s') :
    wpAny (model prog w) A (execs (.Assign [.Tuple elts k tpos] e p :: rest) env) P E' s := by
  refine wpAny_execs_cons (Assign_Tuple_swapped ?_ hs hw)
  refine wpAny_mono (he.run _ s F.envR) (fun v s₁ ⟨k, r⟩ => ?_) (fun _ _ f => f.elim)
  have F₁ := F.keep k
  cases r with
  | tup ht hX hr =>
    cases hr with
    | cons r₁ hr =>
      cases hr with
      | cons r₂ hr =>
        cases hr
        show wpAny _ A (unpackItems _ 2 none) _ _ _
        refine unpack2 hA ht fun h' he => ?_
        have kp : Kp s₁ { s₁ with heap := h' } := ⟨rfl, fun b o e => he b o (Nat.ne_of_lt (Heap.lt_size e)) e⟩
        have F₂ := F₁.keep kp
        refine wpAny_bind (wpAny_holding (bindName_ (F₂.storeR (.inl hy) dy (fun p h => by cases h) (r₂.keep kp.hk) fun s₃ re F₃ => ?_)))
        refine wpAny_bind (wpAny_holding (bindName_ (F₃.store (.inl hx) dx (fun p h => by cases h) (re _ _ (r₁.keep kp.hk)) fun s₄ F₄ => ?_)))
        exact wpAny_pure (h s₄ F₄)
end
end
section
open PySem PySem.W PySem.W.X PySem.Calls PyProof.Rows PySem.SeqAt PySem.Spec
set_option autoImplicit false
set_option linter.unusedVariables false
set_option maxRecDepth 100000
noncomputable def mixStep (m c : Int) : Int := (m * 48271 + c.fmod 2147483629 + 10217).fmod 2147483587
theorem mix_take {f : Int → Int → Int} {a : Int} : ∀ {l : List Int} {i : Nat} {c : Int}, l[i]? = some c → (l.take (i + 1)).foldl f a = f ((l.take i).foldl f a) c
  | [], _, _, h => by simp at h
  | x :: l, 0, c, h => by simp at h; subst h; simp
  | x :: l, i + 1, c, h => by
    rw [List.take_succ_cons, List.take_succ_cons, List.foldl_cons, List.foldl_cons]
    exact mix_take (by simpa using h)
theorem pick_upto {ns : List Int} : (pickNums ns none (some 16) none).length ≤ ns.length := by
  unfold pickNums
  have h : ∀ vs : List Value, IntsAre vs ns → True := fun _ _ => trivial
  obtain ⟨vs, hv⟩ : ∃ vs : List Value, IntsAre vs ns := by
    clear h
    induction ns with
    | nil => exact ⟨[], .nil⟩
    | cons a l ih => obtain ⟨vs, hv⟩ := ih; exact ⟨.int a 0 :: vs, .cons a 0 hv⟩
  exact length_pickNums_le hv none (some 16) none
theorem pick_le (ns : List Int) (lo hi st : Option Int) : (pickNums ns lo hi st).length ≤ ns.length := by
  obtain ⟨vs, hv⟩ : ∃ vs : List Value, IntsAre vs ns := by
    induction ns with
    | nil => exact ⟨[], .nil⟩
    | cons a l ih => obtain ⟨vs, hv⟩ := ih; exact ⟨.int a 0 :: vs, .cons a 0 hv⟩
  exact length_pickNums_le hv lo hi st
section
variable {w : World} {n : Nat}
theorem c_deck {A : Around} {s : Shared} {v0 : Value} {ns : List Int} {Q : Value → Shared → Prop} (R : Room (n + 1) A) (t0 : (T0 w.params).At s.heap) (hL : Rep (fun _ => False) s.heap v0 (.lst (ns.map .int))) (hns : ns.length ≤ 100) (hsz : ∃ o, s.heap.get? 245 = some o)
    (hQ : ∀ Dk C l s', Kp s s' → s.heap.get? Dk = none → s.heap.get? C = none → DeckAt w Dk C l 0 s'.heap → l.length ≤ 100 → Q (.ref Dk) s') :
    wpAny (model prgH w) A (call (.ref 187) [v0]) Q (fun _ _ => False) s := by
  refine enter_def (n := n) (X := fun _ => False) (k_deck w.params (.lst (ns.map .int))) R t0 (fun b hb => hb.elim) (fun a o _ z => z) (.cons hL .nil) fun A' L s₁ R' F => ?_
  have hlen : (pickNums ns none (some 16) none).length ≤ 100 := Nat.le_trans (pick_le _ _ _ _) hns
  refine b_assign2 (x := "cells") (y := "mixed") (d₁ := .lst ((pickNums ns none (some 16) none).map .int)) (d₂ := .int 10217) F R'.hand (ev_tuple (evs_cons rfl (ev_compR (d₀ := .lst ((pickNums ns none (some 16) none).map .int)) (ds := (pickNums ns none (some 16) none).map .int) (pb := fun _ => true) (f := id) (cl := []) (cap := []) R' (.inl rfl) ?_ ?_ (fun _ => rfl) ?_ ?_ ?_ ?_ ?_ ?_) (evs_cons rfl ev_int evs_nil)) (le_size (m := 2) (Nat.le_refl _) (by decide))) rfl (by kernel_rfl) (by kernel_rfl) (by kernel_rfl) ⟨by decide, by decide⟩ ⟨by decide, by decide⟩ fun s₂ F₂ => ?_
  · rw [List.length_map]; exact sizeOk (Nat.le_trans hlen (by decide))
  · refine ev_sliced fun X s E => x_slice (ev_name rfl) (Nat.le_trans hns (by decide)) (by simp) E (fun s₁ E₁ => ?_) (fun l i => [.ref i, .ref l]) (fun _ _ => rfl) (fun _ _ => rfl)
    refine evalPart_none_step (evalPart_some_step ?_)
    refine wpAny_mono ((ev_int : Ev prgH w _ _ _ _ _ (.int 16)).run X s₁ E₁) (fun v s₂ ⟨k, r⟩ => evalPart_none_step ?_) (fun _ _ f => f)
    cases r
    exact ⟨k, .none, .int _ _, .none⟩
  · exact compOk_of (by kernel_rfl) (by kernel_rfl) (by kernel_rfl) (by kernel_rfl) (by kernel_rfl) (fun y hy => nomatch hy) (by kernel_rfl) (fun y hy => nomatch hy)
  · exact noCell_of (by kernel_rfl)
  · kernel_rfl
  · intro C d hd
    exact evTs_nil
  · intro C d hd _
    obtain ⟨c, _, rfl⟩ := List.mem_map.mp hd
    exact ev_callT (n := n) (ds := [.int c]) R' (by kernel_rfl) (by kernel_rfl) (by kernel_rfl) (evs_cons rfl (ev_name rfl) evs_nil) rfl c_int
  · simp
  generalize hcs : pickNums ns none (some 16) none = cs at F₂ hlen
  generalize hτ : upS (upS (fun _ => none) "cells" (.lst (cs.map .int))) "mixed" = τ
  have F₃ : FS (T0 w.params) (callEnvC (f_deck w.params) L 187) s.heap s (fun _ => False) [] (τ (.int 10217)) none s₂ := F₂.sub fun x d h => by
    rw [← hτ] at h
    unfold upS at h
    split at h
    · rename_i e; cases h; rw [e]; rfl
    · split at h
      · rename_i e; cases h; rw [e]; rfl
      · cases h
  refine b_for (d₀ := .lst (cs.map .int)) (ds := cs.map .int) (fun i => τ (.int ((cs.take i).foldl mixStep 10217))) (fun i => match (cs.map D.int)[i]? with | some d => upS (τ (.int ((cs.take i).foldl mixStep 10217))) "cell" d | none => τ (.int 0)) (fun _ => none) (fun _ => False) (fun _ => True) trivial F₃ R'.hand (.inl rfl) (ev_name (by subst hτ; rfl)) (fun _ => rfl) ?_ ?_ ?_ ?_
  · intro i d hd
    rw [hd]
    exact takes_name (.inl (by kernel_rfl)) ⟨by decide, by decide⟩ (fun p h => by cases h)
  · intro i d h _ B' I s₄ F₄
    obtain ⟨c, hc, rfl⟩ : ∃ c, cs[i]? = some c ∧ D.int c = d := by
      rw [List.getElem?_map] at h
      exact Option.map_eq_some_iff.mp h
    rw [h] at F₄
    rw [mix_take hc]
    refine b_assign F₄ (ev_modI (ev_addI (ev_addI (ev_mulI (ev_name (by subst hτ; rfl)) ev_int (.of_right (by decide))) (ev_modI (ev_name rfl) ev_int (by decide))) ev_int) ev_int (by decide)) rfl (.inl (by kernel_rfl)) ⟨by decide, by decide⟩ (fun p h => by cases h) fun s₅ F₅ => b_nil ⟨?_, trivial⟩
    refine F₅.sub fun x d h => ?_
    subst hτ
    show upS (upS (upS (upS (fun _ => none) "cells" (.lst (cs.map .int))) "mixed" (.int ((cs.take i).foldl mixStep 10217))) "cell" (.int c)) "mixed" (.int (mixStep ((cs.take i).foldl mixStep 10217) c)) x = some d
    revert h
    unfold upS
    split
    · exact id
    · rename_i h1
      intro h
      split
      · rename_i h2; subst h2; rw [if_neg (by decide)] at h; cases h
      · exact h
  · intro _ s₄ F₄
    rw [List.length_map, List.take_length] at F₄
    have em : τ (.int (cs.foldl mixStep 10217)) "mixed" = some (.int (cs.foldl mixStep 10217)) := by subst hτ; rfl
    have ec : τ (.int (cs.foldl mixStep 10217)) "cells" = some (.lst (cs.map .int)) := by subst hτ; rfl
    generalize cs.foldl mixStep 10217 = m at F₄ em ec
    refine wpAny_execs_cons (wpAny_Return_some ?_)
    refine wpAny_Dict_walk (knd := PySem.strKind prg w) (by rfl) (by rfl) (by decide) (by decide) ?_
    have kD := Kp.push s₄ { cls := .type "dict", data := .dict #[] } s₄.toks
    have F₅ := F₄.keep kD
    refine pairTrees_cons_walk ?_
    refine wpAny_mono ((ev_str : Ev prgH w _ _ _ _ _ (.str "cells")).run _ _ F₅.envR) (fun v s₆ ⟨k₆, r₆⟩ => ?_) (fun _ _ f => f.elim)
    cases r₆ with
    | str _ t1 =>
    have F₆ := F₅.keep k₆
    refine wpAny_mono (x_slice (lo := none) (hi := none) (st := some (-1)) (ev_name ec) (Nat.le_trans hlen (by decide)) (by decide) F₆.envR (fun s₁ E₁ => ?_) (fun l i => [.ref l, .ref i]) (fun _ _ => rfl) (fun _ _ => rfl)) (fun v s₇ hv => ?_) (fun _ _ f => f.elim)
    · refine evalPart_none_step (evalPart_none_step (evalPart_some_step ?_))
      refine wpAny_mono ((ev_negI ev_int : Ev prgH w _ _ _ _ _ (.int (-1))).run _ s₁ E₁) (fun v s₂ ⟨k, r⟩ => ?_) (fun _ _ f => f)
      cases r
      exact ⟨k, .none, .none, .int _ _⟩
    · obtain ⟨k₇, C, its, rfl, hCl, hC, hIs, hii⟩ := hv
      have F₇ := F₆.keep k₇
      refine pairTrees_cons_walk ?_
      refine wpAny_mono ((ev_str : Ev prgH w _ _ _ _ _ (.str "mixed")).run _ _ F₇.envR) (fun v s₈ ⟨k₈, r₈⟩ => ?_) (fun _ _ f => f.elim)
      cases r₈ with
      | str _ t2 =>
      have F₈ := F₇.keep k₈
      refine wpAny_mono ((ev_name em : Ev prgH w _ _ _ _ _ (.int m)).run _ _ F₈.envR) (fun v s₉ ⟨k₉, r₉⟩ => ?_) (fun _ _ f => f.elim)
      cases r₉ with
      | int _ t3 =>
      have F₉ := F₈.keep k₉
      refine pairTrees_cons_walk ?_
      refine wpAny_mono ((ev_str : Ev prgH w _ _ _ _ _ (.str "turn")).run _ _ F₉.envR) (fun v sa ⟨ka, ra⟩ => ?_) (fun _ _ f => f.elim)
      cases ra with
      | str _ t4 =>
      have Fa := F₉.keep ka
      refine wpAny_mono ((ev_int : Ev prgH w _ _ _ _ _ (.int 0)).run _ _ Fa.envR) (fun v sb ⟨kb, rb⟩ => ?_) (fun _ _ f => f.elim)
      cases rb with
      | int _ t5 =>
      have Fb := Fa.keep kb
      refine pairTrees_nil_walk ?_
      have k7b : Kp s₇ sb := ((k₈.trans k₉).trans ka).trans kb
      have kAll := ((kD.trans k₆).trans k₇).trans k7b
      refine ⟨[("cells", .ref C), ("mixed", .int m t3), ("turn", .int 0 t5)], ⟨is_str.mpr ⟨_, rfl⟩, rfl, is_str.mpr ⟨_, rfl⟩, rfl, is_str.mpr ⟨_, rfl⟩, rfl, trivial⟩, ?_, fun h' hd sb' => ?_⟩
      · exact (Heap.DictOf.new s₄.heap).keep ((k₆.trans k₇).trans k7b).hk
      · have hDne : s₄.heap.objs.size ≠ C := fun e => by
          have h1 : (s₄.heap.push { cls := .type "dict", data := .dict #[] }).get? s₄.heap.objs.size = some { cls := .type "dict", data := .dict #[] } := Heap.get?_push_size _ rfl
          have h2 := k₆.hk _ _ h1
          rw [e, hC] at h2; cases h2
        have n0 : ∀ b, s₄.heap.get? b = none → s.heap.get? b = none := fun b hb => by
          cases e : s.heap.get? b with
          | none => rfl
          | some o => rw [F₄.kp.1 b o e] at hb; cases hb
        have hDn : s.heap.get? s₄.heap.objs.size = none := n0 _ (Heap.get?_none_of_le (Nat.le_refl _))
        have hCn : s.heap.get? C = none := n0 C (by
          cases e : s₄.heap.get? C with
          | none => rfl
          | some o => rw [(kD.trans k₆).hk C o e] at hC; cases hC)
        have s4ge : 246 ≤ s₄.heap.objs.size := by
          obtain ⟨o, ho⟩ : ∃ o, s.heap.get? 245 = some o := hsz
          exact Heap.lt_size (F₄.kp.1 _ _ ho)
        refine hQ s₄.heap.objs.size C _ _ ⟨kAll.eq.trans F₄.kp.2, fun b o e => ?_⟩ hDn hCn ⟨⟨m, t3, t5, hd⟩, ⟨its, 0, sb'.extBut C _ (Ne.symm hDne) (k7b.hk _ _ hIs), hii⟩, s4ge, ?_, hDne⟩ (Nat.le_trans (pick_le _ _ _ _) hlen)
        · exact sb'.extBut b o (fun z => by rw [z, hDn] at e; cases e) (kAll.hk b o (F₄.kp.1 b o e))
        · obtain ⟨o, ho⟩ := hsz
          exact hCl 245 o (k₆.hk _ _ (kD.hk _ _ (F₄.kp.1 _ _ ho)))
  · intro v s' dv σ' ow' G r h
    exact h.elim
end
end
section
open PySem PySem.W PySem.W.X PySem.Calls PyProof.Rows PySem.SeqAt PySem.Spec
set_option autoImplicit false
set_option linter.unusedVariables false
set_option maxRecDepth 100000
/-- a top that knows the objects that hold the database together -/
structure MapT (w : World) (T : Top0) (δ τ : Nat → Nat) (f : Str → Option Value) : Prop where
  ext : Ext (T0 w.params) T
  d0 : ∃ o, (st_data_0 w.params δ τ)[0]? = some o ∧ T.K (δ 0) = some o
  d1 : ∃ o, (st_data_0 w.params δ τ)[1]? = some o ∧ T.K (δ 1) = some o
  d2 : ∃ o, (st_data_0 w.params δ τ)[2]? = some o ∧ T.K (δ 2) = some o
  mp : ∃ oM, T.K (δ 3) = some oM ∧ oM.cls = .type "dict" ∧ ∀ h : Heap, h.get? (δ 3) = some oM → h.MapOf (PySem.strKind prg w) (δ 3) f
  lo : 246 ≤ δ 3
section
variable {w : World} {T : Top0} {δ τ : Nat → Nat} {f : Str → Option Value}
theorem MapT.inst (D : MapT w T δ τ f) : ∃ ox od, (∀ h, T.At h → InstAt h (δ 0) ox 178 (some od)) ∧ (st_data_0 w.params δ τ)[1]? = some od := by
  obtain ⟨o, ho, hk⟩ := D.d0
  obtain ⟨o1, ho1, hk1⟩ := D.d1
  refine ⟨o, o1, fun h t => ?_, ho1⟩
  have h1 := t.k _ _ hk
  have h2 := t.k _ _ hk1
  cases ho
  exact ⟨h1, rfl, rfl, h2⟩
theorem MapT.kin (D : MapT w T δ τ f) : ∀ h, T.At h → (hd.heap_227 w.params).In h := fun h t a o x => t.k a o (D.ext.k a o x)
theorem MapT.los (D : MapT w T δ τ f) : (δ 3 == sysModules) = false := by
  have := D.lo
  simp only [beq_eq_false_iff_ne]
  intro e
  rw [e] at this
  exact absurd this (by decide)
theorem MapT.ev_maps (D : MapT w T δ τ f) {A : Around} {env : Env} {σ : Sg} {p p' : Pos} (h : σ "self" = some (.obj (δ 0))) (hform : eval (.Attribute (.Name "self" p) "maps" p') env = (do
      let o ← eval (.Name "self" p) env
      standAt p'.atName
      let r ← holding [o] (getAttr o "maps" true)
      letTemporaryGo (.Name "self" p) o r
      pure r)) : Ev prgH w T A env σ (.Attribute (.Name "self" p) "maps" p') (.obj (δ 3)) := by
  obtain ⟨ox, od, hID, hod⟩ := D.inst
  cases hod
  exact ev_attr (ev_name h) D.kin hID (by kernel_rfl) (by kernel_rfl) hform
theorem MapT.ev_dfl (D : MapT w T δ τ f) {A : Around} {env : Env} {σ : Sg} {p p' : Pos} (h : σ "self" = some (.obj (δ 0))) (hform : eval (.Attribute (.Name "self" p) "defaults" p') env = (do
      let o ← eval (.Name "self" p) env
      standAt p'.atName
      let r ← holding [o] (getAttr o "defaults" true)
      letTemporaryGo (.Name "self" p) o r
      pure r)) : Ev prgH w T A env σ (.Attribute (.Name "self" p) "defaults" p') (.obj (δ 2)) := by
  obtain ⟨ox, od, hID, hod⟩ := D.inst
  cases hod
  exact ev_attr (ev_name h) D.kin hID (by kernel_rfl) (by kernel_rfl) hform
theorem evT_notinMap {A : Around} {env : Env} {σ : Sg} {l r : PySem.Expr} {p : Pos} {k : Str} {M : Addr} {f : Str → Option Value} (hl : Ev prgH w T A env σ l (.str k)) (hr : Ev prgH w T A env σ r (.obj M)) (hM : ∀ h, T.At h → h.MapOf (PySem.strKind prg w) M f) (lo : (M == sysModules) = false) (hm : behindInMarks .NotIn r = false) :
    EvT prgH w T A env σ (.Compare l [.NotIn] [r] p) (!(f k).isSome) := .mk fun X s E => by
  refine wpAny_isTrue_Compare1 ?_ hm
  refine wpAny_mono (hl.run X s E) (fun v s₁ ⟨k₁, r₁⟩ => ?_) (fun _ _ f => f)
  have E₁ := E.keep k₁.hk
  refine wpAny_mono (hr.run X s₁ E₁) (fun v' s₂ ⟨k₂, r₂⟩ => ?_) (fun _ _ f => f)
  have E₂ := E₁.keep k₂.hk
  cases r₁ with
  | str _ t =>
    cases r₂
    refine wpAny_notIn_of (knd := PySem.strKind prg w) (is_str.mpr ⟨t, rfl⟩) lo (hM _ E₂.top) ?_
    exact wpAny_truthy_bool ⟨(k₁.trans k₂).trans (.tok _ _), rfl⟩
theorem MapT.map (D : MapT w T δ τ f) : ∀ h, T.At h → h.MapOf (PySem.strKind prg w) (δ 3) f := fun h t => by
  obtain ⟨oM, hM, hMc, hMap⟩ := D.mp
  exact hMap h (t.k _ _ hM)
theorem MapT.typ (D : MapT w T δ τ f) : ∀ h, T.At h → ∃ o, h.get? (δ 3) = some o ∧ o.cls = .type "dict" := fun h t => by
  obtain ⟨oM, hM, hMc, hMap⟩ := D.mp
  exact ⟨oM, t.k _ _ hM, hMc⟩
/-- map_of, where the map stands -/
theorem c_map (D : MapT w T δ τ f) {k : Str} {r : Addr} (hk : f k = some (.ref r)) : CallC prgH w T 319 (.ref 175) [.obj (δ 0), .str k] (.obj r) := by
  refine c_def (n := 318) ((k_dmap w.params (.obj (δ 0)) (.str k)).ext D.ext) fun A L B X s R F => ?_
  refine b_if (b := !(f k).isSome) F (evT_notinMap (ev_name rfl) (D.ev_maps rfl (by with_unfolding_all rfl)) D.map D.los rfl) (fun h s₁ F₁ => ?_) (fun h s₁ F₁ => ?_)
  · rw [hk] at h; cases h
  · refine b_nil ?_
    refine b_ret F₁ ?_ fun v s'' G r => ⟨_, _, _, G, r⟩
    exact ev_itemMap (D.ev_maps rfl (by with_unfolding_all rfl)) (ev_name rfl) D.map D.typ hk (fun _ _ _ => rfl)
end
end
section
open PySem PySem.W PySem.W.X PySem.Calls PyProof.Rows PySem.SeqAt PySem.Spec
set_option autoImplicit false
set_option linter.unusedVariables false
set_option maxRecDepth 100000
theorem top_hi {P : Params} {a : Addr} (h : 246 ≤ a) : (T0 P).K a = none ∧ a ≠ mainGlobals ∧ a ≠ builtinsNs ∧ a ≠ cStatics := by
  refine ⟨?_, fun e => absurd (e ▸ h) (by decide), fun e => absurd (e ▸ h) (by decide), fun e => absurd (e ▸ h) (by decide)⟩
  have hall : (hd.heap_227 P).all (fun p => Nat.blt p.1 246) = true := by kernel_rfl
  rw [List.all_eq_true] at hall
  show (hd.heap_227 P).lookup a = none
  rw [List.lookup_eq_none_iff]
  intro p hp
  have := Z.blt_iff.mp (hall p hp)
  have hne : a ≠ p.1 := fun e => absurd (e ▸ this : a < 246) (Nat.not_lt.mpr h)
  simpa using hne
section
variable {T T' : Top0} {env : Env} {σ : Sg} {B₀ : Heap} {B s s' : Shared} {X X' : Addr → Prop} {own : List Addr}
/-- a top that stood before the frame -/
theorem FS.topB (F : FS T env B₀ B X own σ none s) (t' : T'.At B₀) (tx' : ∀ a o, T'.K a = some o → ¬ X a) : FS T' env B₀ s X own σ none s := by
  refine F.reT (t'.keep F.kp.1) (fun b hb => ?_) tx'
  obtain ⟨m, cm, G⟩ := F
  cases e : T'.K b with
  | none => rfl
  | some o => have := t'.k b o e; rw [G.fresh b hb] at this; cases this
theorem FS.base0 {B₁ : Heap} (F : FS T env B₀ B X own σ none s) (h : Hk B₁ B₀) : FS T env B₁ B X own σ none s := by
  obtain ⟨m, cm, F⟩ := F
  refine ⟨m, cm, { F with old := fun b o e => F.old b o (h b o e), fresh := fun b hb => ?_ }⟩
  cases e : B₁.get? b with
  | none => rfl
  | some o => have := h b o e; rw [F.fresh b hb] at this; cases this
theorem FS.noX (F : FS T env B₀ B X own σ none s) : FS T env B₀ B (fun _ => False) own σ none s := by
  obtain ⟨m, cm, F⟩ := F
  refine ⟨m, cm, { F with live := fun b hb => hb.elim, xa := fun b hb z => z, tx := fun a o e z => z, get := fun x d hx => ?_ }⟩
  have re : ∀ v d, Rep (wth X (places env own)) s.heap v d → Rep (wth (fun _ => False) (places env own)) s.heap v d := fun v d r => r.avoid fun b hb => .inl (hb.imp False.elim id)
  obtain ⟨a1, a2, ⟨a3, v, hv, r⟩ | ⟨a3, c, v, hc, hv, r⟩⟩ := F.get x d hx
  · exact ⟨a1, a2, .inl ⟨a3, v, hv, re v d r⟩⟩
  · exact ⟨a1, a2, .inr ⟨a3, c, v, hc, hv, re v d r⟩⟩
end
section
variable {w : World} {T : Top0} {A : Around} {env : Env} {σ : Sg}
/-- a table's value, none where there is none -/
theorem ev_dictGet {e ne : PySem.Expr} {pa pos : Pos} {k : Str} {a : Addr} {f : Str → Option Value} {d : D} {pl : Sem Bool} (he : Ev prgH w T A env σ e (.obj a)) (hn : Ev prgH w T A env σ ne (.str k))
    (hM : ∀ h, T.At h → h.MapOf (PySem.strKind prg w) a f) (lo : (a == sysModules) = false) (hr : ∀ X h, Rep X h ((f k).getD .none) d)
    (hform : eval (.Call (.Attribute e "get" pa) [ne] [] pos) env = (do
      let ov ← eval e env
      standAt pa.atName
      let (f, first) ← holding [ov] (getMethod ov "get" pl)
      callWith pos f first (backTo pos (starEach [ne] env)) []))
    (hne : starEach [ne] env = (false, eval ne env) :: starEach [] env) :
    Ev prgH w T A env σ (.Call (.Attribute e "get" pa) [ne] [] pos) d := .mk fun X s E => by
  refine PyProof.Rows.MethodCall_ (pl := pl) ?_ hform
  refine wpAny_mono (he.run X s E) (fun v s₁ ⟨k₁, r₁⟩ => ?_) (fun _ _ f => f)
  have E₁ := E.keep k₁.hk
  cases r₁
  have hm := hM _ E₁.top
  refine getMethod_builtin hm.typeIs PySem.F.plainAttrs_dict PySem.F.slot_dict_get PySem.F.type_dict_get hm.noDict ?_
  dsimp only
  refine PyProof.Rows.callWith_method1 ?_ hne rfl
  refine args_cons ?_ hne
  refine wpAny_mono (hn.run X s₁ E₁) (fun v s₂ ⟨k₂, r₂⟩ => args_nil ?_) (fun _ _ f => f.elim)
  have E₂ := E₁.keep k₂.hk
  cases r₂ with
  | str _ tk =>
    have hm2 := hM _ E₂.top
    exact call_meetsIn PySem.F.slot_dict_get hm2.typeIs PySem.F.entry_dict_get (PySem.F.args_dict_get_2 _ _) (meets_dict_get (PySem.strKind prg w) a (is_str.mpr ⟨tk, rfl⟩) lo) ⟨f, hm2, (k₁.trans k₂).trans (.tok _ _), hr X _⟩
end
end
section
open PySem PySem.W PySem.W.X PySem.Calls PyProof.Rows PySem.SeqAt PySem.Spec
set_option autoImplicit false
set_option linter.unusedVariables false
set_option maxRecDepth 100000
section
variable {w : World} {δ : Nat → Nat} {kvs : List (Str × Value)}
/-- the top that knows the parts -/
theorem MapsAt.top {h : Heap} (M : MapsAt w δ kvs h) (t : (T0 w.params).At h) : ∃ τ l, MapT w ((T0 w.params).plus l) δ τ (valueAt kvs) ∧ (∀ x ∈ l, h.get? x.1 = some x.2) ∧ (∀ x ∈ l, ∃ j, j < 4 ∧ x.1 = δ j) := by
  obtain ⟨τ, ht⟩ := M.ds
  obtain ⟨o0, h0⟩ : ∃ o, (st_data_0 w.params δ τ)[0]? = some o := ⟨_, rfl⟩
  obtain ⟨o1, h1⟩ : ∃ o, (st_data_0 w.params δ τ)[1]? = some o := ⟨_, rfl⟩
  obtain ⟨o2, h2⟩ : ∃ o, (st_data_0 w.params δ τ)[2]? = some o := ⟨_, rfl⟩
  obtain ⟨oM, es, ep, hM, hx, hrest⟩ := M.mp
  refine ⟨τ, [(δ 0, o0), (δ 1, o1), (δ 2, o2), (δ 3, oM)], ?_, ?_, ?_⟩
  · have hl : ∀ x ∈ [(δ 0, o0), (δ 1, o1), (δ 2, o2), (δ 3, oM)], h.get? x.1 = some x.2 := fun x hx => by
      simp only [List.mem_cons, List.not_mem_nil, or_false] at hx
      rcases hx with rfl | rfl | rfl | rfl
      · exact ht 0 (by decide) _ h0
      · exact ht 1 (by decide) _ h1
      · exact ht 2 (by decide) _ h2
      · exact hM
    refine ⟨Top0.plus_ext _ _, ⟨_, h0, Top0.plus_k t hl (by simp)⟩, ⟨_, h1, Top0.plus_k t hl (by simp)⟩, ⟨_, h2, Top0.plus_k t hl (by simp)⟩, ⟨oM, Top0.plus_k t hl (by simp), hx.1, fun h' e => ?_⟩, M.lo 3 (by decide)⟩
    exact (Heap.DictOf.mapOf ⟨oM, es, ep, e, hx, hrest⟩)
  · intro x hx
    simp only [List.mem_cons, List.not_mem_nil, or_false] at hx
    rcases hx with rfl | rfl | rfl | rfl
    · exact ht 0 (by decide) _ h0
    · exact ht 1 (by decide) _ h1
    · exact ht 2 (by decide) _ h2
    · exact hM
  · intro x hx
    simp only [List.mem_cons, List.not_mem_nil, or_false] at hx
    rcases hx with rfl | rfl | rfl | rfl
    · exact ⟨0, by decide, rfl⟩
    · exact ⟨1, by decide, rfl⟩
    · exact ⟨2, by decide, rfl⟩
    · exact ⟨3, by decide, rfl⟩
/-- map_of, where the map stands -/
theorem map_old {A : Around} {s : Shared} {k : Str} {t : Tok} {r : Addr} {Q : Value → Shared → Prop} (M : MapsAt w δ kvs s.heap) (hk : valueAt kvs k = some (.ref r)) (R : Room 319 A) (t0 : (T0 w.params).At s.heap)
    (hQ : ∀ s', Kp s s' → Q (.ref r) s') : wpAny (model prgH w) A (call (.ref 175) [.ref (δ 0), .str k t]) Q (fun _ _ => False) s := by
  obtain ⟨τ, l, D, hl, _⟩ := M.top t0
  refine wpAny_mono ((c_map D hk).run A (fun _ => False) s _ R (Top0.plus_at t0 hl) (fun b hb => hb.elim) (fun a o _ z => z) (.cons (.obj _) (.cons (.str _ _) .nil))) (fun v s' ⟨k, r⟩ => ?_) (fun _ _ f => f)
  cases r
  exact hQ s' k
theorem MapT.dfl {T : Top0} {τ : Nat → Nat} {f : Str → Option Value} (D : MapT w T δ τ f) : ∃ es, (∀ h, T.At h → h.MapOf (PySem.strKind prg w) (δ 2) (fun k => findBy (PySem.strKind prg w).is es k)) ∧ ∃ o, (st_data_0 w.params δ τ)[2]? = some o ∧ esOf (some o) = es := by
  obtain ⟨o, ho, hk⟩ := D.d2
  refine ⟨esOf (some o), fun h t => ?_, o, ho, rfl⟩
  have h1 := t.k _ _ hk
  cases ho
  exact mapOf_entries h1 (by kernel_rfl)
end
end
section
open PySem PySem.W PySem.W.X PySem.Calls PyProof.Rows PySem.SeqAt PySem.Spec
set_option autoImplicit false
set_option linter.unusedVariables false
set_option maxRecDepth 100000
theorem Laid.keepOn {objs : List Obj} {bs : List Nat} {h h' : Heap} (L : Laid objs bs h) (hk : ∀ b ∈ bs, ∀ o, h.get? b = some o → h'.get? b = some o) : Laid objs bs h' :=
  ⟨L.nodup, L.lo, L.len, fun j b o hj ho => hk b (List.mem_of_getElem? hj) o (L.at_ j b o hj ho)⟩
theorem Laid.live {objs : List Obj} {bs : List Nat} {h : Heap} (L : Laid objs bs h) : ∀ b ∈ bs, ∃ o, h.get? b = some o := fun b hb => by
  obtain ⟨j, hj⟩ := List.getElem?_of_mem hb
  have hlt : j < objs.length := by rw [L.len]; exact (List.getElem?_eq_some_iff.mp hj).1
  exact ⟨objs[j], L.at_ j b _ hj (by simp [hlt])⟩
theorem stored_new {kvs : List (Str × Value)} {k : Str} {v : Value} (h : valueAt kvs k = none) : stored kvs k v = kvs ++ [(k, v)] := by
  unfold stored
  have : (kvs.any fun kv => decide (kv.1 = k)) = false := by
    unfold valueAt at h
    rw [Option.map_eq_none_iff, List.find?_eq_none] at h
    rw [List.any_eq_false]
    intro x hx
    exact h x hx
  rw [this]
  rfl
theorem valueAt_new {kvs : List (Str × Value)} {k : Str} {v : Value} (h : valueAt kvs k = none) : valueAt (kvs ++ [(k, v)]) k = some v := by
  unfold valueAt at h ⊢
  rw [Option.map_eq_none_iff] at h
  rw [List.find?_append, h]
  simp
section
variable {w : World} {δ : Nat → Nat} {kvs : List (Str × Value)}
/-- map_of, where the map is new -/
theorem map_new {A : Around} {s : Shared} {k : Str} {t : Tok} {st : StF} {val : Nat → Value} {d : D} {Q : Value → Shared → Prop} (M : MapsAt w δ kvs s.heap) (hk : valueAt kvs k = none) (hlen : kvs.length ≤ 5) (R : Room 319 A) (t0 : (T0 w.params).At s.heap)
    (N : NewC w st val) (hval : ∀ X h v, Rep X h v d → ∃ t, v = val t) (hdf : ∀ τ o, (st_data_0 w.params δ τ)[2]? = some o → ∀ X h, Rep X h ((findBy (PySem.strKind prg w).is (esOf (some o)) k).getD .none) d)
    (hQ : ∀ β' τ' s', outer s' = outer s → (∀ b o, b ≠ δ 3 → s.heap.get? b = some o → s'.heap.get? b = some o) → MapsAt w δ (kvs ++ [(k, .ref (β' 0))]) s'.heap → Laid (st w.params β' τ') (bsOf 4 β') s'.heap → (∀ b ∈ bsOf 4 β', s.heap.get? b = none) → Q (.ref (β' 0)) s') :
    wpAny (model prgH w) A (call (.ref 175) [.ref (δ 0), .str k t]) Q (fun _ _ => False) s := by
  obtain ⟨τ, l, D, hl, hlδ⟩ := M.top t0
  have live3 : ∃ o, s.heap.get? (δ 3) = some o := let ⟨o, _, _, ho, _⟩ := M.mp; ⟨o, ho⟩
  have hi3 := top_hi (P := w.params) (M.lo 3 (by decide))
  refine enter_def (n := 318) (X := fun b => b = δ 3) (k_dmap w.params (.obj (δ 0)) (.str k)) R t0 (fun b hb => hb ▸ live3) (fun a o e hx => by subst hx; rw [hi3.1] at e; cases e) (.cons (.obj _) (.cons (.str _ _) .nil)) fun A' L s₁ R' F => ?_
  have F' := F.noX.topB (Top0.plus_at t0 hl) (fun a o _ z => z)
  refine wpAny_execs_cons (wpAny_If ?_)
  refine wpAny_mono ((evT_notinMap (ev_name rfl) (D.ev_maps rfl (by with_unfolding_all rfl)) D.map D.los rfl).run _ s₁ F'.envR) (fun c s₂ ⟨k₂, e⟩ => ?_) (fun _ _ f => f.elim)
  rw [hk] at e
  subst e
  have E₂ := (F'.keep k₂).envR
  refine wpAny_execs_cons (wpAny_Assign_Subscript ?_ (by rfl))
  refine Call_ ?_
  refine Name_function_global E₂.kind (by kernel_rfl) (loadGlobal_global (by rw [E₂.glob]; exact E₂.top.g) (by kernel_rfl : (T0 w.params).mg "RangeMap" = some (.ref 129)) ?_) (by decide)
  refine callWith_KW (kws := []) (D.kin _ E₂.top) (by kernel_rfl) rfl ?_ rfl rfl
  refine args_cons ?_ rfl
  obtain ⟨es, hMd, o2, ho2, he2⟩ := D.dfl
  have lo2 : (δ 2 == sysModules) = false := by
    have := M.lo 2 (by decide)
    simp only [beq_eq_false_iff_ne]
    intro e
    rw [e] at this
    exact absurd this (by decide)
  refine wpAny_mono ((ev_dictGet (d := d) (D.ev_dfl rfl (by with_unfolding_all rfl)) (ev_name rfl) hMd lo2 (fun X h => by rw [← he2]; exact hdf τ o2 ho2 X h) (by with_unfolding_all rfl) rfl).run _ s₂ E₂) (fun v s₃ ⟨k₃, r₃⟩ => args_nil ?_) (fun _ _ f => f.elim)
  obtain ⟨t4, rfl⟩ := hval _ _ _ r₃
  have E₃ := E₂.keep k₃.hk
  have K03 : Hk s.heap s₃.heap := fun b o e => k₃.hk b o (k₂.hk b o (F.kp.1 b o e))
  refine wpAny_pure ⟨D.kin _ E₃.top, ?_⟩
  refine N A' s₃ _ t4 R' (D.kin _ E₃.top) ?_ fun β' τ' h' tk L' hk' fr => ?_
  · obtain ⟨o, ho⟩ := live3
    have h1 := Heap.lt_size (K03 _ _ ho)
    exact Nat.le_trans (M.lo 3 (by decide)) (Nat.le_of_lt h1)
  have k₄ : Kp s₃ { s₃ with heap := h', toks := tk } := ⟨rfl, hk'⟩
  have E₄ := E₃.keep k₄.hk
  refine wpAny_mono ((D.ev_maps rfl (by with_unfolding_all rfl)).run _ _ E₄) (fun v s₅ ⟨k₅, r₅⟩ => ?_) (fun _ _ f => f.elim)
  cases r₅
  have E₅ := E₄.keep k₅.hk
  refine wpAny_mono ((ev_name rfl : Ev prgH w _ _ _ _ _ (.str k)).run _ _ E₅) (fun v s₆ ⟨k₆, r₆⟩ => ?_) (fun _ _ f => f.elim)
  cases r₆ with
  | str _ tk₆ =>
    have K06 : Hk s.heap s₆.heap := fun b o e => k₆.hk b o (k₅.hk b o (hk' b o (K03 b o e)))
    refine wpAny_setItem_pairs (knd := PySem.strKind prg w) (is_str.mpr ⟨_, rfl⟩) (M.keep K06).mp (fun h₇ d₇ sb => ?_) (Nat.le_trans hlen (by decide))
    refine b_nil ?_
    have F₆ := (((F.keep k₂).keep k₃).keep k₄ |>.keep k₅).keep k₆
    have F₇ := (F₆.base0 (B₁ := {}) (fun b o e => by cases e)).reX (s' := { s₆ with heap := h₇, toks := s₆.toks + 1 }) (X' := fun _ => False) rfl (fun b o hx e => sb.extBut b o hx e) (fun b hb => hb.elim) (fun b hb => hb.elim) (fun b _ => rfl) (fun b hb => hb ▸ hi3)
    have M₇ : MapsAt w δ (kvs ++ [(k, .ref (β' 0))]) h₇ := by
      obtain ⟨τ', ht⟩ := (M.keep K06).ds
      exact ⟨⟨τ', fun j hj o ho => sb.extBut _ o (M.nd j hj) (ht j hj o ho)⟩, by rw [← stored_new hk]; exact d₇, M.lo, M.nd⟩
    obtain ⟨τ3, l3, D3, hl3, hlδ3⟩ := M₇.top F₇.envR.top
    have F₈ := F₇.reT (Top0.plus_at F₇.envR.top hl3) (fun b hb => by
      obtain ⟨m, cm, G⟩ := F
      refine Top0.plus_off (G.off b hb).1 fun x hx e => ?_
      obtain ⟨j, hj, ej⟩ := hlδ3 x hx
      have hf := G.fresh b hb
      rw [← e, ej] at hf
      obtain ⟨τ', ht⟩ := M.ds
      match j, hj with
      | 0, _ => have := ht 0 (by decide) _ rfl; rw [hf] at this; cases this
      | 1, _ => have := ht 1 (by decide) _ rfl; rw [hf] at this; cases this
      | 2, _ => have := ht 2 (by decide) _ rfl; rw [hf] at this; cases this
      | 3, _ => obtain ⟨o, ho⟩ := live3; rw [hf] at ho; cases ho) (fun a o _ z => z)
    refine wpAny_execs_cons (wpAny_Return_some ?_)
    refine wpAny_mono ((ev_itemMap (D3.ev_maps rfl (by with_unfolding_all rfl)) (ev_name rfl) D3.map D3.typ (valueAt_new hk) (fun _ _ _ => rfl)).run _ _ F₈.envR) (fun v s₈ ⟨k₈, r₈⟩ => ?_) (fun _ _ f => f.elim)
    cases r₈
    have n3 : ∀ b ∈ bsOf 4 β', b ≠ δ 3 := fun b hb e => by
      obtain ⟨o, ho⟩ := live3
      have := fr b hb
      rw [e, K03 _ _ ho] at this
      cases this
    refine hQ β' τ' s₈ ?_ ?_ (M₇.keep k₈.hk) (L'.keepOn fun b hb o e => k₈.hk b o (sb.extBut b o (n3 b hb) (k₆.hk b o (k₅.hk b o e)))) (fun b hb => ?_)
    · exact k₈.eq.trans (k₆.eq.trans (k₅.eq.trans (k₄.eq.trans (k₃.eq.trans (k₂.eq.trans F.kp.2)))))
    · exact fun b o hb e => k₈.hk b o (sb.extBut b o hb (K06 b o e))
    · cases e : s.heap.get? b with
      | none => rfl
      | some o => have := fr b hb; rw [K03 b o e] at this; cases this
end
end
section
open PySem PySem.W PySem.W.X PySem.Calls PyProof.Rows PySem.SeqAt PySem.Spec
set_option autoImplicit false
set_option linter.unusedVariables false
set_option maxRecDepth 100000
/-- the state of a RangeMap: its put is found -/
structure RmOk (st : StF) : Prop where
  ok : ∀ P β τ, ∃ o1, (st P β τ)[0]? = some ⟨.ref 129, some (β 1), .plain, #[]⟩ ∧ (st P β τ)[1]? = some o1 ∧ MethOf (hd.heap_227 P) 129 112 (some o1) "put"
theorem Laid.inst {st : StF} {P : Params} {β τ : Nat → Nat} {h : Heap} (O : RmOk st) (L : Laid (st P β τ) (bsOf 4 β) h) : ∃ ox od, InstAt h (β 0) ox 129 (some od) ∧ MethOf (hd.heap_227 P) 129 112 (some od) "put" := by
  obtain ⟨o1, h0, h1, M⟩ := O.ok P β τ
  exact ⟨_, o1, ⟨L.at_ 0 _ _ (bs_at (by decide)) h0, rfl, rfl, L.at_ 1 _ _ (bs_at (by decide)) h1⟩, M⟩
section
variable {w : World} {δ : Nat → Nat} {kvs : List (Str × Value)}
theorem MapsAt.inst {h : Heap} {name : Str} {g : Addr} (M : MapsAt w δ kvs h) (hm : ∀ τ o, (st_data_0 w.params δ τ)[1]? = some o → MethOf (hd.heap_227 w.params) 178 g (some o) name) : ∃ ox od, InstAt h (δ 0) ox 178 (some od) ∧ MethOf (hd.heap_227 w.params) 178 g (some od) name := by
  obtain ⟨τ, ht⟩ := M.ds
  exact ⟨_, _, ⟨ht 0 (by decide) _ rfl, rfl, rfl, ht 1 (by decide) _ rfl⟩, hm τ _ rfl⟩
theorem m_mapof {δ : Nat → Nat} (τ : Nat → Nat) (o : Obj) (h : (st_data_0 w.params δ τ)[1]? = some o) : MethOf (hd.heap_227 w.params) 178 175 (some o) "map_of" := by
  cases h
  exact ⟨by kernel_rfl, by kernel_rfl, by kernel_rfl, by kernel_rfl, by kernel_rfl, by kernel_rfl⟩
theorem m_dput {δ : Nat → Nat} (τ : Nat → Nat) (o : Obj) (h : (st_data_0 w.params δ τ)[1]? = some o) : MethOf (hd.heap_227 w.params) 178 161 (some o) "put" := by
  cases h
  exact ⟨by kernel_rfl, by kernel_rfl, by kernel_rfl, by kernel_rfl, by kernel_rfl, by kernel_rfl⟩
theorem dput {A : Around} {s : Shared} {k : Str} {t t2 t3 t4 : Tok} {c : Int} {val : Nat → Value} {st st' : StF} {dv : D} {old : List Nat} {kvsF : Addr → List (Str × Value)} {Q : Value → Shared → Prop} (M : MapsAt w δ kvs s.heap) (R : Room 320 A) (t0 : (T0 w.params).At s.heap)
    (P : PutC w st st' c val) (O : RmOk st) (hval : ∀ X h v, Rep X h v dv → ∃ t, v = val t) (hrv : ∀ X h, Rep X h (val t4) dv) (hδ : ∀ j, j < 4 → δ j ∉ old)
    (hmap : ∀ (A' : Around) (s' : Shared) (t : Tok) (Q' : Value → Shared → Prop), Room 319 A' → Kp s s' → (∀ (β τ : Nat → Nat) (s'' : Shared), outer s'' = outer s' → (∀ b o, b ≠ δ 3 → s'.heap.get? b = some o → s''.heap.get? b = some o) → Laid (st w.params β τ) (bsOf 4 β) s''.heap → (∀ b ∈ bsOf 4 β, b ∈ old ∨ s'.heap.get? b = none) → MapsAt w δ (kvsF (β 0)) s''.heap → Q' (.ref (β 0)) s'') →
      wpAny (model prgH w) A' (call (.ref 175) [.ref (δ 0), .str k t]) Q' (fun _ _ => False) s')
    (hQ : ∀ (β' τ' : Nat → Nat) (s' : Shared), outer s' = outer s → Laid (st' w.params β' τ') (bsOf 4 β') s'.heap → (∀ b o, b ≠ δ 3 → b ∉ old → s.heap.get? b = some o → s'.heap.get? b = some o) → (∀ b ∈ bsOf 4 β', b ∈ old ∨ s.heap.get? b = none) → MapsAt w δ (kvsF (β' 0)) s'.heap → Q .none s') :
    wpAny (model prgH w) A (call (.ref 161) [.ref (δ 0), .str k t, .int c t2, .int c t3, val t4]) Q (fun _ _ => False) s := by
  have live3 : ∃ o, s.heap.get? (δ 3) = some o := let ⟨o, _, _, ho, _⟩ := M.mp; ⟨o, ho⟩
  have hi3 := top_hi (P := w.params) (M.lo 3 (by decide))
  have liveδ : ∀ j, j < 4 → ∃ o, s.heap.get? (δ j) = some o := fun j hj => by
    obtain ⟨τ', ht⟩ := M.ds
    match j, hj with
    | 0, _ => exact ⟨_, ht 0 (by decide) _ rfl⟩
    | 1, _ => exact ⟨_, ht 1 (by decide) _ rfl⟩
    | 2, _ => exact ⟨_, ht 2 (by decide) _ rfl⟩
    | 3, _ => exact live3
  refine enter_def (n := 319) (X := fun b => b = δ 3) (k_dput w.params (.obj (δ 0)) (.str k) (.int c) (.int c) dv) R t0 (fun b hb => hb ▸ live3) (fun a o e hx => by subst hx; rw [hi3.1] at e; cases e) (.cons (.obj _) (.cons (.str _ _) (.cons (.int _ _) (.cons (.int _ _) (.cons (hrv _ _) .nil))))) fun A' L s₁ R' F => ?_
  have hKin : ∀ {h : Heap}, (T0 w.params).At h → (hd.heap_227 w.params).In h := fun t a o x => t.k a o x
  refine wpAny_execs_cons (wpAny_Expr_any ?_ rfl rfl)
  refine meth_eff (C := 129) (g := 112) (name := "put") (K := hd.heap_227 w.params) ?_ (by with_unfolding_all rfl) rfl rfl
  refine meth_eff (C := 178) (g := 175) (name := "map_of") (K := hd.heap_227 w.params) ?_ (by with_unfolding_all rfl) rfl rfl
  refine wpAny_mono ((ev_name rfl : Ev prgH w _ _ _ _ _ (.obj (δ 0))).run _ s₁ F.envR) (fun v s₂ ⟨k₂, r₂⟩ => ?_) (fun _ _ f => f.elim)
  cases r₂
  have F₂ := F.keep k₂
  obtain ⟨ox, od, hI, hM⟩ := (M.keep F₂.kp.1).inst (g := 175) (name := "map_of") m_mapof
  refine ⟨δ 0, ox, od, rfl, hKin F₂.envR.top, hI, hM, ?_⟩
  refine args_cons ?_ rfl
  refine wpAny_mono ((ev_name rfl : Ev prgH w _ _ _ _ _ (.str k)).run _ s₂ F₂.envR) (fun v s₃ ⟨k₃, r₃⟩ => args_nil ?_) (fun _ _ f => f.elim)
  cases r₃ with
  | str _ t' =>
    have F₃ := F₂.keep k₃
    refine ⟨hKin F₃.envR.top, ?_⟩
    refine hmap A' s₃ t' _ R' ⟨F₃.kp.2, F₃.kp.1⟩ fun β τ s₄ o₄ k₄ L₄ fr M₄ => ?_
    have K03 := F₃.kp.1
    have F₄ := (F₃.base0 (B₁ := {}) (fun b o e => by cases e)).reX (s' := s₄) (X' := fun _ => False) o₄ (fun b o hx e => k₄ b o hx e) (fun b hb => hb.elim) (fun b hb => hb.elim) (fun b _ => rfl) (fun b hb => hb ▸ hi3)
    obtain ⟨ox', od', hI', hM'⟩ := L₄.inst O
    refine ⟨β 0, ox', od', rfl, hKin F₄.envR.top, hI', hM', ?_⟩
    refine args_cons ?_ rfl
    refine wpAny_mono ((ev_name rfl : Ev prgH w _ _ _ _ _ (.int c)).run _ s₄ F₄.envR) (fun v s₅ ⟨k₅, r₅⟩ => ?_) (fun _ _ f => f.elim)
    have F₅ := F₄.keep k₅
    cases r₅
    refine args_cons ?_ rfl
    refine wpAny_mono ((ev_name rfl : Ev prgH w _ _ _ _ _ (.int c)).run _ s₅ F₅.envR) (fun v s₆ ⟨k₆, r₆⟩ => ?_) (fun _ _ f => f.elim)
    have F₆ := F₅.keep k₆
    cases r₆
    refine args_cons ?_ rfl
    refine wpAny_mono ((ev_name rfl : Ev prgH w _ _ _ _ _ dv).run _ s₆ F₆.envR) (fun v s₇ ⟨k₇, r₇⟩ => args_nil ?_) (fun _ _ f => f.elim)
    have F₇ := F₆.keep k₇
    obtain ⟨t5, rfl⟩ := hval _ _ _ r₇
    have K47 : Hk s₄.heap s₇.heap := fun b o e => k₇.hk b o (k₆.hk b o (k₅.hk b o e))
    have L₇ := L₄.keepOn (h' := s₇.heap) fun b _ o e => K47 b o e
    have fresh0 : ∀ b, s₃.heap.get? b = none → s.heap.get? b = none := fun b hb => by
      cases e : s.heap.get? b with
      | none => rfl
      | some o => rw [K03 b o e] at hb; cases hb
    have nδ : ∀ j, j < 4 → δ j ∉ bsOf 4 β := fun j hj hb => by
      rcases fr _ hb with h | h
      · exact hδ j hj h
      · obtain ⟨o, ho⟩ := liveδ j hj
        rw [K03 _ _ ho] at h; cases h
    refine ⟨hKin F₇.envR.top, P A' s₇ _ β τ _ _ t5 (R'.less (by decide)) (hKin F₇.envR.top) L₇ fun β' τ' h' tk e0 L' kk ff => ?_⟩
    refine b_nil ?_
    refine hQ β' τ' _ ?_ L' (fun b o h3 ho e => kk b o (fun hb => ?_) (K47 b o (k₄ b o h3 (K03 b o e)))) (fun b hb => ?_) ?_
    · exact (k₇.eq.trans (k₆.eq.trans (k₅.eq.trans (o₄.trans F₃.kp.2))))
    · rcases fr b hb with h | h
      · exact ho h
      · rw [K03 b o e] at h; cases h
    · rcases ff b hb with h | h
      · exact (fr b h).imp id (fresh0 b)
      · refine .inr ?_
        cases e : s.heap.get? b with
        | none => rfl
        | some o =>
          by_cases h3 : b = δ 3
          · obtain ⟨o', ho'⟩ : ∃ o, s₄.heap.get? (δ 3) = some o := let ⟨o, _, _, ho, _⟩ := M₄.mp; ⟨o, ho⟩
            rw [h3, K47 _ _ ho'] at h; cases h
          · rw [K47 b o (k₄ b o h3 (K03 b o e))] at h; cases h
    · rw [e0]
      exact (M₄.keep K47).at_ fun j hj o e => kk _ o (nδ j hj) e
end
end
section
open PySem PySem.W PySem.W.X PySem.Calls PyProof.Rows PySem.SeqAt PySem.Spec
set_option autoImplicit false
set_option linter.unusedVariables false
set_option maxRecDepth 100000
noncomputable def kvO (k : Str) : Option StF → Addr → List (Str × Value)
  | none, _ => []
  | some _, r => [(k, .ref r)]
noncomputable def adO : Option StF → (Nat → Nat) → List Nat
  | none, _ => []
  | some _, β => bsOf 4 β
/-- the database while it is built: a its first map's state, b its second one's; zs what else stands -/
structure Db (w : World) (δ : Nat → Nat) (zs : List (Addr × Obj)) (a b : Option StF) (β γ : Nat → Nat) (h : Heap) : Prop where
  maps : MapsAt w δ (kvO "sc" a (β 0) ++ kvO "scx" b (γ 0)) h
  sc : ∀ st, a = some st → ∃ τ, Laid (st w.params β τ) (bsOf 4 β) h
  scx : ∀ st, b = some st → ∃ τ, Laid (st w.params γ τ) (bsOf 4 γ) h
  d1 : ∀ j, j < 4 → δ j ∉ adO a β
  d2 : ∀ j, j < 4 → δ j ∉ adO b γ
  d3 : ∀ x ∈ adO a β, x ∉ adO b γ
  zl : ∀ z ∈ zs, h.get? z.1 = some z.2
  z0 : ∀ z ∈ zs, ∀ j, j < 4 → z.1 ≠ δ j
  z1 : ∀ z ∈ zs, z.1 ∉ adO a β
  z2 : ∀ z ∈ zs, z.1 ∉ adO b γ
/-- where it lies -/
noncomputable def InD (δ : Nat → Nat) (a b : Option StF) (β γ : Nat → Nat) (x : Addr) : Prop := (∃ j, j < 4 ∧ x = δ j) ∨ x ∈ adO a β ∨ x ∈ adO b γ
section
variable {w : World} {δ : Nat → Nat} {zs : List (Addr × Obj)} {a b : Option StF} {β γ : Nat → Nat}
theorem MapsAt.live {kvs : List (Str × Value)} {h : Heap} (M : MapsAt w δ kvs h) : ∀ j, j < 4 → ∃ o, h.get? (δ j) = some o := fun j hj => by
  obtain ⟨τ', ht⟩ := M.ds
  match j, hj with
  | 0, _ => exact ⟨_, ht 0 (by decide) _ rfl⟩
  | 1, _ => exact ⟨_, ht 1 (by decide) _ rfl⟩
  | 2, _ => exact ⟨_, ht 2 (by decide) _ rfl⟩
  | 3, _ => obtain ⟨o, _, _, ho, _⟩ := M.mp; exact ⟨o, ho⟩
theorem Db.live1 {h : Heap} (Z : Db w δ zs a b β γ h) : ∀ x ∈ adO a β, ∃ o, h.get? x = some o := fun x hx => by
  cases a with
  | none => cases hx
  | some st => obtain ⟨τ, L⟩ := Z.sc st rfl; exact L.live x hx
theorem Db.live2 {h : Heap} (Z : Db w δ zs a b β γ h) : ∀ x ∈ adO b γ, ∃ o, h.get? x = some o := fun x hx => by
  cases b with
  | none => cases hx
  | some st => obtain ⟨τ, L⟩ := Z.scx st rfl; exact L.live x hx
theorem Db.keepX {h h' : Heap} (Z : Db w δ zs a b β γ h) (hk : ∀ x o, (InD δ a b β γ x ∨ ∃ z ∈ zs, x = z.1) → h.get? x = some o → h'.get? x = some o) : Db w δ zs a b β γ h' :=
  { Z with
    maps := Z.maps.at_ fun j hj o e => hk _ o (.inl (.inl ⟨j, hj, rfl⟩)) e
    sc := fun st e => let ⟨τ, L⟩ := Z.sc st e; ⟨τ, L.keepOn fun x hx o ho => hk x o (.inl (.inr (.inl (by subst e; exact hx)))) ho⟩
    scx := fun st e => let ⟨τ, L⟩ := Z.scx st e; ⟨τ, L.keepOn fun x hx o ho => hk x o (.inl (.inr (.inr (by subst e; exact hx)))) ho⟩
    zl := fun z hz => hk _ _ (.inr ⟨z, hz, rfl⟩) (Z.zl z hz) }
/-- one put -/
noncomputable def StepC (w : World) (δ : Nat → Nat) (zs : List (Addr × Obj)) (k : Str) (c : Int) (dv : D) (a b a' b' : Option StF) : Prop := ∀ (A : Around) (s : Shared) (t t2 t3 : Tok) (v : Value) (β γ : Nat → Nat) (Q : Value → Shared → Prop), Room 320 A → (T0 w.params).At s.heap → Db w δ zs a b β γ s.heap →
  (∃ X h, Rep X h v dv) → (∀ (β' γ' : Nat → Nat) (s' : Shared), outer s' = outer s → Db w δ zs a' b' β' γ' s'.heap → (∀ x o, ¬ InD δ a b β γ x → s.heap.get? x = some o → s'.heap.get? x = some o) → (∀ x, InD δ a' b' β' γ' x → InD δ a b β γ x ∨ s.heap.get? x = none) → Q .none s') →
  wpAny (model prgH w) A (call (.ref 161) [.ref (δ 0), .str k t, .int c t2, .int c t3, v]) Q (fun _ _ => False) s
/-- a value that is just a datum -/
structure JustV (val : Nat → Value) (dv : D) : Prop where
  inv : ∀ X h v, Rep X h v dv → ∃ t, v = val t
  rep : ∀ X h t, Rep X h (val t) dv
theorem just_str {x : Str} : JustV (fun t => .str x t) (.str x) := ⟨fun X h v r => by cases r; exact ⟨_, rfl⟩, fun X h t => .str _ _⟩
theorem just_ref {a : Addr} : JustV (fun _ => .ref a) (.obj a) := ⟨fun X h v r => by cases r; exact ⟨0, rfl⟩, fun X h t => .obj _⟩
theorem just_none : JustV (fun _ => .none) .none := ⟨fun X h v r => by cases r; exact ⟨0, rfl⟩, fun X h t => .none⟩
theorem fresh_not {h : Heap} {x : Addr} (hx : h.get? x = none) : ¬ ∃ o, h.get? x = some o := fun ⟨o, ho⟩ => by rw [hx] at ho; cases ho
/-- the first map's -/
theorem Db.sc' {s s' : Shared} {st' : StF} {β' τ' : Nat → Nat} (Z : Db w δ zs a b β γ s.heap) (L' : Laid (st' w.params β' τ') (bsOf 4 β') s'.heap) (hk : ∀ x o, x ≠ δ 3 → x ∉ adO a β → s.heap.get? x = some o → s'.heap.get? x = some o)
    (hn : ∀ x ∈ bsOf 4 β', x ∈ adO a β ∨ s.heap.get? x = none) (M : MapsAt w δ (kvO "sc" (some st') (β' 0) ++ kvO "scx" b (γ 0)) s'.heap) :
    Db w δ zs (some st') b β' γ s'.heap ∧ (∀ x o, ¬ InD δ a b β γ x → s.heap.get? x = some o → s'.heap.get? x = some o) ∧ (∀ x, InD δ (some st') b β' γ x → InD δ a b β γ x ∨ s.heap.get? x = none) := by
  have live := Z.maps.live
  refine ⟨{ maps := M, sc := fun st e => by cases e; exact ⟨τ', L'⟩, scx := fun st e => ?_, d1 := fun j hj hx => ?_, d2 := Z.d2, d3 := fun x hx hx' => ?_, zl := fun z hz => hk _ _ (Z.z0 z hz 3 (by decide)) (Z.z1 z hz) (Z.zl z hz), z0 := Z.z0, z1 := fun z hz hx => ?_, z2 := Z.z2 }, fun x o hx e => hk x o (fun z => hx (.inl ⟨3, by decide, z⟩)) (fun z => hx (.inr (.inl z))) e, fun x hx => ?_⟩
  · obtain ⟨τ, L⟩ := Z.scx st e
    subst e
    exact ⟨τ, L.keepOn fun x hx o ho => hk x o (fun z => Z.d2 3 (by decide) (z ▸ hx)) (fun z => Z.d3 x z hx) ho⟩
  · exact (hn _ hx).elim (Z.d1 j hj) fun h => fresh_not h (live j hj)
  · exact (hn _ hx).elim (fun h => Z.d3 x h hx') fun h => fresh_not h (Z.live2 x hx')
  · exact (hn _ hx).elim (Z.z1 z hz) fun h => fresh_not h ⟨_, Z.zl z hz⟩
  · rcases hx with h | h | h
    · exact .inl (.inl h)
    · exact (hn x h).imp (fun h => .inr (.inl h)) id
    · exact .inl (.inr (.inr h))
theorem Db.scx' {s s' : Shared} {st' : StF} {γ' τ' : Nat → Nat} (Z : Db w δ zs a b β γ s.heap) (L' : Laid (st' w.params γ' τ') (bsOf 4 γ') s'.heap) (hk : ∀ x o, x ≠ δ 3 → x ∉ adO b γ → s.heap.get? x = some o → s'.heap.get? x = some o)
    (hn : ∀ x ∈ bsOf 4 γ', x ∈ adO b γ ∨ s.heap.get? x = none) (M : MapsAt w δ (kvO "sc" a (β 0) ++ kvO "scx" (some st') (γ' 0)) s'.heap) :
    Db w δ zs a (some st') β γ' s'.heap ∧ (∀ x o, ¬ InD δ a b β γ x → s.heap.get? x = some o → s'.heap.get? x = some o) ∧ (∀ x, InD δ a (some st') β γ' x → InD δ a b β γ x ∨ s.heap.get? x = none) := by
  have live := Z.maps.live
  refine ⟨{ maps := M, scx := fun st e => by cases e; exact ⟨τ', L'⟩, sc := fun st e => ?_, d2 := fun j hj hx => ?_, d1 := Z.d1, d3 := fun x hx hx' => ?_, zl := fun z hz => hk _ _ (Z.z0 z hz 3 (by decide)) (Z.z2 z hz) (Z.zl z hz), z0 := Z.z0, z2 := fun z hz hx => ?_, z1 := Z.z1 }, fun x o hx e => hk x o (fun z => hx (.inl ⟨3, by decide, z⟩)) (fun z => hx (.inr (.inr z))) e, fun x hx => ?_⟩
  · obtain ⟨τ, L⟩ := Z.sc st e
    subst e
    exact ⟨τ, L.keepOn fun x hx o ho => hk x o (fun z => Z.d1 3 (by decide) (z ▸ hx)) (fun z => Z.d3 x hx z) ho⟩
  · exact (hn _ hx).elim (Z.d2 j hj) fun h => fresh_not h (live j hj)
  · exact (hn _ hx').elim (fun h => Z.d3 x hx h) fun h => fresh_not h (Z.live1 x hx)
  · exact (hn _ hx).elim (Z.z2 z hz) fun h => fresh_not h ⟨_, Z.zl z hz⟩
  · rcases hx with h | h | h
    · exact .inl (.inl h)
    · exact .inl (.inr (.inl h))
    · exact (hn x h).imp (fun h => .inr (.inr h)) id
theorem sc_old {st st' : StF} {c : Int} {val : Nat → Value} {dv : D} (P : PutC w st st' c val) (O : RmOk st) (V : JustV val dv) : StepC w δ zs "sc" c dv (some st) b (some st') b := by
  intro A s t t2 t3 v β γ Q R t0 Z ⟨X, h, rv⟩ hQ
  obtain ⟨t4, rfl⟩ := V.inv _ _ _ rv
  obtain ⟨τ, L⟩ := Z.sc st rfl
  refine dput (old := bsOf 4 β) (kvsF := fun r => kvO "sc" (some st') r ++ kvO "scx" b (γ 0)) Z.maps R t0 P O V.inv (fun X h => V.rep X h t4) Z.d1 (fun A' s' t Q' R' k hQ' => ?_) fun β' τ' s' o' L' k' n' M' => ?_
  · refine map_old (r := β 0) (Z.maps.keep k.hk) (by simp [kvO, valueAt]) R' (t0.keep k.hk) fun s'' k' => ?_
    exact hQ' β τ s'' k'.eq (fun b o _ e => k'.hk b o e) ((L.keepOn fun b _ o e => k.hk b o e).keepOn fun b _ o e => k'.hk b o e) (fun b hb => .inl hb) ((Z.maps.keep k.hk).keep k'.hk)
  · obtain ⟨a1, a2, a3⟩ := Z.sc' L' k' n' M'
    exact hQ β' γ s' o' a1 a2 a3
theorem scx_old {sa st st' : StF} {c : Int} {val : Nat → Value} {dv : D} (P : PutC w st st' c val) (O : RmOk st) (V : JustV val dv) : StepC w δ zs "scx" c dv (some sa) (some st) (some sa) (some st') := by
  intro A s t t2 t3 v β γ Q R t0 Z ⟨X, h, rv⟩ hQ
  obtain ⟨t4, rfl⟩ := V.inv _ _ _ rv
  obtain ⟨τ, L⟩ := Z.scx st rfl
  refine dput (old := bsOf 4 γ) (kvsF := fun r => kvO "sc" (some sa) (β 0) ++ kvO "scx" (some st') r) Z.maps R t0 P O V.inv (fun X h => V.rep X h t4) Z.d2 (fun A' s' t Q' R' k hQ' => ?_) fun γ' τ' s' o' L' k' n' M' => ?_
  · refine map_old (r := γ 0) (Z.maps.keep k.hk) (by kernel_rfl) R' (t0.keep k.hk) fun s'' k' => ?_
    exact hQ' γ τ s'' k'.eq (fun b o _ e => k'.hk b o e) ((L.keepOn fun b _ o e => k.hk b o e).keepOn fun b _ o e => k'.hk b o e) (fun b hb => .inl hb) ((Z.maps.keep k.hk).keep k'.hk)
  · obtain ⟨a1, a2, a3⟩ := Z.scx' L' k' n' M'
    exact hQ β γ' s' o' a1 a2 a3
theorem sc_new {st st' : StF} {c : Int} {val val0 : Nat → Value} {dv d0 : D} (N : NewC w st val0) (V0 : JustV val0 d0) (hdf : ∀ τ o, (st_data_0 w.params δ τ)[2]? = some o → ∀ X h, Rep X h ((findBy (PySem.strKind prg w).is (esOf (some o)) "sc").getD .none) d0)
    (P : PutC w st st' c val) (O : RmOk st) (V : JustV val dv) : StepC w δ zs "sc" c dv none none (some st') none := by
  intro A s t t2 t3 v β γ Q R t0 Z ⟨X, h, rv⟩ hQ
  obtain ⟨t4, rfl⟩ := V.inv _ _ _ rv
  refine dput (old := []) (kvsF := fun r => kvO "sc" (some st') r ++ kvO "scx" none (γ 0)) Z.maps R t0 P O V.inv (fun X h => V.rep X h t4) (fun j hj hx => by cases hx) (fun A' s' t Q' R' k hQ' => ?_) fun β' τ' s' o' L' k' n' M' => ?_
  · refine map_new (Z.maps.keep k.hk) rfl (Nat.le_of_ble_eq_true rfl) R' (t0.keep k.hk) N V0.inv hdf fun β' τ' s'' o' k' M' L' n' => ?_
    exact hQ' β' τ' s'' o' k' L' (fun b hb => .inr (n' b hb)) M'
  · obtain ⟨a1, a2, a3⟩ := Z.sc' L' k' n' M'
    exact hQ β' γ s' o' a1 a2 a3
theorem scx_new {sa st st' : StF} {c : Int} {val val0 : Nat → Value} {dv d0 : D} (N : NewC w st val0) (V0 : JustV val0 d0) (hdf : ∀ τ o, (st_data_0 w.params δ τ)[2]? = some o → ∀ X h, Rep X h ((findBy (PySem.strKind prg w).is (esOf (some o)) "scx").getD .none) d0)
    (P : PutC w st st' c val) (O : RmOk st) (V : JustV val dv) : StepC w δ zs "scx" c dv (some sa) none (some sa) (some st') := by
  intro A s t t2 t3 v β γ Q R t0 Z ⟨X, h, rv⟩ hQ
  obtain ⟨t4, rfl⟩ := V.inv _ _ _ rv
  refine dput (old := []) (kvsF := fun r => kvO "sc" (some sa) (β 0) ++ kvO "scx" (some st') r) Z.maps R t0 P O V.inv (fun X h => V.rep X h t4) (fun j hj hx => by cases hx) (fun A' s' t Q' R' k hQ' => ?_) fun γ' τ' s' o' L' k' n' M' => ?_
  · refine map_new (Z.maps.keep k.hk) (by kernel_rfl) (Nat.le_of_ble_eq_true rfl) R' (t0.keep k.hk) N V0.inv hdf fun γ' τ' s'' o' k' M' L' n' => ?_
    exact hQ' γ' τ' s'' o' k' L' (fun b hb => .inr (n' b hb)) M'
  · obtain ⟨a1, a2, a3⟩ := Z.scx' L' k' n' M'
    exact hQ β γ' s' o' a1 a2 a3
end
end
section
open PySem PySem.W PySem.W.X PySem.Calls PyProof.Rows PySem.SeqAt PySem.Spec
set_option autoImplicit false
set_option linter.unusedVariables false
set_option maxRecDepth 100000
theorem m_rmput {P : Params} {od : Option Obj} (h : shadowIn od "put" = some false) : MethOf (hd.heap_227 P) 129 112 od "put" := ⟨by kernel_rfl, by kernel_rfl, by kernel_rfl, by kernel_rfl, h, by kernel_rfl⟩
theorem ok_sc_0 : RmOk st_sc_0 := ⟨fun P β τ => ⟨_, rfl, rfl, m_rmput (by kernel_rfl)⟩⟩
theorem ok_sc_1 : RmOk st_sc_1 := ⟨fun P β τ => ⟨_, rfl, rfl, m_rmput (by kernel_rfl)⟩⟩
theorem ok_sc_2 : RmOk st_sc_2 := ⟨fun P β τ => ⟨_, rfl, rfl, m_rmput (by kernel_rfl)⟩⟩
theorem ok_sc_3 : RmOk st_sc_3 := ⟨fun P β τ => ⟨_, rfl, rfl, m_rmput (by kernel_rfl)⟩⟩
theorem ok_sc_4 : RmOk st_sc_4 := ⟨fun P β τ => ⟨_, rfl, rfl, m_rmput (by kernel_rfl)⟩⟩
theorem ok_sc_5 : RmOk st_sc_5 := ⟨fun P β τ => ⟨_, rfl, rfl, m_rmput (by kernel_rfl)⟩⟩
theorem ok_sc_6 : RmOk st_sc_6 := ⟨fun P β τ => ⟨_, rfl, rfl, m_rmput (by kernel_rfl)⟩⟩
theorem ok_sc_7 : RmOk st_sc_7 := ⟨fun P β τ => ⟨_, rfl, rfl, m_rmput (by kernel_rfl)⟩⟩
theorem ok_sc_8 : RmOk st_sc_8 := ⟨fun P β τ => ⟨_, rfl, rfl, m_rmput (by kernel_rfl)⟩⟩
theorem ok_sc_9 : RmOk st_sc_9 := ⟨fun P β τ => ⟨_, rfl, rfl, m_rmput (by kernel_rfl)⟩⟩
theorem ok_sc_10 : RmOk st_sc_10 := ⟨fun P β τ => ⟨_, rfl, rfl, m_rmput (by kernel_rfl)⟩⟩
theorem ok_sc_11 : RmOk st_sc_11 := ⟨fun P β τ => ⟨_, rfl, rfl, m_rmput (by kernel_rfl)⟩⟩
theorem ok_sc_12 : RmOk st_sc_12 := ⟨fun P β τ => ⟨_, rfl, rfl, m_rmput (by kernel_rfl)⟩⟩
theorem ok_scx_0 : RmOk st_scx_0 := ⟨fun P β τ => ⟨_, rfl, rfl, m_rmput (by kernel_rfl)⟩⟩
theorem ok_scx_1 : RmOk st_scx_1 := ⟨fun P β τ => ⟨_, rfl, rfl, m_rmput (by kernel_rfl)⟩⟩
theorem ok_scx_2 : RmOk st_scx_2 := ⟨fun P β τ => ⟨_, rfl, rfl, m_rmput (by kernel_rfl)⟩⟩
section
variable {w : World} {δ : Nat → Nat} {zs : List (Addr × Obj)}
theorem dfl_sc (τ : Nat → Nat) (o : Obj) (h : (st_data_0 w.params δ τ)[2]? = some o) (X : Addr → Prop) (g : Heap) : Rep X g ((findBy (PySem.strKind prg w).is (esOf (some o)) "sc").getD .none) (.str "Zzzz") := by
  cases h
  rw [show (findBy (PySem.strKind prg w).is (esOf (some _)) "sc").getD .none = .str "Zzzz" (τ 15) by kernel_rfl]
  exact .str _ _
theorem dfl_scx (τ : Nat → Nat) (o : Obj) (h : (st_data_0 w.params δ τ)[2]? = some o) (X : Addr → Prop) (g : Heap) : Rep X g ((findBy (PySem.strKind prg w).is (esOf (some o)) "scx").getD .none) .none := by
  cases h
  rw [show (findBy (PySem.strKind prg w).is (esOf (some _)) "scx").getD .none = .none by kernel_rfl]
  exact .none
noncomputable def aAt : Nat → Option StF
  | 0 => none
  | 1 => some st_sc_1
  | 2 => some st_sc_2
  | 3 => some st_sc_3
  | 4 => some st_sc_4
  | 5 => some st_sc_5
  | 6 => some st_sc_6
  | 7 => some st_sc_7
  | 8 => some st_sc_8
  | 9 => some st_sc_9
  | 10 => some st_sc_10
  | 11 => some st_sc_11
  | 12 => some st_sc_12
  | 13 => some st_sc_13
  | _ => none
noncomputable def bAt : Nat → Option StF
  | 0 => none
  | 1 => none
  | 2 => none
  | 3 => none
  | 4 => none
  | 5 => none
  | 6 => none
  | 7 => none
  | 8 => none
  | 9 => none
  | 10 => some st_scx_1
  | 11 => some st_scx_2
  | 12 => some st_scx_3
  | 13 => some st_scx_3
  | _ => none
/-- the rows as the loop takes them -/
noncomputable def rowsO : List D := [.tup [.int 97, .str "Latn", .none], .tup [.int 1072, .str "Cyrl", .none], .tup [.int 12354, .str "Hira", .none], .tup [.int 12450, .str "Kana", .none], .tup [.int 19968, .str "Hani", .none], .tup [.int 44032, .str "Hang", .none], .tup [.int 12549, .str "Bopo", .none], .tup [.int 32, .str "Zyyy", .none], .tup [.int 768, .str "Zinh", .none], .tup [.int 12540, .str "Zyyy", .obj 211], .tup [.int 12289, .str "Zyyy", .obj 213], .tup [.int 867, .str "Zinh", .obj 215], .tup [.int 57344, .str "Zzzz", .none]]
theorem step_sc_0 : StepC w δ zs "sc" 97 (.str "Latn") (aAt 0) (bAt 0) (aAt 1) (bAt 0) := sc_new new_sc just_str dfl_sc put_sc_0 ok_sc_0 just_str
theorem step_sc_1 : StepC w δ zs "sc" 1072 (.str "Cyrl") (aAt 1) (bAt 1) (aAt 2) (bAt 1) := sc_old put_sc_1 ok_sc_1 just_str
theorem step_sc_2 : StepC w δ zs "sc" 12354 (.str "Hira") (aAt 2) (bAt 2) (aAt 3) (bAt 2) := sc_old put_sc_2 ok_sc_2 just_str
theorem step_sc_3 : StepC w δ zs "sc" 12450 (.str "Kana") (aAt 3) (bAt 3) (aAt 4) (bAt 3) := sc_old put_sc_3 ok_sc_3 just_str
theorem step_sc_4 : StepC w δ zs "sc" 19968 (.str "Hani") (aAt 4) (bAt 4) (aAt 5) (bAt 4) := sc_old put_sc_4 ok_sc_4 just_str
theorem step_sc_5 : StepC w δ zs "sc" 44032 (.str "Hang") (aAt 5) (bAt 5) (aAt 6) (bAt 5) := sc_old put_sc_5 ok_sc_5 just_str
theorem step_sc_6 : StepC w δ zs "sc" 12549 (.str "Bopo") (aAt 6) (bAt 6) (aAt 7) (bAt 6) := sc_old put_sc_6 ok_sc_6 just_str
theorem step_sc_7 : StepC w δ zs "sc" 32 (.str "Zyyy") (aAt 7) (bAt 7) (aAt 8) (bAt 7) := sc_old put_sc_7 ok_sc_7 just_str
theorem step_sc_8 : StepC w δ zs "sc" 768 (.str "Zinh") (aAt 8) (bAt 8) (aAt 9) (bAt 8) := sc_old put_sc_8 ok_sc_8 just_str
theorem step_sc_9 : StepC w δ zs "sc" 12540 (.str "Zyyy") (aAt 9) (bAt 9) (aAt 10) (bAt 9) := sc_old put_sc_9 ok_sc_9 just_str
theorem step_scx_0 : StepC w δ zs "scx" 12540 (.obj 211) (aAt 10) (bAt 9) (aAt 10) (bAt 10) := scx_new new_scx just_none dfl_scx put_scx_0 ok_scx_0 just_ref
theorem step_sc_10 : StepC w δ zs "sc" 12289 (.str "Zyyy") (aAt 10) (bAt 10) (aAt 11) (bAt 10) := sc_old put_sc_10 ok_sc_10 just_str
theorem step_scx_1 : StepC w δ zs "scx" 12289 (.obj 213) (aAt 11) (bAt 10) (aAt 11) (bAt 11) := scx_old put_scx_1 ok_scx_1 just_ref
theorem step_sc_11 : StepC w δ zs "sc" 867 (.str "Zinh") (aAt 11) (bAt 11) (aAt 12) (bAt 11) := sc_old put_sc_11 ok_sc_11 just_str
theorem step_scx_2 : StepC w δ zs "scx" 867 (.obj 215) (aAt 12) (bAt 11) (aAt 12) (bAt 12) := scx_old put_scx_2 ok_scx_2 just_ref
theorem step_sc_12 : StepC w δ zs "sc" 57344 (.str "Zzzz") (aAt 12) (bAt 12) (aAt 13) (bAt 12) := sc_old put_sc_12 ok_sc_12 just_str
end
end
section
open PySem PySem.W PySem.W.X PySem.Calls PyProof.Rows PySem.SeqAt PySem.Spec
set_option autoImplicit false
set_option linter.unusedVariables false
set_option maxRecDepth 100000
/-- the database, and all of what is laid aside -/
noncomputable def DbX (w : World) (δ : Nat → Nat) (zs : List (Addr × Obj)) (a b : Option StF) (X : Addr → Prop) (h : Heap) : Prop := ∃ β γ, Db w δ zs a b β γ h ∧ ∀ x, X x ↔ (InD δ a b β γ x ∨ ∃ z ∈ zs, x = z.1)
section
variable {w : World} {A : Around} {env : Env} {σ : Sg} {B₀ : Heap} {s : Shared} {δ : Nat → Nat} {zs : List (Addr × Obj)} {a b a' b' : Option StF} {X : Addr → Prop} {I : Addr} {P : Flow → Shared → Prop} {E' : Value → Shared → Prop} {rest : List Stmt}
theorem DbX.keep {h h' : Heap} (Z : DbX w δ zs a b X h) (hk : ∀ x o, X x → h.get? x = some o → h'.get? x = some o) : DbX w δ zs a b X h' := by
  obtain ⟨β, γ, Z, hX⟩ := Z
  exact ⟨β, γ, Z.keepX fun x o hx e => hk x o ((hX x).mpr hx) e, hX⟩
theorem Db.liveIn {β γ : Nat → Nat} {h : Heap} (Z : Db w δ zs a b β γ h) : ∀ x, InD δ a b β γ x → ∃ o, h.get? x = some o := fun x hx => by
  rcases hx with ⟨j, hj, rfl⟩ | hx | hx
  · exact Z.maps.live j hj
  · exact Z.live1 x hx
  · exact Z.live2 x hx
/-- what a put's statement leaves -/
noncomputable def PutPost (w : World) (env : Env) (B₀ : Heap) (δ : Nat → Nat) (zs : List (Addr × Obj)) (a' b' : Option StF) (X : Addr → Prop) (I : Addr) (σ : Sg) (s s' : Shared) : Prop := ∃ X', FX (T0 w.params) env B₀ (wI X' I) σ s' ∧ DbX w δ zs a' b' X' s'.heap ∧ outer s' = outer s ∧ (∀ x o, ¬ X x → x ∉ places env [] → s.heap.get? x = some o → s'.heap.get? x = some o) ∧ (∀ x, X' x → X x ∨ s.heap.get? x = none) ∧ ¬ X' I
theorem put_stmt {k : Str} {c : Int} {dv : D} {e1 e2 e3 : PySem.Expr} {p1 pa pc ps : Pos} {k1 : Nat} {q1 : Pos} {pl : Sem Bool} (S : StepC w δ zs k c dv a b a' b') (R : Room 320 A) (F : FX (T0 w.params) env B₀ (wI X I) σ s) (hXI : ¬ X I) (Z : DbX w δ zs a b X s.heap)
    (hdata : σ "data" = some (.obj (δ 0))) (he : Evs prgH w (T0 w.params) A env σ [.Constant (.str k) k1 q1, e1, e2, e3] [.str k, .int c, .int c, dv])
    (hform : eval (.Call (.Attribute (.Name "data" p1) "put" pa) [.Constant (.str k) k1 q1, e1, e2, e3] [] pc) env = (do
      let ov ← eval (.Name "data" p1) env
      standAt pa.atName
      let (f, first) ← holding [ov] (getMethod ov "put" pl)
      callWith pc f first (backTo pc (starEach [.Constant (.str k) k1 q1, e1, e2, e3] env)) (backToKw pc (keywordEach [] env))))
    (hpl : ((backTo pc (starEach [.Constant (.str k) k1 q1, e1, e2, e3] env)).any (·.1) || (backToKw pc (keywordEach [] env)).any (·.1.isNone)) = false) (hne : starEach [.Constant (.str k) k1 q1, e1, e2, e3] env = (false, eval (.Constant (.str k) k1 q1) env) :: starEach [e1, e2, e3] env)
    (hin : interactive env = false) (hsw : swapsWith (.Call (.Attribute (.Name "data" p1) "put" pa) [.Constant (.str k) k1 q1, e1, e2, e3] [] pc) none ps.line env = pure false)
    (h : ∀ s', PutPost w env B₀ δ zs a' b' X I σ s s' → wpAny (model prgH w) A (execs rest env) P E' s') :
    wpAny (model prgH w) A (execs (.Expr (.Call (.Attribute (.Name "data" p1) "put" pa) [.Constant (.str k) k1 q1, e1, e2, e3] [] pc) ps :: rest) env) P E' s := by
  refine wpAny_execs_cons (wpAny_Expr_any ?_ hin hsw)
  obtain ⟨β, γ, Z, hX⟩ := Z
  have hKin : ∀ {h : Heap}, (T0 w.params).At h → (hd.heap_227 w.params).In h := fun t a o x => t.k a o x
  refine wpAny_mono (E := fun _ _ => False) (meth_eff (C := 178) (g := 161) (name := "put") (K := hd.heap_227 w.params) ?_ hform hpl hne) (fun v s' hv => hv) (fun _ _ f => f.elim)
  refine wpAny_mono ((ev_name hdata : Ev prgH w _ _ _ _ _ (.obj (δ 0))).run _ s F.envR) (fun v s₂ ⟨k₂, r₂⟩ => ?_) (fun _ _ f => f.elim)
  cases r₂
  have F₂ := F.keep k₂
  have Z₂ : Db w δ zs a b β γ s₂.heap := Z.keepX fun x o _ e => k₂.hk x o e
  obtain ⟨ox, od, hI, hM⟩ := Z₂.maps.inst (g := 161) (name := "put") m_dput
  refine ⟨δ 0, ox, od, rfl, hKin F₂.envR.top, hI, hM, ?_⟩
  refine wpAny_mono (he.run _ _ s₂ F₂.envR) (fun vs s₃ ⟨k₃, r₃⟩ => ?_) (fun _ _ f => f.elim)
  have F₃ := F₂.keep k₃
  have Z₃ : Db w δ zs a b β γ s₃.heap := Z₂.keepX fun x o _ e => k₃.hk x o e
  refine ⟨hKin F₃.envR.top, ?_⟩
  cases r₃ with
  | cons r1 r₃ =>
  cases r₃ with
  | cons r2 r₃ =>
  cases r₃ with
  | cons r3 r₃ =>
  cases r₃ with
  | cons r4 r₃ =>
  cases r₃
  cases r1
  cases r2
  cases r3
  refine S A s₃ _ _ _ _ β γ _ R F₃.envR.top Z₃ ⟨_, _, r4⟩ fun β' γ' s₄ o₄ Z₄ kk nn => ?_
  have k03 : Kp s s₃ := k₂.trans k₃
  have nI : ¬ InD δ a b β γ I := fun z => hXI ((hX I).mpr (.inl z))
  obtain ⟨oI, hoI⟩ := F₃.live I (.inr rfl)
  have nX' : ¬ (InD δ a' b' β' γ' I ∨ ∃ z ∈ zs, I = z.1) := fun z => by
    rcases z with z | ⟨z, hz, e⟩
    · rcases nn I z with h | h
      · exact nI h
      · rw [hoI] at h; cases h
    · exact hXI ((hX I).mpr (.inr ⟨z, hz, e⟩))
  refine h s₄ ⟨fun x => InD δ a' b' β' γ' x ∨ ∃ z ∈ zs, x = z.1, F₃.step (X' := wI (fun x => InD δ a' b' β' γ' x ∨ ∃ z ∈ zs, x = z.1) I) o₄ (fun x o hx e => kk x o (fun z => hx (.inl ((hX x).mpr (.inl z)))) e) (fun x hx => ?_) (fun x hx => ?_), ⟨β', γ', Z₄, fun x => Iff.rfl⟩, o₄.trans k03.eq, fun x o hx _ e => kk x o (fun z => hx ((hX x).mpr (.inl z))) (k03.hk x o e), fun x hx => ?_, nX'⟩
  · rcases hx with (hx | hx) | hx
    · exact (nn x hx).imp (fun z => .inl ((hX x).mpr (.inl z))) id
    · exact .inl (.inl ((hX x).mpr (.inr hx)))
    · exact .inl (.inr hx)
  · rcases hx with (hx | ⟨z, hz, rfl⟩) | rfl
    · exact Z₄.liveIn x hx
    · exact ⟨_, Z₄.zl z hz⟩
    · exact ⟨oI, kk _ _ nI hoI⟩
  · rcases hx with hx | hx
    · refine (nn x hx).imp (fun z => (hX x).mpr (.inl z)) fun z => ?_
      cases e : s.heap.get? x with
      | none => rfl
      | some o => rw [k03.hk x o e] at z; cases z
    · exact .inl ((hX x).mpr (.inr hx))
end
end
section
open PySem PySem.W PySem.Calls PyProof.Rows PySem.SeqAt PySem.Spec
set_option autoImplicit false
set_option linter.unusedVariables false
section
variable {prog : Program} {w : World} {T : Top0} {A : Around} {env : Env} {σ : Sg} {n : Nat}
/-- a comprehension up to its loop -/
theorem comp_genI {x : Str} {px pos pos' : Pos} {elt iter : PySem.Expr} {ifs : List PySem.Expr} {rest : List Comprehension} {scope : Scope} {cl : List (Str × Addr)} {cap : List Str} {X : Addr → Prop} {s : Shared} (kx : Bool)
    {use : Option (Value → Sem Unit)} {Q : Value → Shared → Prop} {E' : Value → Shared → Prop} (hkf : kx = false) (Mid : Shared → Nat → Prop) (Fin : Shared → Nat → Addr → Addr → Shared → Prop) (hs : ∀ x, foldedSetIterable iter env x = pure x)
    (hfirst : wpAny (model prog w) A (eval iter env) (fun xv s₁ => EnvR T env σ X s₁.heap ∧ ∃ (o' : Obj) (N : Nat) (Pv : Nat → Value → Prop) (St : Nat → Heap → Prop), o'.isFreed = false ∧ Mid s₁ N ∧ Walks prog w A s₁.heap.objs.size [s₁.heap.objs.size] [s₁.heap.objs.size] N Pv St ∧
      (∀ i v, Pv i v → i < N ∧ ∃ t, v = .int i t) ∧ (∀ i h, St i h → ∃ o, h.get? s₁.heap.objs.size = some o) ∧ St 0 (s₁.heap.push o') ∧ (∀ Q1 : Value → Shared → Prop, Q1 (.ref s₁.heap.objs.size) { s₁ with heap := s₁.heap.push o' } → wpAny (model prog w) A (pyIter xv) Q1 E' s₁)) E' s)
    (K : CompOk scope env σ cl cap x) (hcs : ∀ n, cellsFrom n scope.names cl = if kx then (x, n) :: cl else cl) (hps : ∀ h, pushCells h scope.names = if kx then h.push cellObj else h)
    (hx : scope.names.lookup x = some (if kx then .cell else .local))
    (hloop : ∀ (B s₃ : Shared) (I C D' : Addr) (N : Nat) (Pv : Nat → Value → Prop) (St : Nat → Heap → Prop), Mid B N → Walks prog w A I [I] [I] N Pv St → (∀ i v, Pv i v → i < N ∧ ∃ t, v = .int i t) → (∀ i h, St i h → ∃ o, h.get? I = some o) → (∀ b ∈ I :: LOf kx D' C, B.heap.get? b = none) → I ∉ LOf kx D' C → D' ≠ C → D' ≠ C + 1 →
      (∀ y c, (csOf kx x C cl).lookup y = some c → c ≠ I ∧ c ≠ D' ∧ ∃ o, B.heap.get? c = some o) → SlotC (envX scope (csOf kx x C cl) C env) x (if kx then C + 1 else C) →
      St 0 s₃.heap → IsL s₃.heap D' #[] 0 → Kp B s₃ → CF T (envX scope (csOf kx x C cl) C env) B X (I :: LOf kx D' C) (capN σ cap) s₃ →
      ∀ (Rr : Result → Shared → Prop), (∀ s', Fin B N C D' s' → Rr (.ok .next) s') →
      codeAny (model prog w) A (.compLoop (.ListComp elt (⟨.Name x px, iter, ifs, 0⟩ :: rest) scope pos) 0 (.ref I) (.ref D') (envX scope (csOf kx x C cl) C env)) Rr s₃)
    (hQ : ∀ B N s' C D', Fin B N C D' s' → B.heap.get? C = none → B.heap.get? D' = none → D' ≠ C → compPost (model prog w) A E' use Q (.ref D') C (.ok .next) s') :
    wpAny (model prog w) A (comprehension (.ListComp elt (⟨.Name x px, iter, ifs, 0⟩ :: rest) scope pos) scope env pos' (newList []) false (eval iter env) use) Q E' s := by
  refine wpAny_comprehension_free rfl hs K.clos K.kind K.names (wpAny_mono hfirst (fun xv s₁ h₁ => ?_) fun _ _ e => e)
  obtain ⟨E₁, o', N, Pv, St, hfo, hMid, hW, hPv, hlv, hst, hit⟩ := h₁
  refine hit _ ?_
  refine wpAny_newList ?_
  dsimp only
  generalize hH2 : s₁.heap.push o' = H2 at hst
  have z2 : H2.objs.size = s₁.heap.objs.size + 1 := by rw [← hH2, Heap.size_push]
  have k2 : Hk s₁.heap H2 := fun b q e => hH2 ▸ Heap.get?_push_of_some _ e
  refine newEnv_comp ?_
  dsimp only
  rw [hps, hcs]
  generalize hH3 : H2.push { cls := .type "list", dict := none, data := .seq ([] : List Value).toArray } = H3
  have z3 : H3.objs.size = s₁.heap.objs.size + 2 := by rw [← hH3, Heap.size_push, z2]
  have k3 : Hk H2 H3 := fun b q e => hH3 ▸ Heap.get?_push_of_some _ e
  have hD : IsL H3 H2.objs.size #[] 0 := by rw [← hH3]; exact Heap.get?_push_size _ rfl
  have hio : H2.get? s₁.heap.objs.size = some o' := by rw [← hH2]; exact Heap.get?_push_size _ hfo
  -- the frame
  generalize hH4 : H3.push { cls := .type "dict", data := .dict #[] } = H4
  have z4 : H4.objs.size = s₁.heap.objs.size + 3 := by rw [← hH4, Heap.size_push, z3]
  have k4 : Hk H3 H4 := fun b q e => hH4 ▸ Heap.get?_push_of_some _ e
  have hns : H4.Ns H3.objs.size (fun _ => none) := by rw [← hH4]; exact Heap.Ns.new H3 (.type "dict")
  generalize hH5 : (if kx = true then H4.push cellObj else H4) = H5
  have k5 : Hk H4 H5 := fun b q e => by
    rw [← hH5]; split
    · exact Heap.get?_push_of_some _ e
    · exact e
  have hcell : kx = true → H5.IsCell (H3.objs.size + 1) none := fun h => by
    rw [← hH5, if_pos h]
    exact ⟨cellObj, by rw [show H3.objs.size + 1 = H4.objs.size by rw [z4, z3]]; exact Heap.get?_push_size _ rfl, rfl⟩
  have k15 : Hk s₁.heap H5 := fun b q e => k5 b q (k4 b q (k3 b q (k2 b q e)))
  have old : ∀ b q, s₁.heap.get? b = some q → b < s₁.heap.objs.size := fun b q e => Heap.lt_size e
  have memL : ∀ b, b ∈ LOf kx H2.objs.size H3.objs.size → b = H2.objs.size ∨ b = H3.objs.size ∨ (kx = true ∧ b = H3.objs.size + 1) := fun b hb => by
    unfold LOf at hb
    split at hb
    · rename_i h
      simp only [List.mem_cons, List.not_mem_nil, or_false] at hb
      exact hb.imp id (.imp id fun e => ⟨h, e⟩)
    · simp only [List.mem_cons, List.not_mem_nil, or_false] at hb
      exact hb.imp id .inl
  have lowL : ∀ b ∈ s₁.heap.objs.size :: LOf kx H2.objs.size H3.objs.size, @LE.le Nat _ s₁.heap.objs.size b := fun b hb => by
    rcases List.mem_cons.mp hb with rfl | hb
    · exact Nat.le_refl _
    · rcases memL b hb with rfl | rfl | ⟨_, rfl⟩ <;> omega
  have hBn : ∀ b ∈ s₁.heap.objs.size :: LOf kx H2.objs.size H3.objs.size, s₁.heap.get? b = none := fun b hb => Heap.get?_none_of_le (lowL b hb)
  have hIL : s₁.heap.objs.size ∉ LOf kx H2.objs.size H3.objs.size := fun m => by
    have : (s₁.heap.objs.size : Nat) = H2.objs.size ∨ (s₁.heap.objs.size : Nat) = H3.objs.size ∨ (kx = true ∧ (s₁.heap.objs.size : Nat) = H3.objs.size + 1) := memL _ m
    omega
  have mCL : H3.objs.size ∈ LOf kx H2.objs.size H3.objs.size := by unfold LOf; split <;> simp
  have mDL : H2.objs.size ∈ LOf kx H2.objs.size H3.objs.size := by unfold LOf; split <;> simp
  have capC : ∀ y ∈ cap, ∃ c v d, cl.lookup y = some c ∧ σ y = some d ∧ s₁.heap.IsCell c (some v) ∧ Rep X s₁.heap v d := fun y hy => by
    obtain ⟨_, _, hnl, ⟨c, hcl, hec⟩, d, hd⟩ := K.capt y hy
    obtain ⟨_, _, v, hv, rv⟩ := E₁.get y d hd
    rcases hv with ⟨a, _⟩ | ⟨_, c', hc', hv⟩
    · exact absurd a hnl
    · rw [hec] at hc'
      cases hc'
      exact ⟨c, v, d, hcl, hd, hv, rv⟩
  have clNe : ∀ y c, cl.lookup y = some c → ∃ v, s₁.heap.IsCell c (some v) := fun y c hy => by
    obtain ⟨c', v, d, h1, _, h3, _⟩ := capC y (K.full y c hy)
    rw [hy] at h1
    cases h1
    exact ⟨v, h3⟩
  have clLt : ∀ y c, cl.lookup y = some c → @LT.lt Nat _ c s₁.heap.objs.size := fun y c hy => by
    obtain ⟨v, o, ho, _⟩ := clNe y c hy; exact Heap.lt_size ho
  have csL : ∀ y c, (csOf kx x H3.objs.size cl).lookup y = some c → (kx = true ∧ y = x ∧ c = H3.objs.size + 1) ∨ cl.lookup y = some c := fun y c hy => by
    unfold csOf at hy
    split at hy
    · rename_i h
      rw [List.lookup_cons] at hy
      by_cases e : y == x
      · rw [e] at hy; cases hy; exact .inl ⟨h, beq_iff_eq.mp e, rfl⟩
      · rw [(by simpa using e : (y == x) = false)] at hy; exact .inr hy
    · exact .inr hy
  have l3 : ∀ c : Nat, c < s₁.heap.objs.size → c < H3.objs.size := fun c h => by omega
  have l2 : ∀ c : Nat, c < s₁.heap.objs.size → c < H2.objs.size := fun c h => by omega
  have l31 : ∀ c : Nat, c < s₁.heap.objs.size → c < H3.objs.size + 1 := fun c h => by omega
  have hIst : St 0 H5 := hW.frame _ _ _ hst fun b _ q e => k5 b q (k4 b q (k3 b q e))
  have F : CF T (envX scope (csOf kx x H3.objs.size cl) H3.objs.size env) s₁ X (s₁.heap.objs.size :: LOf kx H2.objs.size H3.objs.size) (capN σ cap) { s₁ with heap := H5 } := by
    refine ⟨rfl, .of k15, K.kind, E₁.glob, E₁.blt, E₁.top, E₁.topX, E₁.live, fun b hb => off_new E₁.top (hBn b hb), fun b hb => ?_, List.mem_cons_of_mem _ mCL, fun y c hy => ?_, _, hns.keeps k5, fun y d hy => ?_⟩
    · rcases List.mem_cons.mp hb with rfl | hb
      · exact ⟨_, k5 _ _ (k4 _ _ (k3 _ _ hio))⟩
      · rcases memL b hb with rfl | rfl | ⟨h, rfl⟩
        · exact ⟨_, k5 _ _ (k4 _ _ hD)⟩
        · obtain ⟨q, _, _, hq, _⟩ := hns; exact ⟨q, k5 _ _ hq⟩
        · obtain ⟨q, hq, _⟩ := hcell h; exact ⟨q, hq⟩
    · show c ≠ H3.objs.size ∧ _
      rcases csL y c hy with ⟨h, rfl, rfl⟩ | hy
      · exact ⟨Nat.ne_of_gt (Nat.lt_succ_self _), none, hcell h⟩
      · obtain ⟨v, hv⟩ := clNe y c hy
        exact ⟨Nat.ne_of_lt (l3 c (clLt y c hy)), some v, hv.keeps k15⟩
    · unfold capN at hy
      by_cases hc : cap.contains y = true
      · rw [if_pos hc] at hy
        have hyc : y ∈ cap := by simpa using hc
        obtain ⟨hyx, hk, hnl, _, _⟩ := K.capt y hyc
        obtain ⟨c, v, d', hcl, hd', hv, rv⟩ := capC y hyc
        rw [hd'] at hy
        cases hy
        obtain ⟨a1, a2, _⟩ := E₁.get y d hd'
        refine ⟨⟨a1, a2⟩, v, (rv.avoid (Y := wth X _) fun b hb => hb.imp id fun m => hBn b m).keep k15, .inr ⟨hk, c, ?_, ?_, hv.keeps k15⟩⟩
        · show (csOf kx x H3.objs.size cl).lookup y = some c
          unfold csOf
          split
          · rw [List.lookup_cons, (by simpa using hyx : (y == x) = false)]; exact hcl
          · exact hcl
        · exact Nat.ne_of_lt (l3 c (clLt y c hcl))
      · rw [if_neg hc] at hy; cases hy
  have S : SlotC (envX scope (csOf kx x H3.objs.size cl) H3.objs.size env) x (if kx then H3.objs.size + 1 else H3.objs.size) := by
    refine ⟨K.dbg, ?_⟩
    cases kx with
    | false => exact .inl ⟨lookup_relabel_local hx, rfl⟩
    | true =>
      refine .inr ⟨lookup_relabel_cell hx, by show List.lookup x ((x, _) :: cl) = _; rw [List.lookup_cons, beq_self_eq_true]; rfl, fun y c hyx hy => ?_⟩
      rcases csL y c hy with ⟨_, e, _⟩ | hy
      · exact absurd e hyx
      · exact Nat.ne_of_lt (l31 c (clLt y c hy))
  have HY : kx = false → ∀ y c, (csOf kx x H3.objs.size cl).lookup y = some c → c ≠ s₁.heap.objs.size ∧ c ≠ H2.objs.size ∧ ∃ o, s₁.heap.get? c = some o := fun hkx y c hy => by
    rcases csL y c hy with ⟨hk, _, _⟩ | hy
    · rw [hkx] at hk; cases hk
    · have := clLt y c hy
      obtain ⟨v, o, ho, _⟩ := clNe y c hy
      exact ⟨Nat.ne_of_lt this, Nat.ne_of_lt (l2 c this), o, ho⟩
  have loop := hloop s₁ { s₁ with heap := H5 } s₁.heap.objs.size H3.objs.size H2.objs.size N Pv St hMid hW hPv hlv hBn hIL (Nat.ne_of_lt (by omega)) (Nat.ne_of_lt (show H2.objs.size < H3.objs.size + 1 by omega))
    (HY hkf) S hIst (k5 _ _ (k4 _ _ hD)) ⟨rfl, k15⟩ F
  have post : ∀ (Rr : Result → Shared → Prop), (∀ s', Fin s₁ N H3.objs.size H2.objs.size s' → Rr (.ok .next) s') →
      codeAny (model prog w) A (.compStart (.ListComp elt (⟨.Name x px, iter, ifs, 0⟩ :: rest) scope pos) 0 (.ref s₁.heap.objs.size) (.ref H2.objs.size) (envX scope (csOf kx x H3.objs.size cl) H3.objs.size env)) Rr { s₁ with heap := H5 } := fun Rr h =>
    codeAny_compStart_list (loop Rr h) (hW.self 0 _ _ _ hIst (loop Rr h))
  refine post _ fun s' hf => hQ s₁ N s' _ _ hf (hBn _ (List.mem_cons_of_mem _ mCL)) (hBn _ (List.mem_cons_of_mem _ mDL)) (Nat.ne_of_lt (show H2.objs.size < H3.objs.size by omega))
end
end
section
open PySem PySem.W PySem.W.X PySem.Calls PyProof.Rows PySem.SeqAt PySem.Spec
set_option autoImplicit false
set_option linter.unusedVariables false
set_option maxRecDepth 100000
section
variable {T : Top0} {env : Env} {B s s' : Shared} {X : Addr → Prop} {L : List Addr} {σ : Sg}
/-- more places -/
theorem CF.wide {l : List Addr} (F : CF T env B X L σ s) (hf : flatS σ) (hl : ∀ b ∈ l, (T.K b = none ∧ b ≠ mainGlobals ∧ b ≠ builtinsNs ∧ b ≠ cStatics) ∧ ∃ o, s.heap.get? b = some o) : CF T env B X (L ++ l) σ s := by
  obtain ⟨m, hm, hg⟩ := F.ns
  refine { F with keep := fun b o hb e => F.keep b o (fun z => hb (List.mem_append_left _ z)) e, off := fun b hb => (List.mem_append.mp hb).elim (F.off b) fun z => (hl b z).1, liveL := fun b hb => (List.mem_append.mp hb).elim (F.liveL b) fun z => (hl b z).2, loc := List.mem_append_left _ F.loc, ns := ⟨m, hm, fun y d hy => ?_⟩ }
  obtain ⟨a, v, r, x⟩ := hg y d hy
  exact ⟨a, v, r.flat (hf y d hy), x⟩
end
section
variable {prog : Program} {w : World} {A : Around} {env : Env} {s : Shared} {P : Flow → Shared → Prop} {E' : Value → Shared → Prop} {rest : List Stmt}
theorem b_assignI {y : Str} {py spos pos : Pos} {elt iter x : PySem.Expr} {ifs : List PySem.Expr} {gens : List Comprehension} {scope : Scope}
    (hsw : swapsWith (.ListComp elt (⟨x, iter, ifs, 0⟩ :: gens) scope pos) (some (.Name y py)) spos.line env = pure true)
    (hc : ∀ p0, wpAny (model prog w) A (comprehension (.ListComp elt (⟨x, iter, ifs, 0⟩ :: gens) scope pos) scope env p0 (newList []) false (eval iter env) (some (assign (.Name y py) env))) (fun _ s' => wpAny (model prog w) A (execs rest env) P E' s') E' s) :
    wpAny (model prog w) A (execs (.Assign [.Name y py] (.ListComp elt (⟨x, iter, ifs, 0⟩ :: gens) scope pos) spos :: rest) env) P E' s := by
  refine wpAny_execs_cons ?_
  rw [exec_Assign_Name_used _ _ _ _ hsw]
  refine wpAny_bind (wpAny_standAt (wpAny_bind ?_))
  show wpAny _ A (do let _ ← comprehension (.ListComp elt (⟨x, iter, ifs, 0⟩ :: gens) scope pos) scope env _ (newList []) false (eval iter env) (some (assign (.Name y py) env))) _ _ s
  exact wpAny_bind (wpAny_mono (hc _) (fun _ s' hq => wpAny_pure (wpAny_pure hq)) fun _ _ e => e)
end
section
variable {w : World} {n : Nat} {T : Top0} {A : Around} {env : Env} {σ : Sg} {X : Addr → Prop} {s : Shared}
/-- a draw, where it is called -/
theorem x_draw {pf pd pc : Pos} {e2 : PySem.Expr} {Dk C : Addr} {l : List Int} {k b : Int} {Q : Value → Shared → Prop} (R : Room (n + 1) A) (E : EnvR (T0 w.params) env σ X s.heap) (hdeck : σ "deck" = some (.obj Dk)) (hk : env.kindOf "_law_draw" = some .globalImplicit) (Z : DeckAt w Dk C l k s.heap) (hkk : 0 ≤ k ∧ k < 1000) (hl : l.length ≤ 1000) (hb : 0 < b ∧ b < 1000)
    (h2 : Ev prgH w (T0 w.params) A env σ e2 (.int b)) (hne : starEach [.Name "deck" pd, e2] env = (false, eval (.Name "deck" pd) env) :: starEach [e2] env) (hne2 : starEach [e2] env = (false, eval e2 env) :: starEach [] env)
    (hQ : ∀ r tr l' s', 0 ≤ r → r < b → Rel2 s Dk C s' → DeckAt w Dk C l' (k + 1) s'.heap → l'.length ≤ l.length → (T0 w.params).At s'.heap → Q (.int r tr) s') :
    wpAny (model prgH w) A (eval (.Call (.Name "_law_draw" pf) [.Name "deck" pd, e2] [] pc) env) Q (fun _ _ => False) s := by
  refine Call_ ?_
  refine Name_function_global E.kind hk (loadGlobal_global (by rw [E.glob]; exact E.top.g) (by kernel_rfl : (T0 w.params).mg "_law_draw" = some (.ref 194)) ?_) (by decide)
  obtain ⟨o, ho, hdat⟩ := (k_draw w.params (.obj Dk) (.int b)).o
  refine callWith_def hdat ?_ hne
  refine wpAny_mono ((evs_cons hne (ev_name hdeck) (evs_cons hne2 h2 evs_nil) : Evs prgH w _ _ _ _ _ [.obj Dk, .int b]).run _ _ s E) (fun vs' s₃ ⟨k₃, r₃⟩ => ?_) (fun _ _ f => f.elim)
  have E₃ := E.keep k₃.hk
  refine ⟨E₃.top.k _ _ ho, ?_⟩
  cases r₃ with
  | cons ra rb =>
    cases ra
    cases rb with
    | cons rb rc =>
      cases rc
      cases rb with
      | int _ tb =>
        refine c_draw (n := n) R E₃.top (Z.keep (fun o e => k₃.hk _ o e) (fun o e => k₃.hk _ o e)) hkk hl hb fun r tr l' s₄ h0 hr r₄ Z₄ hl' => ?_
        exact hQ r tr l' s₄ h0 hr ((Rel2.of k₃).trans r₄) Z₄ hl' (t0_rel E₃.top r₄ Z₄.lo.1 Z₄.lo.2.1)
/-- a pick, where it is called -/
theorem x_pick {pf pd pc : Pos} {e2 : PySem.Expr} {Dk C a : Addr} {l : List Int} {k : Int} {vs : List Value} {ds : List D} {Q : Value → Shared → Prop} (R : Room (n + 2) A) (E : EnvR (T0 w.params) env σ X s.heap) (hdeck : σ "deck" = some (.obj Dk)) (hk : env.kindOf "_law_pick" = some .globalImplicit) (Z : DeckAt w Dk C l k s.heap) (hkk : 0 ≤ k ∧ k < 1000) (hl : l.length ≤ 1000) (TL : TopL w a vs ds) (hn : 0 < ds.length ∧ ds.length < 1000)
    (h2 : Ev prgH w (T0 w.params) A env σ e2 (.obj a)) (hne : starEach [.Name "deck" pd, e2] env = (false, eval (.Name "deck" pd) env) :: starEach [e2] env) (hne2 : starEach [e2] env = (false, eval e2 env) :: starEach [] env)
    (hQ : ∀ (i : Nat) (v : Value) (l' : List Int) (s' : Shared), vs[i]? = some v → Rel2 s Dk C s' → DeckAt w Dk C l' (k + 1) s'.heap → l'.length ≤ l.length → (T0 w.params).At s'.heap → Q v s') :
    wpAny (model prgH w) A (eval (.Call (.Name "_law_pick" pf) [.Name "deck" pd, e2] [] pc) env) Q (fun _ _ => False) s := by
  refine Call_ ?_
  refine Name_function_global E.kind hk (loadGlobal_global (by rw [E.glob]; exact E.top.g) (by kernel_rfl : (T0 w.params).mg "_law_pick" = some (.ref 201)) ?_) (by decide)
  obtain ⟨o, ho, hdat⟩ := (k_pick w.params (.obj Dk) (.obj a)).o
  refine callWith_def hdat ?_ hne
  refine wpAny_mono ((evs_cons hne (ev_name hdeck) (evs_cons hne2 h2 evs_nil) : Evs prgH w _ _ _ _ _ [.obj Dk, .obj a]).run _ _ s E) (fun vs' s₃ ⟨k₃, r₃⟩ => ?_) (fun _ _ f => f.elim)
  have E₃ := E.keep k₃.hk
  refine ⟨E₃.top.k _ _ ho, ?_⟩
  cases r₃ with
  | cons ra rb =>
    cases ra
    cases rb with
    | cons rb rc =>
      cases rc
      cases rb
      refine c_pick (n := n) R E₃.top (Z.keep (fun o e => k₃.hk _ o e) (fun o e => k₃.hk _ o e)) hkk hl TL hn fun i v l' s₄ hv r₄ Z₄ hl' => ?_
      exact hQ i v l' s₄ hv ((Rel2.of k₃).trans r₄) Z₄ hl' (t0_rel E₃.top r₄ Z₄.lo.1 Z₄.lo.2.1)
theorem ev_objg {x : Str} {p : Pos} {a : Addr} (hk : env.kindOf x = some .globalImplicit) (hx : T.mg x = some (.ref a)) (hd : (x == ("__debug__" : Str)) = false) : Ev prgH w T A env σ (.Name x p) (.obj a) :=
  ev_glob (v := .ref a) hk hx hd fun X h t tx => .obj _
/-- the law's lists -/
theorem top_rows : TopL w 218 [.ref 202, .ref 203, .ref 204, .ref 205, .ref 206, .ref 207, .ref 208, .ref 209, .ref 210, .ref 212, .ref 214, .ref 216, .ref 217] (rowsD.map rowD) := by
  have hl : ∀ h, (T0 w.params).At h → h.IsList 218 [.ref 202, .ref 203, .ref 204, .ref 205, .ref 206, .ref 207, .ref 208, .ref 209, .ref 210, .ref 212, .ref 214, .ref 216, .ref 217].toArray := fun h t => ⟨_, t.k _ _ (by kernel_rfl : (T0 w.params).K 218 = some (hd.zo_201 w.params)), by kernel_rfl, 0, by exact rfl⟩
  refine ⟨hl, fun X h t tx => ?_, ⟨_, (by kernel_rfl : (T0 w.params).K 218 = some (hd.zo_201 w.params))⟩⟩
  have r := rows_rep (.refl _) t tx
  cases r with
  | lst h1 _ hr =>
    obtain ⟨o1, e1, _, n1, d1⟩ := h1
    obtain ⟨o2, e2, _, n2, d2⟩ := hl h t
    rw [e1] at e2
    cases e2
    rw [d1] at d2
    have := Data.seq.inj d2
    have e := congrArg Array.toList this.1
    simp only [] at e
    rw [← e]
    exact hr
theorem top_known : TopL w 229 [.ref 225, .ref 226, .ref 227, .ref 228] ([[19968, 12354], [19968, 44032, 32], [97, 867, 1072], [12549, 12289, 19968]].map fun l : List Int => D.lst (l.map .int)) := by
  refine ⟨fun h t => ⟨_, t.k _ _ (by kernel_rfl : (T0 w.params).K 229 = some (hd.zo_212 w.params)), by kernel_rfl, 0, by exact rfl⟩, fun X h t tx => ?_, ⟨_, (by kernel_rfl : (T0 w.params).K 229 = some (hd.zo_212 w.params))⟩⟩
  refine .cons (rep_topL t tx (by kernel_rfl : (T0 w.params).K 225 = some (hd.zo_208 w.params)) (by kernel_rfl) (by exact rfl) (.cons (.int _ _) (.cons (.int _ _) .nil))) ?_
  refine .cons (rep_topL t tx (by kernel_rfl : (T0 w.params).K 226 = some (hd.zo_209 w.params)) (by kernel_rfl) (by exact rfl) (.cons (.int _ _) (.cons (.int _ _) (.cons (.int _ _) .nil)))) ?_
  refine .cons (rep_topL t tx (by kernel_rfl : (T0 w.params).K 227 = some (hd.zo_210 w.params)) (by kernel_rfl) (by exact rfl) (.cons (.int _ _) (.cons (.int _ _) (.cons (.int _ _) .nil)))) ?_
  exact .cons (rep_topL t tx (by kernel_rfl : (T0 w.params).K 228 = some (hd.zo_211 w.params)) (by kernel_rfl) (by exact rfl) (.cons (.int _ _) (.cons (.int _ _) (.cons (.int _ _) .nil)))) .nil
end
end
section
open PySem PySem.W PySem.W.X PySem.Calls PyProof.Rows PySem.SeqAt PySem.Spec
set_option autoImplicit false
set_option linter.unusedVariables false
set_option maxRecDepth 100000
noncomputable def lawS (P : Params) (i : Nat) : List Stmt := (bodyOf (f_law P)).drop i
noncomputable def lawElse (P : Params) : List Stmt := match lawS P 2 with | .If _ _ o _ :: _ => o | _ => []
noncomputable def lawThen (P : Params) : List Stmt := match lawS P 2 with | .If _ b _ _ :: _ => b | _ => []
theorem walks_up {prog : Program} {w : World} {A : Around} (hh : A.handled = none) (I : Addr) (n : Nat) :
    Walks prog w A I [I] [I] n (fun i v => i < n ∧ ∃ t, v = .int i t) (fun i h => IsRangeIter h I (0 + (i : Nat) * 1) ((n : Int) - (i : Nat)) 1) :=
  { sub := (Walks.range (prog := prog) (w := w) hh I 0 1 n).sub, frame := (Walks.range (prog := prog) (w := w) hh I 0 1 n).frame, done := (Walks.range (prog := prog) (w := w) hh I 0 1 n).done, self := (Walks.range (prog := prog) (w := w) hh I 0 1 n).self,
    item := fun i s Q E hi st h => (Walks.range hh I 0 1 n).item i s Q E hi st fun v h' tk hp hst hk => h v h' tk ⟨hi, by obtain ⟨t, rfl⟩ := hp; exact ⟨t, by rw [show (0 : Int) + i * 1 = i by omega]⟩⟩ hst hk }
section
variable {w : World} {n : Nat}
/-- all but the deck and the frame's own places stands -/
structure Rel3 (env : Env) (s₀ : Shared) (Dk C : Addr) (s : Shared) : Prop where
  eq : outer s = outer s₀
  hk : ∀ x o, x ∉ places env [] → x ≠ Dk → x ≠ C → s₀.heap.get? x = some o → s.heap.get? x = some o
theorem Rel3.of {env : Env} {a b : Shared} {Dk C : Addr} (r : Rel2 a Dk C b) : Rel3 env a Dk C b := ⟨r.eq, fun x o _ h1 h2 e => r.hk x o h1 h2 e⟩
theorem Rel3.trans {env : Env} {a b c : Shared} {Dk C : Addr} (x : Rel3 env a Dk C b) (y : Rel3 env b Dk C c) : Rel3 env a Dk C c := ⟨y.eq.trans x.eq, fun q o h0 h1 h2 e => y.hk q o h0 h1 h2 (x.hk q o h0 h1 h2 e)⟩
theorem mem2 {a b c : Nat} (h : c ∈ [a, b]) : c = a ∨ c = b := by simpa using h
theorem FX.deck {T : Top0} {env : Env} {B₀ : Heap} {X : Addr → Prop} {σ : Sg} {s s' : Shared} {Dk C : Addr} {l : List Int} {k : Int} (F : FX T env B₀ X σ s) (hX : X Dk ∧ X C) (r : Rel2 s Dk C s') (Z : DeckAt w Dk C l k s'.heap) : FX T env B₀ X σ s' := by
  refine F.step r.eq (fun b o hb e => r.hk b o (fun z => hb (z ▸ hX.1)) (fun z => hb (z ▸ hX.2)) e) (fun b hb => .inl hb) (fun b hb => ?_)
  by_cases h1 : b = Dk
  · obtain ⟨m, tm, tk, o, _, _, ho, _⟩ := Z.dict
    exact ⟨o, h1 ▸ ho⟩
  by_cases h2 : b = C
  · obtain ⟨vs, nn, ho, _⟩ := Z.list
    exact ⟨_, h2 ▸ ho⟩
  obtain ⟨o, ho⟩ := F.live b hb
  exact ⟨o, r.hk b o h1 h2 ho⟩
theorem DeckAt.liveD {Dk C : Addr} {l : List Int} {k : Int} {h : Heap} (Z : DeckAt w Dk C l k h) : (∃ o, h.get? Dk = some o) ∧ ∃ o, h.get? C = some o := by
  obtain ⟨m, tm, tk, o, _, _, ho, _⟩ := Z.dict
  obtain ⟨vs, nn, ho', _⟩ := Z.list
  exact ⟨⟨o, ho⟩, _, ho'⟩
theorem text_else {L : Addr} {A : Around} {s : Shared} {σ : Sg} {X : Addr → Prop} {Dk C : Addr} {l : List Int} {k : Int} {B₀ : Heap} {Q' : Flow → Shared → Prop}
    (R : Room (n + 3) A) (F : FX (T0 w.params) (callEnvC (f_law w.params) L 244) B₀ X σ s) (hdeck : σ "deck" = some (.obj Dk)) (hX : X Dk ∧ X C) (Z : DeckAt w Dk C l k s.heap) (hk : 0 ≤ k ∧ k < 900) (hl : l.length ≤ 1000)
    (h : ∀ (t : List Int) (l' : List Int) (k' : Int) (s' : Shared), FX (T0 w.params) (callEnvC (f_law w.params) L 244) B₀ X (upS σ "text" (.lst (t.map .int))) s' → DeckAt w Dk C l' k' s'.heap → t.length ≤ 7 → (∀ c ∈ t, c ∈ codes) → Rel3 (callEnvC (f_law w.params) L 244) s Dk C s' → Q' .next s') :
    wpAny (model prgH w) A (execs (lawElse w.params) (callEnvC (f_law w.params) L 244)) Q' (fun _ _ => False) s := by
  refine b_assignI (by rfl) fun p0 => ?_
  refine comp_genI (T := T0 w.params) (σ := σ) (X := wth X (places (callEnvC (f_law w.params) L 244) [])) (kx := false) (cl := [("deck", L + 1)]) (cap := ["deck"]) rfl
    (fun s₁ N => FX (T0 w.params) (callEnvC (f_law w.params) L 244) B₀ X σ s₁ ∧ N ≤ 7 ∧ Rel2 s Dk C s₁ ∧ ∃ l', DeckAt w Dk C l' (k + 1) s₁.heap ∧ l'.length ≤ 1000)
    (fun B N Ca D' s' => Rel2 s Dk C B ∧ FX (T0 w.params) (callEnvC (f_law w.params) L 244) B₀ X σ B ∧ outer s' = outer B ∧ (∀ x o, x ∉ [D', Ca, Dk, C] → B.heap.get? x = some o → s'.heap.get? x = some o) ∧ (∃ l' k', DeckAt w Dk C l' k' s'.heap) ∧ (∃ us nn t, IsL s'.heap D' us nn ∧ IntsAre us.toList t ∧ t.length ≤ 7 ∧ ∀ c ∈ t, c ∈ codes) ∧ ∃ m, s'.heap.Ns Ca m)
    (fun _ => rfl) ?_ ?_ (fun n => cellsFrom_none _ n _ (noCell_of (by kernel_rfl))) (fun h => pushCells_none _ h (noCell_of (by kernel_rfl))) (by kernel_rfl) ?_ ?_
  · have E := F.envR
    refine Call_ ?_
    refine Name_function_global E.kind (by kernel_rfl) (loadGlobal_builtin (by rw [E.glob]; exact E.top.g) (by kernel_rfl) (by rw [E.blt]; exact E.top.b) (by kernel_rfl : (T0 w.params).mb "range" = some (.type "range")) ?_) (by decide)
    refine PyProof.Rows.callWith_type1 ?_ rfl
    refine args_cons ?_ rfl
    refine x_draw (n := n) (b := 7) (R.less (by omega)) E hdeck (by kernel_rfl) Z ⟨hk.1, by omega⟩ hl ⟨by decide, by decide⟩ ev_int rfl rfl fun r tr l' s₁ h0 hr r₁ Z₁ hl' t₁ => args_nil ?_
    have F₁ := F.deck hX r₁ Z₁
    refine call_range_1 ?_
    have kp : Kp s₁ { s₁ with heap := s₁.heap.push { cls := .type "range", data := .fields #[.int 0 s₁.toks, .int r tr, .int 1 (s₁.toks + 1)] }, toks := s₁.toks + 1 + 1 } := Kp.push _ _ _
    have F₂ := F₁.keep kp
    refine ⟨F₂.envR, { cls := .type "range_iterator", data := .fields #[rawInt 0, rawInt r, rawInt 1] }, r.toNat, _, _, rfl, ⟨F₂, by omega, r₁.trans (Rel2.of kp), l', Z₁.keep (fun o e => kp.hk _ o e) (fun o e => kp.hk _ o e), by omega⟩, walks_up R.hand _ _, fun i v h => h, fun i h st => ⟨_, st⟩, ?_, fun Q1 hq => ?_⟩
    · have e1 : ((r.toNat : Nat) : Int) - ((0 : Nat) : Int) = r := by omega
      have e2 : (0 : Int) + ((0 : Nat) : Int) * 1 = 0 := by omega
      show Heap.get? _ _ = some _
      rw [e1, e2]
      exact Heap.get?_push_size _ rfl
    · refine wpAny_pyIter_range (IsRange.new _ 0 r 1 _ _ _) (small_one (by omega) (by omega) (by omega) (by omega)) ?_
      have e : Builtin.Range.rangeSize 0 r 1 = r := by rw [rangeSize_one]; split <;> omega
      rw [e]
      exact hq
  · exact compOk_of (by kernel_rfl) (by kernel_rfl) (by kernel_rfl) (by kernel_rfl) (by kernel_rfl) (fun y hy => by rcases List.mem_singleton.mp hy with rfl; exact ⟨_, rfl, by kernel_rfl⟩) (by kernel_rfl) (fun y hy => by rcases List.mem_singleton.mp hy with rfl; exact ⟨_, hdeck⟩)
  · intro B s₃ I Ca D' N Pv St ⟨F₁, hN, r₁, l₁, Z₁, hl₁⟩ hW hPv hlv hBn hIL hDC hDC1 hcs S hst hacc kB G Rr hRr
    have hnD : ∀ b, (∃ o, B.heap.get? b = some o) → ∀ c ∈ I :: [D', Ca], c ≠ b := fun b ⟨o, ho⟩ c hc e => by
      have := hBn c hc
      rw [e, ho] at this; cases this
    have dk := hnD Dk Z₁.liveD.1
    have cc := hnD C Z₁.liveD.2
    have fl : flatS (capN σ ["deck"]) := fun y d hy => by
      unfold capN at hy
      split at hy
      · rename_i h
        have : y = "deck" := by simpa using h
        rw [this, hdeck] at hy
        cases hy; rfl
      · cases hy
    have Z₃ : DeckAt w Dk C l₁ (k + 1) s₃.heap := Z₁.keep (fun o e => kB.hk _ o e) (fun o e => kB.hk _ o e)
    have G2 : CF (T0 w.params) (envX _ (csOf false "turn" Ca [("deck", L + 1)]) Ca (callEnvC (f_law w.params) L 244)) B (wth X (places (callEnvC (f_law w.params) L 244) [])) (I :: [D', Ca, Dk, C]) (capN σ ["deck"]) s₃ := G.wide (l := [Dk, C]) fl fun b hb => by
      simp only [List.mem_cons, List.not_mem_nil, or_false] at hb
      rcases hb with rfl | rfl
      · exact ⟨top_hi' Z₁.lo.1, Z₃.liveD.1⟩
      · exact ⟨top_hi' Z₁.lo.2.1, Z₃.liveD.2⟩
    have hcL : ∀ y c, (csOf false ("turn" : Str) Ca [("deck", L + 1)]).lookup y = some c → ¬ (c = Dk ∨ c = C) := fun y c hy => by
      have e : (callEnvC (f_law w.params) L 244).cells = [(("deck" : Str), (L + 1 : Nat))] := by kernel_rfl
      have hc : c = L + 1 := by
        unfold csOf at hy
        rw [if_neg (by decide), List.lookup_cons] at hy
        split at hy
        · cases hy; rfl
        · cases hy
      have hm : c ∈ places (callEnvC (f_law w.params) L 244) [] := by
        unfold places
        rw [e, hc]; simp
      obtain ⟨_, _, G0⟩ := F.fs
      rintro (e | e)
      · exact G0.xa c hm (e ▸ hX.1)
      · exact G0.xa c hm (e ▸ hX.2)
    have hds : ((List.range N).map fun i : Nat => D.int i).length = N := by simp
    have hIL' : I ∉ [D', Ca, Dk, C] := fun hm => by
      simp only [List.mem_cons, List.not_mem_nil, or_false] at hm
      rcases hm with e | e | e | e
      · exact hIL (e ▸ List.mem_cons_self)
      · exact hIL (e ▸ List.mem_cons_of_mem _ List.mem_cons_self)
      · exact dk I List.mem_cons_self e
      · exact cc I List.mem_cons_self e
    have hIa : I ≠ Ca := fun e => hIL' (e ▸ by simp)
    have hID : I ≠ D' := fun e => hIL' (e ▸ by simp)
    refine cf_loop (L := [D', Ca, Dk, C]) (ds := (List.range N).map fun i : Nat => D.int i) (pl := Ca) (fp := [I]) (P := Pv) rfl (by rw [hds]; exact hW) (fun i v hv => ?_) S (hBn I List.mem_cons_self) hIL' (by show Ca ∈ _; simp) (by simp) (by simpa using Ne.symm hIa) hIa (fun y c hy => (hcs y c hy).1) hlv
      (fun i s' => (∃ l', DeckAt w Dk C l' (k + 1 + i) s'.heap ∧ l'.length ≤ 1000) ∧ ∃ us nn t, IsL s'.heap D' us nn ∧ IntsAre us.toList t ∧ t.length = i ∧ ∀ c ∈ t, c ∈ codes) (fun i s s' _ hk ⟨⟨l', Z', hl'⟩, us, nn, t, h1, h2⟩ => ⟨⟨l', Z'.keep (fun o e => hk _ o (Ne.symm (dk I (by simp))) (Ne.symm (dk Ca (by simp))) e) (fun o e => hk _ o (Ne.symm (cc I (by simp))) (Ne.symm (cc Ca (by simp))) e), hl'⟩, us, nn, t, hk _ _ (Ne.symm hID) hDC h1, h2⟩) G2 hst
      ⟨⟨l₁, by simpa using Z₃, hl₁⟩, #[], 0, [], hacc, .nil, rfl, fun c hc => nomatch hc⟩ (fun i d s₂ hd F₂ st₂ j₂ => ?_) (fun s' G' j' => ?_)
    · obtain ⟨hi, t, rfl⟩ := hPv i v hv
      exact ⟨.int i, by simp [hi], fun h _ => .int _ _⟩
    · obtain ⟨⟨l₂, Z₂, hl₂⟩, us, nn, t, hus, hit, ht, hc⟩ := j₂
      have hi : i < N := by
        have := (List.getElem?_eq_some_iff.mp hd).1
        rwa [hds] at this
      refine wpAny_tests_nil ?_
      rw [if_pos rfl]
      refine wpAny_bind ?_
      refine Subscript_ ?_
      have hσ : capN σ ["deck"] "turn" = none := by unfold capN; rw [if_neg (by decide)]
      have hdk : upS (capN σ ["deck"]) "turn" d "deck" = some (.obj Dk) := by rw [upS, if_neg (by decide), capN, if_pos (by decide)]; exact hdeck
      refine x_pick (n := n) (a := 218) (R.less (by omega)) F₂.envR hdk (by kernel_rfl) Z₂ ⟨by omega, by omega⟩ hl₂ top_rows ⟨by decide, by decide⟩ (ev_objg (by kernel_rfl) (by kernel_rfl) (by decide)) rfl rfl fun j v l' s₄ hv r₄ Z₄ hl' t₄ => ?_
      refine wpAny_Constant_int ?_
      have hrep := top_rows.rep (fun _ => False) _ t₄ (fun _ _ _ z => z)
      have hjl : j < (rowsD.map rowD).length := by
        rw [← hrep.length]; exact (List.getElem?_eq_some_iff.mp hv).1
      obtain ⟨v', hv', rv⟩ := hrep.get (i := j) (d := (rowsD.map rowD)[j]) (List.getElem?_eq_getElem hjl)
      rw [hv] at hv'
      cases hv'
      obtain ⟨row, hrow, erow⟩ := List.mem_map.mp (List.getElem_mem hjl)
      rw [← erow] at rv
      unfold rowD at rv
      cases rv with
      | tup ht' _ hr' =>
        cases hr' with
        | cons ra hr' =>
          cases hr' with | cons rb hr' =>
          cases hr' with | cons rc hr' =>
          cases hr'
          cases ra with
          | int _ tk =>
            refine item_tupleT (j := 0) ht' (by decide) (by decide) rfl rfl ?_ rfl
            have n4 : ∀ b, b ≠ Dk → b ≠ C → ∀ o, s₂.heap.get? b = some o → s₄.heap.get? b = some o := fun b h1 h2 o e => r₄.hk b o h1 h2 e
            have hus₄ := n4 D' (dk D' (by simp)) (cc D' (by simp)) _ hus
            have hszu : us.size ≤ sizeLine := by
              have := hit.length
              rw [Array.length_toList] at this
              rw [this]; exact sizeOk (by omega)
            refine wpAny_bind (call_meets PySem.F.slot_list_append ⟨_, hus₄, rfl⟩ PySem.F.entry_list_append (PySem.F.args_list_append_2 _ _) (list_append D' us nn (.int row.1 tk) hszu) ⟨hus₄, ?_⟩)
            have hIs := IsL.update hus₄ (fun xs => xs.push (.int row.1 tk))
            generalize hh : s₄.heap.update D' (Obj.mapSeq fun xs => xs.push (.int row.1 tk)) = h₅ at hIs
            have up : ∀ x o, x ≠ D' → s₄.heap.get? x = some o → h₅.get? x = some o := fun x o hx e => by rw [← hh, Heap.get?_update_ne _ _ _ _ hx]; exact e
            have F₄ := F₂.touch (s' := s₄) (l := [Dk, C]) r₄.eq (fun b hb => (mem2 hb).elim (fun e => by rw [e]; simp) (fun e => by rw [e]; simp)) (fun b o hb e => n4 b (fun z => hb (by simp [z])) (fun z => hb (by simp [z])) o e) (fun b hb => (mem2 hb).elim (fun e => e ▸ Z₄.liveD.1) (fun e => e ▸ Z₄.liveD.2)) (fun hm => (mem2 hm).elim (fun e => dk Ca (by simp) e) (fun e => cc Ca (by simp) e)) (fun y c hy hm => hcL y c hy ((mem2 hm).imp id id))
            have F₅ := F₄.touch (s' := { s₄ with heap := h₅ }) (l := [D']) rfl (fun b hb => by simp only [List.mem_cons, List.not_mem_nil, or_false] at hb ⊢; exact .inr (.inl hb)) (fun b o hb e => up b o (by simpa using hb) e) (fun b hb => by simp only [List.mem_cons, List.not_mem_nil, or_false] at hb; exact ⟨_, hb ▸ hIs⟩) (fun hm => by simp only [List.mem_cons, List.not_mem_nil, or_false] at hm; exact hDC hm.symm) (fun y c hy hm => by simp only [List.mem_cons, List.not_mem_nil, or_false] at hm; exact (hcs y c hy).2.1 hm)
            refine wpAny_pure ⟨(F₅.keeps (Kp.tok _ _)).sub (up_sub hσ), ?_, ⟨l', ?_, by omega⟩, _, _, t ++ [row.1], hIs, by rw [Array.toList_push]; exact hit.append (.cons _ _ .nil), by simp [ht], fun c hc' => ?_⟩
            · exact hW.frame _ _ _ st₂ fun b hb o e => by
                rcases List.mem_singleton.mp hb with rfl
                exact up _ o hID (n4 _ (dk _ (by simp)) (cc _ (by simp)) o e)
            · have := Z₄.keep (h' := h₅) (fun o e => up _ o (Ne.symm (dk D' (by simp))) e) (fun o e => up _ o (Ne.symm (cc D' (by simp))) e)
              rw [show k + 1 + ((i + 1 : Nat) : Int) = k + 1 + i + 1 by omega]
              exact this
            · rcases List.mem_append.mp hc' with hm | hm
              · exact hc c hm
              · rcases List.mem_singleton.mp hm with rfl
                exact List.mem_map.mpr ⟨row, hrow, rfl⟩
    · obtain ⟨⟨l', Z', hl'⟩, us, nn, t, hus, hit, ht, hc⟩ := j'
      rw [hds] at ht
      exact hRr s' ⟨r₁, F₁, G'.same, fun x o hx e => G'.keep x o hx e, ⟨l', _, Z'⟩, ⟨us, nn, t, hus, hit, by omega, hc⟩, let ⟨m, hm, _⟩ := G'.ns; ⟨m, hm⟩⟩
  · intro B N s' Ca D' ⟨rB, FB, ho, hk', ⟨l', k', Z'⟩, ⟨us, nn, t, hus, hit, htl, htc⟩, m, hm⟩ hCn hDn hDC
    have nC : ¬ X Ca := fun z => fresh_not hCn (FB.live _ z)
    have nD : ¬ X D' := fun z => fresh_not hDn (FB.live _ z)
    have m4 : ∀ b, b ∈ [D', Ca, Dk, C] → b = D' ∨ b = Ca ∨ b = Dk ∨ b = C := fun b hb => by simpa using hb
    obtain ⟨oC, hoC⟩ : ∃ o, s'.heap.get? Ca = some o := let ⟨o, _, _, ho, _⟩ := hm; ⟨o, ho⟩
    have F' : FX (T0 w.params) (callEnvC (f_law w.params) L 244) B₀ (wI X Ca) σ s' := FB.step ho (fun b o hb e => hk' b o (fun hm' => ?_) e) (fun b hb => hb.elim .inl (fun e => .inr (e ▸ hCn))) (fun b hb => ?_)
    · have nDp : D' ∉ places (callEnvC (f_law w.params) L 244) [] := fun z => by
        obtain ⟨_, _, GB⟩ := FB.fs
        exact fresh_not hDn (GB.liveP _ z)
      have rl : Rep (wth (wI X Ca) (places (callEnvC (f_law w.params) L 244) [])) s'.heap (.ref D') (.lst (t.map .int)) := .lst (vs := us.toList) ⟨_, hus, rfl, nn, by simp⟩ (fun z => by
        rcases z with (z | z) | z
        · exact nD z
        · exact hDC z
        · exact nDp z) (ints_repL hit)
      refine wpAny_assign_Name (F'.fs.store (.inl (by kernel_rfl)) ⟨by decide, by decide⟩ (fun p h => by cases h) rl fun s'' F'' => ?_)
      have hm'' : s''.heap.Ns Ca m := by
        obtain ⟨_, _, G'⟩ := F''
        exact hm.at' fun o e => G'.keep Ca o (fun z => G'.xa Ca z (.inr rfl)) e
      refine ⟨m, hm'', fun h'' hs'' => b_nil ?_⟩
      have FX'' : FX (T0 w.params) (callEnvC (f_law w.params) L 244) B₀ (wI X Ca) (upS σ "text" (.lst (t.map .int))) s'' := ⟨F''.rebase, F'.xB, F'.gl⟩
      have r'' : Rel3 (callEnvC (f_law w.params) L 244) B Dk C { s'' with heap := h'' } := by
        obtain ⟨_, _, G'⟩ := F''
        refine ⟨G'.same.trans ho, fun x o h0 h1 h2 e => hs''.extBut x o (fun z => fresh_not hCn ⟨o, z ▸ e⟩) (G'.keep x o h0 (hk' x o (fun hm' => ?_) e))⟩
        rcases m4 x hm' with rfl | rfl | h | h
        · exact fresh_not hDn ⟨o, e⟩
        · exact fresh_not hCn ⟨o, e⟩
        · exact h1 h
        · exact h2 h
      have k'' : ∀ b o, b ≠ Ca → b ∉ places (callEnvC (f_law w.params) L 244) [] → s'.heap.get? b = some o → h''.get? b = some o := fun b o hb hp e => by
        obtain ⟨_, _, G'⟩ := F''
        exact hs''.extBut b o hb (G'.keep b o hp e)
      have hpD : Dk ∉ places (callEnvC (f_law w.params) L 244) [] ∧ C ∉ places (callEnvC (f_law w.params) L 244) [] := by
        obtain ⟨_, _, G0⟩ := F.fs
        exact ⟨fun z => G0.xa _ z hX.1, fun z => G0.xa _ z hX.2⟩
      have nCd : Dk ≠ Ca ∧ C ≠ Ca := ⟨fun z => nC (z ▸ hX.1), fun z => nC (z ▸ hX.2)⟩
      refine h t l' k' _ (FX''.step (s' := { s'' with heap := h'' }) rfl (fun b o hb e => hs''.extBut b o (fun z => hb (.inr z)) e) (fun b hb => .inl (.inl hb)) fun b hb => ?_) (Z'.keep (fun o e => k'' _ o nCd.1 hpD.1 e) (fun o e => k'' _ o nCd.2 hpD.2 e)) htl htc ((Rel3.of rB).trans r'')
      obtain ⟨o, ho⟩ := FX''.live b (.inl hb)
      exact ⟨o, hs''.extBut b o (fun z => nC (z ▸ hb)) ho⟩
    · rcases m4 b hm' with rfl | rfl | rfl | rfl
      · exact fresh_not hDn ⟨o, e⟩
      · exact fresh_not hCn ⟨o, e⟩
      · exact hb hX.1
      · exact hb hX.2
    · rcases hb with hb | rfl
      · by_cases h1 : b = Dk
        · exact h1 ▸ Z'.liveD.1
        by_cases h2 : b = C
        · exact h2 ▸ Z'.liveD.2
        obtain ⟨o, ho⟩ := FB.live b hb
        exact ⟨o, hk' b o (fun hm' => by
          rcases m4 b hm' with rfl | rfl | e | e
          · exact nD hb
          · exact nC hb
          · exact h1 e
          · exact h2 e) ho⟩
      · exact ⟨oC, hoC⟩
end
end
section
open PySem PySem.W PySem.W.X PySem.Calls PyProof.Rows PySem.SeqAt PySem.Spec
set_option autoImplicit false
set_option linter.unusedVariables false
set_option maxRecDepth 100000
noncomputable def knownL : List (List Int) := [[19968, 12354], [19968, 44032, 32], [97, 867, 1072], [12549, 12289, 19968]]
theorem known_ok : ∀ l ∈ knownL, l.length ≤ 7 ∧ ∀ c ∈ l, c ∈ codes := by decide
theorem known_get {j : Nat} {d : D} (h : (knownL.map fun l : List Int => D.lst (l.map .int))[j]? = some d) : ∃ t : List Int, d = .lst (t.map .int) ∧ t.length ≤ 7 ∧ ∀ c ∈ t, c ∈ codes := by
  rw [List.getElem?_map] at h
  obtain ⟨t, ht, rfl⟩ := Option.map_eq_some_iff.mp h
  have := known_ok t (List.mem_of_getElem? ht)
  exact ⟨t, rfl, this.1, this.2⟩
section
variable {w : World} {n : Nat}
theorem text_then {L : Addr} {A : Around} {s : Shared} {σ : Sg} {X : Addr → Prop} {Dk C : Addr} {l : List Int} {k : Int} {B₀ : Heap} {Q' : Flow → Shared → Prop}
    (R : Room (n + 3) A) (F : FX (T0 w.params) (callEnvC (f_law w.params) L 244) B₀ X σ s) (hdeck : σ "deck" = some (.obj Dk)) (hX : X Dk ∧ X C) (Z : DeckAt w Dk C l k s.heap) (hk : 0 ≤ k ∧ k < 900) (hl : l.length ≤ 1000)
    (h : ∀ (t : List Int) (l' : List Int) (k' : Int) (s' : Shared), FX (T0 w.params) (callEnvC (f_law w.params) L 244) B₀ X (upS σ "text" (.lst (t.map .int))) s' → DeckAt w Dk C l' k' s'.heap → t.length ≤ 7 → (∀ c ∈ t, c ∈ codes) → Rel3 (callEnvC (f_law w.params) L 244) s Dk C s' → Q' .next s') :
    wpAny (model prgH w) A (execs (lawThen w.params) (callEnvC (f_law w.params) L 244)) Q' (fun _ _ => False) s := by
  refine wpAny_execs_cons (wpAny_Assign_Name (Call_ ?_) (by rfl))
  have E := F.envR
  refine Name_function_global E.kind (by kernel_rfl) (loadGlobal_builtin (by rw [E.glob]; exact E.top.g) (by kernel_rfl) (by rw [E.blt]; exact E.top.b) (by kernel_rfl : (T0 w.params).mb "list" = some (.type "list")) ?_) (by decide)
  refine PyProof.Rows.callWith_type1 ?_ rfl
  refine args_cons ?_ rfl
  refine x_pick (n := n) (a := 229) (R.less (by omega)) E hdeck (by kernel_rfl) Z ⟨hk.1, by omega⟩ hl top_known ⟨by decide, by decide⟩ (ev_objg (by kernel_rfl) (by kernel_rfl) (by decide)) rfl rfl fun j v l' s₁ hv r₁ Z₁ hl' t₁ => args_nil ?_
  have F₁ := F.deck hX r₁ Z₁
  have hrep := top_known.rep (wth X (places (callEnvC (f_law w.params) L 244) [])) _ t₁ F₁.envR.topX
  have hjl : j < (knownL.map fun l : List Int => D.lst (l.map .int)).length := by
    have e := hrep.length
    have := (List.getElem?_eq_some_iff.mp hv).1
    rw [e] at this
    exact this
  obtain ⟨d, hd⟩ : ∃ d, (knownL.map fun l : List Int => D.lst (l.map .int))[j]? = some d := ⟨_, List.getElem?_eq_getElem hjl⟩
  obtain ⟨v', hv', rv⟩ := hrep.get hd
  rw [hv] at hv'
  cases hv'
  obtain ⟨t, rfl, ht, htc⟩ := known_get hd
  cases rv with
  | lst hL hx hr =>
    obtain ⟨o, ho, hc, nn, hdt⟩ := hL
    refine call_list_seq (hsz := by rw [List.size_toArray, hr.length, List.length_map]; exact sizeOk (by omega)) _ (.inl rfl) ho hc hdt fun h' c' hk' hD => ?_
    have kp : Kp s₁ { s₁ with heap := h' } := ⟨rfl, hk'⟩
    have F₂ := F₁.keep kp
    have rl : Rep (wth X (places (callEnvC (f_law w.params) L 244) [])) h' (.ref s₁.heap.objs.size) (.lst (t.map .int)) := .lst ⟨_, hD, rfl, c', rfl⟩ (F₁.envR.fresh (Nat.le_refl _)) (hr.keep hk')
    refine F₂.fs.store (.inl (by kernel_rfl)) ⟨by decide, by decide⟩ (fun p h => by cases h) rl fun s₃ F₃ => b_nil ?_
    have hpD : Dk ∉ places (callEnvC (f_law w.params) L 244) [] ∧ C ∉ places (callEnvC (f_law w.params) L 244) [] := by
      obtain ⟨_, _, G0⟩ := F.fs
      exact ⟨fun z => G0.xa _ z hX.1, fun z => G0.xa _ z hX.2⟩
    obtain ⟨_, _, G3⟩ := id F₃
    refine h t l' (k + 1) s₃ ⟨F₃.rebase, F₂.xB, F₂.gl⟩ ((Z₁.keep (fun o e => hk' _ o e) (fun o e => hk' _ o e)).keep (fun o e => G3.keep _ o hpD.1 e) (fun o e => G3.keep _ o hpD.2 e)) ht htc ((Rel3.of (r₁.trans (Rel2.of kp))).trans ⟨G3.same, fun x o h0 _ _ e => G3.keep x o h0 e⟩)
/-- the text -/
theorem part2 {L : Addr} {A : Around} {s : Shared} {σ : Sg} {X : Addr → Prop} {Dk C : Addr} {l : List Int} {k : Int} {B₀ : Heap} {Q' : Flow → Shared → Prop}
    (R : Room (n + 3) A) (F : FX (T0 w.params) (callEnvC (f_law w.params) L 244) B₀ X σ s) (hdeck : σ "deck" = some (.obj Dk)) (hX : X Dk ∧ X C) (Z : DeckAt w Dk C l k s.heap) (hk : 0 ≤ k ∧ k < 800) (hl : l.length ≤ 1000)
    (h : ∀ (t : List Int) (s' : Shared), FX (T0 w.params) (callEnvC (f_law w.params) L 244) B₀ X (upS σ "text" (.lst (t.map .int))) s' → t.length ≤ 7 → (∀ c ∈ t, c ∈ codes) → Rel3 (callEnvC (f_law w.params) L 244) s Dk C s' → wpAny (model prgH w) A (execs (lawS w.params 3) (callEnvC (f_law w.params) L 244)) Q' (fun _ _ => False) s') :
    wpAny (model prgH w) A (execs (lawS w.params 2) (callEnvC (f_law w.params) L 244)) Q' (fun _ _ => False) s := by
  refine wpAny_execs_cons (wpAny_If ?_)
  refine wpAny_isTrue_Compare1 ?_ (by rfl)
  refine x_draw (n := n) (b := 4) (R.less (by omega)) F.envR hdeck (by kernel_rfl) Z ⟨hk.1, by omega⟩ hl ⟨by decide, by decide⟩ ev_int rfl rfl fun r tr l' s₁ h0 hr r₁ Z₁ hl' t₁ => ?_
  have F₁ := F.deck hX r₁ Z₁
  refine wpAny_mono ((ev_int : Ev prgH w _ _ _ _ _ (.int 0)).run _ s₁ F₁.envR) (fun v s₂ ⟨k₂, r₂⟩ => ?_) (fun _ _ f => f.elim)
  cases r₂
  have F₂ := F₁.keep k₂
  have Z₂ : DeckAt w Dk C l' (k + 1) s₂.heap := Z₁.keep (fun o e => k₂.hk _ o e) (fun o e => k₂.hk _ o e)
  refine wpAny_eq_int (wpAny_truthy_bool ?_)
  cases r == 0 with
  | true => exact text_then R F₂ hdeck hX Z₂ ⟨by omega, by omega⟩ (by omega) fun t l'' k'' s' F' Z' ht hc r' => h t s' F' ht hc ((Rel3.of (r₁.trans (Rel2.of k₂))).trans r')
  | false => exact text_else R F₂ hdeck hX Z₂ ⟨by omega, by omega⟩ (by omega) fun t l'' k'' s' F' Z' ht hc r' => h t s' F' ht hc ((Rel3.of (r₁.trans (Rel2.of k₂))).trans r')
end
end
section
open PySem PySem.W PySem.W.X PySem.Calls PyProof.Rows PySem.SeqAt PySem.Spec
set_option autoImplicit false
set_option linter.unusedVariables false
set_option maxRecDepth 100000
noncomputable def forBody (P : Params) : List Stmt := match lawS P 1 with | .For _ _ b _ _ :: _ => b | _ => []
noncomputable def sg0 (Dk d0 : Addr) : Sg := upS (upS (fun _ => none) "deck" (.obj Dk)) "data" (.obj d0)
noncomputable def sgR (Dk d0 : Addr) (a b c : D) : Sg := upS (upS (upS (sg0 Dk d0) "code" a) "name" b) "more" c
theorem sgR_sub {Dk d0 : Addr} {a b c : D} : ∀ x d, sg0 Dk d0 x = some d → sgR Dk d0 a b c x = some d := fun x d h => by
  unfold sg0 upS at h
  unfold sgR upS sg0 upS
  split at h
  · rename_i e; subst e
    rw [if_neg (by decide), if_neg (by decide), if_neg (by decide), if_pos rfl]; exact h
  · split at h
    · rename_i e; subst e
      rw [if_neg (by decide), if_neg (by decide), if_neg (by decide), if_neg (by decide), if_pos rfl]; exact h
    · cases h
section
variable {prog : Program} {w : World} {T : Top0} {A : Around} {env : Env} {σ : Sg} {B₀ : Heap} {s : Shared} {X : Addr → Prop} {P : Flow → Shared → Prop} {E' : Value → Shared → Prop} {rest : List Stmt}
theorem bx_if {t : PySem.Expr} {body orelse : List Stmt} {p : Pos} {b : Bool} (F : FX T env B₀ X σ s) (ht : EvT prog w T A env σ t b)
    (h1 : b = true → ∀ s', Kp s s' → FX T env B₀ X σ s' → wpAny (model prog w) A (execs body env) (Then prog w A env rest P E') E' s')
    (h0 : b = false → ∀ s', Kp s s' → FX T env B₀ X σ s' → wpAny (model prog w) A (execs orelse env) (Then prog w A env rest P E') E' s') :
    wpAny (model prog w) A (execs (.If t body orelse p :: rest) env) P E' s := by
  refine wpAny_execs_cons (wpAny_If ?_)
  refine wpAny_mono (ht.run _ s F.envR) (fun c s₁ ⟨k, e⟩ => ?_) (fun _ _ f => f.elim)
  subst e
  have F₁ := F.keep k
  cases c with
  | true => exact h1 rfl s₁ k F₁
  | false => exact h0 rfl s₁ k F₁
end
section
variable {w : World} {L : Addr} {A : Around} {s : Shared} {X : Addr → Prop} {Dk I : Addr} {δ : Nat → Nat} {zs : List (Addr × Obj)} {B₀ : Heap} {a b a' b' b'' : Option StF} {c : Int} {nm : Str}
/-- what a row's turn leaves -/
noncomputable def RowPost (w : World) (L : Addr) (B₀ : Heap) (δ : Nat → Nat) (zs : List (Addr × Obj)) (Dk I : Addr) (a' b' : Option StF) (X : Addr → Prop) (s : Shared) (f : Flow) (s₃ : Shared) : Prop := match f with
  | .next | .cont => ∃ X', FX (T0 w.params) (callEnvC (f_law w.params) L 244) B₀ (wI X' I) (sg0 Dk (δ 0)) s₃ ∧ DbX w δ zs a' b' X' s₃.heap ∧ outer s₃ = outer s ∧ (∀ x o, ¬ X x → x ∉ places (callEnvC (f_law w.params) L 244) [] → s.heap.get? x = some o → s₃.heap.get? x = some o) ∧ (∀ x, X' x → X x ∨ s.heap.get? x = none)
  | _ => False
theorem row1 (S : StepC w δ zs "sc" c (.str nm) a b a' b) (R : Room 320 A) (F : FX (T0 w.params) (callEnvC (f_law w.params) L 244) B₀ (wI X I) (sgR Dk (δ 0) (.int c) (.str nm) .none) s) (hXI : ¬ X I) (Z : DbX w δ zs a b X s.heap) :
    wpAny (model prgH w) A (execs (forBody w.params) (callEnvC (f_law w.params) L 244)) (RowPost w L B₀ δ zs Dk I a' b X s) (fun _ _ => False) s := by
  refine put_stmt S R F hXI Z rfl (evs_cons rfl ev_str (evs_cons rfl (ev_name rfl) (evs_cons rfl (ev_name rfl) (evs_cons rfl (ev_name rfl) evs_nil)))) (by with_unfolding_all rfl) rfl rfl rfl rfl fun s' ⟨X', F', Z', o', k', x', nI⟩ => ?_
  refine bx_if F' (b := false) (evT_cmp (ev_name rfl) ev_none cmp_isnot_none rfl) (fun h => by cases h) (fun _ s'' kp F'' => b_nil (b_nil ?_))
  exact ⟨X', F''.sub sgR_sub, Z'.keep fun x o _ e => kp.hk x o e, kp.eq.trans o', fun x o h1 h2 e => kp.hk x o (k' x o h1 h2 e), x'⟩
theorem row2 {r : Addr} (S : StepC w δ zs "sc" c (.str nm) a b a' b) (S2 : StepC w δ zs "scx" c (.obj r) a' b a' b'') (R : Room 320 A) (F : FX (T0 w.params) (callEnvC (f_law w.params) L 244) B₀ (wI X I) (sgR Dk (δ 0) (.int c) (.str nm) (.obj r)) s) (hXI : ¬ X I) (Z : DbX w δ zs a b X s.heap) :
    wpAny (model prgH w) A (execs (forBody w.params) (callEnvC (f_law w.params) L 244)) (RowPost w L B₀ δ zs Dk I a' b'' X s) (fun _ _ => False) s := by
  refine put_stmt S R F hXI Z rfl (evs_cons rfl ev_str (evs_cons rfl (ev_name rfl) (evs_cons rfl (ev_name rfl) (evs_cons rfl (ev_name rfl) evs_nil)))) (by with_unfolding_all rfl) rfl rfl rfl rfl fun s' ⟨X', F', Z', o', k', x', nI⟩ => ?_
  refine bx_if F' (b := true) (evT_cmp (ev_name rfl) ev_none cmp_isnot_none rfl) (fun _ s'' kp F'' => ?_) (fun h => by cases h)
  refine put_stmt S2 R F'' nI (Z'.keep fun x o _ e => kp.hk x o e) rfl (evs_cons rfl ev_str (evs_cons rfl (ev_name rfl) (evs_cons rfl (ev_name rfl) (evs_cons rfl (ev_name rfl) evs_nil)))) (by with_unfolding_all rfl) rfl rfl rfl rfl fun s3 ⟨X3, F3, Z3, o3, k3, x3, nI3⟩ => b_nil (b_nil ?_)
  have live : ∀ x, ¬ X x → (∃ o, s.heap.get? x = some o) → ¬ X' x := fun x hx ⟨o, ho⟩ z => (x' x z).elim hx fun e => by rw [ho] at e; cases e
  refine ⟨X3, F3.sub sgR_sub, Z3, o3.trans (kp.eq.trans o'), fun x o h1 h2 e => k3 x o (live x h1 ⟨o, e⟩) h2 (kp.hk x o (k' x o h1 h2 e)), fun x hx => ?_⟩
  rcases x3 x hx with h | h
  · exact x' x h
  · by_cases hX : X x
    · exact .inl hX
    refine .inr ?_
    cases e : s.heap.get? x with
    | none => rfl
    | some o =>
      by_cases hp : x ∈ places (callEnvC (f_law w.params) L 244) []
      · obtain ⟨_, _, G⟩ := F''.fs
        obtain ⟨o2, ho2⟩ := G.liveP x hp
        rw [ho2] at h; cases h
      · rw [kp.hk x o (k' x o hX hp e)] at h; cases h
end
end
section
open PySem PySem.W PySem.W.X PySem.Calls PyProof.Rows PySem.SeqAt PySem.Spec
set_option autoImplicit false
set_option linter.unusedVariables false
set_option maxRecDepth 100000
theorem rowsO_rep {w : World} {X : Addr → Prop} {h : Heap} (t : (T0 w.params).At h) (tx : ∀ a o, (T0 w.params).K a = some o → ¬ X a) : Rep X h (.ref 218) (.lst rowsO) := by
  refine rep_topL t tx (by kernel_rfl : (T0 w.params).K 218 = some (hd.zo_201 w.params)) (by kernel_rfl) (by exact rfl) ?_
  refine .cons (rep_top t tx (by kernel_rfl : (T0 w.params).K 202 = some (hd.zo_185 w.params)) (by kernel_rfl) (by exact rfl) (.cons (.int _ _) (.cons (.str _ _) (.cons .none .nil)))) ?_
  refine .cons (rep_top t tx (by kernel_rfl : (T0 w.params).K 203 = some (hd.zo_186 w.params)) (by kernel_rfl) (by exact rfl) (.cons (.int _ _) (.cons (.str _ _) (.cons .none .nil)))) ?_
  refine .cons (rep_top t tx (by kernel_rfl : (T0 w.params).K 204 = some (hd.zo_187 w.params)) (by kernel_rfl) (by exact rfl) (.cons (.int _ _) (.cons (.str _ _) (.cons .none .nil)))) ?_
  refine .cons (rep_top t tx (by kernel_rfl : (T0 w.params).K 205 = some (hd.zo_188 w.params)) (by kernel_rfl) (by exact rfl) (.cons (.int _ _) (.cons (.str _ _) (.cons .none .nil)))) ?_
  refine .cons (rep_top t tx (by kernel_rfl : (T0 w.params).K 206 = some (hd.zo_189 w.params)) (by kernel_rfl) (by exact rfl) (.cons (.int _ _) (.cons (.str _ _) (.cons .none .nil)))) ?_
  refine .cons (rep_top t tx (by kernel_rfl : (T0 w.params).K 207 = some (hd.zo_190 w.params)) (by kernel_rfl) (by exact rfl) (.cons (.int _ _) (.cons (.str _ _) (.cons .none .nil)))) ?_
  refine .cons (rep_top t tx (by kernel_rfl : (T0 w.params).K 208 = some (hd.zo_191 w.params)) (by kernel_rfl) (by exact rfl) (.cons (.int _ _) (.cons (.str _ _) (.cons .none .nil)))) ?_
  refine .cons (rep_top t tx (by kernel_rfl : (T0 w.params).K 209 = some (hd.zo_192 w.params)) (by kernel_rfl) (by exact rfl) (.cons (.int _ _) (.cons (.str _ _) (.cons .none .nil)))) ?_
  refine .cons (rep_top t tx (by kernel_rfl : (T0 w.params).K 210 = some (hd.zo_193 w.params)) (by kernel_rfl) (by exact rfl) (.cons (.int _ _) (.cons (.str _ _) (.cons .none .nil)))) ?_
  refine .cons (rep_top t tx (by kernel_rfl : (T0 w.params).K 212 = some (hd.zo_195 w.params)) (by kernel_rfl) (by exact rfl) (.cons (.int _ _) (.cons (.str _ _) (.cons (.obj _) .nil)))) ?_
  refine .cons (rep_top t tx (by kernel_rfl : (T0 w.params).K 214 = some (hd.zo_197 w.params)) (by kernel_rfl) (by exact rfl) (.cons (.int _ _) (.cons (.str _ _) (.cons (.obj _) .nil)))) ?_
  refine .cons (rep_top t tx (by kernel_rfl : (T0 w.params).K 216 = some (hd.zo_199 w.params)) (by kernel_rfl) (by exact rfl) (.cons (.int _ _) (.cons (.str _ _) (.cons (.obj _) .nil)))) ?_
  exact .cons (rep_top t tx (by kernel_rfl : (T0 w.params).K 217 = some (hd.zo_200 w.params)) (by kernel_rfl) (by exact rfl) (.cons (.int _ _) (.cons (.str _ _) (.cons .none .nil)))) .nil
noncomputable def sgT (Dk d0 : Addr) (i : Nat) : Sg := match rowsO[i]? with
  | some (.tup [a, b, c]) => sgR Dk d0 a b c
  | _ => sg0 Dk d0
section
variable {w : World} {L : Addr} {A : Around} {s : Shared} {X : Addr → Prop} {Dk : Addr} {δ : Nat → Nat} {zs : List (Addr × Obj)} {B₀ : Heap} {Q' : Flow → Shared → Prop}
/-- the database is built -/
theorem part1 (R : Room 320 A) (F : FX (T0 w.params) (callEnvC (f_law w.params) L 244) B₀ X (sg0 Dk (δ 0)) s) (Z : DbX w δ zs none none X s.heap)
    (h : ∀ X' s', FX (T0 w.params) (callEnvC (f_law w.params) L 244) B₀ X' (sg0 Dk (δ 0)) s' → DbX w δ zs (some st_sc_13) (some st_scx_3) X' s'.heap → outer s' = outer s → wpAny (model prgH w) A (execs (lawS w.params 2) (callEnvC (f_law w.params) L 244)) Q' (fun _ _ => False) s') :
    wpAny (model prgH w) A (execs (lawS w.params 1) (callEnvC (f_law w.params) L 244)) Q' (fun _ _ => False) s := by
  refine b_forJ (d₀ := .lst rowsO) (ds := rowsO) (fun _ => sg0 Dk (δ 0)) (sgT Dk (δ 0)) (fun i X h => DbX w δ zs (aAt i) (bAt i) X h) (fun i X h h' Z hk => Z.keep hk) F Z R.hand (.inl rfl)
    (ev_glob (v := .ref 218) (by kernel_rfl) (by kernel_rfl) (by decide) fun X h t tx => rowsO_rep t tx) (fun _ => rfl) (fun i d hd => ?_) (fun i d hd X I s₂ F₂ hXI Z₂ => ?_) (fun X' s' F' Z' o' => h X' s' F' Z' o')
  · have key : ∀ a b c : D, d = .tup [a, b, c] → Takes prgH w (T0 w.params) A (callEnvC (f_law w.params) L 244) (.Tuple [.Name "code" ⟨166, 8, 166, 12⟩, .Name "name" ⟨166, 14, 166, 18⟩, .Name "more" ⟨166, 20, 166, 24⟩] 0 ⟨166, 8, 166, 24⟩) d (sg0 Dk (δ 0)) (sgT Dk (δ 0) i) none := fun a b c e => by
      subst e
      have e2 : sgT Dk (δ 0) i = sgR Dk (δ 0) a b c := by unfold sgT; rw [hd]
      rw [e2]
      exact takes_tup3 R.hand ⟨.inl (by kernel_rfl), ⟨by decide, by decide⟩, fun p h => by cases h⟩ ⟨.inl (by kernel_rfl), ⟨by decide, by decide⟩, fun p h => by cases h⟩ ⟨.inl (by kernel_rfl), ⟨by decide, by decide⟩, fun p h => by cases h⟩
    have hm := List.mem_of_getElem? hd
    unfold rowsO at hm
    simp only [List.mem_cons, List.not_mem_nil, or_false] at hm
    rcases hm with e | e | e | e | e | e | e | e | e | e | e | e | e <;> exact key _ _ _ e
  · have hlt : i < 13 := (List.getElem?_eq_some_iff.mp hd).1
    have post : ∀ {f : Flow} {s₃ : Shared}, RowPost w L B₀ δ zs Dk I (aAt (i + 1)) (bAt (i + 1)) X s₂ f s₃ → (match f with
        | .next | .cont => ∃ X', FX (T0 w.params) (callEnvC (f_law w.params) L 244) B₀ (wI X' I) (sg0 Dk (δ 0)) s₃ ∧ DbX w δ zs (aAt (i + 1)) (bAt (i + 1)) X' s₃.heap ∧ outer s₃ = outer s₂ ∧ (∀ b o, ¬ X b → b ∉ places (callEnvC (f_law w.params) L 244) [] → s₂.heap.get? b = some o → s₃.heap.get? b = some o) ∧ (∀ b, X' b → X b ∨ s₂.heap.get? b = none)
        | _ => False) := fun {f s₃} h => by cases f <;> exact h
    refine wpAny_mono (Q := RowPost w L B₀ δ zs Dk I (aAt (i + 1)) (bAt (i + 1)) X s₂) (E := fun _ _ => False) ?_ (fun f s₃ h => post h) (fun _ _ f => f)
    clear post
    match i, hlt with
    | 0, _ => exact row1 step_sc_0 R F₂ hXI Z₂
    | 1, _ => exact row1 step_sc_1 R F₂ hXI Z₂
    | 2, _ => exact row1 step_sc_2 R F₂ hXI Z₂
    | 3, _ => exact row1 step_sc_3 R F₂ hXI Z₂
    | 4, _ => exact row1 step_sc_4 R F₂ hXI Z₂
    | 5, _ => exact row1 step_sc_5 R F₂ hXI Z₂
    | 6, _ => exact row1 step_sc_6 R F₂ hXI Z₂
    | 7, _ => exact row1 step_sc_7 R F₂ hXI Z₂
    | 8, _ => exact row1 step_sc_8 R F₂ hXI Z₂
    | 9, _ => exact row2 step_sc_9 step_scx_0 R F₂ hXI Z₂
    | 10, _ => exact row2 step_sc_10 step_scx_1 R F₂ hXI Z₂
    | 11, _ => exact row2 step_sc_11 step_scx_2 R F₂ hXI Z₂
    | 12, _ => exact row1 step_sc_12 R F₂ hXI Z₂
end
end
section
open PySem PySem.W PySem.W.X PySem.Calls PyProof.Rows PySem.SeqAt PySem.Spec
set_option autoImplicit false
set_option linter.unusedVariables false
set_option maxRecDepth 100000
theorem bs_inj {m : Nat} {β : Nat → Nat} (h : (bsOf m β).Nodup) {i j : Nat} (hi : i < m) (hj : j < m) (e : β i = β j) : i = j := by
  have h1 := bs_at (β := β) hi
  have h2 := bs_at (β := β) hj
  have hi' : i < (bsOf m β).length := by rw [bs_len]; exact hi
  have hj' : j < (bsOf m β).length := by rw [bs_len]; exact hj
  rw [List.getElem?_eq_getElem hi', Option.some.injEq] at h1
  rw [List.getElem?_eq_getElem hj', Option.some.injEq] at h2
  have hp := List.pairwise_iff_getElem.mp h
  rcases Nat.lt_trichotomy i j with hlt | heq | hgt
  · exact absurd (h1.trans (e.trans h2.symm)) (hp i j hi' hj' hlt)
  · exact heq
  · exact absurd (h2.trans (e.symm.trans h1.symm)) (hp j i hj' hi' hgt)
section
variable {w : World} {L : Addr} {A : Around} {s : Shared} {σ : Sg} {B₀ : Heap} {Q' : Flow → Shared → Prop} {ns : List Int}
theorem maps0 {δ τ : Nat → Nat} {h : Heap} (La : Laid (st_data_0 w.params δ τ) (bsOf 12 δ) h) : MapsAt w δ [] h where
  ds := ⟨τ, fun j hj o ho => La.at_ j (δ j) o (bs_at (by omega)) ho⟩
  mp := ⟨_, #[], 0, La.at_ 3 (δ 3) _ (bs_at (by decide)) rfl, ⟨rfl, rfl, rfl⟩, rfl, fun e he => (by simp at he), .nil, .nil⟩
  lo := fun j hj => La.lo _ (List.mem_of_getElem? (bs_at (by omega)))
  nd := fun j hj e => absurd (bs_inj La.nodup (by omega) (by decide) e) (by omega)
/-- the deck and the database's first objects -/
theorem part0 (R : Room 330 A) (F : FX (T0 w.params) (callEnvC (f_law w.params) L 244) B₀ (fun _ => False) σ s) (hs : σ "script" = some (.lst (ns.map .int))) (hns : ns.length ≤ 100) (h245 : ∃ o, B₀.get? 245 = some o)
    (h : ∀ (Dk C : Addr) (l : List Int) (δ : Nat → Nat) (oD oC : Obj) (X' : Addr → Prop) (s' : Shared), FX (T0 w.params) (callEnvC (f_law w.params) L 244) B₀ X' (sg0 Dk (δ 0)) s' → DbX w δ [(Dk, oD), (C, oC)] none none X' s'.heap → DeckAt w Dk C l 0 s'.heap → l.length ≤ 100 → outer s' = outer s →
      wpAny (model prgH w) A (execs (lawS w.params 1) (callEnvC (f_law w.params) L 244)) Q' (fun _ _ => False) s') :
    wpAny (model prgH w) A (execs (lawS w.params 0) (callEnvC (f_law w.params) L 244)) Q' (fun _ _ => False) s := by
  have hKin : ∀ {h : Heap}, (T0 w.params).At h → (hd.heap_227 w.params).In h := fun t a o x => t.k a o x
  refine wpAny_execs_cons (Assign_Tuple ?_ (by rfl) (by kernel_rfl))
  refine wpAny_Tuple ?_
  refine args_cons ?_ rfl
  have E := F.envR
  refine Call_ ?_
  refine Name_function_global E.kind (by kernel_rfl) (loadGlobal_global (by rw [E.glob]; exact E.top.g) (by kernel_rfl : (T0 w.params).mg "_law_deck" = some (.ref 187)) ?_) (by decide)
  obtain ⟨o, ho, hdat⟩ := (k_deck w.params (.lst (ns.map .int))).o
  refine callWith_def hdat ?_ rfl
  refine wpAny_mono ((evs_cons rfl (ev_name hs) evs_nil : Evs prgH w _ _ _ _ _ [.lst (ns.map .int)]).run _ _ s E) (fun vs' s₁ ⟨k₁, r₁⟩ => ?_) (fun _ _ f => f.elim)
  have E₁ := E.keep k₁.hk
  refine ⟨E₁.top.k _ _ ho, ?_⟩
  cases r₁ with
  | cons ra rb =>
  cases rb
  have live245 : ∃ o, s₁.heap.get? 245 = some o := let ⟨o, ho⟩ := h245; ⟨o, k₁.hk _ _ (F.hk _ _ ho)⟩
  refine c_deck (n := 320) (R.less (by decide)) E₁.top (ra.avoid fun b hb => hb.elim) hns live245 fun Dk C l s₂ k₂ hDn hCn Z₂ hl₂ => ?_
  have E₂ := E₁.keep k₂.hk
  refine args_cons ?_ rfl
  refine Call_ ?_
  refine Name_function_global E₂.kind (by kernel_rfl) (loadGlobal_global (by rw [E₂.glob]; exact E₂.top.g) (by kernel_rfl : (T0 w.params).mg "Data" = some (.ref 178)) ?_) (by decide)
  refine callWith_KW0 (kws := []) (hKin E₂.top) (by kernel_rfl) rfl ?_ rfl
  refine wpAny_pure ⟨hKin E₂.top, ?_⟩
  have hn2 : 246 ≤ s₂.heap.objs.size := by
    obtain ⟨o, ho⟩ := live245
    exact Heap.lt_size (k₂.hk _ _ ho)
  refine new_data A s₂ _ (R.less (by decide)) (hKin E₂.top) hn2 fun δ τ h₃ tk La hk₃ fr => args_nil ?_
  refine ⟨Nat.le_of_ble_eq_true rfl, ?_⟩
  have k₃ : Kp s₂ { s₂ with heap := h₃, toks := tk } := ⟨rfl, hk₃⟩
  have k₄ : Kp { s₂ with heap := h₃, toks := tk } { s₂ with heap := h₃.push { cls := .type "tuple", data := .seq ([.ref Dk, .ref (δ 0)] : List Value).toArray }, toks := tk } := Kp.push _ _ _
  have kAll : Kp s { s₂ with heap := h₃.push { cls := .type "tuple", data := .seq ([.ref Dk, .ref (δ 0)] : List Value).toArray }, toks := tk } := ((k₁.trans k₂).trans k₃).trans k₄
  refine assign_Tuple_tuple R.hand (IsTup.new _ _) rfl rfl fun h₅ he => ?_
  have k₅ : Kp { s₂ with heap := h₃.push { cls := .type "tuple", data := .seq ([.ref Dk, .ref (δ 0)] : List Value).toArray }, toks := tk } { s₂ with heap := h₅, toks := tk } := ⟨rfl, fun b o e => he b o (Nat.ne_of_lt (Heap.lt_size e)) e⟩
  have k05 := kAll.trans k₅
  have k25 : Kp s₂ { s₂ with heap := h₅, toks := tk } := (k₃.trans k₄).trans k₅
  have k35 : Hk h₃ h₅ := fun b o e => k₅.hk b o (k₄.hk b o e)
  have n0 : ∀ b, s₁.heap.get? b = none → s.heap.get? b = none := fun b hb => by
    cases e : s.heap.get? b with
    | none => rfl
    | some o => rw [k₁.hk b o e] at hb; cases hb
  have n2 : ∀ b, s₂.heap.get? b = none → s.heap.get? b = none := fun b hb => n0 b (by
    cases e : s₁.heap.get? b with
    | none => rfl
    | some o => rw [k₂.hk b o e] at hb; cases hb)
  obtain ⟨oD, hoD⟩ := Z₂.liveD.1
  obtain ⟨oC, hoC⟩ := Z₂.liveD.2
  have frδ : ∀ j, j < 4 → s₂.heap.get? (δ j) = none := fun j hj => fr _ (List.mem_of_getElem? (bs_at (by omega)))
  have zmem : ∀ z ∈ [(Dk, oD), (C, oC)], z = (Dk, oD) ∨ z = (C, oC) := fun z hz => by simpa using hz
  have M₅ := (maps0 La).keep k35
  have hzl : ∀ z ∈ [(Dk, oD), (C, oC)], h₅.get? z.1 = some z.2 := fun z hz => by
    rcases zmem z hz with rfl | rfl
    · exact k25.hk _ _ hoD
    · exact k25.hk _ _ hoC
  have hz0 : ∀ z ∈ [(Dk, oD), (C, oC)], ∀ j, j < 4 → z.1 ≠ δ j := fun z hz j hj e => by
    rcases zmem z hz with rfl | rfl
    · exact fresh_not (frδ j hj) ⟨oD, e ▸ hoD⟩
    · exact fresh_not (frδ j hj) ⟨oC, e ▸ hoC⟩
  have Z₅ : Db w δ [(Dk, oD), (C, oC)] none none δ δ h₅ := { maps := M₅, sc := fun st e => (by cases e), scx := fun st e => (by cases e), d1 := fun j hj hx => (by cases hx), d2 := fun j hj hx => (by cases hx), d3 := fun x hx _ => (by cases hx), zl := hzl, z0 := hz0, z1 := fun z hz hx => (by cases hx), z2 := fun z hz hx => (by cases hx) }
  have F₅ : FX (T0 w.params) (callEnvC (f_law w.params) L 244) B₀ (fun x => InD δ none none δ δ x ∨ ∃ z ∈ [(Dk, oD), (C, oC)], x = z.1) σ { s₂ with heap := h₅, toks := tk } := F.step k05.eq (fun b o _ e => k05.hk b o e) (fun b hb => .inr ?_) (fun b hb => ?_)
  · refine wpAny_bind (wpAny_holding (wpAny_assign_Name (F₅.fs.storeR (.inr ⟨by kernel_rfl, L + 1, by kernel_rfl⟩) ⟨by decide, by decide⟩ (fun p h => by cases h) (.obj Dk) fun s₆ re F₆ => ?_)))
    refine wpAny_bind (wpAny_holding (wpAny_assign_Name (F₆.store (.inl (by kernel_rfl)) ⟨by decide, by decide⟩ (fun p h => by cases h) (.obj (δ 0)) fun s₇ F₇ => ?_)))
    refine wpAny_pure ?_
    obtain ⟨_, _, G₇⟩ := id F₇
    have kk : ∀ x o, (InD δ none none δ δ x ∨ ∃ z ∈ [(Dk, oD), (C, oC)], x = z.1) → h₅.get? x = some o → s₇.heap.get? x = some o := fun x o hx e => G₇.keep x o (fun z => G₇.xa x z hx) e
    have F₇' : FX (T0 w.params) (callEnvC (f_law w.params) L 244) B₀ (fun x => InD δ none none δ δ x ∨ ∃ z ∈ [(Dk, oD), (C, oC)], x = z.1) (sg0 Dk (δ 0)) s₇ := ⟨F₇.rebase.sub fun x d hx => ?_, F₅.xB, F₅.gl⟩
    · have Z₅' : DeckAt w Dk C l 0 h₅ := Z₂.keep (fun o e => k25.hk _ o e) (fun o e => k25.hk _ o e)
      exact h Dk C l δ oD oC _ s₇ F₇' ⟨δ, δ, Z₅.keepX kk, fun x => Iff.rfl⟩ (Z₅'.keep (fun o e => kk _ o (.inr ⟨(Dk, oD), by simp, rfl⟩) e) (fun o e => kk _ o (.inr ⟨(C, oC), by simp, rfl⟩) e)) hl₂ (G₇.same.trans k05.eq)
    · unfold sg0 upS at hx
      unfold upS
      split at hx
      · rename_i e; subst e; rw [if_pos (by decide)]; exact hx
      · rename_i e1
        split at hx
        · rename_i e; subst e; rw [if_neg (by decide), if_pos (by decide)]; exact hx
        · cases hx
  · rcases hb with (⟨j, hj, rfl⟩ | hb | hb) | ⟨z, hz, rfl⟩
    · exact n2 _ (frδ j hj)
    · cases hb
    · cases hb
    · rcases zmem z hz with rfl | rfl
      · exact n0 _ hDn
      · exact n0 _ hCn
  · rcases hb with hb | ⟨z, hz, rfl⟩
    · exact Z₅.liveIn b hb
    · exact ⟨_, Z₅.zl z hz⟩
end
end
section
open PySem PySem.W PySem.W.X PyProof.Rows
set_option autoImplicit false
set_option linter.unusedVariables false
set_option maxRecDepth 100000
theorem get_sc_0 {w : World} {A : Around} {Q' : PySem.Fin → Shared → Prop} {h₀ : Heap} {g : Array GenState} {d : Drawn} {os : OsState} {n t : Nat} (b : Bool) {β τ : Nat → Nat} {t2 : Nat} : Came (hsim (hV (wB w b) A Q' h₀ g d os n t ((List.range 4).map β)) 673 (.builtin "mine" ⟨[], []⟩) .base (callT (.ref 105) [(.ref (β 0)), (.int (97) t2)]) ⟨tstore (st_sc_13 w.params β τ), 250, 0, [105, 104, 250, 250, 250, 250, 2, 250, 246, 129, 129, 128, 246, 129, 129, 128, 246, 246, 129, 247, 3, 250, 246, 129, 129, 128, 246, 129, 129, 128, 246, 246, 129, 247, 250, 77, 77, 76, 251, 251, 251, 251, 2, 251, 251, 3, 0, 251, 248, 248, 248, 251, 251, 251, 251, 251, 251, 251, 251, 251, 251, 248, 248, 248, 248, 248, 251, 251, 251, 251, 251, 251, 251, 251, 251, 251, 251, 251, 248, 248, 248, 248, 248, 251, 251, 251, 251, 251, 251, 251, 251, 251, 251, 251, 251, 248, 248, 248, 248, 248, 251, 251, 251, 251, 251, 251, 251, 251, 251, 251, 251, 251, 248, 248, 248, 248, 248, 251, 251, 251, 251, 251, 251, 251, 251, 251, 251, 251, 251, 248, 248, 248, 248, 248, 251, 251, 251, 251, 251, 251, 251, 249, 249, 249, 249, 249], [], []⟩)
  (.str (⟨⟨[76, 97, 116, 110]⟩⟩ : Str) (τ 30)) [0, 1, 2, 3] (st_sc_13 w.params β τ) 252 40 := by
  unfold Came
  cases b <;> kernel_rfl
end
section
open PySem PySem.W PySem.W.X PyProof.Rows
set_option autoImplicit false
set_option linter.unusedVariables false
set_option maxRecDepth 100000
theorem get_scx_0 {w : World} {A : Around} {Q' : PySem.Fin → Shared → Prop} {h₀ : Heap} {g : Array GenState} {d : Drawn} {os : OsState} {n t : Nat} (b : Bool) {β τ : Nat → Nat} {t2 : Nat} : Came (hsim (hV (wB w b) A Q' h₀ g d os n t ((List.range 4).map β)) 545 (.builtin "mine" ⟨[], []⟩) .base (callT (.ref 105) [(.ref (β 0)), (.int (97) t2)]) ⟨tstore (st_scx_3 w.params β τ), 250, 0, [105, 104, 250, 250, 250, 250, 2, 250, 246, 129, 129, 128, 246, 129, 129, 128, 246, 246, 129, 247, 3, 250, 246, 129, 129, 128, 246, 129, 129, 128, 246, 246, 129, 247, 250, 77, 77, 76, 251, 251, 251, 251, 2, 251, 251, 3, 0, 251, 248, 248, 248, 251, 251, 251, 251, 251, 251, 251, 251, 251, 251, 248, 248, 248, 248, 248, 251, 251, 251, 251, 251, 251, 251, 251, 251, 251, 251, 251, 248, 248, 248, 248, 248, 251, 251, 251, 251, 251, 251, 251, 251, 251, 251, 251, 251, 248, 248, 248, 248, 248, 251, 251, 251, 251, 251, 251, 251, 249, 249, 249, 249, 249], [], []⟩)
  .none [0, 1, 2, 3] (st_scx_3 w.params β τ) 252 30 := by
  unfold Came
  cases b <;> kernel_rfl
end
section
open PySem PySem.W PySem.W.X PyProof.Rows
set_option autoImplicit false
set_option linter.unusedVariables false
set_option maxRecDepth 100000
theorem get_sc_1 {w : World} {A : Around} {Q' : PySem.Fin → Shared → Prop} {h₀ : Heap} {g : Array GenState} {d : Drawn} {os : OsState} {n t : Nat} (b : Bool) {β τ : Nat → Nat} {t2 : Nat} : Came (hsim (hV (wB w b) A Q' h₀ g d os n t ((List.range 4).map β)) 679 (.builtin "mine" ⟨[], []⟩) .base (callT (.ref 105) [(.ref (β 0)), (.int (1072) t2)]) ⟨tstore (st_sc_13 w.params β τ), 250, 0, [105, 104, 250, 250, 250, 250, 2, 250, 246, 129, 129, 128, 246, 129, 129, 128, 246, 246, 129, 247, 3, 250, 246, 129, 129, 128, 246, 129, 129, 128, 246, 246, 129, 247, 250, 77, 77, 76, 251, 251, 251, 251, 2, 251, 251, 3, 0, 251, 248, 248, 248, 251, 251, 251, 251, 251, 251, 251, 251, 251, 251, 248, 248, 248, 248, 248, 251, 251, 251, 251, 251, 251, 251, 251, 251, 251, 251, 251, 248, 248, 248, 248, 248, 251, 251, 251, 251, 251, 251, 251, 251, 251, 251, 251, 251, 248, 248, 248, 248, 248, 251, 251, 251, 251, 251, 251, 251, 251, 251, 251, 251, 251, 248, 248, 248, 248, 248, 251, 251, 251, 251, 251, 251, 251, 251, 251, 251, 251, 251, 248, 248, 248, 248, 248, 251, 251, 251, 251, 251, 251, 251, 249, 249, 249, 249, 249], [], []⟩)
  (.str (⟨⟨[67, 121, 114, 108]⟩⟩ : Str) (τ 33)) [0, 1, 2, 3] (st_sc_13 w.params β τ) 252 42 := by
  unfold Came
  cases b <;> kernel_rfl
end
section
open PySem PySem.W PySem.W.X PyProof.Rows
set_option autoImplicit false
set_option linter.unusedVariables false
set_option maxRecDepth 100000
theorem get_scx_1 {w : World} {A : Around} {Q' : PySem.Fin → Shared → Prop} {h₀ : Heap} {g : Array GenState} {d : Drawn} {os : OsState} {n t : Nat} (b : Bool) {β τ : Nat → Nat} {t2 : Nat} : Came (hsim (hV (wB w b) A Q' h₀ g d os n t ((List.range 4).map β)) 551 (.builtin "mine" ⟨[], []⟩) .base (callT (.ref 105) [(.ref (β 0)), (.int (1072) t2)]) ⟨tstore (st_scx_3 w.params β τ), 250, 0, [105, 104, 250, 250, 250, 250, 2, 250, 246, 129, 129, 128, 246, 129, 129, 128, 246, 246, 129, 247, 3, 250, 246, 129, 129, 128, 246, 129, 129, 128, 246, 246, 129, 247, 250, 77, 77, 76, 251, 251, 251, 251, 2, 251, 251, 3, 0, 251, 248, 248, 248, 251, 251, 251, 251, 251, 251, 251, 251, 251, 251, 248, 248, 248, 248, 248, 251, 251, 251, 251, 251, 251, 251, 251, 251, 251, 251, 251, 248, 248, 248, 248, 248, 251, 251, 251, 251, 251, 251, 251, 251, 251, 251, 251, 251, 248, 248, 248, 248, 248, 251, 251, 251, 251, 251, 251, 251, 249, 249, 249, 249, 249], [], []⟩)
  .none [0, 1, 2, 3] (st_scx_3 w.params β τ) 252 32 := by
  unfold Came
  cases b <;> kernel_rfl
end
section
open PySem PySem.W PySem.W.X PyProof.Rows
set_option autoImplicit false
set_option linter.unusedVariables false
set_option maxRecDepth 100000
theorem get_sc_2 {w : World} {A : Around} {Q' : PySem.Fin → Shared → Prop} {h₀ : Heap} {g : Array GenState} {d : Drawn} {os : OsState} {n t : Nat} (b : Bool) {β τ : Nat → Nat} {t2 : Nat} : Came (hsim (hV (wB w b) A Q' h₀ g d os n t ((List.range 4).map β)) 679 (.builtin "mine" ⟨[], []⟩) .base (callT (.ref 105) [(.ref (β 0)), (.int (12354) t2)]) ⟨tstore (st_sc_13 w.params β τ), 250, 0, [105, 104, 250, 250, 250, 250, 2, 250, 246, 129, 129, 128, 246, 129, 129, 128, 246, 246, 129, 247, 3, 250, 246, 129, 129, 128, 246, 129, 129, 128, 246, 246, 129, 247, 250, 77, 77, 76, 251, 251, 251, 251, 2, 251, 251, 3, 0, 251, 248, 248, 248, 251, 251, 251, 251, 251, 251, 251, 251, 251, 251, 248, 248, 248, 248, 248, 251, 251, 251, 251, 251, 251, 251, 251, 251, 251, 251, 251, 248, 248, 248, 248, 248, 251, 251, 251, 251, 251, 251, 251, 251, 251, 251, 251, 251, 248, 248, 248, 248, 248, 251, 251, 251, 251, 251, 251, 251, 251, 251, 251, 251, 251, 248, 248, 248, 248, 248, 251, 251, 251, 251, 251, 251, 251, 251, 251, 251, 251, 251, 248, 248, 248, 248, 248, 251, 251, 251, 251, 251, 251, 251, 249, 249, 249, 249, 249], [], []⟩)
  (.str (⟨⟨[72, 105, 114, 97]⟩⟩ : Str) (τ 35)) [0, 1, 2, 3] (st_sc_13 w.params β τ) 252 42 := by
  unfold Came
  cases b <;> kernel_rfl
end
section
open PySem PySem.W PySem.W.X PyProof.Rows
set_option autoImplicit false
set_option linter.unusedVariables false
set_option maxRecDepth 100000
theorem get_scx_2 {w : World} {A : Around} {Q' : PySem.Fin → Shared → Prop} {h₀ : Heap} {g : Array GenState} {d : Drawn} {os : OsState} {n t : Nat} (b : Bool) {β τ : Nat → Nat} {t2 : Nat} : Came (hsim (hV (wB w b) A Q' h₀ g d os n t ((List.range 4).map β)) 551 (.builtin "mine" ⟨[], []⟩) .base (callT (.ref 105) [(.ref (β 0)), (.int (12354) t2)]) ⟨tstore (st_scx_3 w.params β τ), 250, 0, [105, 104, 250, 250, 250, 250, 2, 250, 246, 129, 129, 128, 246, 129, 129, 128, 246, 246, 129, 247, 3, 250, 246, 129, 129, 128, 246, 129, 129, 128, 246, 246, 129, 247, 250, 77, 77, 76, 251, 251, 251, 251, 2, 251, 251, 3, 0, 251, 248, 248, 248, 251, 251, 251, 251, 251, 251, 251, 251, 251, 251, 248, 248, 248, 248, 248, 251, 251, 251, 251, 251, 251, 251, 251, 251, 251, 251, 251, 248, 248, 248, 248, 248, 251, 251, 251, 251, 251, 251, 251, 251, 251, 251, 251, 251, 248, 248, 248, 248, 248, 251, 251, 251, 251, 251, 251, 251, 249, 249, 249, 249, 249], [], []⟩)
  .none [0, 1, 2, 3] (st_scx_3 w.params β τ) 252 32 := by
  unfold Came
  cases b <;> kernel_rfl
end
section
open PySem PySem.W PySem.W.X PyProof.Rows
set_option autoImplicit false
set_option linter.unusedVariables false
set_option maxRecDepth 100000
theorem get_sc_3 {w : World} {A : Around} {Q' : PySem.Fin → Shared → Prop} {h₀ : Heap} {g : Array GenState} {d : Drawn} {os : OsState} {n t : Nat} (b : Bool) {β τ : Nat → Nat} {t2 : Nat} : Came (hsim (hV (wB w b) A Q' h₀ g d os n t ((List.range 4).map β)) 685 (.builtin "mine" ⟨[], []⟩) .base (callT (.ref 105) [(.ref (β 0)), (.int (12450) t2)]) ⟨tstore (st_sc_13 w.params β τ), 250, 0, [105, 104, 250, 250, 250, 250, 2, 250, 246, 129, 129, 128, 246, 129, 129, 128, 246, 246, 129, 247, 3, 250, 246, 129, 129, 128, 246, 129, 129, 128, 246, 246, 129, 247, 250, 77, 77, 76, 251, 251, 251, 251, 2, 251, 251, 3, 0, 251, 248, 248, 248, 251, 251, 251, 251, 251, 251, 251, 251, 251, 251, 248, 248, 248, 248, 248, 251, 251, 251, 251, 251, 251, 251, 251, 251, 251, 251, 251, 248, 248, 248, 248, 248, 251, 251, 251, 251, 251, 251, 251, 251, 251, 251, 251, 251, 248, 248, 248, 248, 248, 251, 251, 251, 251, 251, 251, 251, 251, 251, 251, 251, 251, 248, 248, 248, 248, 248, 251, 251, 251, 251, 251, 251, 251, 251, 251, 251, 251, 251, 248, 248, 248, 248, 248, 251, 251, 251, 251, 251, 251, 251, 249, 249, 249, 249, 249], [], []⟩)
  (.str (⟨⟨[75, 97, 110, 97]⟩⟩ : Str) (τ 36)) [0, 1, 2, 3] (st_sc_13 w.params β τ) 252 44 := by
  unfold Came
  cases b <;> kernel_rfl
end
section
open PySem PySem.W PySem.W.X PyProof.Rows
set_option autoImplicit false
set_option linter.unusedVariables false
set_option maxRecDepth 100000
theorem get_scx_3 {w : World} {A : Around} {Q' : PySem.Fin → Shared → Prop} {h₀ : Heap} {g : Array GenState} {d : Drawn} {os : OsState} {n t : Nat} (b : Bool) {β τ : Nat → Nat} {t2 : Nat} : Came (hsim (hV (wB w b) A Q' h₀ g d os n t ((List.range 4).map β)) 551 (.builtin "mine" ⟨[], []⟩) .base (callT (.ref 105) [(.ref (β 0)), (.int (12450) t2)]) ⟨tstore (st_scx_3 w.params β τ), 250, 0, [105, 104, 250, 250, 250, 250, 2, 250, 246, 129, 129, 128, 246, 129, 129, 128, 246, 246, 129, 247, 3, 250, 246, 129, 129, 128, 246, 129, 129, 128, 246, 246, 129, 247, 250, 77, 77, 76, 251, 251, 251, 251, 2, 251, 251, 3, 0, 251, 248, 248, 248, 251, 251, 251, 251, 251, 251, 251, 251, 251, 251, 248, 248, 248, 248, 248, 251, 251, 251, 251, 251, 251, 251, 251, 251, 251, 251, 251, 248, 248, 248, 248, 248, 251, 251, 251, 251, 251, 251, 251, 251, 251, 251, 251, 251, 248, 248, 248, 248, 248, 251, 251, 251, 251, 251, 251, 251, 249, 249, 249, 249, 249], [], []⟩)
  .none [0, 1, 2, 3] (st_scx_3 w.params β τ) 252 32 := by
  unfold Came
  cases b <;> kernel_rfl
end
section
open PySem PySem.W PySem.W.X PyProof.Rows
set_option autoImplicit false
set_option linter.unusedVariables false
set_option maxRecDepth 100000
theorem get_sc_4 {w : World} {A : Around} {Q' : PySem.Fin → Shared → Prop} {h₀ : Heap} {g : Array GenState} {d : Drawn} {os : OsState} {n t : Nat} (b : Bool) {β τ : Nat → Nat} {t2 : Nat} : Came (hsim (hV (wB w b) A Q' h₀ g d os n t ((List.range 4).map β)) 621 (.builtin "mine" ⟨[], []⟩) .base (callT (.ref 105) [(.ref (β 0)), (.int (19968) t2)]) ⟨tstore (st_sc_13 w.params β τ), 250, 0, [105, 104, 250, 250, 250, 250, 2, 250, 246, 129, 129, 128, 246, 129, 129, 128, 246, 246, 129, 247, 3, 250, 246, 129, 129, 128, 246, 129, 129, 128, 246, 246, 129, 247, 250, 77, 77, 76, 251, 251, 251, 251, 2, 251, 251, 3, 0, 251, 248, 248, 248, 251, 251, 251, 251, 251, 251, 251, 251, 251, 251, 248, 248, 248, 248, 248, 251, 251, 251, 251, 251, 251, 251, 251, 251, 251, 251, 251, 248, 248, 248, 248, 248, 251, 251, 251, 251, 251, 251, 251, 251, 251, 251, 251, 251, 248, 248, 248, 248, 248, 251, 251, 251, 251, 251, 251, 251, 251, 251, 251, 251, 251, 248, 248, 248, 248, 248, 251, 251, 251, 251, 251, 251, 251, 249, 249, 249, 249, 249], [], []⟩)
  (.str (⟨⟨[72, 97, 110, 105]⟩⟩ : Str) (τ 39)) [0, 1, 2, 3] (st_sc_13 w.params β τ) 252 39 := by
  unfold Came
  cases b <;> kernel_rfl
end
section
open PySem PySem.W PySem.W.X PyProof.Rows
set_option autoImplicit false
set_option linter.unusedVariables false
set_option maxRecDepth 100000
theorem get_scx_4 {w : World} {A : Around} {Q' : PySem.Fin → Shared → Prop} {h₀ : Heap} {g : Array GenState} {d : Drawn} {os : OsState} {n t : Nat} (b : Bool) {β τ : Nat → Nat} {t2 : Nat} : Came (hsim (hV (wB w b) A Q' h₀ g d os n t ((List.range 4).map β)) 557 (.builtin "mine" ⟨[], []⟩) .base (callT (.ref 105) [(.ref (β 0)), (.int (19968) t2)]) ⟨tstore (st_scx_3 w.params β τ), 250, 0, [105, 104, 250, 250, 250, 250, 2, 250, 246, 129, 129, 128, 246, 129, 129, 128, 246, 246, 129, 247, 3, 250, 246, 129, 129, 128, 246, 129, 129, 128, 246, 246, 129, 247, 250, 77, 77, 76, 251, 251, 251, 251, 2, 251, 251, 3, 0, 251, 248, 248, 248, 251, 251, 251, 251, 251, 251, 251, 251, 251, 251, 248, 248, 248, 248, 248, 251, 251, 251, 251, 251, 251, 251, 251, 251, 251, 251, 251, 248, 248, 248, 248, 248, 251, 251, 251, 251, 251, 251, 251, 251, 251, 251, 251, 251, 248, 248, 248, 248, 248, 251, 251, 251, 251, 251, 251, 251, 249, 249, 249, 249, 249], [], []⟩)
  .none [0, 1, 2, 3] (st_scx_3 w.params β τ) 252 34 := by
  unfold Came
  cases b <;> kernel_rfl
end
section
open PySem PySem.W PySem.W.X PyProof.Rows
set_option autoImplicit false
set_option linter.unusedVariables false
set_option maxRecDepth 100000
theorem get_sc_5 {w : World} {A : Around} {Q' : PySem.Fin → Shared → Prop} {h₀ : Heap} {g : Array GenState} {d : Drawn} {os : OsState} {n t : Nat} (b : Bool) {β τ : Nat → Nat} {t2 : Nat} : Came (hsim (hV (wB w b) A Q' h₀ g d os n t ((List.range 4).map β)) 691 (.builtin "mine" ⟨[], []⟩) .base (callT (.ref 105) [(.ref (β 0)), (.int (44032) t2)]) ⟨tstore (st_sc_13 w.params β τ), 250, 0, [105, 104, 250, 250, 250, 250, 2, 250, 246, 129, 129, 128, 246, 129, 129, 128, 246, 246, 129, 247, 3, 250, 246, 129, 129, 128, 246, 129, 129, 128, 246, 246, 129, 247, 250, 77, 77, 76, 251, 251, 251, 251, 2, 251, 251, 3, 0, 251, 248, 248, 248, 251, 251, 251, 251, 251, 251, 251, 251, 251, 251, 248, 248, 248, 248, 248, 251, 251, 251, 251, 251, 251, 251, 251, 251, 251, 251, 251, 248, 248, 248, 248, 248, 251, 251, 251, 251, 251, 251, 251, 251, 251, 251, 251, 251, 248, 248, 248, 248, 248, 251, 251, 251, 251, 251, 251, 251, 251, 251, 251, 251, 251, 248, 248, 248, 248, 248, 251, 251, 251, 251, 251, 251, 251, 251, 251, 251, 251, 251, 248, 248, 248, 248, 248, 251, 251, 251, 251, 251, 251, 251, 249, 249, 249, 249, 249], [], []⟩)
  (.str (⟨⟨[72, 97, 110, 103]⟩⟩ : Str) (τ 40)) [0, 1, 2, 3] (st_sc_13 w.params β τ) 252 46 := by
  unfold Came
  cases b <;> kernel_rfl
end
section
open PySem PySem.W PySem.W.X PyProof.Rows
set_option autoImplicit false
set_option linter.unusedVariables false
set_option maxRecDepth 100000
theorem get_scx_5 {w : World} {A : Around} {Q' : PySem.Fin → Shared → Prop} {h₀ : Heap} {g : Array GenState} {d : Drawn} {os : OsState} {n t : Nat} (b : Bool) {β τ : Nat → Nat} {t2 : Nat} : Came (hsim (hV (wB w b) A Q' h₀ g d os n t ((List.range 4).map β)) 557 (.builtin "mine" ⟨[], []⟩) .base (callT (.ref 105) [(.ref (β 0)), (.int (44032) t2)]) ⟨tstore (st_scx_3 w.params β τ), 250, 0, [105, 104, 250, 250, 250, 250, 2, 250, 246, 129, 129, 128, 246, 129, 129, 128, 246, 246, 129, 247, 3, 250, 246, 129, 129, 128, 246, 129, 129, 128, 246, 246, 129, 247, 250, 77, 77, 76, 251, 251, 251, 251, 2, 251, 251, 3, 0, 251, 248, 248, 248, 251, 251, 251, 251, 251, 251, 251, 251, 251, 251, 248, 248, 248, 248, 248, 251, 251, 251, 251, 251, 251, 251, 251, 251, 251, 251, 251, 248, 248, 248, 248, 248, 251, 251, 251, 251, 251, 251, 251, 251, 251, 251, 251, 251, 248, 248, 248, 248, 248, 251, 251, 251, 251, 251, 251, 251, 249, 249, 249, 249, 249], [], []⟩)
  .none [0, 1, 2, 3] (st_scx_3 w.params β τ) 252 34 := by
  unfold Came
  cases b <;> kernel_rfl
end
section
open PySem PySem.W PySem.W.X PyProof.Rows
set_option autoImplicit false
set_option linter.unusedVariables false
set_option maxRecDepth 100000
theorem get_sc_6 {w : World} {A : Around} {Q' : PySem.Fin → Shared → Prop} {h₀ : Heap} {g : Array GenState} {d : Drawn} {os : OsState} {n t : Nat} (b : Bool) {β τ : Nat → Nat} {t2 : Nat} : Came (hsim (hV (wB w b) A Q' h₀ g d os n t ((List.range 4).map β)) 679 (.builtin "mine" ⟨[], []⟩) .base (callT (.ref 105) [(.ref (β 0)), (.int (12549) t2)]) ⟨tstore (st_sc_13 w.params β τ), 250, 0, [105, 104, 250, 250, 250, 250, 2, 250, 246, 129, 129, 128, 246, 129, 129, 128, 246, 246, 129, 247, 3, 250, 246, 129, 129, 128, 246, 129, 129, 128, 246, 246, 129, 247, 250, 77, 77, 76, 251, 251, 251, 251, 2, 251, 251, 3, 0, 251, 248, 248, 248, 251, 251, 251, 251, 251, 251, 251, 251, 251, 251, 248, 248, 248, 248, 248, 251, 251, 251, 251, 251, 251, 251, 251, 251, 251, 251, 251, 248, 248, 248, 248, 248, 251, 251, 251, 251, 251, 251, 251, 251, 251, 251, 251, 251, 248, 248, 248, 248, 248, 251, 251, 251, 251, 251, 251, 251, 251, 251, 251, 251, 251, 248, 248, 248, 248, 248, 251, 251, 251, 251, 251, 251, 251, 251, 251, 251, 251, 251, 248, 248, 248, 248, 248, 251, 251, 251, 251, 251, 251, 251, 249, 249, 249, 249, 249], [], []⟩)
  (.str (⟨⟨[66, 111, 112, 111]⟩⟩ : Str) (τ 38)) [0, 1, 2, 3] (st_sc_13 w.params β τ) 252 42 := by
  unfold Came
  cases b <;> kernel_rfl
end
section
open PySem PySem.W PySem.W.X PyProof.Rows
set_option autoImplicit false
set_option linter.unusedVariables false
set_option maxRecDepth 100000
theorem get_scx_6 {w : World} {A : Around} {Q' : PySem.Fin → Shared → Prop} {h₀ : Heap} {g : Array GenState} {d : Drawn} {os : OsState} {n t : Nat} (b : Bool) {β τ : Nat → Nat} {t2 : Nat} : Came (hsim (hV (wB w b) A Q' h₀ g d os n t ((List.range 4).map β)) 557 (.builtin "mine" ⟨[], []⟩) .base (callT (.ref 105) [(.ref (β 0)), (.int (12549) t2)]) ⟨tstore (st_scx_3 w.params β τ), 250, 0, [105, 104, 250, 250, 250, 250, 2, 250, 246, 129, 129, 128, 246, 129, 129, 128, 246, 246, 129, 247, 3, 250, 246, 129, 129, 128, 246, 129, 129, 128, 246, 246, 129, 247, 250, 77, 77, 76, 251, 251, 251, 251, 2, 251, 251, 3, 0, 251, 248, 248, 248, 251, 251, 251, 251, 251, 251, 251, 251, 251, 251, 248, 248, 248, 248, 248, 251, 251, 251, 251, 251, 251, 251, 251, 251, 251, 251, 251, 248, 248, 248, 248, 248, 251, 251, 251, 251, 251, 251, 251, 251, 251, 251, 251, 251, 248, 248, 248, 248, 248, 251, 251, 251, 251, 251, 251, 251, 249, 249, 249, 249, 249], [], []⟩)
  .none [0, 1, 2, 3] (st_scx_3 w.params β τ) 252 34 := by
  unfold Came
  cases b <;> kernel_rfl
end
section
open PySem PySem.W PySem.W.X PyProof.Rows
set_option autoImplicit false
set_option linter.unusedVariables false
set_option maxRecDepth 100000
theorem get_sc_7 {w : World} {A : Around} {Q' : PySem.Fin → Shared → Prop} {h₀ : Heap} {g : Array GenState} {d : Drawn} {os : OsState} {n t : Nat} (b : Bool) {β τ : Nat → Nat} {t2 : Nat} : Came (hsim (hV (wB w b) A Q' h₀ g d os n t ((List.range 4).map β)) 673 (.builtin "mine" ⟨[], []⟩) .base (callT (.ref 105) [(.ref (β 0)), (.int (32) t2)]) ⟨tstore (st_sc_13 w.params β τ), 250, 0, [105, 104, 250, 250, 250, 250, 2, 250, 246, 129, 129, 128, 246, 129, 129, 128, 246, 246, 129, 247, 3, 250, 246, 129, 129, 128, 246, 129, 129, 128, 246, 246, 129, 247, 250, 77, 77, 76, 251, 251, 251, 251, 2, 251, 251, 3, 0, 251, 248, 248, 248, 251, 251, 251, 251, 251, 251, 251, 251, 251, 251, 248, 248, 248, 248, 248, 251, 251, 251, 251, 251, 251, 251, 251, 251, 251, 251, 251, 248, 248, 248, 248, 248, 251, 251, 251, 251, 251, 251, 251, 251, 251, 251, 251, 251, 248, 248, 248, 248, 248, 251, 251, 251, 251, 251, 251, 251, 251, 251, 251, 251, 251, 248, 248, 248, 248, 248, 251, 251, 251, 251, 251, 251, 251, 251, 251, 251, 251, 251, 248, 248, 248, 248, 248, 251, 251, 251, 251, 251, 251, 251, 249, 249, 249, 249, 249], [], []⟩)
  (.str (⟨⟨[90, 121, 121, 121]⟩⟩ : Str) (τ 29)) [0, 1, 2, 3] (st_sc_13 w.params β τ) 252 40 := by
  unfold Came
  cases b <;> kernel_rfl
end
section
open PySem PySem.W PySem.W.X PyProof.Rows
set_option autoImplicit false
set_option linter.unusedVariables false
set_option maxRecDepth 100000
theorem get_scx_7 {w : World} {A : Around} {Q' : PySem.Fin → Shared → Prop} {h₀ : Heap} {g : Array GenState} {d : Drawn} {os : OsState} {n t : Nat} (b : Bool) {β τ : Nat → Nat} {t2 : Nat} : Came (hsim (hV (wB w b) A Q' h₀ g d os n t ((List.range 4).map β)) 545 (.builtin "mine" ⟨[], []⟩) .base (callT (.ref 105) [(.ref (β 0)), (.int (32) t2)]) ⟨tstore (st_scx_3 w.params β τ), 250, 0, [105, 104, 250, 250, 250, 250, 2, 250, 246, 129, 129, 128, 246, 129, 129, 128, 246, 246, 129, 247, 3, 250, 246, 129, 129, 128, 246, 129, 129, 128, 246, 246, 129, 247, 250, 77, 77, 76, 251, 251, 251, 251, 2, 251, 251, 3, 0, 251, 248, 248, 248, 251, 251, 251, 251, 251, 251, 251, 251, 251, 251, 248, 248, 248, 248, 248, 251, 251, 251, 251, 251, 251, 251, 251, 251, 251, 251, 251, 248, 248, 248, 248, 248, 251, 251, 251, 251, 251, 251, 251, 251, 251, 251, 251, 251, 248, 248, 248, 248, 248, 251, 251, 251, 251, 251, 251, 251, 249, 249, 249, 249, 249], [], []⟩)
  .none [0, 1, 2, 3] (st_scx_3 w.params β τ) 252 30 := by
  unfold Came
  cases b <;> kernel_rfl
end
section
open PySem PySem.W PySem.W.X PyProof.Rows
set_option autoImplicit false
set_option linter.unusedVariables false
set_option maxRecDepth 100000
theorem get_sc_8 {w : World} {A : Around} {Q' : PySem.Fin → Shared → Prop} {h₀ : Heap} {g : Array GenState} {d : Drawn} {os : OsState} {n t : Nat} (b : Bool) {β τ : Nat → Nat} {t2 : Nat} : Came (hsim (hV (wB w b) A Q' h₀ g d os n t ((List.range 4).map β)) 615 (.builtin "mine" ⟨[], []⟩) .base (callT (.ref 105) [(.ref (β 0)), (.int (768) t2)]) ⟨tstore (st_sc_13 w.params β τ), 250, 0, [105, 104, 250, 250, 250, 250, 2, 250, 246, 129, 129, 128, 246, 129, 129, 128, 246, 246, 129, 247, 3, 250, 246, 129, 129, 128, 246, 129, 129, 128, 246, 246, 129, 247, 250, 77, 77, 76, 251, 251, 251, 251, 2, 251, 251, 3, 0, 251, 248, 248, 248, 251, 251, 251, 251, 251, 251, 251, 251, 251, 251, 248, 248, 248, 248, 248, 251, 251, 251, 251, 251, 251, 251, 251, 251, 251, 251, 251, 248, 248, 248, 248, 248, 251, 251, 251, 251, 251, 251, 251, 251, 251, 251, 251, 251, 248, 248, 248, 248, 248, 251, 251, 251, 251, 251, 251, 251, 251, 251, 251, 251, 251, 248, 248, 248, 248, 248, 251, 251, 251, 251, 251, 251, 251, 249, 249, 249, 249, 249], [], []⟩)
  (.str (⟨⟨[90, 105, 110, 104]⟩⟩ : Str) (τ 31)) [0, 1, 2, 3] (st_sc_13 w.params β τ) 252 37 := by
  unfold Came
  cases b <;> kernel_rfl
end
section
open PySem PySem.W PySem.W.X PyProof.Rows
set_option autoImplicit false
set_option linter.unusedVariables false
set_option maxRecDepth 100000
theorem get_scx_8 {w : World} {A : Around} {Q' : PySem.Fin → Shared → Prop} {h₀ : Heap} {g : Array GenState} {d : Drawn} {os : OsState} {n t : Nat} (b : Bool) {β τ : Nat → Nat} {t2 : Nat} : Came (hsim (hV (wB w b) A Q' h₀ g d os n t ((List.range 4).map β)) 545 (.builtin "mine" ⟨[], []⟩) .base (callT (.ref 105) [(.ref (β 0)), (.int (768) t2)]) ⟨tstore (st_scx_3 w.params β τ), 250, 0, [105, 104, 250, 250, 250, 250, 2, 250, 246, 129, 129, 128, 246, 129, 129, 128, 246, 246, 129, 247, 3, 250, 246, 129, 129, 128, 246, 129, 129, 128, 246, 246, 129, 247, 250, 77, 77, 76, 251, 251, 251, 251, 2, 251, 251, 3, 0, 251, 248, 248, 248, 251, 251, 251, 251, 251, 251, 251, 251, 251, 251, 248, 248, 248, 248, 248, 251, 251, 251, 251, 251, 251, 251, 251, 251, 251, 251, 251, 248, 248, 248, 248, 248, 251, 251, 251, 251, 251, 251, 251, 251, 251, 251, 251, 251, 248, 248, 248, 248, 248, 251, 251, 251, 251, 251, 251, 251, 249, 249, 249, 249, 249], [], []⟩)
  .none [0, 1, 2, 3] (st_scx_3 w.params β τ) 252 30 := by
  unfold Came
  cases b <;> kernel_rfl
end
section
open PySem PySem.W PySem.W.X PyProof.Rows
set_option autoImplicit false
set_option linter.unusedVariables false
set_option maxRecDepth 100000
theorem get_sc_9 {w : World} {A : Around} {Q' : PySem.Fin → Shared → Prop} {h₀ : Heap} {g : Array GenState} {d : Drawn} {os : OsState} {n t : Nat} (b : Bool) {β τ : Nat → Nat} {t2 : Nat} : Came (hsim (hV (wB w b) A Q' h₀ g d os n t ((List.range 4).map β)) 685 (.builtin "mine" ⟨[], []⟩) .base (callT (.ref 105) [(.ref (β 0)), (.int (12540) t2)]) ⟨tstore (st_sc_13 w.params β τ), 250, 0, [105, 104, 250, 250, 250, 250, 2, 250, 246, 129, 129, 128, 246, 129, 129, 128, 246, 246, 129, 247, 3, 250, 246, 129, 129, 128, 246, 129, 129, 128, 246, 246, 129, 247, 250, 77, 77, 76, 251, 251, 251, 251, 2, 251, 251, 3, 0, 251, 248, 248, 248, 251, 251, 251, 251, 251, 251, 251, 251, 251, 251, 248, 248, 248, 248, 248, 251, 251, 251, 251, 251, 251, 251, 251, 251, 251, 251, 251, 248, 248, 248, 248, 248, 251, 251, 251, 251, 251, 251, 251, 251, 251, 251, 251, 251, 248, 248, 248, 248, 248, 251, 251, 251, 251, 251, 251, 251, 251, 251, 251, 251, 251, 248, 248, 248, 248, 248, 251, 251, 251, 251, 251, 251, 251, 251, 251, 251, 251, 251, 248, 248, 248, 248, 248, 251, 251, 251, 251, 251, 251, 251, 249, 249, 249, 249, 249], [], []⟩)
  (.str (⟨⟨[90, 121, 121, 121]⟩⟩ : Str) (τ 37)) [0, 1, 2, 3] (st_sc_13 w.params β τ) 252 44 := by
  unfold Came
  cases b <;> kernel_rfl
end
section
open PySem PySem.W PySem.W.X PyProof.Rows
set_option autoImplicit false
set_option linter.unusedVariables false
set_option maxRecDepth 100000
theorem get_scx_9 {w : World} {A : Around} {Q' : PySem.Fin → Shared → Prop} {h₀ : Heap} {g : Array GenState} {d : Drawn} {os : OsState} {n t : Nat} (b : Bool) {β τ : Nat → Nat} {t2 : Nat} : Came (hsim (hV (wB w b) A Q' h₀ g d os n t ((List.range 4).map β)) 551 (.builtin "mine" ⟨[], []⟩) .base (callT (.ref 105) [(.ref (β 0)), (.int (12540) t2)]) ⟨tstore (st_scx_3 w.params β τ), 250, 0, [105, 104, 250, 250, 250, 250, 2, 250, 246, 129, 129, 128, 246, 129, 129, 128, 246, 246, 129, 247, 3, 250, 246, 129, 129, 128, 246, 129, 129, 128, 246, 246, 129, 247, 250, 77, 77, 76, 251, 251, 251, 251, 2, 251, 251, 3, 0, 251, 248, 248, 248, 251, 251, 251, 251, 251, 251, 251, 251, 251, 251, 248, 248, 248, 248, 248, 251, 251, 251, 251, 251, 251, 251, 251, 251, 251, 251, 251, 248, 248, 248, 248, 248, 251, 251, 251, 251, 251, 251, 251, 251, 251, 251, 251, 251, 248, 248, 248, 248, 248, 251, 251, 251, 251, 251, 251, 251, 249, 249, 249, 249, 249], [], []⟩)
  (.ref 211) [0, 1, 2, 3] (st_scx_3 w.params β τ) 252 32 := by
  unfold Came
  cases b <;> kernel_rfl
end
section
open PySem PySem.W PySem.W.X PyProof.Rows
set_option autoImplicit false
set_option linter.unusedVariables false
set_option maxRecDepth 100000
theorem get_sc_10 {w : World} {A : Around} {Q' : PySem.Fin → Shared → Prop} {h₀ : Heap} {g : Array GenState} {d : Drawn} {os : OsState} {n t : Nat} (b : Bool) {β τ : Nat → Nat} {t2 : Nat} : Came (hsim (hV (wB w b) A Q' h₀ g d os n t ((List.range 4).map β)) 621 (.builtin "mine" ⟨[], []⟩) .base (callT (.ref 105) [(.ref (β 0)), (.int (12289) t2)]) ⟨tstore (st_sc_13 w.params β τ), 250, 0, [105, 104, 250, 250, 250, 250, 2, 250, 246, 129, 129, 128, 246, 129, 129, 128, 246, 246, 129, 247, 3, 250, 246, 129, 129, 128, 246, 129, 129, 128, 246, 246, 129, 247, 250, 77, 77, 76, 251, 251, 251, 251, 2, 251, 251, 3, 0, 251, 248, 248, 248, 251, 251, 251, 251, 251, 251, 251, 251, 251, 251, 248, 248, 248, 248, 248, 251, 251, 251, 251, 251, 251, 251, 251, 251, 251, 251, 251, 248, 248, 248, 248, 248, 251, 251, 251, 251, 251, 251, 251, 251, 251, 251, 251, 251, 248, 248, 248, 248, 248, 251, 251, 251, 251, 251, 251, 251, 251, 251, 251, 251, 251, 248, 248, 248, 248, 248, 251, 251, 251, 251, 251, 251, 251, 249, 249, 249, 249, 249], [], []⟩)
  (.str (⟨⟨[90, 121, 121, 121]⟩⟩ : Str) (τ 34)) [0, 1, 2, 3] (st_sc_13 w.params β τ) 252 39 := by
  unfold Came
  cases b <;> kernel_rfl
end
section
open PySem PySem.W PySem.W.X PyProof.Rows
set_option autoImplicit false
set_option linter.unusedVariables false
set_option maxRecDepth 100000
theorem get_scx_10 {w : World} {A : Around} {Q' : PySem.Fin → Shared → Prop} {h₀ : Heap} {g : Array GenState} {d : Drawn} {os : OsState} {n t : Nat} (b : Bool) {β τ : Nat → Nat} {t2 : Nat} : Came (hsim (hV (wB w b) A Q' h₀ g d os n t ((List.range 4).map β)) 545 (.builtin "mine" ⟨[], []⟩) .base (callT (.ref 105) [(.ref (β 0)), (.int (12289) t2)]) ⟨tstore (st_scx_3 w.params β τ), 250, 0, [105, 104, 250, 250, 250, 250, 2, 250, 246, 129, 129, 128, 246, 129, 129, 128, 246, 246, 129, 247, 3, 250, 246, 129, 129, 128, 246, 129, 129, 128, 246, 246, 129, 247, 250, 77, 77, 76, 251, 251, 251, 251, 2, 251, 251, 3, 0, 251, 248, 248, 248, 251, 251, 251, 251, 251, 251, 251, 251, 251, 251, 248, 248, 248, 248, 248, 251, 251, 251, 251, 251, 251, 251, 251, 251, 251, 251, 251, 248, 248, 248, 248, 248, 251, 251, 251, 251, 251, 251, 251, 251, 251, 251, 251, 251, 248, 248, 248, 248, 248, 251, 251, 251, 251, 251, 251, 251, 249, 249, 249, 249, 249], [], []⟩)
  (.ref 213) [0, 1, 2, 3] (st_scx_3 w.params β τ) 252 30 := by
  unfold Came
  cases b <;> kernel_rfl
end
section
open PySem PySem.W PySem.W.X PyProof.Rows
set_option autoImplicit false
set_option linter.unusedVariables false
set_option maxRecDepth 100000
theorem get_sc_11 {w : World} {A : Around} {Q' : PySem.Fin → Shared → Prop} {h₀ : Heap} {g : Array GenState} {d : Drawn} {os : OsState} {n t : Nat} (b : Bool) {β τ : Nat → Nat} {t2 : Nat} : Came (hsim (hV (wB w b) A Q' h₀ g d os n t ((List.range 4).map β)) 679 (.builtin "mine" ⟨[], []⟩) .base (callT (.ref 105) [(.ref (β 0)), (.int (867) t2)]) ⟨tstore (st_sc_13 w.params β τ), 250, 0, [105, 104, 250, 250, 250, 250, 2, 250, 246, 129, 129, 128, 246, 129, 129, 128, 246, 246, 129, 247, 3, 250, 246, 129, 129, 128, 246, 129, 129, 128, 246, 246, 129, 247, 250, 77, 77, 76, 251, 251, 251, 251, 2, 251, 251, 3, 0, 251, 248, 248, 248, 251, 251, 251, 251, 251, 251, 251, 251, 251, 251, 248, 248, 248, 248, 248, 251, 251, 251, 251, 251, 251, 251, 251, 251, 251, 251, 251, 248, 248, 248, 248, 248, 251, 251, 251, 251, 251, 251, 251, 251, 251, 251, 251, 251, 248, 248, 248, 248, 248, 251, 251, 251, 251, 251, 251, 251, 251, 251, 251, 251, 251, 248, 248, 248, 248, 248, 251, 251, 251, 251, 251, 251, 251, 251, 251, 251, 251, 251, 248, 248, 248, 248, 248, 251, 251, 251, 251, 251, 251, 251, 249, 249, 249, 249, 249], [], []⟩)
  (.str (⟨⟨[90, 105, 110, 104]⟩⟩ : Str) (τ 32)) [0, 1, 2, 3] (st_sc_13 w.params β τ) 252 42 := by
  unfold Came
  cases b <;> kernel_rfl
end
section
open PySem PySem.W PySem.W.X PyProof.Rows
set_option autoImplicit false
set_option linter.unusedVariables false
set_option maxRecDepth 100000
theorem get_scx_11 {w : World} {A : Around} {Q' : PySem.Fin → Shared → Prop} {h₀ : Heap} {g : Array GenState} {d : Drawn} {os : OsState} {n t : Nat} (b : Bool) {β τ : Nat → Nat} {t2 : Nat} : Came (hsim (hV (wB w b) A Q' h₀ g d os n t ((List.range 4).map β)) 545 (.builtin "mine" ⟨[], []⟩) .base (callT (.ref 105) [(.ref (β 0)), (.int (867) t2)]) ⟨tstore (st_scx_3 w.params β τ), 250, 0, [105, 104, 250, 250, 250, 250, 2, 250, 246, 129, 129, 128, 246, 129, 129, 128, 246, 246, 129, 247, 3, 250, 246, 129, 129, 128, 246, 129, 129, 128, 246, 246, 129, 247, 250, 77, 77, 76, 251, 251, 251, 251, 2, 251, 251, 3, 0, 251, 248, 248, 248, 251, 251, 251, 251, 251, 251, 251, 251, 251, 251, 248, 248, 248, 248, 248, 251, 251, 251, 251, 251, 251, 251, 251, 251, 251, 251, 251, 248, 248, 248, 248, 248, 251, 251, 251, 251, 251, 251, 251, 251, 251, 251, 251, 251, 248, 248, 248, 248, 248, 251, 251, 251, 251, 251, 251, 251, 249, 249, 249, 249, 249], [], []⟩)
  (.ref 215) [0, 1, 2, 3] (st_scx_3 w.params β τ) 252 30 := by
  unfold Came
  cases b <;> kernel_rfl
end
section
open PySem PySem.W PySem.W.X PyProof.Rows
set_option autoImplicit false
set_option linter.unusedVariables false
set_option maxRecDepth 100000
theorem get_sc_12 {w : World} {A : Around} {Q' : PySem.Fin → Shared → Prop} {h₀ : Heap} {g : Array GenState} {d : Drawn} {os : OsState} {n t : Nat} (b : Bool) {β τ : Nat → Nat} {t2 : Nat} : Came (hsim (hV (wB w b) A Q' h₀ g d os n t ((List.range 4).map β)) 627 (.builtin "mine" ⟨[], []⟩) .base (callT (.ref 105) [(.ref (β 0)), (.int (57344) t2)]) ⟨tstore (st_sc_13 w.params β τ), 250, 0, [105, 104, 250, 250, 250, 250, 2, 250, 246, 129, 129, 128, 246, 129, 129, 128, 246, 246, 129, 247, 3, 250, 246, 129, 129, 128, 246, 129, 129, 128, 246, 246, 129, 247, 250, 77, 77, 76, 251, 251, 251, 251, 2, 251, 251, 3, 0, 251, 248, 248, 248, 251, 251, 251, 251, 251, 251, 251, 251, 251, 251, 248, 248, 248, 248, 248, 251, 251, 251, 251, 251, 251, 251, 251, 251, 251, 251, 251, 248, 248, 248, 248, 248, 251, 251, 251, 251, 251, 251, 251, 251, 251, 251, 251, 251, 248, 248, 248, 248, 248, 251, 251, 251, 251, 251, 251, 251, 251, 251, 251, 251, 251, 248, 248, 248, 248, 248, 251, 251, 251, 251, 251, 251, 251, 249, 249, 249, 249, 249], [], []⟩)
  (.str (⟨⟨[90, 122, 122, 122]⟩⟩ : Str) (τ 1)) [0, 1, 2, 3] (st_sc_13 w.params β τ) 252 41 := by
  unfold Came
  cases b <;> kernel_rfl
end
section
open PySem PySem.W PySem.W.X PyProof.Rows
set_option autoImplicit false
set_option linter.unusedVariables false
set_option maxRecDepth 100000
theorem get_scx_12 {w : World} {A : Around} {Q' : PySem.Fin → Shared → Prop} {h₀ : Heap} {g : Array GenState} {d : Drawn} {os : OsState} {n t : Nat} (b : Bool) {β τ : Nat → Nat} {t2 : Nat} : Came (hsim (hV (wB w b) A Q' h₀ g d os n t ((List.range 4).map β)) 557 (.builtin "mine" ⟨[], []⟩) .base (callT (.ref 105) [(.ref (β 0)), (.int (57344) t2)]) ⟨tstore (st_scx_3 w.params β τ), 250, 0, [105, 104, 250, 250, 250, 250, 2, 250, 246, 129, 129, 128, 246, 129, 129, 128, 246, 246, 129, 247, 3, 250, 246, 129, 129, 128, 246, 129, 129, 128, 246, 246, 129, 247, 250, 77, 77, 76, 251, 251, 251, 251, 2, 251, 251, 3, 0, 251, 248, 248, 248, 251, 251, 251, 251, 251, 251, 251, 251, 251, 251, 248, 248, 248, 248, 248, 251, 251, 251, 251, 251, 251, 251, 251, 251, 251, 251, 251, 248, 248, 248, 248, 248, 251, 251, 251, 251, 251, 251, 251, 251, 251, 251, 251, 251, 248, 248, 248, 248, 248, 251, 251, 251, 251, 251, 251, 251, 249, 249, 249, 249, 249], [], []⟩)
  .none [0, 1, 2, 3] (st_scx_3 w.params β τ) 252 34 := by
  unfold Came
  cases b <;> kernel_rfl
end
section
open PySem PySem.W PySem.W.X PySem.Calls PyProof.Rows PySem.SeqAt PySem.Spec
set_option autoImplicit false
set_option linter.unusedVariables false
set_option maxRecDepth 100000
section
variable {w : World} {T : Top0} {δ β γ τd τ τ' : Nat → Nat}
theorem rm_sc_0 (Z : DbT w T δ β γ τd τ τ') : CallC prg w T 319 (.ref 105) [.obj (β 0), .int 97] (.str (scOf 97)) :=
  callC_get (m := 4) Z.ext (by decide) rfl Z.sc Z.scn Z.scl (fun A Q' h₀ g dr os n t b t2 => get_sc_0 b) fun X h t tx => (Rep.str _ _ : Rep X h _ (.str (scOf 97)))
theorem rm_scx_0 (Z : DbT w T δ β γ τd τ τ') : CallC prg w T 319 (.ref 105) [.obj (γ 0), .int 97] (dS (scxOf 97)) :=
  callC_get (m := 4) Z.ext (by decide) rfl Z.scx Z.scxn Z.scxl (fun A Q' h₀ g dr os n t b t2 => get_scx_0 b) fun X h t tx => (Rep.none : Rep X h _ (dS (scxOf 97)))
theorem rm_sc_1 (Z : DbT w T δ β γ τd τ τ') : CallC prg w T 319 (.ref 105) [.obj (β 0), .int 1072] (.str (scOf 1072)) :=
  callC_get (m := 4) Z.ext (by decide) rfl Z.sc Z.scn Z.scl (fun A Q' h₀ g dr os n t b t2 => get_sc_1 b) fun X h t tx => (Rep.str _ _ : Rep X h _ (.str (scOf 1072)))
theorem rm_scx_1 (Z : DbT w T δ β γ τd τ τ') : CallC prg w T 319 (.ref 105) [.obj (γ 0), .int 1072] (dS (scxOf 1072)) :=
  callC_get (m := 4) Z.ext (by decide) rfl Z.scx Z.scxn Z.scxl (fun A Q' h₀ g dr os n t b t2 => get_scx_1 b) fun X h t tx => (Rep.none : Rep X h _ (dS (scxOf 1072)))
theorem rm_sc_2 (Z : DbT w T δ β γ τd τ τ') : CallC prg w T 319 (.ref 105) [.obj (β 0), .int 12354] (.str (scOf 12354)) :=
  callC_get (m := 4) Z.ext (by decide) rfl Z.sc Z.scn Z.scl (fun A Q' h₀ g dr os n t b t2 => get_sc_2 b) fun X h t tx => (Rep.str _ _ : Rep X h _ (.str (scOf 12354)))
theorem rm_scx_2 (Z : DbT w T δ β γ τd τ τ') : CallC prg w T 319 (.ref 105) [.obj (γ 0), .int 12354] (dS (scxOf 12354)) :=
  callC_get (m := 4) Z.ext (by decide) rfl Z.scx Z.scxn Z.scxl (fun A Q' h₀ g dr os n t b t2 => get_scx_2 b) fun X h t tx => (Rep.none : Rep X h _ (dS (scxOf 12354)))
theorem rm_sc_3 (Z : DbT w T δ β γ τd τ τ') : CallC prg w T 319 (.ref 105) [.obj (β 0), .int 12450] (.str (scOf 12450)) :=
  callC_get (m := 4) Z.ext (by decide) rfl Z.sc Z.scn Z.scl (fun A Q' h₀ g dr os n t b t2 => get_sc_3 b) fun X h t tx => (Rep.str _ _ : Rep X h _ (.str (scOf 12450)))
theorem rm_scx_3 (Z : DbT w T δ β γ τd τ τ') : CallC prg w T 319 (.ref 105) [.obj (γ 0), .int 12450] (dS (scxOf 12450)) :=
  callC_get (m := 4) Z.ext (by decide) rfl Z.scx Z.scxn Z.scxl (fun A Q' h₀ g dr os n t b t2 => get_scx_3 b) fun X h t tx => (Rep.none : Rep X h _ (dS (scxOf 12450)))
theorem rm_sc_4 (Z : DbT w T δ β γ τd τ τ') : CallC prg w T 319 (.ref 105) [.obj (β 0), .int 19968] (.str (scOf 19968)) :=
  callC_get (m := 4) Z.ext (by decide) rfl Z.sc Z.scn Z.scl (fun A Q' h₀ g dr os n t b t2 => get_sc_4 b) fun X h t tx => (Rep.str _ _ : Rep X h _ (.str (scOf 19968)))
theorem rm_scx_4 (Z : DbT w T δ β γ τd τ τ') : CallC prg w T 319 (.ref 105) [.obj (γ 0), .int 19968] (dS (scxOf 19968)) :=
  callC_get (m := 4) Z.ext (by decide) rfl Z.scx Z.scxn Z.scxl (fun A Q' h₀ g dr os n t b t2 => get_scx_4 b) fun X h t tx => (Rep.none : Rep X h _ (dS (scxOf 19968)))
theorem rm_sc_5 (Z : DbT w T δ β γ τd τ τ') : CallC prg w T 319 (.ref 105) [.obj (β 0), .int 44032] (.str (scOf 44032)) :=
  callC_get (m := 4) Z.ext (by decide) rfl Z.sc Z.scn Z.scl (fun A Q' h₀ g dr os n t b t2 => get_sc_5 b) fun X h t tx => (Rep.str _ _ : Rep X h _ (.str (scOf 44032)))
theorem rm_scx_5 (Z : DbT w T δ β γ τd τ τ') : CallC prg w T 319 (.ref 105) [.obj (γ 0), .int 44032] (dS (scxOf 44032)) :=
  callC_get (m := 4) Z.ext (by decide) rfl Z.scx Z.scxn Z.scxl (fun A Q' h₀ g dr os n t b t2 => get_scx_5 b) fun X h t tx => (Rep.none : Rep X h _ (dS (scxOf 44032)))
theorem rm_sc_6 (Z : DbT w T δ β γ τd τ τ') : CallC prg w T 319 (.ref 105) [.obj (β 0), .int 12549] (.str (scOf 12549)) :=
  callC_get (m := 4) Z.ext (by decide) rfl Z.sc Z.scn Z.scl (fun A Q' h₀ g dr os n t b t2 => get_sc_6 b) fun X h t tx => (Rep.str _ _ : Rep X h _ (.str (scOf 12549)))
theorem rm_scx_6 (Z : DbT w T δ β γ τd τ τ') : CallC prg w T 319 (.ref 105) [.obj (γ 0), .int 12549] (dS (scxOf 12549)) :=
  callC_get (m := 4) Z.ext (by decide) rfl Z.scx Z.scxn Z.scxl (fun A Q' h₀ g dr os n t b t2 => get_scx_6 b) fun X h t tx => (Rep.none : Rep X h _ (dS (scxOf 12549)))
theorem rm_sc_7 (Z : DbT w T δ β γ τd τ τ') : CallC prg w T 319 (.ref 105) [.obj (β 0), .int 32] (.str (scOf 32)) :=
  callC_get (m := 4) Z.ext (by decide) rfl Z.sc Z.scn Z.scl (fun A Q' h₀ g dr os n t b t2 => get_sc_7 b) fun X h t tx => (Rep.str _ _ : Rep X h _ (.str (scOf 32)))
theorem rm_scx_7 (Z : DbT w T δ β γ τd τ τ') : CallC prg w T 319 (.ref 105) [.obj (γ 0), .int 32] (dS (scxOf 32)) :=
  callC_get (m := 4) Z.ext (by decide) rfl Z.scx Z.scxn Z.scxl (fun A Q' h₀ g dr os n t b t2 => get_scx_7 b) fun X h t tx => (Rep.none : Rep X h _ (dS (scxOf 32)))
theorem rm_sc_8 (Z : DbT w T δ β γ τd τ τ') : CallC prg w T 319 (.ref 105) [.obj (β 0), .int 768] (.str (scOf 768)) :=
  callC_get (m := 4) Z.ext (by decide) rfl Z.sc Z.scn Z.scl (fun A Q' h₀ g dr os n t b t2 => get_sc_8 b) fun X h t tx => (Rep.str _ _ : Rep X h _ (.str (scOf 768)))
theorem rm_scx_8 (Z : DbT w T δ β γ τd τ τ') : CallC prg w T 319 (.ref 105) [.obj (γ 0), .int 768] (dS (scxOf 768)) :=
  callC_get (m := 4) Z.ext (by decide) rfl Z.scx Z.scxn Z.scxl (fun A Q' h₀ g dr os n t b t2 => get_scx_8 b) fun X h t tx => (Rep.none : Rep X h _ (dS (scxOf 768)))
theorem rm_sc_9 (Z : DbT w T δ β γ τd τ τ') : CallC prg w T 319 (.ref 105) [.obj (β 0), .int 12540] (.str (scOf 12540)) :=
  callC_get (m := 4) Z.ext (by decide) rfl Z.sc Z.scn Z.scl (fun A Q' h₀ g dr os n t b t2 => get_sc_9 b) fun X h t tx => (Rep.str _ _ : Rep X h _ (.str (scOf 12540)))
theorem rm_scx_9 (Z : DbT w T δ β γ τd τ τ') : CallC prg w T 319 (.ref 105) [.obj (γ 0), .int 12540] (dS (scxOf 12540)) :=
  callC_get (m := 4) Z.ext (by decide) rfl Z.scx Z.scxn Z.scxl (fun A Q' h₀ g dr os n t b t2 => get_scx_9 b) fun X h t tx => (rep_top t tx (Z.ext.k _ _ (by kernel_rfl : (T0 w.params).K 211 = some (hd.zo_194 w.params))) (by kernel_rfl) (by exact rfl) (.cons (.str _ _) (.cons (.str _ _) .nil)) : Rep X h _ (dS (scxOf 12540)))
theorem rm_sc_10 (Z : DbT w T δ β γ τd τ τ') : CallC prg w T 319 (.ref 105) [.obj (β 0), .int 12289] (.str (scOf 12289)) :=
  callC_get (m := 4) Z.ext (by decide) rfl Z.sc Z.scn Z.scl (fun A Q' h₀ g dr os n t b t2 => get_sc_10 b) fun X h t tx => (Rep.str _ _ : Rep X h _ (.str (scOf 12289)))
theorem rm_scx_10 (Z : DbT w T δ β γ τd τ τ') : CallC prg w T 319 (.ref 105) [.obj (γ 0), .int 12289] (dS (scxOf 12289)) :=
  callC_get (m := 4) Z.ext (by decide) rfl Z.scx Z.scxn Z.scxl (fun A Q' h₀ g dr os n t b t2 => get_scx_10 b) fun X h t tx => (rep_top t tx (Z.ext.k _ _ (by kernel_rfl : (T0 w.params).K 213 = some (hd.zo_196 w.params))) (by kernel_rfl) (by exact rfl) (.cons (.str _ _) (.cons (.str _ _) (.cons (.str _ _) (.cons (.str _ _) (.cons (.str _ _) .nil))))) : Rep X h _ (dS (scxOf 12289)))
theorem rm_sc_11 (Z : DbT w T δ β γ τd τ τ') : CallC prg w T 319 (.ref 105) [.obj (β 0), .int 867] (.str (scOf 867)) :=
  callC_get (m := 4) Z.ext (by decide) rfl Z.sc Z.scn Z.scl (fun A Q' h₀ g dr os n t b t2 => get_sc_11 b) fun X h t tx => (Rep.str _ _ : Rep X h _ (.str (scOf 867)))
theorem rm_scx_11 (Z : DbT w T δ β γ τd τ τ') : CallC prg w T 319 (.ref 105) [.obj (γ 0), .int 867] (dS (scxOf 867)) :=
  callC_get (m := 4) Z.ext (by decide) rfl Z.scx Z.scxn Z.scxl (fun A Q' h₀ g dr os n t b t2 => get_scx_11 b) fun X h t tx => (rep_top t tx (Z.ext.k _ _ (by kernel_rfl : (T0 w.params).K 215 = some (hd.zo_198 w.params))) (by kernel_rfl) (by exact rfl) (.cons (.str _ _) (.cons (.str _ _) .nil)) : Rep X h _ (dS (scxOf 867)))
theorem rm_sc_12 (Z : DbT w T δ β γ τd τ τ') : CallC prg w T 319 (.ref 105) [.obj (β 0), .int 57344] (.str (scOf 57344)) :=
  callC_get (m := 4) Z.ext (by decide) rfl Z.sc Z.scn Z.scl (fun A Q' h₀ g dr os n t b t2 => get_sc_12 b) fun X h t tx => (Rep.str _ _ : Rep X h _ (.str (scOf 57344)))
theorem rm_scx_12 (Z : DbT w T δ β γ τd τ τ') : CallC prg w T 319 (.ref 105) [.obj (γ 0), .int 57344] (dS (scxOf 57344)) :=
  callC_get (m := 4) Z.ext (by decide) rfl Z.scx Z.scxn Z.scxl (fun A Q' h₀ g dr os n t b t2 => get_scx_12 b) fun X h t tx => (Rep.none : Rep X h _ (dS (scxOf 57344)))
theorem dataT_of (Z : DbT w T δ β γ τd τ τ') : DataT w T (δ 0) where
  ext := Z.ext
  inst := by
    obtain ⟨ox, od, h, ho⟩ := inst_data Z
    cases ho
    exact ⟨ox, _, h, by kernel_rfl⟩
  sc := fun c hc => by
    have I := inst_rm Z.sc (o0 := _) (o1 := _) rfl rfl rfl
    have M : MethOf (hd.heap_227 w.params) 129 105 ((st_sc_13 w.params β τ)[1]?) "get" := ⟨by kernel_rfl, by kernel_rfl, by kernel_rfl, by kernel_rfl, by kernel_rfl, by kernel_rfl⟩
    simp only [codes, rowsD, List.map_cons, List.map_nil, List.mem_cons, List.not_mem_nil, or_false] at hc
    rcases hc with rfl | rfl | rfl | rfl | rfl | rfl | rfl | rfl | rfl | rfl | rfl | rfl | rfl
    · exact c_dget Z rfl I M (rm_sc_0 Z)
    · exact c_dget Z rfl I M (rm_sc_1 Z)
    · exact c_dget Z rfl I M (rm_sc_2 Z)
    · exact c_dget Z rfl I M (rm_sc_3 Z)
    · exact c_dget Z rfl I M (rm_sc_4 Z)
    · exact c_dget Z rfl I M (rm_sc_5 Z)
    · exact c_dget Z rfl I M (rm_sc_6 Z)
    · exact c_dget Z rfl I M (rm_sc_7 Z)
    · exact c_dget Z rfl I M (rm_sc_8 Z)
    · exact c_dget Z rfl I M (rm_sc_9 Z)
    · exact c_dget Z rfl I M (rm_sc_10 Z)
    · exact c_dget Z rfl I M (rm_sc_11 Z)
    · exact c_dget Z rfl I M (rm_sc_12 Z)
  scx := fun c hc => by
    have I := inst_rm Z.scx (o0 := _) (o1 := _) rfl rfl rfl
    have M : MethOf (hd.heap_227 w.params) 129 105 ((st_scx_3 w.params γ τ')[1]?) "get" := ⟨by kernel_rfl, by kernel_rfl, by kernel_rfl, by kernel_rfl, by kernel_rfl, by kernel_rfl⟩
    simp only [codes, rowsD, List.map_cons, List.map_nil, List.mem_cons, List.not_mem_nil, or_false] at hc
    rcases hc with rfl | rfl | rfl | rfl | rfl | rfl | rfl | rfl | rfl | rfl | rfl | rfl | rfl
    · exact c_dget Z rfl I M (rm_scx_0 Z)
    · exact c_dget Z rfl I M (rm_scx_1 Z)
    · exact c_dget Z rfl I M (rm_scx_2 Z)
    · exact c_dget Z rfl I M (rm_scx_3 Z)
    · exact c_dget Z rfl I M (rm_scx_4 Z)
    · exact c_dget Z rfl I M (rm_scx_5 Z)
    · exact c_dget Z rfl I M (rm_scx_6 Z)
    · exact c_dget Z rfl I M (rm_scx_7 Z)
    · exact c_dget Z rfl I M (rm_scx_8 Z)
    · exact c_dget Z rfl I M (rm_scx_9 Z)
    · exact c_dget Z rfl I M (rm_scx_10 Z)
    · exact c_dget Z rfl I M (rm_scx_11 Z)
    · exact c_dget Z rfl I M (rm_scx_12 Z)
end
end
section
open PySem PySem.W PySem.W.X PySem.Calls PyProof.Rows PySem.SeqAt PySem.Spec
set_option autoImplicit false
set_option linter.unusedVariables false
set_option maxRecDepth 100000
theorem Laid.zip {objs : List Obj} {bs : List Nat} {h : Heap} (L : Laid objs bs h) : ∀ x ∈ bs.zip objs, h.get? x.1 = some x.2 := fun x hx => by
  obtain ⟨j, hj⟩ := List.getElem?_of_mem hx
  rw [List.getElem?_zip_eq_some] at hj
  exact L.at_ j x.1 x.2 hj.1 hj.2
section
variable {w : World} {δ β γ : Nat → Nat} {zs : List (Addr × Obj)} {h : Heap}
theorem maps_fn {r1 r2 : Addr} : (valueAt [(("sc" : Str), Value.ref r1), ("scx", .ref r2)]) = mapsF r1 r2 := by
  funext k
  unfold valueAt mapsF
  by_cases h1 : k = "sc"
  · subst h1; rfl
  · by_cases h2 : k = "scx"
    · subst h2; kernel_rfl
    · have e1 : (k == ("sc" : Str)) = false := by simpa using h1
      have e2 : (k == ("scx" : Str)) = false := by simpa using h2
      rw [e1, e2, List.find?_cons, List.find?_cons]
      have d1 : (decide (("sc" : Str) = k)) = false := by simpa using fun e => h1 e.symm
      have d2 : (decide (("scx" : Str) = k)) = false := by simpa using fun e => h2 e.symm
      rw [d1, d2]
      rfl
/-- the top with the database -/
theorem top_db (Z : Db w δ zs (some st_sc_13) (some st_scx_3) β γ h) (t : (T0 w.params).At h) : ∃ τd τ τ' l, DbT w ((T0 w.params).plus l) δ β γ τd τ τ' ∧ (∀ x ∈ l, h.get? x.1 = some x.2) ∧ (∀ x ∈ l, InD δ (some st_sc_13) (some st_scx_3) β γ x.1) := by
  obtain ⟨τd, hd⟩ := Z.maps.ds
  obtain ⟨τ, Ls⟩ := Z.sc _ rfl
  obtain ⟨τ', Lx⟩ := Z.scx _ rfl
  obtain ⟨oM, es, ep, hM, hx, hrest⟩ := Z.maps.mp
  obtain ⟨o0, h0⟩ : ∃ o, (st_data_0 w.params δ τd)[0]? = some o := ⟨_, rfl⟩
  obtain ⟨o1, h1⟩ : ∃ o, (st_data_0 w.params δ τd)[1]? = some o := ⟨_, rfl⟩
  have mem : ∀ x, x ∈ [(δ 0, o0), (δ 1, o1), (δ 3, oM)] ++ ((bsOf 4 β).zip (st_sc_13 w.params β τ) ++ (bsOf 4 γ).zip (st_scx_3 w.params γ τ')) → (x = (δ 0, o0) ∨ x = (δ 1, o1) ∨ x = (δ 3, oM)) ∨ x ∈ (bsOf 4 β).zip (st_sc_13 w.params β τ) ∨ x ∈ (bsOf 4 γ).zip (st_scx_3 w.params γ τ') := fun x hx => by
    rcases List.mem_append.mp hx with hx | hx
    · exact .inl (by simpa using hx)
    · exact .inr (List.mem_append.mp hx)
  have hl : ∀ x ∈ [(δ 0, o0), (δ 1, o1), (δ 3, oM)] ++ ((bsOf 4 β).zip (st_sc_13 w.params β τ) ++ (bsOf 4 γ).zip (st_scx_3 w.params γ τ')), h.get? x.1 = some x.2 := fun x hx => by
    rcases mem x hx with (rfl | rfl | rfl) | hx | hx
    · exact hd 0 (by decide) _ h0
    · exact hd 1 (by decide) _ h1
    · exact hM
    · exact Ls.zip x hx
    · exact Lx.zip x hx
  have zipm : ∀ {P : Params} {st : List Obj} {β : Nat → Nat} {j : Nat} {o : Obj}, st.length = 4 → st[j]? = some o → (β j, o) ∈ (bsOf 4 β).zip st := fun {P st β j o} hlen e => by
    have hj : j < 4 := by rw [← hlen]; exact (List.getElem?_eq_some_iff.mp e).1
    exact List.mem_of_getElem? (i := j) (by rw [List.getElem?_zip_eq_some]; exact ⟨bs_at hj, e⟩)
  refine ⟨τd, τ, τ', _, ⟨Top0.plus_ext _ _, ⟨o0, h0, Top0.plus_k t hl (by simp)⟩, ⟨o1, h1, Top0.plus_k t hl (by simp)⟩, ⟨oM, Top0.plus_k t hl (by simp), hx.1, fun h' e => ?_⟩, Z.maps.lo 3 (by decide), fun j o e => Top0.plus_k t hl (List.mem_append_right _ (List.mem_append_left _ (zipm (P := w.params) rfl e))), Ls.nodup, Ls.lo, fun j o e => Top0.plus_k t hl (List.mem_append_right _ (List.mem_append_right _ (zipm (P := w.params) rfl e))), Lx.nodup, Lx.lo⟩, hl, fun x hx => ?_⟩
  · rw [← maps_fn]
    exact Heap.DictOf.mapOf ⟨oM, es, ep, e, hx, hrest⟩
  · rcases mem x hx with (rfl | rfl | rfl) | hx | hx
    · exact .inl ⟨0, by decide, rfl⟩
    · exact .inl ⟨1, by decide, rfl⟩
    · exact .inl ⟨3, by decide, rfl⟩
    · exact .inr (.inl (List.of_mem_zip hx).1)
    · exact .inr (.inr (List.of_mem_zip hx).1)
end
end
section
open PySem PySem.W PySem.Calls PyProof.Rows PySem.SeqAt PySem.Spec
set_option autoImplicit false
set_option linter.unusedVariables false
set_option maxRecDepth 100000
theorem one_lset : ∀ b : Bool, ∀ c ∈ codes, oneOf b c = lset b c := by decide +kernel
/-- met one by one -/
theorem met_some (f : Int → Option (List Str)) : ∀ (t : List Int) (acc : List Str), t.foldl (fun a c => met a (f c)) (some acc) = some (acc.filter fun x => (t.filterMap f).all fun o => o.any (· == x))
  | [], acc => by
    show some acc = some (acc.filter fun _ => true)
    rw [List.filter_eq_self.mpr fun _ _ => rfl]
  | c :: t, acc => by
    rw [List.foldl_cons]
    cases h : f c with
    | none =>
      show t.foldl (fun a c => met a (f c)) (some acc) = _
      rw [met_some f t acc, List.filterMap_cons_none h]
    | some l =>
      show t.foldl (fun a c => met a (f c)) (some (acc.filter fun x => l.any (· == x))) = _
      rw [met_some f t, List.filterMap_cons_some h, List.filter_filter]
      congr 1
      apply List.filter_congr
      intro x _
      rw [List.all_cons, Bool.and_comm]
theorem met_none (f : Int → Option (List Str)) : ∀ (t : List Int), t.foldl (fun a c => met a (f c)) none = match t.filterMap f with
    | [] => none
    | l :: ls => some (l.filter fun x => ls.all fun o => o.any (· == x))
  | [] => rfl
  | c :: t => by
    rw [List.foldl_cons]
    cases h : f c with
    | none =>
      show t.foldl (fun a c => met a (f c)) none = _
      rw [met_none f t, List.filterMap_cons_none h]
    | some l =>
      show t.foldl (fun a c => met a (f c)) (some l) = _
      rw [met_some f t l, List.filterMap_cons_some h]
theorem met_congr {f g : Int → Option (List Str)} : ∀ {t : List Int}, (∀ c ∈ t, f c = g c) → t.filterMap f = t.filterMap g
  | [], _ => rfl
  | c :: t, h => by
    rw [List.filterMap_cons, List.filterMap_cons, h c List.mem_cons_self, met_congr fun d hd => h d (List.mem_cons_of_mem _ hd)]
/-- the two ways to meet sets -/
theorem law_met {t : List Int} (ht : ∀ c ∈ t, c ∈ codes) (b : Bool) : metAll (oneOf b) t = lmet b t := by
  unfold metAll lmet lsomes
  rw [met_none, met_congr fun c hc => one_lset b c (ht c hc)]
  cases t.filterMap (lset b) with
  | nil => rfl
  | cons l ls =>
    show some _ = some _
    congr 1
    apply List.filter_congr
    intro x hx
    rw [Bool.eq_iff_iff, List.all_eq_true, decide_eq_true_iff, List.filter_eq_nil_iff]
    constructor
    · intro h o ho
      rcases List.mem_cons.mp ho with rfl | ho
      · have : o.any (· == x) = true := List.any_eq_true.mpr ⟨x, hx, by simp⟩
        simp [this]
      · simp [h o ho]
    · intro h o ho
      have := h o (List.mem_cons_of_mem _ ho)
      simpa using this
noncomputable def isOwnRow (c : Int) (r : Int × Str × Option (List Str)) : Bool := r.1 == c && !([("Zyyy" : Str), "Zinh"].any (· == r.2.1))
noncomputable def ownOf (c : Int) : List Str := (rowsD.filter (isOwnRow c)).map (·.2.1)
theorem own_of : ∀ c ∈ codes, ownOf c = if common (scOf c) then [] else [scOf c] := by decide +kernel
theorem own_fold : ∀ {t : List Int} (acc : List Str), (∀ c ∈ t, c ∈ codes) → t.foldl ownStep acc = (t.flatMap ownOf).foldl (fun acc x => if acc.any (· == x) then acc else acc ++ [x]) acc
  | [], acc, _ => rfl
  | c :: t, acc, h => by
    rw [List.foldl_cons, List.flatMap_cons, List.foldl_append, own_fold _ fun d hd => h d (List.mem_cons_of_mem _ hd), own_of c (h c List.mem_cons_self)]
    congr 1
    unfold ownStep
    cases common (scOf c) with
    | true => rfl
    | false =>
      show (if (true && !acc.any (· == scOf c)) = true then _ else _) = (if _ then _ else _)
      cases acc.any (· == scOf c) <;> rfl
theorem law_own {t : List Int} (ht : ∀ c ∈ t, c ∈ codes) : ownL t = dd (t.flatMap ownOf) := own_fold [] ht
end
section
open PySem PySem.W PySem.Calls PyProof.Rows PySem.SeqAt PySem.Spec
set_option autoImplicit false
set_option linter.unusedVariables false
set_option maxRecDepth 100000
theorem dd_sub' : ∀ (l acc : List Str) (x : Str), x ∈ l.foldl (fun acc x => if acc.any (· == x) then acc else acc ++ [x]) acc → x ∈ acc ∨ x ∈ l
  | [], acc, x, h => .inl h
  | y :: l, acc, x, h => by
    rw [List.foldl_cons] at h
    rcases dd_sub' l _ x h with h | h
    · split at h
      · exact .inl h
      · rcases List.mem_append.mp h with h | h
        · exact .inl h
        · exact .inr (List.mem_singleton.mp h ▸ List.mem_cons_self)
    · exact .inr (List.mem_cons_of_mem _ h)
theorem own_ok : ∀ c ∈ codes, okA (ownOf c) = true ∧ (ownOf c).length ≤ 1 := by decide +kernel
theorem okA_own {t : List Int} (ht : ∀ c ∈ t, c ∈ codes) : okA (srt (dd (t.flatMap ownOf))) = true := by
  refine List.all_eq_true.mpr fun x hx => ?_
  have h1 := (srt_perm _).mem_iff.mp hx
  rcases dd_sub' _ _ x h1 with h | h
  · cases h
  · obtain ⟨c, hc, hm⟩ := List.mem_flatMap.mp h
    exact List.all_eq_true.mp (own_ok c (ht c hc)).1 x hm
theorem own_len : ∀ {t : List Int}, (∀ c ∈ t, c ∈ codes) → (t.flatMap ownOf).length ≤ t.length
  | [], _ => Nat.le_refl _
  | c :: t, h => by
    rw [List.flatMap_cons, List.length_append, List.length_cons]
    have h1 := (own_ok c (h c List.mem_cons_self)).2
    have h2 := own_len (t := t) fun d hd => h d (List.mem_cons_of_mem _ hd)
    omega
noncomputable def isOwnD : D → D → Bool
  | .int c, .tup (.int i :: .str n :: _) => i == c && (!([("Zyyy" : Str), "Zinh"].any (· == n)) && true)
  | _, _ => false
noncomputable def nameD : D → D
  | .tup (_ :: n :: _) => n
  | _ => .none
theorem ownD_one (c : Int) : ((rowsD.map rowD).filter (isOwnD (.int c))).map nameD = (ownOf c).map .str := by
  unfold ownOf
  rw [List.filter_map, List.map_map, List.map_map]
  have e : (isOwnD (.int c) ∘ rowD) = isOwnRow c := by
    funext r
    show (r.1 == c && (!([("Zyyy" : Str), "Zinh"].any (· == r.2.1)) && true)) = _
    rw [Bool.and_true]; rfl
  rw [e]
  rfl
theorem ownD_eq (t : List Int) : ((((t.map D.int).filter fun _ => true).flatMap fun d => ((rowsD.map rowD).filter (isOwnD d)).map nameD)) = (t.flatMap ownOf).map .str := by
  rw [List.filter_eq_self.mpr (fun _ _ => rfl)]
  induction t with
  | nil => rfl
  | cons c t ih =>
    rw [List.map_cons, List.flatMap_cons, List.flatMap_cons, List.map_append, ih, ownD_one]
section
variable {prog : Program} {w : World} {T : Top0} {A : Around} {env : Env} {σ : Sg}
theorem ev_and2 {a b : PySem.Expr} {p : Pos} {d : D} (ha : Ev prog w T A env σ a (.bool true)) (hb : Ev prog w T A env σ b d) : Ev prog w T A env σ (.BoolOp .And [a, b] p) d := .mk fun X s E => by
  refine BoolOp_and ?_
  refine wpAny_mono (ha.run X s E) (fun v s₁ ⟨k₁, r₁⟩ => ?_) (fun _ _ f => f)
  cases r₁
  refine wpAny_truthy_bool ?_
  rw [if_pos rfl]
  refine BoolOp_one ?_
  exact wpAny_mono (hb.run X s₁ (E.keep k₁.hk)) (fun v s₂ ⟨k₂, r₂⟩ => ⟨k₁.trans k₂, r₂⟩) (fun _ _ f => f)
theorem eqv_tup (l : List Str) : PyData.eqv (D.tup (l.map .str)).py (D.tup (l.map .str)).py = true := by
  show PyData.eqvAll (pyL (l.map .str)) (pyL (l.map .str)) = true
  rw [eqv_strs]; simp
theorem eqv_lst (l : List Str) : PyData.eqv (D.lst (l.map .str)).py (D.lst (l.map .str)).py = true := by
  show PyData.eqvAll (pyL (l.map .str)) (pyL (l.map .str)) = true
  rw [eqv_strs]; simp
theorem eqv_lsti (l : List Int) : PyData.eqv (D.lst (l.map .int)).py (D.lst (l.map .int)).py = true := by
  show PyData.eqvAll (pyL (l.map .int)) (pyL (l.map .int)) = true
  rw [eqv_ints]; simp
/-- one told answer held against the due one -/
theorem ev_pair {n : Nat} {x : Option (List Str)} {p1 p2 p3 p4 p5 p6 p7 p8 p9 p10 p11 p12 p13 p14 p15 p16 p17 : Pos} {k1 k2 k3 : Nat} (R : Room n A) (hT : T.mg "tuple" = none) (hT' : T.mb "tuple" = some (.type "tuple")) (hk : env.kindOf "tuple" = some .globalImplicit) (h1 : σ "told" = some (dS x)) (h2 : σ "right" = some (dS x)) (ok : okO x)
    (hne : starEach [.Name "told" p12] env = (false, eval (.Name "told" p12) env) :: starEach [] env) :
    EvT prog w T A env σ (.BoolOp .Or [.Compare (.Compare (.Name "told" p1) [.Is] [.Constant .none k1 p2] p3) [.NotEq] [.Compare (.Name "right" p4) [.Is] [.Constant .none k2 p5] p6] p7, .BoolOp .And [.Compare (.Name "told" p8) [.IsNot] [.Constant .none k3 p9] p10, .Compare (.Call (.Name "tuple" p11) [.Name "told" p12] [] p13) [.NotEq] [.Name "right" p14] p15] p16] p17) false := by
  have c1 : ∀ {d : D}, σ "told" = some d → σ "right" = some d → EvT prog w T A env σ (.Compare (.Compare (.Name "told" p1) [.Is] [.Constant .none k1 p2] p3) [.NotEq] [.Compare (.Name "right" p4) [.Is] [.Constant .none k2 p5] p6] p7) false := fun {d} a b => by
    have := evT_cmp (T := T) (env := env) (p := p7) (ev_cmp (p := p3) (ev_name (p := p1) a) (ev_none (k := k1) (p := p2)) (cmp_is_none (prog := prog) (w := w) (A := A) (d := d)) rfl) (ev_cmp (p := p6) (ev_name (p := p4) b) (ev_none (k := k2) (p := p5)) (cmp_is_none (d := d)) rfl) (cmp_ne_bool R) rfl
    simpa using this
  cases x with
  | none => exact evT_or (c1 h1 h2) fun _ => evT_or (evT_and (b := false) (evT_cmp (ev_name h1) ev_none cmp_isnot_none rfl) fun h => by cases h) fun _ => evT_or_nil
  | some l =>
    have hc := cmp_ne (prog := prog) (w := w) (A := A) (n := n) R (d := .tup (l.map .str)) (d' := .tup (l.map .str)) (plain_dS (some l)) (plain_dS (some l)) (shaped_dS ok) (shaped_dS ok)
    rw [eqv_tup] at hc
    exact evT_or (c1 h1 h2) fun _ => evT_or (evT_and (b := false) (evT_cmp (ev_name h1) ev_none cmp_isnot_none rfl) fun _ => evT_and (b := true) (evT_cmp (ev_callT (n := n) (ds := [.tup (l.map .str)]) R hk hT hT' (evs_cons hne (ev_name h1) evs_nil) hne c_tuple_tup) (ev_name h2) hc rfl) fun h => by cases h) fun _ => evT_or_nil
end
end
section
open PySem PySem.W PySem.W.X PySem.Calls PyProof.Rows PySem.SeqAt PySem.Spec
set_option autoImplicit false
set_option linter.unusedVariables false
set_option maxRecDepth 100000
noncomputable def sg1 (t : List Int) (da : Addr) : Sg := upS (upS (fun _ => none) "text" (.lst (t.map .int))) "data" (.obj da)
noncomputable def sg2 (t : List Int) (da : Addr) (x : Option (List Str)) : Sg := upS (upS (sg1 t da) "due" (dS x)) "was" (.lst (t.map .int))
noncomputable def pairD (x : Option (List Str)) : D := .tup [dS x, dS x]
section
variable {w : World} {L : Addr} {A : Around} {T : Top0} {da : Addr} {s : Shared} {B₀ : Heap} {B : Shared} {Pq : Flow → Shared → Prop} {t : List Int}
/-- the last lines -/
theorem part4 (R : Room 330 A) (K : DataT w T da) (F : FS T (callEnvC (f_law w.params) L 244) B₀ B (fun _ => False) [] (sg2 t da (lmet true t)) none s) (ht : ∀ c ∈ t, c ∈ codes) (htl : t.length ≤ 7)
    (h : ∀ σ' s', FS T (callEnvC (f_law w.params) L 244) B₀ B (fun _ => False) [] σ' none s' → Pq (.ret (.bool true)) s') :
    wpAny (model prgH w) A (execs (lawS w.params 6) (callEnvC (f_law w.params) L 244)) Pq (fun _ _ => False) s := by
  have kk : ∀ {a : Addr} {o : Obj}, (T0 w.params).K a = some o → T.K a = some o := fun h => K.ext.k _ _ h
  refine b_assignC F (ce_comp2 (n := 330) (x := "code") (x' := "row") (cl := []) (cap := []) (d₀ := .lst (t.map .int)) (ds := t.map .int) (l := (t.flatMap ownOf).map .str) (pb := fun _ => true) (dd := fun _ => .lst (rowsD.map rowD)) (dl := fun _ => rowsD.map rowD) (pb' := isOwnD) (f := fun _ => nameD) (N := 13)
    R (.inl rfl) ?_ (ev_name rfl) (fun _ => rfl) ?_ ?_ ?_ ?_ (by decide) ⟨by decide, by decide⟩ (by decide) ?_ ?_ (fun d => .inl rfl) (fun d => by simp [rowsD]) (fun _ _ => rfl) ?_ ?_ (ownD_eq t)) (by rfl) (by kernel_rfl) ⟨by decide, by decide⟩ fun s₂ F₂ => ?_
  · rw [List.length_map]; exact sizeOk (by omega)
  · exact compOk_of (by kernel_rfl) (by kernel_rfl) (by kernel_rfl) (by kernel_rfl) (by kernel_rfl) (fun y hy => nomatch hy) (by kernel_rfl) (fun y hy => nomatch hy)
  · exact noCell_of (by kernel_rfl)
  · kernel_rfl
  · kernel_rfl
  · intro C d hd
    exact evTs_nil
  · intro C d hd _
    exact ev_rows K.ext (by kernel_rfl)
  · intro C d hd _ d' hd'
    obtain ⟨c, _, rfl⟩ := List.mem_map.mp hd
    obtain ⟨r, _, rfl⟩ := List.mem_map.mp hd'
    exact evTs_one (evT_and (evT_cmp (ev_item (k := 0) (.inl rfl) (ev_name rfl) ev_int rfl (by decide) (fun _ _ => rfl)) (ev_name rfl) cmp_eq_int rfl) fun _ => evT_and (evT_cmp (d' := .tup ([("Zyyy" : Str), "Zinh"].map .str)) (ev_item (k := 1) (.inl rfl) (ev_name rfl) ev_int rfl (by decide) (fun _ _ => rfl)) (ev_tuple (evs_cons rfl ev_str (evs_cons rfl ev_str evs_nil)) (le_size (m := 2) (Nat.le_refl _) (by decide))) cmp_notin_tup rfl) fun _ => evT_and_nil)
  · intro C d hd _ d' hd' _
    obtain ⟨r, _, rfl⟩ := List.mem_map.mp hd'
    exact ev_item (k := 1) (.inl rfl) (ev_name rfl) ev_int rfl (by decide) (fun _ _ => rfl)
  · have hlen := own_len ht
    have hown : CallC prgH w T 321 (.ref 70) [.lst (t.map .int), .obj da] (.lst ((srt (dd (t.flatMap ownOf))).map .str)) := law_own ht ▸ c_own K ht (by omega)
    have hA := cmp_eq (prog := prgH) (w := w) (A := A) (n := 330) R (d := .lst ((srt (dd (t.flatMap ownOf))).map .str)) (d' := .lst ((srt (dd (t.flatMap ownOf))).map .str)) (plain_strs _) (plain_strs _) (shaped_lst (okA_own ht)) (shaped_lst (okA_own ht))
    rw [eqv_lst] at hA
    have hB := cmp_eq (prog := prgH) (w := w) (A := A) (n := 330) R (d := .lst (t.map .int)) (d' := .lst (t.map .int)) (plain_ints _) (plain_ints _) shaped_ints shaped_ints
    rw [eqv_lsti] at hB
    have hsl : (srt (dd (t.flatMap ownOf))).length ≤ 60 := by
      rw [(srt_perm _).length_eq]
      have := dd_le (t.flatMap ownOf)
      omega
    refine b_ret F₂ (d := .bool true) (ev_and2 (ev_cmp (d := .lst ((srt (dd (t.flatMap ownOf))).map .str)) ?_ ?_ hA rfl) (ev_cmp (ev_name rfl) (ev_name rfl) hB rfl)) fun v s₃ F₃ r => ?_
    · exact ev_callT (n := 330) (ds := [.lst ((srt (dd (t.flatMap ownOf))).map .str)]) R (by kernel_rfl) (by rw [K.ext.mg]; kernel_rfl) (by rw [K.ext.mb]; kernel_rfl) (evs_cons rfl (ev_callF (n := 321) (f := 70) (ds := [.lst (t.map .int), .obj da]) (R.less (by decide)) (by kernel_rfl) (by rw [K.ext.mg]; kernel_rfl) (kk (k_own w.params (.lst (t.map .int)) (.obj da)).o.choose_spec.1) (k_own w.params (.lst (t.map .int)) (.obj da)).o.choose_spec.2 (evs_cons rfl (ev_name rfl) (evs_cons rfl (ev_name rfl) evs_nil)) rfl hown (by kernel_rfl)) evs_nil) rfl (c_list_lst (by rw [List.length_map]; exact sizeOk (by omega)))
    · exact ev_sortedSet R (by kernel_rfl) (by rw [K.ext.mg]; kernel_rfl) (by rw [K.ext.mb]; kernel_rfl) (by kernel_rfl) (by rw [K.ext.mg]; kernel_rfl) (by rw [K.ext.mb]; kernel_rfl) (ev_name rfl) (by omega) rfl rfl (by kernel_rfl) (by kernel_rfl)
    · cases r
      exact h _ _ F₃
end
end
section
open PySem PySem.W PySem.W.X PySem.Calls PyProof.Rows PySem.SeqAt PySem.Spec
set_option autoImplicit false
set_option linter.unusedVariables false
set_option maxRecDepth 100000
noncomputable def pairBody (P : Params) : List Stmt := match lawS P 5 with | .For _ _ b _ _ :: _ => b | _ => []
section
variable {w : World} {L : Addr} {A : Around} {T : Top0} {da : Addr} {s : Shared} {B₀ : Heap} {B : Shared} {Pq : Flow → Shared → Prop} {t : List Int}
theorem okO_lmet (b : Bool) (ht : ∀ c ∈ t, c ∈ codes) : okO (lmet b t) := law_met ht b ▸ metAll_ok b ht
noncomputable def sgP (t : List Int) (da : Addr) (x : Option (List Str)) (i : Nat) : Sg := match [pairD (lmet true t), pairD (lmet false t)][i]? with
  | some (.tup [a, b]) => upS (upS (sg2 t da x) "told" a) "right" b
  | _ => sg2 t da x
theorem part3 (R : Room 330 A) (K : DataT w T da) (F : FS T (callEnvC (f_law w.params) L 244) B₀ B (fun _ => False) [] (sg1 t da) none s) (ht : ∀ c ∈ t, c ∈ codes) (htl : t.length ≤ 7)
    (h : ∀ σ' s', FS T (callEnvC (f_law w.params) L 244) B₀ B (fun _ => False) [] σ' none s' → Pq (.ret (.bool true)) s') :
    wpAny (model prgH w) A (execs (lawS w.params 3) (callEnvC (f_law w.params) L 244)) Pq (fun _ _ => False) s := by
  have kk : ∀ {a : Addr} {o : Obj}, (T0 w.params).K a = some o → T.K a = some o := fun h => K.ext.k _ _ h
  have hmet : ∀ b : Bool, CallC prgH w T 330 (.ref 239) [.lst (t.map .int), .bool b] (dS (lmet b t)) := fun b => c_lmet (n := 328) K.ext ht (by omega) b
  have hsing : CallC prgH w T 324 (.ref 63) [.lst (t.map .int), .obj da] (.bool (isOne (lmet true t))) := law_met ht true ▸ c_single K ht (by omega)
  have htext : CallC prgH w T 323 (.ref 56) [.lst (t.map .int), .obj da, .bool false] (dS (lmet false t)) := law_met ht false ▸ c_text K ht (by omega) false
  have htextD : CallC prgH w T 323 (.ref 56) [.lst (t.map .int), .obj da] (dS (lmet true t)) := law_met ht true ▸ c_textD K ht (by omega)
  have m1 := okO_lmet true ht
  have m0 := okO_lmet false ht
  -- was, due
  refine b_assign2 (x := "was") (y := "due") (d₁ := .lst (t.map .int)) (d₂ := dS (lmet true t)) F R.hand (ev_tuple (evs_cons rfl (ev_callT (n := 330) (ds := [.lst (t.map .int)]) R (by kernel_rfl) (by rw [K.ext.mg]; kernel_rfl) (by rw [K.ext.mb]; kernel_rfl) (evs_cons rfl (ev_name rfl) evs_nil) rfl (c_list_lst (by rw [List.length_map]; exact sizeOk (by omega)))) (evs_cons rfl (ev_callF (n := 330) (f := 239) (ds := [.lst (t.map .int), .bool true]) R (by kernel_rfl) (by rw [K.ext.mg]; kernel_rfl) (kk (k_lmet w.params (.lst (t.map .int)) (.bool true)).o.choose_spec.1) (k_lmet w.params (.lst (t.map .int)) (.bool true)).o.choose_spec.2 (evs_cons rfl (ev_name rfl) (evs_cons rfl ev_bool evs_nil)) rfl (hmet true) (by kernel_rfl)) evs_nil)) (le_size (m := 2) (Nat.le_refl _) (by decide))) rfl (by kernel_rfl) (by kernel_rfl) (by kernel_rfl) ⟨by decide, by decide⟩ ⟨by decide, by decide⟩ fun s₁ F₁ => ?_
  have F₁ : FS T (callEnvC (f_law w.params) L 244) B₀ B (fun _ => False) [] (sg2 t da (lmet true t)) none s₁ := F₁
  -- is_single_script
  have hne := cmp_ne (prog := prgH) (w := w) (A := A) (n := 330) R (d := dS (lmet true t)) (d' := .tup []) (plain_dS _) rfl (shaped_dS m1) rfl
  rw [eqv_dS] at hne
  refine b_if (b := !(isOne (lmet true t) == isOne (lmet true t))) F₁ (evT_cmp (ev_callT (n := 330) (ds := [.bool (isOne (lmet true t))]) R (by kernel_rfl) (by rw [K.ext.mg]; kernel_rfl) (by rw [K.ext.mb]; kernel_rfl) (evs_cons rfl (ev_callF (n := 324) (f := 63) (ds := [.lst (t.map .int), .obj da]) (R.less (by decide)) (by kernel_rfl) (by rw [K.ext.mg]; kernel_rfl) (kk (k_single w.params (.lst (t.map .int)) (.obj da)).o.choose_spec.1) (k_single w.params (.lst (t.map .int)) (.obj da)).o.choose_spec.2 (evs_cons rfl (ev_name rfl) (evs_cons rfl (ev_name rfl) evs_nil)) rfl hsing (by kernel_rfl)) evs_nil) rfl c_bool) (ev_cmp (ev_name rfl) (ev_tuple evs_nil (Nat.zero_le _)) hne rfl) (cmp_ne_bool R) rfl) (fun hb => by simp at hb) (fun _ s₂ F₂ => b_nil ?_)
  -- the two ways
  refine b_for (d₀ := .tup [pairD (lmet true t), pairD (lmet false t)]) (ds := [pairD (lmet true t), pairD (lmet false t)]) (fun _ => sg2 t da (lmet true t)) (sgP t da (lmet true t)) (fun _ => none) (fun _ => False) (fun _ => True) trivial F₂ R.hand (.inr rfl) ?_ (fun _ => rfl) ?_ ?_ ?_ ?_
  · refine ev_tuple (evs_cons rfl (ev_tuple (evs_cons rfl (ev_callF (n := 323) (f := 56) (ds := [.lst (t.map .int), .obj da]) (R.less (by decide)) (by kernel_rfl) (by rw [K.ext.mg]; kernel_rfl) (kk (k_textD w.params (.lst (t.map .int)) (.obj da)).o.choose_spec.1) (k_textD w.params (.lst (t.map .int)) (.obj da)).o.choose_spec.2 (evs_cons rfl (ev_name rfl) (evs_cons rfl (ev_name rfl) evs_nil)) rfl htextD (by kernel_rfl)) (evs_cons rfl (ev_name rfl) evs_nil)) (le_size (m := 2) (Nat.le_refl _) (by decide))) (evs_cons rfl (ev_tuple (evs_cons rfl (ev_callF (n := 323) (f := 56) (ds := [.lst (t.map .int), .obj da, .bool false]) (R.less (by decide)) (by kernel_rfl) (by rw [K.ext.mg]; kernel_rfl) (kk (k_text w.params (.lst (t.map .int)) (.obj da) (.bool false)).o.choose_spec.1) (k_text w.params (.lst (t.map .int)) (.obj da) (.bool false)).o.choose_spec.2 (evs_cons rfl (ev_name rfl) (evs_cons rfl (ev_name rfl) (evs_cons rfl ev_bool evs_nil))) rfl htext (by kernel_rfl)) (evs_cons rfl (ev_callF (n := 330) (f := 239) (ds := [.lst (t.map .int), .bool false]) R (by kernel_rfl) (by rw [K.ext.mg]; kernel_rfl) (kk (k_lmet w.params (.lst (t.map .int)) (.bool false)).o.choose_spec.1) (k_lmet w.params (.lst (t.map .int)) (.bool false)).o.choose_spec.2 (evs_cons rfl (ev_name rfl) (evs_cons rfl ev_bool evs_nil)) rfl (hmet false) (by kernel_rfl)) evs_nil)) (le_size (m := 2) (Nat.le_refl _) (by decide))) evs_nil)) (le_size (m := 2) (Nat.le_refl _) (by decide))
  · intro i d hd
    have key : ∀ x, d = pairD x → Takes prgH w T A (callEnvC (f_law w.params) L 244) (.Tuple [.Name "told" ⟨177, 8, 177, 12⟩, .Name "right" ⟨177, 14, 177, 19⟩] 0 ⟨177, 8, 177, 19⟩) d (sg2 t da (lmet true t)) (sgP t da (lmet true t) i) none := fun x e => by
      subst e
      have e2 : sgP t da (lmet true t) i = upS (upS (sg2 t da (lmet true t)) "told" (dS x)) "right" (dS x) := by unfold sgP; rw [hd]; rfl
      rw [e2]
      exact takes_tup2 R.hand ⟨.inl (by kernel_rfl), ⟨by decide, by decide⟩, fun p h => by cases h⟩ ⟨.inl (by kernel_rfl), ⟨by decide, by decide⟩, fun p h => by cases h⟩
    have hm := List.mem_of_getElem? hd
    simp only [List.mem_cons, List.not_mem_nil, or_false] at hm
    rcases hm with e | e
    · exact key _ e
    · exact key _ e
  · intro i d hd _ B' I s₃ F₃
    have key : ∀ x, d = pairD x → okO x → wpAny (model prgH w) A (execs (pairBody w.params) (callEnvC (f_law w.params) L 244)) (fun f s₄ => match f with
        | .next | .cont => FS T (callEnvC (f_law w.params) L 244) B₀ B' (wI (fun _ => False) I) [] (sg2 t da (lmet true t)) none s₄ ∧ True
        | .brk => False
        | .ret v => ∃ dv σ' ow', FS T (callEnvC (f_law w.params) L 244) B₀ B' (wI (fun _ => False) I) [] σ' ow' s₄ ∧ Rep (wth (wI (fun _ => False) I) (places (callEnvC (f_law w.params) L 244) [])) s₄.heap v dv ∧ False) (fun _ _ => False) s₃ := fun x e ok => by
      subst e
      have e2 : sgP t da (lmet true t) i = upS (upS (sg2 t da (lmet true t)) "told" (dS x)) "right" (dS x) := by unfold sgP; rw [hd]; rfl
      rw [e2] at F₃
      refine b_if (b := false) F₃ (ev_pair (n := 330) R (by rw [K.ext.mg]; kernel_rfl) (by rw [K.ext.mb]; kernel_rfl) (by kernel_rfl) rfl rfl ok rfl) (fun h => by cases h) (fun _ s₄ F₄ => b_nil (b_nil ⟨?_, trivial⟩))
      refine F₄.sub fun y d h => ?_
      unfold sg2 sg1 upS at h
      unfold upS sg2 sg1 upS
      split at h
      · rename_i e; subst e; exact h
      · split at h
        · rename_i e; subst e; exact h
        · split at h
          · rename_i e; subst e; exact h
          · split at h
            · rename_i e; subst e; exact h
            · cases h
    have hm := List.mem_of_getElem? hd
    simp only [List.mem_cons, List.not_mem_nil, or_false] at hm
    rcases hm with e | e
    · exact key _ e m1
    · exact key _ e m0
  · intro _ s₃ F₃
    exact part4 R K F₃ ht htl h
  · intro v s' dv σ' ow' G r h
    exact h.elim
end
end
section
open PySem PySem.W PySem.W.X PySem.Calls PyProof.Rows PySem.SeqAt PySem.Spec
set_option autoImplicit false
set_option linter.unusedVariables false
set_option maxRecDepth 100000
section
variable {w : World} {δ β γ : Nat → Nat} {zs : List (Addr × Obj)} {a b : Option StF} {h : Heap}
theorem Db.noZ (Z : Db w δ zs a b β γ h) : Db w δ [] a b β γ h :=
  { Z with zl := fun z hz => (by cases hz), z0 := fun z hz => (by cases hz), z1 := fun z hz => (by cases hz), z2 := fun z hz => (by cases hz) }
end
theorem law_walk (w : World) (s : Shared) (mg mb : Str → Option Value) (vals : List Value) (ns : List Int) (hin : (hd.heap_227 w.params).In s.heap) (hsz : s.heap.objs.size = 246)
    (hL : s.heap.IsList 245 vals.toArray) (hi : IntsAre vals ns) (hns : ns.length ≤ 63) (hg : s.heap.Ns mainGlobals mg) (hb : s.heap.Ns builtinsNs mb) (hlim : s.heap.NoLimit) :
    wpAny (model prgH w) callerA (call (.ref 244) [.ref 245]) (fun v s' => v = .bool true ∧ (s'.gens = s.gens ∧ s'.os = s.os) ∧ ∀ b o, s.heap.get? b = some o → s'.heap.get? b = some o) (fun _ _ => False) s := by
  have t0 := top0 hin hg hb hlim
  refine enter_def (n := 330) (X := fun _ => False) (k_law w.params (.lst (ns.map .int))) ⟨rfl, by decide, by decide⟩ t0 (fun b hb => hb.elim) (fun a o _ z => z) (.cons (.lst hL (fun z => z) (ints_repL hi)) .nil) fun A L s₁ R F => ?_
  have oF := F.kp.2
  have FX0 : FX (T0 w.params) (callEnvC (f_law w.params) L 244) s.heap (fun _ => False) (sgOf [("script" : Str)] ([.lst (ns.map .int)] ++ [])) s₁ := ⟨F.rebase, fun b hb => hb.elim, _, t0⟩
  have h245 : ∃ o, s.heap.get? 245 = some o := let ⟨o, ho, _⟩ := hL; ⟨o, ho⟩
  refine part0 (ns := ns) R FX0 rfl (by omega) h245 fun Dk C l δ oD oC X₁ s₂ F₂ Z₂ ZD₂ hl₂ o₂ => ?_
  have Z₂' := Z₂
  refine part1 (R.less (by decide)) F₂ Z₂ fun X₂ s₃ F₃ Z₃ o₃ => ?_
  obtain ⟨β₂, γ₂, Db₂, hX₂⟩ := Z₂'
  obtain ⟨β, γ, Db₃, hX₃⟩ := Z₃
  have mD : (Dk, oD) ∈ [(Dk, oD), (C, oC)] := by simp
  have mC : (C, oC) ∈ [(Dk, oD), (C, oC)] := by simp
  have ZD₃ : DeckAt w Dk C l 0 s₃.heap := ZD₂.keep (fun o e => by have := Db₂.zl _ mD; rw [this] at e; cases e; exact Db₃.zl _ mD) (fun o e => by have := Db₂.zl _ mC; rw [this] at e; cases e; exact Db₃.zl _ mC)
  have hXX : X₂ Dk ∧ X₂ C := ⟨(hX₃ _).mpr (.inr ⟨_, mD, rfl⟩), (hX₃ _).mpr (.inr ⟨_, mC, rfl⟩)⟩
  refine part2 (n := 320) (R.less (by decide)) F₃ rfl hXX ZD₃ ⟨by decide, by decide⟩ (by omega) fun t s₄ F₄ ht htc r₄ => ?_
  have t₄ : (T0 w.params).At s₄.heap := F₄.envR.top
  have xa : ∀ x, X₂ x → x ∉ places (callEnvC (f_law w.params) L 244) [] := fun x hx z => by
    obtain ⟨_, _, G⟩ := F₄.fs
    exact G.xa x z hx
  have Db₄ : Db w δ [] (some st_sc_13) (some st_scx_3) β γ s₄.heap := Db₃.noZ.keepX fun x o hx e => by
    rcases hx with hx | ⟨z, hz, _⟩
    · have ne : ∀ z ∈ [(Dk, oD), (C, oC)], x ≠ z.1 := fun z hz e => by
        subst e
        rcases hx with ⟨j, hj, e⟩ | hx | hx
        · exact Db₃.z0 z hz j hj e
        · exact Db₃.z1 z hz hx
        · exact Db₃.z2 z hz hx
      exact r₄.hk x o (xa x ((hX₃ x).mpr (.inl hx))) (ne _ mD) (ne _ mC) e
    · cases hz
  obtain ⟨τd, τ, τ', lst, DT, hlst, hinD⟩ := top_db Db₄ t₄
  have K := dataT_of DT
  have F₅ := F₄.fs.noX.reT (Top0.plus_at t₄ hlst) (fun b hb => by
    obtain ⟨_, _, G⟩ := F₄.fs
    exact Top0.plus_off (G.off b hb).1 fun x hx e => xa x.1 ((hX₃ _).mpr (.inl (hinD x hx))) (e ▸ hb)) (fun a o _ z => z)
  have F₆ : FS ((T0 w.params).plus lst) (callEnvC (f_law w.params) L 244) s.heap s₄ (fun _ => False) [] (sg1 t (δ 0)) none s₄ := F₅.sub fun x d hx => by
    unfold sg1 upS at hx
    unfold upS sg0 upS
    split at hx
    · rename_i e; subst e
      rw [if_neg (by decide), if_pos (by decide)]; exact hx
    · split at hx
      · rename_i e; subst e
        rw [if_pos (by decide)]; exact hx
      · cases hx
  refine part3 R K F₆ htc ht fun σ' s' Ff => ?_
  have ko := Ff.kp
  have oo : outer s' = outer s := ko.2.trans (r₄.eq.trans (o₃.trans (o₂.trans oF)))
  exact ⟨rfl, ⟨congrArg Prod.fst oo, congrArg Prod.snd oo⟩, ko.1⟩
theorem all : PySem.Challenge.rw_pb0593_01.Holds := hd2 fun w s mg mb vals ns h1 h2 h3 h4 h5 h6 h7 _ h8 => law_walk w s mg mb vals ns h1 h2 h3 h4 h5 h6 h7 h8
end
end Mine
theorem PySem.Challenge.cw_pb0593_01_holds : PySem.Challenge.rw_pb0593_01.Holds :=
  Mine.all
