/- A logic over the machine: what a call, a piece of code, a region come to. -/
import Derived.Test.YtcnldppfncojkaaGreatDoorAmB
import Derived.RangeFuncLeaves
import Derived.RangeFuncRecord
import Derived.KernelRfl
namespace Go.AM
variable {DF : List Deferred}
variable {P : Program} {X : Opq} {ty : Ty} {nt : Nat}

/-! ### calls -/
def CS (P : Program) (X : Opq) (f : FuncId) (args : List Value) (h : Heap) (Q : Value → Heap → Prop) : Prop :=
  Enters P f ∧ ∀ (ι : Emb) (ow : Own) (w : World) (args' : Array Value), HRel X ι ow h w → LRel ι args args'.toList → Calls P f args' w (fun e w' => ∃ v h', Q v h' ∧ Back X ι ow h w v h' e w')
theorem CS.mono {f : FuncId} {args : List Value} {h : Heap} {Q Q' : Value → Heap → Prop} (C : CS P X f args h Q) (hq : ∀ v h', Q v h' → Q' v h') : CS P X f args h Q' :=
  ⟨C.1, fun ι ow w args' H hl => (C.2 ι ow w args' H hl).mono fun _ _ ⟨v, h', q, b⟩ => ⟨v, h', hq v h' q, b⟩⟩
theorem CS.of_call {cl : Call} (hcl : CallOk P X cl) {f : FuncId} {args : List Value} {h h' : Heap} {v : Value} (hr : cl f args h = some (v, h')) : CS P X f args h (fun v1 h1 => v1 = v ∧ h1 = h') := by
  obtain ⟨h1, h2⟩ := hcl f args h v h' hr
  exact ⟨h1, fun ι ow w args' H hl => (h2 ι ow w args' H hl).mono fun _ _ b => ⟨v, h', ⟨rfl, rfl⟩, b⟩⟩
theorem Back.sub {ι : Emb} {ow : Own} {h : Heap} {w w' : World} {v : Value} {h' h2 : Heap} {e : Ending} (B : Back X ι ow h w v h' e w') (hg : ∀ n o, h2.get n = some o → h'.get n = some o) (hn : h2.next = h'.next) : Back X ι ow h w v h2 e w' := by
  cases e with
  | returned v' =>
    obtain ⟨ι', ow', b1, b2, b3, b4⟩ := B
    have lv : ∀ n, h2.live n → h'.live n := fun n hl => by
      unfold Heap.live at *
      cases e : h2.get n with
      | none => rw [e] at hl; cases hl
      | some o => rw [hg n o e]; rfl
    exact ⟨ι', ow', b1, b2, b3.sub hg hn, ⟨b4.size, b4.keep, fun n b hl => b4.own n b (lv n hl), b4.os, b4.out, by rw [hn]; exact b4.nxt, fun n hlt hl => b4.old n hlt (lv n hl)⟩⟩
  | _ => cases B
/-- what was made may be forgotten -/
theorem CS.drop {f : FuncId} {args : List Value} {h : Heap} {Q Q' : Value → Heap → Prop} (C : CS P X f args h Q) (hq : ∀ v h', Q v h' → ∃ h2, Q' v h2 ∧ (∀ n o, h2.get n = some o → h'.get n = some o) ∧ h2.next = h'.next) : CS P X f args h Q' :=
  ⟨C.1, fun ι ow w args' H hl => (C.2 ι ow w args' H hl).mono fun _ _ ⟨v, h', q, b⟩ => let ⟨h2, q2, s, n⟩ := hq v h' q; ⟨v, h2, q2, b.sub s n⟩⟩

/-! ### code -/
def CodeS (P : Program) (X : Opq) (ty : Ty) (nt : Nat) (b : BCode) (T : Tr Value) (h : Heap) (Q : Ex → Tr Value → Heap → Prop) : Prop :=
  ∀ (DF : List Deferred) (c : Code), compCode ty nt c = some b → ∀ (ι : Emb) (ow : Own) (w : World) (a : Act) (R : Exit → Act → World → Prop), HRel X ι ow h w → TRel DF ι nt T a →
    (∀ e T' h' ι' ow' w' a', Q e T' h' → After DF X nt ι ow h w T' h' ι' ow' w' a' → R (exitOf e) a' w') → c.wp P R a w
theorem CodeS.mono {b : BCode} {T : Tr Value} {h : Heap} {Q Q' : Ex → Tr Value → Heap → Prop} (C : CodeS P X ty nt b T h Q) (hq : ∀ e T' h', Q e T' h' → Q' e T' h') : CodeS P X ty nt b T h Q' :=
  fun DF c hc ι ow w a R H ht hR => C DF c hc ι ow w a R H ht fun e T' h' ι' ow' w' a' q A => hR e T' h' ι' ow' w' a' (hq e T' h' q) A
theorem CodeS.run (F : PF P ty) (hd : kdepth ≤ P.depth) (hX : X.local) (hm : P.follows .mixedOrders = true) {cl : Call} (hcl : CallOk P X cl) {fuel : Nat} {b : BCode} {T T' : Tr Value} {h h' : Heap} {e : Ex} (hr : codeA cl fuel b T h = some (e, T', h')) :
    CodeS P X ty nt b T h (fun e1 T1 h1 => e1 = e ∧ T1 = T' ∧ h1 = h') :=
  fun DF c hc ι ow w a R H ht hQ => (code_ok F hd hX hcl (drawn_ok F hd hX hm nt cl hcl) fuel).1 c b hc ι ow h w T a e T' h' R H ht hr fun ι' ow' w' a' A => hQ _ _ _ _ _ _ _ ⟨rfl, rfl, rfl⟩ A
theorem compReg_shape {ops : Array Oper} {draw : Bool} {b : BCode} (h : compReg ty nt ops draw = some b) : (draw = false ∧ ∃ l, b = .reg ops.size l ∧ compRegL ty nt ops (fun _ => 0) (List.range ops.size) = some l) ∨ (draw = true ∧ ∃ n l, b = .drawn n l) := by
  unfold compReg at h
  cases draw with
  | false =>
    obtain ⟨l, h1, h2⟩ := Option.map_eq_some_iff.1 h
    exact .inl ⟨rfl, l, h2.symm, h1⟩
  | true =>
    dsimp only at h
    split at h
    · obtain ⟨l, h1, h2⟩ := Option.map_eq_some_iff.1 h
      exact .inr ⟨rfl, _, l, h2.symm⟩
    · cases h
/-- which code is compiled to which -/
inductive Comp (ty : Ty) (nt : Nat) : Code → BCode → Prop
  | skip : Comp ty nt .skip .skip
  | reg {id : Nat} {ops : Array Oper} {l : List BOper} : compRegL ty nt ops (fun _ => 0) (List.range ops.size) = some l → Comp ty nt (.region id ops false) (.reg ops.size l)
  | drawn {id : Nat} {ops : Array Oper} {n : Nat} {l : List BOper} : compReg ty nt ops true = some (.drawn n l) → Comp ty nt (.region id ops true) (.drawn n l)
  | seq {a b : Code} {x y : BCode} : compCode ty nt a = some x → compCode ty nt b = some y → Comp ty nt (.seq a b) (.seq x y)
  | cond {q : Operand} {a b : Code} {x y : BCode} : closedO q = true → compCode ty nt a = some x → compCode ty nt b = some y → Comp ty nt (.cond q a b) (.cond q x y)
  | block {id : Nat} {a : Code} {x : BCode} : compCode ty nt a = some x → Comp ty nt (.block id a) (.block id x)
  | loop {a : Code} {x : BCode} : compCode ty nt a = some x → Comp ty nt (.loop a) (.loop x)
  | exit {id : Nat} : Comp ty nt (.exit id) (.exit id)
  | ret : Comp ty nt .ret .ret
theorem comp_of {c : Code} {b : BCode} (h : compCode ty nt c = some b) : Comp ty nt c b := by
  cases c with
  | skip => cases h; exact .skip
  | region id ops draw =>
    simp only [compCode] at h
    rcases compReg_shape h with ⟨rfl, l, rfl, h1⟩ | ⟨rfl, n, l, rfl⟩
    · exact .reg h1
    · exact .drawn h
  | seq x y =>
    simp only [compCode] at h
    cases hx : compCode ty nt x with
    | none => rw [hx] at h; cases h
    | some bx =>
      cases hy : compCode ty nt y with
      | none => rw [hx, hy] at h; cases h
      | some by' => rw [hx, hy] at h; cases h; exact .seq hx hy
  | cond q x y =>
    simp only [compCode] at h
    cases hq : closedO q with
    | false => rw [hq] at h; cases h
    | true =>
      cases hx : compCode ty nt x with
      | none => rw [hq, hx] at h; cases h
      | some bx =>
        cases hy : compCode ty nt y with
        | none => rw [hq, hx, hy] at h; cases h
        | some by' => rw [hq, hx, hy] at h; cases h; exact .cond hq hx hy
  | block id x =>
    simp only [compCode] at h
    obtain ⟨bx, h1, h2⟩ := Option.map_eq_some_iff.1 h
    subst h2
    exact .block h1
  | loop x =>
    simp only [compCode] at h
    obtain ⟨bx, h1, h2⟩ := Option.map_eq_some_iff.1 h
    subst h2
    exact .loop h1
  | exit id => cases h; exact .exit
  | ret => cases h; exact .ret
  | _ => cases h
section
variable {T : Tr Value} {h : Heap} {Q : Ex → Tr Value → Heap → Prop}
theorem CodeS.skip (hq : Q .normal T h) : CodeS P X ty nt .skip T h Q := by
  intro DF c hc ι ow w a R H ht hR
  cases comp_of hc
  exact wp_skip (hR .normal T h ι ow w a hq ⟨ι.ext_refl _, H, Fr.refl _ _ _, ht⟩)
theorem CodeS.ret (hq : Q .ret T h) : CodeS P X ty nt .ret T h Q := by
  intro DF c hc ι ow w a R H ht hR
  cases comp_of hc
  exact wp_ret (hR .ret T h ι ow w a hq ⟨ι.ext_refl _, H, Fr.refl _ _ _, ht⟩)
theorem CodeS.exit {id : Nat} (hq : Q (.exit id) T h) : CodeS P X ty nt (.exit id) T h Q := by
  intro DF c hc ι ow w a R H ht hR
  cases comp_of hc
  exact wp_exit (hR (.exit id) T h ι ow w a hq ⟨ι.ext_refl _, H, Fr.refl _ _ _, ht⟩)
theorem CodeS.seq {x y : BCode} (hx : CodeS P X ty nt x T h fun e T' h' => match e with
      | .normal => CodeS P X ty nt y T' h' Q
      | e => Q e T' h') : CodeS P X ty nt (.seq x y) T h Q := by
  intro DF c hc ι ow w a R H ht hR
  cases comp_of hc with
  | @seq cx cy _ _ h1 h2 =>
    refine wp_seq (hx DF cx h1 ι ow w a _ H ht fun e T' h' ι' ow' w' a' q A => ?_)
    cases e with
    | normal => exact q DF cy h2 ι' ow' w' a' R A.rel A.tmps fun e T2 h3 ι2 ow2 w2 a2 q2 A2 => hR e T2 h3 ι2 ow2 w2 a2 q2 (A.trans A2)
    | exit i => exact hR (.exit i) T' h' ι' ow' w' a' q A
    | ret => exact hR .ret T' h' ι' ow' w' a' q A
theorem CodeS.cond {q : Opd} {x y : BCode} {b : Bool} (hb : evA T q = .bool b) (hx : CodeS P X ty nt (cond b x y) T h Q) : CodeS P X ty nt (.cond q x y) T h Q := by
  intro DF c hc ι ow w a R H ht hR
  cases comp_of hc with
  | @cond _ cx cy _ _ hq h1 h2 =>
    have hv := ht.ev hq
    rw [hb] at hv
    generalize hv2 : a.eval q = v2 at hv
    cases hv
    cases b with
    | true => exact wp_cond_true hv2 (hx DF cx h1 ι ow w a R H ht hR)
    | false => exact wp_cond_false hv2 (hx DF cy h2 ι ow w a R H ht hR)
theorem CodeS.block {id : Nat} {x : BCode} (hx : CodeS P X ty nt x T h fun e T' h' => match e with
      | .exit i => match Nat.beq i id with
        | true => Q .normal T' h'
        | false => Q (.exit i) T' h'
      | e => Q e T' h') : CodeS P X ty nt (.block id x) T h Q := by
  intro DF c hc ι ow w a R H ht hR
  cases comp_of hc with
  | @block _ cx _ h1 =>
    refine wp_block (hx DF cx h1 ι ow w a _ H ht fun e T' h' ι' ow' w' a' q A => ?_)
    cases e with
    | normal => exact hR .normal T' h' ι' ow' w' a' q A
    | ret => exact hR .ret T' h' ι' ow' w' a' q A
    | exit i =>
      show (if i = id then R .normal a' w' else R (.exit i) a' w')
      dsimp only at q
      cases hi : Nat.beq i id with
      | true =>
        rw [hi] at q
        rw [if_pos (Nat.eq_of_beq_eq_true hi)]
        exact hR .normal T' h' ι' ow' w' a' q A
      | false =>
        rw [hi] at q
        rw [if_neg (fun e => by rw [e, beq_same] at hi; cases hi)]
        exact hR (.exit i) T' h' ι' ow' w' a' q A
/-- a loop: what holds ahead of each round, with a number that falls -/
theorem CodeS.loop {x : BCode} (I : Nat → Tr Value → Heap → Prop) (hx : ∀ n T h, I n T h → CodeS P X ty nt x T h fun e T' h' => match e with
      | .normal => ∃ m, m < n ∧ I m T' h'
      | e => Q e T' h') {n : Nat} (hI : I n T h) : CodeS P X ty nt (.loop x) T h Q := by
  intro DF c hc ι ow w a R H ht hR
  cases comp_of hc with
  | @loop cx _ h1 =>
    intro b k cs
    have key : ∀ n T2 h2 ι2 ow2 w2 a2, I n T2 h2 → After DF X nt ι ow h w T2 h2 ι2 ow2 w2 a2 →
        ∃ e a' w', R e a' w' ∧ Arrives P (lone (b.at a2 (.code cx :: .inLoop cx :: k)) cs w2) b k cs e a' w' := by
      intro n
      induction n using Nat.strongRecOn with
      | ind n ih =>
        intro T2 h2 ι2 ow2 w2 a2 hI A
        let R' : Exit → Act → World → Prop := fun e a' w' => match e with
          | .normal => ∃ m T3 h3 ι3 ow3, m < n ∧ I m T3 h3 ∧ After DF X nt ι ow h w T3 h3 ι3 ow3 w' a'
          | e => R e a' w'
        have hwp : cx.wp P R' a2 w2 := hx n T2 h2 hI DF cx h1 ι2 ow2 w2 a2 R' A.rel A.tmps fun e T3 h3 ι3 ow3 w3 a3 q A3 => by
          cases e with
          | normal => obtain ⟨m, hm, hI3⟩ := q; exact ⟨m, T3, h3, ι3, ow3, hm, hI3, A.trans A3⟩
          | exit i => exact hR (.exit i) T3 h3 ι3 ow3 w3 a3 q (A.trans A3)
          | ret => exact hR .ret T3 h3 ι3 ow3 w3 a3 q (A.trans A3)
        obtain ⟨e, a₁, w₁, hq, harr⟩ := hwp b (.inLoop cx :: k) cs
        cases e with
        | normal =>
          obtain ⟨m, T3, h3, ι3, ow3, hm, hI3, A3⟩ := hq
          obtain ⟨e₂, a₂, w₂, hq₂, harr₂⟩ := ih m hm T3 h3 ι3 ow3 w₁ a₁ hI3 A3
          exact ⟨e₂, a₂, w₂, hq₂, .of_steps (Steps.trans harr (.one step_inLoop)) harr₂⟩
        | exit id => exact ⟨_, a₁, w₁, hq, .pass (x := .inLoop cx) rfl (fun _ _ => .inl (by simp)) harr⟩
        | goto l => exact ⟨_, a₁, w₁, hq, .pass (x := .inLoop cx) rfl (fun _ _ => .inl (by simp)) harr⟩
        | ret => exact ⟨_, a₁, w₁, hq, .pass (x := .inLoop cx) rfl (fun _ _ => .inl (by simp)) harr⟩
        | panic ch => exact ⟨_, a₁, w₁, hq, .pass (x := .inLoop cx) rfl (fun _ _ => .inl (by simp)) harr⟩
        | outgrown => exact ⟨_, a₁, w₁, hq, .pass (x := .inLoop cx) rfl (fun _ _ => .inl (by simp)) harr⟩
    obtain ⟨e, a', w', hq, harr⟩ := key n T h ι ow w a hI ⟨ι.ext_refl _, H, Fr.refl _ _ _, ht⟩
    exact ⟨e, a', w', hq, .of_steps (.one step_loop) harr⟩
end

/-! ### regions in the order of their text -/
def RegS (P : Program) (X : Opq) (ty : Ty) (nt : Nat) (base : Nat) (l : List BOper) (T : Tr Value) (h : Heap) (Q : Tr Value → Heap → Prop) : Prop :=
  ∀ (DF : List Deferred) (ops : Array Oper) (ι0 : Emb) (ow0 : Own) (h0 : Heap) (w0 : World) (n : Nat) (R : Exit → Act → World → Prop) (is : List Nat), h0.next = base → All2 (fun i b => b.idx = i ∧ ∃ o, OpOk ty nt ops b o) is l → is.Nodup → (∀ i ∈ is, i < n) →
    ∀ (ι : Emb) (ow : Own) (w : World) (a : Act), RI DF X nt ι0 ow0 h0 w0 n ι ow h w T a → (∀ i ∈ is, ι (base + i) = none) →
      (∀ T' h' ι' ow' w' a', Q T' h' → RI DF X nt ι0 ow0 h0 w0 n ι' ow' h' w' T' a' → R .normal a' w') → wpOps P ops R is a w
section
variable {base : Nat} {T : Tr Value} {h : Heap} {Q : Tr Value → Heap → Prop} {b : BOper} {l : List BOper}
theorem RegS.nil (hq : Q T h) : RegS P X ty nt base [] T h Q := by
  intro DF ops ι0 ow0 h0 w0 n R is hb hall hnd hlt ι ow w a I hf hR
  cases hall
  exact hR T h ι ow w a hq I
theorem RegS.off (hw : wantedA T b.guard = false) (C : RegS P X ty nt base l (putA T b.dst undef) h Q) : RegS P X ty nt base (b :: l) T h Q := by
  intro DF ops ι0 ow0 h0 w0 n R is hb hall hnd hlt ι ow w a I hf hR
  cases hall with
  | @cons i _ is _ hbo hs =>
    obtain ⟨hidx, o, ok⟩ := hbo
    subst hidx
    rw [List.nodup_cons] at hnd
    have hwr := wanted_rel (o := o) (ops := ops) (g := b.guard) I.tmps ok.guard
    simp only [wpOps, ok.get]
    rw [hwr, hw]
    simp only [Bool.false_eq_true, if_false]
    refine C DF ops ι0 ow0 h0 w0 n R is hb hs hnd.2 (fun j hj => hlt j (by simp [hj])) ι ow w _ ?_ (fun j hj => hf j (by simp [hj])) hR
    rw [← ok.dst]
    exact ⟨I.ext, I.rel, I.fr, I.tmps.put ok.lt (VRel.undef ι), I.nxt⟩
theorem RegS.simp (F : PF P ty) (hd : kdepth ≤ P.depth) (hX : X.local) {looks : Bool} {f : SF} {v : Value} {ob : Option AObj} (hw : wantedA T b.guard = true) (hop : b.op = .simp looks f) (hf : f (base + b.idx) (evA T) h.get = some (v, ob))
    (C : RegS P X ty nt base l (putA T b.dst v) (h.putO (base + b.idx) ob) Q) : RegS P X ty nt base (b :: l) T h Q := by
  intro DF ops ι0 ow0 h0 w0 n R is hb hall hnd hlt ι ow w a I hfr hR
  cases hall with
  | @cons i _ is _ hbo hs =>
    obtain ⟨hidx, o, ok⟩ := hbo
    subst hidx
    subst hb
    rw [List.nodup_cons] at hnd
    have hwr := wanted_rel (o := o) (ops := ops) (g := b.guard) I.tmps ok.guard
    simp only [wpOps, ok.get]
    rw [hwr, hw]
    simp only [if_true]
    left
    have hact := act_ok F hd hX ok.op
    rw [hop] at hact
    have hi := hfr b.idx (by simp)
    have hso := hact ι ow h w (h0.next + b.idx) (evA T) a.eval v ob I.rel hi (I.tmps.evs ok.closed) (fun _ => rfl) hf
    obtain ⟨v', w', ι', ow', hrun, R', hsame⟩ := I.simple hX (hlt b.idx (by simp)) hi ok.lt hso
    unfold Oper.wp
    rw [hrun]
    show wpOps P ops R is (a.put o.dst v') w'
    rw [← ok.dst]
    refine C DF ops ι0 ow0 h0 w0 n R is rfl hs hnd.2 (fun j hj => hlt j (by simp [hj])) ι' ow' w' _ R' (fun j hj => ?_) hR
    rw [hsame _ (by intro e; have : j = b.idx := by omega
                    exact hnd.1 (this ▸ hj))]
    exact hfr j (by simp [hj])
theorem RegS.hard (F : PF P ty) (hd : kdepth ≤ P.depth) (hX : X.local) {cl : Call} (hcl : CallOk P X cl) {v : Value} {h' : Heap} (hw : wantedA T b.guard = true) (hdo : doHard cl T h b.op = some (v, h')) (C : RegS P X ty nt base l (putA T b.dst v) h' Q) :
    RegS P X ty nt base (b :: l) T h Q := by
  intro DF ops ι0 ow0 h0 w0 n R is hb hall hnd hlt ι ow w a I hfr hR
  cases hall with
  | @cons i _ is _ hbo hs =>
    obtain ⟨hidx, o, ok⟩ := hbo
    subst hidx
    subst hb
    rw [List.nodup_cons] at hnd
    have hwr := wanted_rel (o := o) (ops := ops) (g := b.guard) I.tmps ok.guard
    simp only [wpOps, ok.get]
    rw [hwr, hw]
    simp only [if_true]
    left
    refine hard_ok F hd hX hcl ok I.tmps I.rel hdo (fun v' w' ι' ow' e1 e2 e3 e4 => ?_)
    rw [← ok.dst]
    obtain ⟨R', hsame⟩ := I.heavy ok.lt e1 e2 e3 e4
    refine C DF ops ι0 ow0 h0 w0 n R is rfl hs hnd.2 (fun j hj => hlt j (by simp [hj])) ι' ow' w' _ R' (fun j hj => ?_) hR
    have := I.nxt
    have hjn := hlt j (by simp [hj])
    rw [hsame _ (by omega)]
    exact hfr j (by simp [hj])
theorem RegS.heavy (F : PF P ty) (hd : kdepth ≤ P.depth) (hX : X.local) {f : HF} {v : Value} {h' : Heap} (hw : wantedA T b.guard = true) (hop : b.op = .heavy f) (hf : f (evA T) h = some (v, h')) (C : RegS P X ty nt base l (putA T b.dst v) h' Q) :
    RegS P X ty nt base (b :: l) T h Q :=
  RegS.hard F hd hX (cl := fun _ _ _ => none) (fun _ _ _ _ _ h => by cases h) hw (by rw [hop]; exact hf) C
theorem RegS.call (F : PF P ty) (hd : kdepth ≤ P.depth) (hX : X.local) {f : Opd} {args : List Opd} {g : FuncId} {first captured : Array Value} {Q1 : Value → Heap → Prop} (hw : wantedA T b.guard = true) (hop : b.op = .call f args)
    (hg : evA T f = .func (.func g) first captured) (hC : CS P X g (first.toList ++ args.map (evA T) ++ captured.toList) h Q1) (C : ∀ v h', Q1 v h' → RegS P X ty nt base l (putA T b.dst v) h' Q) : RegS P X ty nt base (b :: l) T h Q := by
  intro DF ops ι0 ow0 h0 w0 n R is hb hall hnd hlt ι ow w a I hfr hR
  cases hall with
  | @cons i _ is _ hbo hs =>
    obtain ⟨hidx, o, ok⟩ := hbo
    subst hidx
    subst hb
    rw [List.nodup_cons] at hnd
    have hwr := wanted_rel (o := o) (ops := ops) (g := b.guard) I.tmps ok.guard
    simp only [wpOps, ok.get]
    rw [hwr, hw]
    simp only [if_true]
    left
    have hact := act_ok F hd hX ok.op
    rw [hop] at hact
    obtain ⟨c, ho, hc, hargs⟩ := hact
    have E := I.tmps.evs ok.closed
    have hf := E f (by rw [ho]; simp [Op.operands, Call.operands, hc])
    have hA : LRel ι (args.map (evA T)) (c.args.map a.eval).toList := by
      rw [← hargs, Array.toList_map]
      exact All2.of_map _ (fun x hx => E x (by rw [ho]; simp [Op.operands, Call.operands]; exact .inr (by simpa using hx)))
    rw [hg] at hf
    generalize hfe : a.eval f = f2 at *
    cases hf with
    | func _ _ _ x' y' hx hy rx ry =>
      unfold Oper.wp
      rw [call_exec ho hc hfe hC.1 w]
      have hL : LRel ι (first.toList ++ args.map (evA T) ++ captured.toList) (x' ++ c.args.map a.eval ++ y').toList := by
        rw [Array.toList_append, Array.toList_append]
        exact ((LRel.of_arr hx rx).append hA).append (LRel.of_arr hy ry)
      refine Calls.mono (hC.2 ι ow w _ I.rel hL) (fun e w' he => ?_)
      obtain ⟨v, h', q, hback⟩ := he
      cases e with
      | returned v' =>
        obtain ⟨ι', ow', e1, e2, e3, e4⟩ := hback
        show wpOps P ops R is (a.put o.dst v') w'
        rw [← ok.dst]
        obtain ⟨R', hsame⟩ := I.heavy ok.lt e1 e2 e3 e4
        refine C v h' q DF ops ι0 ow0 h0 w0 n R is rfl hs hnd.2 (fun j hj => hlt j (by simp [hj])) ι' ow' w' _ R' (fun j hj => ?_) hR
        have := I.nxt
        have hjn := hlt j (by simp [hj])
        rw [hsame _ (by omega)]
        exact hfr j (by simp [hj])
      | _ => cases hback
/-- some operations are run -/
theorem RegS.run (F : PF P ty) (hd : kdepth ≤ P.depth) (hX : X.local) {cl : Call} (hcl : CallOk P X cl) : ∀ (l1 : List BOper) {T1 T : Tr Value} {h1 h : Heap}, regA cl base l1 T h = some (T1, h1) → RegS P X ty nt base l T1 h1 Q → RegS P X ty nt base (l1 ++ l) T h Q
  | [], T1, T, h1, h, hr, C => by
    have hr : some (T, h) = some (T1, h1) := hr
    cases hr
    exact C
  | b :: l1, T1, T, h1, h, hr, C => by
    have hr : regStep cl base b (regA cl base l1) T h = some (T1, h1) := hr
    unfold regStep at hr
    cases hw : wantedA T b.guard with
    | false =>
      rw [hw] at hr
      exact RegS.off hw (RegS.run F hd hX hcl l1 hr C)
    | true =>
      rw [hw] at hr
      dsimp only at hr
      have hard : ∀ p, doHard cl T h b.op = some p → regA cl base l1 (putA T b.dst p.1) p.2 = some (T1, h1) → RegS P X ty nt base (b :: l1 ++ l) T h Q :=
        fun p hp hq => RegS.hard F hd hX hcl hw hp (RegS.run F hd hX hcl l1 hq C)
      cases hop : b.op with
      | simp looks f =>
        rw [hop] at hr
        dsimp only at hr
        cases hf : f (Nat.add base b.idx) (evA T) h.get with
        | none => rw [hf] at hr; cases hr
        | some p =>
          obtain ⟨v, ob⟩ := p
          rw [hf] at hr
          exact RegS.simp F hd hX hw hop hf (RegS.run F hd hX hcl l1 hr C)
      | heavy f =>
        rw [hop] at hr hard
        dsimp only at hr
        cases hp : doHard cl T h (.heavy f) with
        | none => rw [hp] at hr; cases hr
        | some p => rw [hp] at hr; exact hard p hp hr
      | call f args =>
        rw [hop] at hr hard
        dsimp only at hr
        cases hp : doHard cl T h (.call f args) with
        | none => rw [hp] at hr; cases hr
        | some p => rw [hp] at hr; exact hard p hp hr
end
theorem CodeS.reg {n : Nat} {l : List BOper} {T : Tr Value} {h : Heap} {Q : Ex → Tr Value → Heap → Prop} (C : RegS P X ty nt h.next l T { next := Nat.add h.next n, tab := h.tab } (Q .normal)) : CodeS P X ty nt (.reg n l) T h Q := by
  intro DF c hc ι ow w a R H ht hR
  cases comp_of hc with
  | @reg id ops _ h1 =>
    refine wp_region ?_
    exact C DF ops ι ow h w ops.size R _ rfl (All2.mono (fun _ _ hh => ⟨hh.1, hh.2.2⟩) (compRegL_ok h1)) List.nodup_range (fun i hi => List.mem_range.1 hi) ι ow w a
      ⟨ι.ext_refl _, H.bump _, Fr.bump ow h w _, ht, Nat.le_refl _⟩ (fun i _ => H.low _ (Nat.le_add_right _ _))
      (fun T' h' ι' ow' w' a' q I => hR .normal T' h' ι' ow' w' a' q ⟨I.ext, I.rel, I.fr, I.tmps⟩)
/-- a function's body -/
theorem CS.body (F : PF P ty) {f : FuncId} {fn : Func} {b : BFun} {args : List Value} {h : Heap} {Q : Value → Heap → Prop} (h1 : P.funcs[f]? = some fn) (h2 : compFun ty fn = some b) (h3 : (fn.name == "runtime.NumGoroutine") = false)
    (C : ∀ nt, CodeS P X ty nt b.body (argsT args 0 (.tip [])) h fun e T' h' => (e = .normal ∨ e = .ret) ∧ ∃ vs, resL h' T' b.res = some vs ∧ Q (pack vs) h') : CS P X f args h Q := by
  unfold compFun at h2
  cases hbody : fn.body with
  | none => rw [hbody] at h2; cases h2
  | some c =>
    rw [hbody] at h2; dsimp only at h2
    cases hc : compCode ty fn.ntmps c with
    | none => rw [hc] at h2; cases h2
    | some bc =>
      cases hres : compRes ty fn.results.toList with
      | none => rw [hc, hres] at h2; cases h2
      | some br =>
        rw [hc, hres] at h2; cases h2
        refine ⟨⟨fn, h1, by rw [hbody]; rfl, h3⟩, fun ι ow w args' H hl => ?_⟩
        refine calls_of_wp h1 hbody ?_
        refine C fn.ntmps [] c hc ι ow w _ _ H (args_rel hl) (fun e T' h' ι' ow' w' a' q A => ?_)
        obtain ⟨he, vs, hrl, hq⟩ := q
        obtain ⟨vs', q1, q2⟩ := resL_ok F A.rel A.tmps _ _ _ hres hrl
        have q3 := results_ok q1
        have q4 : VRel ι' (pack vs) (pack vs') := by
          cases q2 with
          | nil => exact VRel.undef ι'
          | cons ha hs => cases hs with
            | nil => exact ha
            | cons hb hs => exact VRel.mkTuple (.cons ha (.cons hb hs))
        have post : a'.defers = [] ∧ ∃ v, (results fn a'.tmps).run P w' = .ok v w' ∧ ∃ v1 h1, Q v1 h1 ∧ Back X ι ow h w v1 h1 (.returned v) w' :=
          ⟨A.tmps.defers, _, q3, _, _, hq, ι', ow', A.ext, q4, A.rel, A.fr⟩
        rcases he with rfl | rfl
        · exact post
        · exact post
end Go.AM

/- A call on a small heap, carried into a large one: names given anew, what is beside it is left alone. -/
namespace Go.AM
variable {P : Program} {X : Opq}

/-- a value's names, given anew; all of them are of D -/
inductive VR (D : Nat → Prop) (ρ : Nat → Nat) : Value → Value → Prop
  | bool (b : Bool) : VR D ρ (.bool b) (.bool b)
  | int (k : IntKind) (n : Int) : VR D ρ (.int k n) (.int k n)
  | string (s : ByteArray) : VR D ρ (.string s) (.string s)
  | ptrNil : VR D ρ (.pointer none) (.pointer none)
  | ptr (n off : Nat) (h : D n) : VR D ρ (.pointer (some ⟨n, off, none⟩)) (.pointer (some ⟨ρ n, off, none⟩))
  | slNil (len cap : Nat) : VR D ρ (.slice none len cap) (.slice none len cap)
  | slEx (n off len cap : Nat) (h : D n) : VR D ρ (.slice (some ⟨n, off, none⟩) len cap) (.slice (some ⟨ρ n, off, none⟩) len cap)
  | slGr (n off e len cap : Nat) (h : D n) : VR D ρ (.slice (some ⟨n, off, some (e + 1)⟩) len cap) (.slice (some ⟨ρ n, off, some (e + 1)⟩) len cap)
  | slEmp : VR D ρ (.slice (some ⟨0, 0, some 0⟩) 0 0) (.slice (some ⟨0, 0, some 0⟩) 0 0)
  | mapNil : VR D ρ (.map none) (.map none)
  | map (n : Nat) (h : D n) : VR D ρ (.map (some n)) (.map (some (ρ n)))
  | nilFunc : VR D ρ .nilFunc .nilFunc
  | nilIface : VR D ρ .nilIface .nilIface
  | func (f : Nat) (a b a' b' : Array Value) (ha : a.size = a'.size) (hb : b.size = b'.size)
      (ra : ∀ (i : Nat) v v', a[i]? = some v → a'[i]? = some v' → VR D ρ v v') (rb : ∀ (i : Nat) v v', b[i]? = some v → b'[i]? = some v' → VR D ρ v v') :
      VR D ρ (.func (.func f) a b) (.func (.func f) a' b')
  | agg (a a' : Array Value) (ha : a.size = a'.size) (ra : ∀ (i : Nat) v v', a[i]? = some v → a'[i]? = some v' → VR D ρ v v') : VR D ρ (.agg a) (.agg a')
  | tuple (a a' : Array Value) (ha : a.size = a'.size) (ra : ∀ (i : Nat) v v', a[i]? = some v → a'[i]? = some v' → VR D ρ v v') : VR D ρ (.tuple a) (.tuple a')
theorem arr_get {a a' : Array Value} (ha : a.size = a'.size) {i : Nat} {v : Value} (h : a[i]? = some v) : ∃ v', a'[i]? = some v' := by
  have hi : i < a'.size := ha ▸ (Array.getElem?_eq_some_iff.1 h).1
  exact ⟨a'[i], Array.getElem?_eq_getElem hi⟩
theorem VR.pull {D : Nat → Prop} {ρ : Nat → Nat} {ι ι0 : Emb} (hι : ∀ n, D n → ∀ l, ι (ρ n) = some l → ι0 n = some l) {v v2 : Value} (h : VR D ρ v v2) : ∀ {v' : Value}, VRel ι v2 v' → VRel ι0 v v' := by
  induction h with
  | bool b => intro v' h2; cases h2; exact .bool _
  | int k n => intro v' h2; cases h2; exact .int k n
  | string s => intro v' h2; cases h2; exact .string s
  | ptrNil => intro v' h2; cases h2; exact .ptrNil
  | ptr n off h => intro v' h2; cases h2 with | ptr _ _ l hl => exact .ptr n off l (hι n h l hl)
  | slNil len cap => intro v' h2; cases h2; exact .slNil len cap
  | slEx n off len cap h => intro v' h2; generalize hm : ρ n = m at h2; cases h2 with | slEx _ _ _ _ l hl => exact .slEx n off len cap l (hι n h l (by rw [hm]; exact hl))
  | slGr n off e len cap h => intro v' h2; generalize hm : ρ n = m at h2; cases h2 with | slGr _ _ _ _ cap' l hl a b c => exact .slGr n off len cap cap' l (hι n h l (by rw [hm]; exact hl)) a b c
  | slEmp => intro v' h2; cases h2; exact .slEmp _ _
  | mapNil => intro v' h2; cases h2; exact .mapNil
  | map n h => intro v' h2; cases h2 with | map _ l hl => exact .map n l (hι n h l hl)
  | nilFunc => intro v' h2; cases h2; exact .nilFunc
  | nilIface => intro v' h2; cases h2; exact .nilIface
  | func f a b a' b' ha hb ra rb iha ihb =>
    intro v' h2
    cases h2 with
    | func _ _ _ a2 b2 ha2 hb2 ra2 rb2 =>
      refine .func f a b a2 b2 (ha.trans ha2) (hb.trans hb2) (fun i v w hv hw => ?_) (fun i v w hv hw => ?_)
      · obtain ⟨u, hu⟩ := arr_get ha hv
        exact iha i v u hv hu (ra2 i u w hu hw)
      · obtain ⟨u, hu⟩ := arr_get hb hv
        exact ihb i v u hv hu (rb2 i u w hu hw)
  | agg a a' ha ra ih =>
    intro v' h2
    cases h2 with
    | agg _ a2 ha2 ra2 =>
      refine .agg a a2 (ha.trans ha2) (fun i v w hv hw => ?_)
      obtain ⟨u, hu⟩ := arr_get ha hv
      exact ih i v u hv hu (ra2 i u w hu hw)
  | tuple a a' ha ra ih =>
    intro v' h2
    cases h2 with
    | tuple _ a2 ha2 ra2 =>
      refine .tuple a a2 (ha.trans ha2) (fun i v w hv hw => ?_)
      obtain ⟨u, hu⟩ := arr_get ha hv
      exact ih i v u hv hu (ra2 i u w hu hw)
theorem VR.push {D : Nat → Prop} {ρ : Nat → Nat} {ι1 ι2 : Emb} (hι : ∀ n, D n → ∀ l, ι1 n = some l → ι2 (ρ n) = some l) {v v2 : Value} (h : VR D ρ v v2) : ∀ {v' : Value}, VRel ι1 v v' → VRel ι2 v2 v' := by
  induction h with
  | bool b => intro v' h2; cases h2; exact .bool _
  | int k n => intro v' h2; cases h2; exact .int k n
  | string s => intro v' h2; cases h2; exact .string s
  | ptrNil => intro v' h2; cases h2; exact .ptrNil
  | ptr n off h => intro v' h2; cases h2 with | ptr _ _ l hl => exact .ptr _ off l (hι n h l hl)
  | slNil len cap => intro v' h2; cases h2; exact .slNil len cap
  | slEx n off len cap h => intro v' h2; cases h2 with | slEx _ _ _ _ l hl => exact .slEx _ off len cap l (hι n h l hl)
  | slGr n off e len cap h => intro v' h2; cases h2 with | slGr _ _ _ _ cap' l hl a b c => exact .slGr _ off len cap cap' l (hι n h l hl) a b c
  | slEmp => intro v' h2; cases h2; exact .slEmp _ _
  | mapNil => intro v' h2; cases h2; exact .mapNil
  | map n h => intro v' h2; cases h2 with | map _ l hl => exact .map _ l (hι n h l hl)
  | nilFunc => intro v' h2; cases h2; exact .nilFunc
  | nilIface => intro v' h2; cases h2; exact .nilIface
  | func f a b a' b' ha hb ra rb iha ihb =>
    intro v' h2
    cases h2 with
    | func _ _ _ a2 b2 ha2 hb2 ra2 rb2 =>
      refine .func f a' b' a2 b2 (ha.symm.trans ha2) (hb.symm.trans hb2) (fun i v w hv hw => ?_) (fun i v w hv hw => ?_)
      · obtain ⟨u, hu⟩ := arr_get ha.symm hv
        exact iha i u v hu hv (ra2 i u w hu hw)
      · obtain ⟨u, hu⟩ := arr_get hb.symm hv
        exact ihb i u v hu hv (rb2 i u w hu hw)
  | agg a a' ha ra ih =>
    intro v' h2
    cases h2 with
    | agg _ a2 ha2 ra2 =>
      refine .agg a' a2 (ha.symm.trans ha2) (fun i v w hv hw => ?_)
      obtain ⟨u, hu⟩ := arr_get ha.symm hv
      exact ih i u v hu hv (ra2 i u w hu hw)
  | tuple a a' ha ra ih =>
    intro v' h2
    cases h2 with
    | tuple _ a2 ha2 ra2 =>
      refine .tuple a' a2 (ha.symm.trans ha2) (fun i v w hv hw => ?_)
      obtain ⟨u, hu⟩ := arr_get ha.symm hv
      exact ih i u v hu hv (ra2 i u w hu hw)
theorem All2.comp {α β γ : Type} {R : α → β → Prop} {S : β → γ → Prop} {U : α → γ → Prop} (hU : ∀ a b c, R a b → S b c → U a c) : ∀ {s : List α} {t : List β} {u : List γ}, All2 R s t → All2 S t u → All2 U s u
  | _, _, _, .nil, .nil => .nil
  | _, _, _, .cons h1 h, .cons g1 g => .cons (hU _ _ _ h1 g1) (h.comp hU g)
theorem All2.flip {α β : Type} {R : α → β → Prop} {U : β → α → Prop} (hU : ∀ a b, R a b → U b a) : ∀ {s : List α} {t : List β}, All2 R s t → All2 U t s
  | _, _, .nil => .nil
  | _, _, .cons h1 h => .cons (hU _ _ h1) (h.flip hU)
/-- an object's names, given anew -/
inductive OR (D : Nat → Prop) (ρ : Nat → Nat) : AObj → AObj → Prop
  | cells {c c2 : List Value} {k : Kind} (h : All2 (VR D ρ) c c2) : OR D ρ (.cells c k) (.cells c2 k)
  | map {es es2 : List MEnt} {clock : Nat} (h : All2 (fun e e2 => VR D ρ e.key e2.key ∧ VR D ρ e.val e2.val ∧ e.born = e2.born) es es2) : OR D ρ (.map es clock) (.map es2 clock)
  | miter {m m2 : Option Nat} {since stepped : Nat} {seen : List Nat} (h : VR D ρ (.map m) (.map m2)) : OR D ρ (.miter m since seen stepped) (.miter m2 since seen stepped)
  | siter (s : ByteArray) (pos : Nat) : OR D ρ (.siter s pos) (.siter s pos)
theorem OR.pull {D : Nat → Prop} {ρ : Nat → Nat} {ι ι0 : Emb} (hι : ∀ n, D n → ∀ l, ι (ρ n) = some l → ι0 n = some l) {o o2 : AObj} (h : OR D ρ o o2) {w : World} {l : Loc} {own : Nat → Prop} (R : ORel X ι w l own o2) : ORel X ι0 w l own o := by
  cases h with
  | cells h =>
    obtain ⟨ho, c', elem, fr, h1, h2, h3, h4, h5, h6⟩ := R
    refine ⟨ho, c', elem, fr, h1, h2, by rw [h.length]; exact h3, h4, fun j v e => ?_, by rw [h.length]; exact h6⟩
    obtain ⟨v2, e2, r⟩ := h.get e
    obtain ⟨v', e3, r2⟩ := h5 j v2 e2
    exact ⟨v', e3, r.pull hι r2⟩
  | map h =>
    obtain ⟨ho, es', h1, h2⟩ := R
    exact ⟨ho, es', h1, h.comp (fun a b c r s => ⟨r.1.pull hι s.1, r.2.1.pull hι s.2.1, r.2.2.trans s.2.2⟩) h2⟩
  | miter h =>
    obtain ⟨ho, hb, m', h1, h2⟩ := R
    exact ⟨ho, hb, m', h1, h.pull hι h2⟩
  | siter s pos => exact R
theorem OR.push {D : Nat → Prop} {ρ : Nat → Nat} {ι1 ι2 : Emb} (hι : ∀ n, D n → ∀ l, ι1 n = some l → ι2 (ρ n) = some l) {o o2 : AObj} (h : OR D ρ o o2) {w : World} {l : Loc} {own : Nat → Prop} (R : ORel X ι1 w l own o) : ORel X ι2 w l own o2 := by
  cases h with
  | cells h =>
    obtain ⟨ho, c', elem, fr, h1, h2, h3, h4, h5, h6⟩ := R
    refine ⟨ho, c', elem, fr, h1, h2, by rw [← h.length]; exact h3, h4, fun j v e => ?_, by rw [← h.length]; exact h6⟩
    obtain ⟨v2, e2, r⟩ := h.getR e
    obtain ⟨v', e3, r2⟩ := h5 j v2 e2
    exact ⟨v', e3, r.push hι r2⟩
  | map h =>
    obtain ⟨ho, es', h1, h2⟩ := R
    exact ⟨ho, es', h1, All2.comp (fun a b c r s => ⟨r.1.push hι s.1, r.2.1.push hι s.2.1, r.2.2.symm.trans s.2.2⟩) (h.flip (U := fun b a => VR D ρ a.key b.key ∧ VR D ρ a.val b.val ∧ a.born = b.born) fun _ _ r => r) h2⟩
  | miter h =>
    obtain ⟨ho, hb, m', h1, h2⟩ := R
    exact ⟨ho, hb, m', h1, h.push hι h2⟩
  | siter s pos => exact R

/-! ### the lift -/
/-- how the outcome in the large heap stands to that in the small one: ρ' gives the names, K says which new objects are kept -/
structure Lifted (H h : Heap) (ρ : Nat → Nat) (H' h2 : Heap) (v v2 : Value) (ρ' : Nat → Nat) (K : Nat → Prop) : Prop where
  old : ∀ n, n < H.next → ρ' n = ρ n
  new : ∀ n, K n → H.next ≤ n ∧ h.next ≤ ρ' n ∧ ρ' n < h2.next
  inj : ∀ n m, K n → K m → ρ' n = ρ' m → n = m
  val : VR (fun n => n < H.next ∨ K n) ρ' v v2
  obj : ∀ m o2, h2.get m = some o2 → (∃ n o, (n < H.next ∨ K n) ∧ ρ' n = m ∧ H'.get n = some o ∧ OR (fun n => n < H.next ∨ K n) ρ' o o2) ∨ (h.get m = some o2 ∧ ∀ n, H.live n → ρ n ≠ m)
  next : h.next ≤ h2.next
/-- a small heap within a large one -/
structure Within (ρ : Nat → Nat) (H h : Heap) : Prop where
  obj : ∀ n o, H.get n = some o → n < H.next ∧ ∃ o2, h.get (ρ n) = some o2 ∧ OR (· < H.next) ρ o o2
  inj : ∀ n m, H.live n → H.live m → ρ n = ρ m → n = m
  lt : ∀ n, n < H.next → ρ n < h.next
theorem CS.lift (hX : X.local) {f : FuncId} {args args2 : List Value} {H h : Heap} {ρ : Nat → Nat} {Q Q2 : Value → Heap → Prop} (C : CS P X f args H Q) (hargs : All2 (VR (· < H.next) ρ) args args2) (W : Within ρ H h)
    (hq : ∀ v H', Q v H' → ∃ v2 h2 ρ' K, Q2 v2 h2 ∧ Lifted H h ρ H' h2 v v2 ρ' K) : CS P X f args2 h Q2 := by
  classical
  refine ⟨C.1, fun ι ow w args' R hl => ?_⟩
  have hpull : ∀ n, n < H.next → ∀ l, ι (ρ n) = some l → (fun n => if n < H.next then ι (ρ n) else none) n = some l := fun n hn l hl => by dsimp only; rw [if_pos hn]; exact hl
  have R0 : HRel X (fun n => if n < H.next then ι (ρ n) else none) (fun n => ow (ρ n)) H w := by
    refine ⟨fun n o e => ?_, fun n b hn hb => ?_, fun n m b hn hm hb hb' => ?_, fun n hn => ?_⟩
    · obtain ⟨hlt, o2, e2, r⟩ := W.obj n o e
      obtain ⟨l, hl, ho⟩ := R.obj (ρ n) o2 e2
      exact ⟨l, by rw [if_pos hlt]; exact hl, r.pull hpull ho⟩
    · unfold Heap.live at hn
      cases e : H.get n with
      | none => rw [e] at hn; cases hn
      | some o =>
        obtain ⟨_, o2, e2, _⟩ := W.obj n o e
        exact R.lt (ρ n) b (by simp [Heap.live, e2]) hb
    · refine W.inj n m hn hm (R.dis (ρ n) (ρ m) b ?_ ?_ hb hb')
      · unfold Heap.live at hn ⊢
        cases e : H.get n with
        | none => rw [e] at hn; cases hn
        | some o => obtain ⟨_, o2, e2, _⟩ := W.obj n o e; rw [e2]; rfl
      · unfold Heap.live at hm ⊢
        cases e : H.get m with
        | none => rw [e] at hm; cases hm
        | some o => obtain ⟨_, o2, e2, _⟩ := W.obj m o e; rw [e2]; rfl
    · rw [if_neg (by omega)]
  have hlive : ∀ n, H.live n → h.live (ρ n) := fun n hn => by
    unfold Heap.live at hn ⊢
    cases e : H.get n with
    | none => rw [e] at hn; cases hn
    | some o => obtain ⟨_, o2, e2, _⟩ := W.obj n o e; rw [e2]; rfl
  refine (C.2 _ _ w args' R0 (hargs.comp (fun a b c r s => r.pull hpull s) hl)).mono fun e w' ⟨v, H', q, B⟩ => ?_
  obtain ⟨v2, h2, ρ', K, q2, L⟩ := hq v H' q
  refine ⟨v2, h2, q2, ?_⟩
  cases e with
  | returned v' =>
    obtain ⟨ι1, ow1, b1, b2, b3, b4⟩ := B
    let ι2 : Emb := fun m => if m < h.next then ι m else if hn : ∃ n, K n ∧ ρ' n = m then ι1 (Classical.choose hn) else none
    have hpush : ∀ n, (n < H.next ∨ K n) → ∀ l, ι1 n = some l → ι2 (ρ' n) = some l := by
      intro n hn l hl
      rcases hn with hn | hn
      · have h1 := b1.2 n hn
        dsimp only at h1
        rw [if_pos hn] at h1
        rw [L.old n hn]
        show (if ρ n < h.next then ι (ρ n) else _) = some l
        rw [if_pos (W.lt n hn), ← h1]
        exact hl
      · have h1 := L.new n hn
        have hex : ∃ k, K k ∧ ρ' k = ρ' n := ⟨n, hn, rfl⟩
        show (if ρ' n < h.next then ι (ρ' n) else _) = some l
        rw [if_neg (by omega), dif_pos hex]
        have h2 := Classical.choose_spec hex
        rw [L.inj _ _ h2.1 hn h2.2]
        exact hl
    have hext : ι.ext ι2 h.next := by
      have h1 : ∀ n, n < h.next → ι2 n = ι n := fun n hn => by
        show (if n < h.next then ι n else _) = _
        rw [if_pos hn]
      refine ⟨fun n l hl => ?_, h1⟩
      by_cases hn : n < h.next
      · rw [h1 n hn]; exact hl
      · rw [R.low n (by omega)] at hl; cases hl
    let Im : Nat → Nat → Prop := fun m n => ∃ o o2, (n < H.next ∨ K n) ∧ ρ' n = m ∧ H'.get n = some o ∧ h2.get m = some o2 ∧ OR (fun n => n < H.next ∨ K n) ρ' o o2
    let ow2 : Own := fun m => if hm : ∃ n, Im m n then ow1 (Classical.choose hm) else ow m
    have e1 : ∀ m (hm : ∃ n, Im m n), ow2 m = ow1 (Classical.choose hm) := fun m hm => dif_pos hm
    have e2 : ∀ m, (¬ ∃ n, Im m n) → ow2 m = ow m := fun m hm => dif_neg hm
    have imLive : ∀ m (hm : ∃ n, Im m n), H'.live (Classical.choose hm) := fun m hm => by
      obtain ⟨o, o2, _, _, h3, _⟩ := Classical.choose_spec hm
      simp [Heap.live, h3]
    have untouched : ∀ m o2, h2.get m = some o2 → (¬ ∃ n, Im m n) → h.get m = some o2 ∧ ∀ n, H.live n → ρ n ≠ m := fun m o2 hg hm => by
      rcases L.obj m o2 hg with ⟨n, o, h1, h3, h4, h5⟩ | h1
      · exact absurd ⟨n, o, o2, h1, h3, h4, hg, h5⟩ hm
      · exact h1
    have getOf : ∀ m, h2.live m → ∃ o2, h2.get m = some o2 := fun m hm => by
      unfold Heap.live at hm
      cases e : h2.get m with
      | none => rw [e] at hm; cases hm
      | some o2 => exact ⟨o2, rfl⟩
    have cross : ∀ n m b, H'.live n → ow1 n b → h.live m → (∀ n, H.live n → ρ n ≠ m) → ow m b → False := fun n m b hn h1 hm hno h3 => by
      obtain ⟨k, hk, hok⟩ := b4.own n b hn h1 (R.lt m b hm h3)
      exact hno k hk (R.dis (ρ k) m b (hlive k hk) hm hok h3)
    refine ⟨ι2, ow2, hext, L.val.push hpush b2, ⟨?_, ?_, ?_, ?_⟩, ⟨b4.size, ?_, ?_, b4.os, b4.out, L.next, ?_⟩⟩
    · intro m o2 hg
      by_cases hm : ∃ n, Im m n
      · rw [e1 m hm]
        obtain ⟨o, o2', h1, h3, h4, h5, h6⟩ := Classical.choose_spec hm
        rw [hg] at h5
        cases h5
        obtain ⟨l, hl, ho⟩ := b3.obj _ o h4
        exact ⟨l, by have := hpush _ h1 l hl; rw [h3] at this; exact this, h6.push hpush ho⟩
      · rw [e2 m hm]
        obtain ⟨h1, hno⟩ := untouched m o2 hg hm
        obtain ⟨l, hl, ho⟩ := R.obj m o2 h1
        have hlv : h.live m := by simp [Heap.live, h1]
        refine ⟨l, hext.1 m l hl, ho.mono hX hext.1 fun b hb => b4.keep b (R.lt m b hlv hb) fun n hn hnb => hno n hn (R.dis (ρ n) m b (hlive n hn) hlv hnb hb)⟩
    · intro m b hm hb
      by_cases hi : ∃ n, Im m n
      · rw [e1 m hi] at hb
        exact b3.lt _ b (imLive m hi) hb
      · rw [e2 m hi] at hb
        obtain ⟨o2, hg⟩ := getOf m hm
        obtain ⟨h1, _⟩ := untouched m o2 hg hi
        exact Nat.lt_of_lt_of_le (R.lt m b (by simp [Heap.live, h1]) hb) b4.size
    · intro m k b hm hk hb hb'
      obtain ⟨o2, hg⟩ := getOf m hm
      obtain ⟨o3, hg'⟩ := getOf k hk
      by_cases hi : ∃ n, Im m n <;> by_cases hj : ∃ n, Im k n
      · rw [e1 m hi] at hb
        rw [e1 k hj] at hb'
        have := b3.dis _ _ b (imLive m hi) (imLive k hj) hb hb'
        obtain ⟨_, _, _, h3, _⟩ := Classical.choose_spec hi
        obtain ⟨_, _, _, h4, _⟩ := Classical.choose_spec hj
        rw [← h3, ← h4, this]
      · rw [e1 m hi] at hb
        rw [e2 k hj] at hb'
        obtain ⟨h1, hno⟩ := untouched k o3 hg' hj
        exact (cross _ k b (imLive m hi) hb (by simp [Heap.live, h1]) hno hb').elim
      · rw [e2 m hi] at hb
        rw [e1 k hj] at hb'
        obtain ⟨h1, hno⟩ := untouched m o2 hg hi
        exact (cross _ m b (imLive k hj) hb' (by simp [Heap.live, h1]) hno hb).elim
      · rw [e2 m hi] at hb
        rw [e2 k hj] at hb'
        obtain ⟨h1, _⟩ := untouched m o2 hg hi
        obtain ⟨h3, _⟩ := untouched k o3 hg' hj
        exact R.dis m k b (by simp [Heap.live, h1]) (by simp [Heap.live, h3]) hb hb'
    · intro m hm
      have h1 := L.next
      show (if m < h.next then ι m else _) = none
      rw [if_neg (by omega), dif_neg]
      rintro ⟨n, hn, rfl⟩
      have := L.new n hn
      omega
    · intro b hb hno
      exact b4.keep b hb fun n hn => hno (ρ n) (hlive n hn)
    · intro m b hm hb hlt
      by_cases hi : ∃ n, Im m n
      · rw [e1 m hi] at hb
        obtain ⟨k, hk, hok⟩ := b4.own _ b (imLive m hi) hb hlt
        exact ⟨ρ k, hlive k hk, hok⟩
      · rw [e2 m hi] at hb
        obtain ⟨o2, hg⟩ := getOf m hm
        obtain ⟨h1, _⟩ := untouched m o2 hg hi
        exact ⟨m, by simp [Heap.live, h1], hb⟩
    · intro m hlt hm
      obtain ⟨o2, hg⟩ := getOf m hm
      rcases L.obj m o2 hg with ⟨n, o, h1, h3, h4, h5⟩ | ⟨h1, _⟩
      · rcases h1 with h1 | h1
        · rw [L.old n h1] at h3
          rw [← h3]
          exact hlive n (b4.old n h1 (by simp [Heap.live, h4]))
        · have := L.new n h1
          omega
      · simp [Heap.live, h1]
  | _ => cases B
end Go.AM

/- A function that ranges over an iterator which yields nothing. -/
namespace Go.AM
variable {P : Program} {X : Opq} {ty : Ty}

theorem alloc_old (w : World) (o : Obj) (k : Nat) (h : k < w.heap.size) : (w.alloc o).heap[k]? = w.heap[k]? := by
  show (w.heap.push o)[k]? = _
  rw [Array.getElem?_push, if_neg (by omega)]
theorem CS.range_empty (F : PF P ty) (hX : X.local) {f : FuncId} {fn : Func} {cx cy cz assign body : Code} {i : Nat} {g : Operand} {ps : Array Tmp} {bx by' bz : BCode} {br : List BRes} {args : List Value} {h : Heap} {Q : Value → Heap → Prop}
    (hf : P.funcs[f]? = some fn) (hb : fn.body = some (.seq cx (.seq (.seq cy (.block i (.rangeFunc g ps assign body))) cz))) (hn : (fn.name == "runtime.NumGoroutine") = false)
    (hcx : compCode ty fn.ntmps cx = some bx) (hcy : compCode ty fn.ntmps cy = some by') (hcz : compCode ty fn.ntmps cz = some bz) (hg : closedO g = true) (hres : compRes ty fn.results.toList = some br)
    (C : CodeS P X ty fn.ntmps bx (argsT args 0 (.tip [])) h fun e T1 h1 => e = .normal ∧ CodeS P X ty fn.ntmps by' T1 h1 fun e T2 h2 => e = .normal ∧ ∃ k cap, evA T2 g = .func (.func k) #[] cap ∧
      ∀ l, CS P X k (.func (.yield l) #[] #[] :: cap.toList) h2 fun _ h3 => CodeS P X ty fn.ntmps bz T2 h3 fun e T4 h4 => (e = .normal ∨ e = .ret) ∧ ∃ vs, resL h4 T4 br = some vs ∧ Q (pack vs) h4) : CS P X f args h Q := by
  refine ⟨⟨fn, hf, by rw [hb]; rfl, hn⟩, fun ι ow w args' H hl => ?_⟩
  refine (callsIn_wide (n := 1)).1 (callsIn_of_wp_marks hf hb trivial ?_)
  refine wpIn_seq (wpIn_wide.2 (C [] cx hcx ι ow w _ _ H (args_rel hl) (fun e T1 h1 ι1 ow1 w1 a1 q A1 => ?_)))
  obtain ⟨rfl, q⟩ := q
  refine wpIn_seq (wpIn_seq (wpIn_wide.2 (q [] cy hcy ι1 ow1 w1 a1 _ A1.rel A1.tmps (fun e T2 h2 ι2 ow2 w2 a2 q2 A2 => ?_))))
  obtain ⟨rfl, k, cap, hgv, hit⟩ := q2
  refine wpIn_block (wpIn_rangeFunc (fun fnid _ => ?_))
  have hv := A2.tmps.ev hg
  rw [hgv] at hv
  obtain ⟨lb, hlb, hgm, hcap⟩ : ∃ lb : Array Value, True ∧ a2.eval g = .func (.func k) #[] lb ∧ LRel ι2 cap.toList lb.toList := by
    generalize hx : a2.eval g = x at hv
    cases hv with
    | func _ _ _ a' b' ha hb' ra rb =>
      have : a' = #[] := by
        apply Array.eq_empty_of_size_eq_zero
        rw [← ha]; rfl
      subst this
      exact ⟨b', trivial, rfl, LRel.of_arr hb' rb⟩
  obtain ⟨rec, hrec⟩ : ∃ rec : LoopState → Option Code → Loop, rec = fun st pe => { state := st, pending := pe, fn := fnid, tmps := a2.tmps, params := ps, assign, body, defers := w2.heap.size } := ⟨_, rfl⟩
  obtain ⟨W1, hW1⟩ : ∃ W1, (w2.alloc (.deferred (some []))).alloc (.loop (rec .ready none)) = W1 := ⟨_, rfl⟩
  have hL1 : W1.heap[w2.heap.size + 1]? = some (.loop (rec .ready none)) := by
    rw [← hW1]; have := World.alloc_heap_new (w2.alloc (.deferred (some []))) (.loop (rec .ready none)); rwa [World.size_alloc] at this
  have hK1 : W1.heap[w2.heap.size]? = some (.deferred (some [])) := by
    rw [← hW1]; exact (alloc_old _ _ _ (by simp)).trans (World.alloc_heap_new w2 _)
  have hS1 : W1.heap.size = w2.heap.size + 2 := by rw [← hW1]; simp
  have hold : ∀ b, b < w2.heap.size → W1.heap[b]? = w2.heap[b]? := fun b hb => by
    rw [← hW1, alloc_old _ _ _ (by simp; omega), alloc_old _ _ _ hb]
  have H2 : HRel X ι2 ow2 h2 W1 := A2.rel.world hX (by omega) (fun n b hl' ho => hold b (A2.rel.lt n b hl' ho))
  refine ⟨w2.heap.size + 1, [{ target := .collected w2.heap.size, args := #[] }], W1, { target := .fn (.func k) lb, args := #[Value.func (.yield (w2.heap.size + 1)) #[] #[]] }, W1, k,
    #[Value.func (.yield (w2.heap.size + 1)) #[] #[]] ++ lb, W1, ?_, ?_, fun _ _ => trivial, ?_, fun _ => Nat.le_refl _, ?_⟩
  · rw [← hW1, hrec]; exact run_enterLoop_outer _ _ _ _ _
  · simp only [resolve, hgm]
    simp [go_sem]
  · simp [invoke, go_sem, (hit 0).1.run]
  · have hargs : LRel ι2 (.func (.yield (w2.heap.size + 1)) #[] #[] :: cap.toList) (#[Value.func (.yield (w2.heap.size + 1)) #[] #[]] ++ lb).toList := by
      rw [Array.toList_append]
      exact .cons (.yield _) hcap
    refine callsIn_wide.2 (((hit (w2.heap.size + 1)).2 ι2 ow2 W1 _ H2 hargs).mono fun e w3 ⟨v, h3, q3, B⟩ => ?_)
    cases e with
    | returned v' =>
      obtain ⟨ι3, ow3, ext3, _, rel3, fr3⟩ := B
      have hfree2 : ∀ b, w2.heap.size ≤ b → ∀ n, h2.live n → ¬ ow2 n b := fun b hb n hl' ho => by
        have := A2.rel.lt n b hl' ho
        omega
      have hfree3 : ∀ b, w2.heap.size ≤ b → b < W1.heap.size → ∀ n, h3.live n → ¬ ow3 n b := fun b hb hb' n hl' ho => by
        obtain ⟨m, hm, hom⟩ := fr3.own n b hl' ho hb'
        exact hfree2 b hb m hm hom
      have hL3 : w3.heap[w2.heap.size + 1]? = some (.loop (rec .ready none)) := by
        rw [fr3.keep _ (by omega) (hfree2 _ (by omega))]; exact hL1
      have hK3 : w3.heap[w2.heap.size]? = some (.deferred (some [])) := by
        rw [fr3.keep _ (by omega) (hfree2 _ (by omega))]; exact hK1
      have hend := run_endLoop (P := P) hL3 (by rw [hrec]; simp)
      obtain ⟨w4, hw4⟩ : ∃ w4, w3.putObj (w2.heap.size + 1) (.loop { rec .ready none with state := .exhausted }) = w4 := ⟨_, rfl⟩
      have hp : (rec .ready none).pending = none := by rw [hrec]
      rw [hw4, hp] at hend
      refine ⟨none, w4, hend, ?_⟩
      have hs4 : w4.heap.size = w3.heap.size := by rw [← hw4]; simp
      have H4 : HRel X ι3 ow3 h3 w4 := rel3.world hX (by omega) (fun n b hl' ho => by
        rw [← hw4]
        exact World.putObj_heap_other (fun e => hfree3 _ (by omega) (by omega) n hl' (e ▸ ho)))
      have hK4 : w4.heap[w2.heap.size]? = some (.deferred (some [])) := by
        rw [← hw4, World.putObj_heap_other (by omega)]; exact hK3
      have fr4 : Fr ow h w ow3 h3 w4 := by
        have fA := A1.fr.trans A2.fr
        refine ⟨?_, ?_, ?_, ?_, ?_, ?_, ?_⟩
        · have := fA.size; have := fr3.size; omega
        · intro b hb hno
          have hb2 : b < w2.heap.size := Nat.lt_of_lt_of_le hb fA.size
          rw [← hw4, World.putObj_heap_other (by omega), fr3.keep b (by omega) (fun n hl' ho => ?_), hold b hb2]
          · exact fA.keep b hb hno
          · obtain ⟨m, hm, hom⟩ := fA.own n b hl' ho hb
            exact hno m hm hom
        · intro n b hl' ho hb
          have hb2 : b < w2.heap.size := Nat.lt_of_lt_of_le hb fA.size
          obtain ⟨m, hm, hom⟩ := fr3.own n b hl' ho (by omega)
          exact fA.own m b hm hom hb
        · rw [← hw4]; show w3.os = w.os; rw [fr3.os, ← hW1]; exact fA.os
        · rw [← hw4]; show w3.output = w.output; rw [fr3.out, ← hW1]; exact fA.out
        · exact Nat.le_trans fA.nxt fr3.nxt
        · intro n hn' hl'
          exact fA.old n hn' (fr3.old n (Nat.lt_of_lt_of_le hn' fA.nxt) hl')
      have hdef : a2.defers = [] := A2.tmps.defers
      have ht4 : TRel [{ target := .collected w2.heap.size, args := #[] }] ι3 fn.ntmps T2 { a2 with defers := [{ target := .collected w2.heap.size, args := #[] }] ++ a2.defers } :=
        ⟨A2.tmps.size, fun j => (A2.tmps.val j).mono ext3.1, by rw [hdef]; rfl⟩
      have hextA : ι.ext ι3 h.next := Emb.ext_trans (Emb.ext_trans A1.ext A1.fr.nxt A2.ext) (A1.fr.trans A2.fr).nxt ext3
      refine wpIn_wide.2 (q3 [{ target := .collected w2.heap.size, args := #[] }] cz hcz ι3 ow3 w4 _ _ H4 ht4 (fun e T4 h4 ι4 ow4 w5 a4 q4 A4 => ?_))
      obtain ⟨he, vs, hvs, hQ⟩ := q4
      have hfree5 : ∀ n, h4.live n → ¬ ow4 n w2.heap.size := fun n hl' ho => by
        obtain ⟨m, hm, hom⟩ := A4.fr.own n _ hl' ho (by have := fr3.size; omega)
        exact hfree3 _ (Nat.le_refl _) (by omega) m hm hom
      have hK5 : w5.heap[w2.heap.size]? = some (.deferred (some [])) := by
        rw [A4.fr.keep _ (by have := fr3.size; omega) (fun n hl' => hfree3 _ (Nat.le_refl _) (by omega) n hl')]; exact hK4
      have H6 : HRel X ι4 ow4 h4 (w5.putObj w2.heap.size (.deferred none)) := A4.rel.world hX (by simp) (fun n b hl' ho => World.putObj_heap_other (fun e => hfree5 n hl' (e ▸ ho)))
      obtain ⟨vs', r1, r2⟩ := resL_ok F H6 A4.tmps _ _ _ hres hvs
      have r3 := results_ok r1
      have r4 : VRel ι4 (pack vs) (pack vs') := by
        cases r2 with
        | nil => exact VRel.undef ι4
        | cons ha hs => cases hs with
          | nil => exact ha
          | cons hb hs => exact VRel.mkTuple (.cons ha (.cons hb hs))
      have fr6 : Fr ow h w ow4 h4 (w5.putObj w2.heap.size (.deferred none)) := by
        have f5 := fr4.trans A4.fr
        have hge : w.heap.size ≤ w2.heap.size := (A1.fr.trans A2.fr).size
        refine ⟨by simpa using f5.size, fun b hb hno => ?_, f5.own, f5.os, f5.out, f5.nxt, f5.old⟩
        rw [World.putObj_heap_other (by omega)]
        exact f5.keep b hb hno
      have fin : LeavesInM Fence.wide 1 P fn a4.tmps (fun e w' => ∃ v h', Q v h' ∧ Back X ι ow h w v h' e w') a4.defers .returning w5 := by
        rw [A4.tmps.defers]
        refine ⟨by simp, .inl ⟨w2.heap.size, _, rfl, run_takeDeferred hK5, ?_⟩⟩
        exact ⟨_, r3, _, _, hQ, ι4, ow4, Emb.ext_trans hextA fr4.nxt A4.ext, r4, H6, fr6⟩
      rcases he with rfl | rfl
      · exact fin
      · exact fin
    | _ => cases B
end Go.AM

/- What a call has made and nobody keeps is forgotten: the heap is as it was. -/
namespace Go.AM
variable {P : Program} {X : Opq} {ty : Ty}

theorem VRel.back {ι ι1 : Emb} (hle : ι.le ι1) {v u : Value} (h : VRel ι v u) : ∀ {v' : Value}, VRel ι1 v v' → VRel ι v v' := by
  induction h with
  | bool b => intro v' h2; cases h2; exact .bool _
  | int k n => intro v' h2; cases h2; exact .int k n
  | string s => intro v' h2; cases h2; exact .string s
  | ptrNil => intro v' h2; cases h2; exact .ptrNil
  | ptr n off l hl =>
    intro v' h2
    cases h2 with
    | ptr _ _ l2 hl2 =>
      have := hle n l hl
      rw [this] at hl2; cases hl2
      exact .ptr n off l hl
  | slNil len cap => intro v' h2; cases h2; exact .slNil len cap
  | slEx n off len cap l hl =>
    intro v' h2
    cases h2 with
    | slEx _ _ _ _ l2 hl2 =>
      have := hle n l hl
      rw [this] at hl2; cases hl2
      exact .slEx n off len cap l hl
  | slGr n off len cap cap' l hl hlen hc hs =>
    intro v' h2
    obtain ⟨blk, base, size, esz⟩ := l
    cases h2 with
    | slGr _ _ _ _ cap2 l2 hl2 a b c =>
      have := hle n _ hl
      rw [this] at hl2
      exact .slGr n off len cap cap2 l2 (hl.trans hl2) a b c
  | slEmp a cap => intro v' h2; cases h2; exact .slEmp _ _
  | mapNil => intro v' h2; cases h2; exact .mapNil
  | map n l hl =>
    intro v' h2
    cases h2 with
    | map _ l2 hl2 =>
      have := hle n l hl
      rw [this] at hl2; cases hl2
      exact .map n l hl
  | nilFunc => intro v' h2; cases h2; exact .nilFunc
  | nilIface => intro v' h2; cases h2; exact .nilIface
  | yield l => intro v' h2; cases h2; exact .yield l
  | func f a b a' b' ha hb ra rb iha ihb =>
    intro v' h2
    cases h2 with
    | func _ _ _ a2 b2 ha2 hb2 ra2 rb2 =>
      refine .func f a b a2 b2 ha2 hb2 (fun i v w hv hw => ?_) (fun i v w hv hw => ?_)
      · obtain ⟨u, hu⟩ := arr_get ha hv
        exact iha i v u hv hu (ra2 i v w hv hw)
      · obtain ⟨u, hu⟩ := arr_get hb hv
        exact ihb i v u hv hu (rb2 i v w hv hw)
  | agg a a' ha ra ih =>
    intro v' h2
    cases h2 with
    | agg _ a2 ha2 ra2 =>
      refine .agg a a2 ha2 (fun i v w hv hw => ?_)
      obtain ⟨u, hu⟩ := arr_get ha hv
      exact ih i v u hv hu (ra2 i v w hv hw)
  | tuple a a' ha ra ih =>
    intro v' h2
    cases h2 with
    | tuple _ a2 ha2 ra2 =>
      refine .tuple a a2 ha2 (fun i v w hv hw => ?_)
      obtain ⟨u, hu⟩ := arr_get ha hv
      exact ih i v u hv hu (ra2 i v w hv hw)
theorem All2.back {α β γ : Type} {R : α → β → Prop} {S U : α → γ → Prop} (hU : ∀ a b c, R a b → S a c → U a c) : ∀ {s : List α} {t : List β} {u : List γ}, All2 R s t → All2 S s u → All2 U s u
  | _, _, _, .nil, .nil => .nil
  | _, _, _, .cons h1 h, .cons g1 g => .cons (hU _ _ _ h1 g1) (h.back hU g)
theorem ORel.back {ι ι1 : Emb} (hle : ι.le ι1) {w0 w : World} {l0 l : Loc} {own0 own : Nat → Prop} {o : AObj} (h0 : ORel X ι w0 l0 own0 o) (h : ORel X ι1 w l own o) : ORel X ι w l own o := by
  cases o with
  | cells c k =>
    obtain ⟨_, c0, _, _, _, _, _, _, g5, _⟩ := h0
    obtain ⟨ho, c', elem, fr, h1, h2, h3, h4, h5, h6⟩ := h
    refine ⟨ho, c', elem, fr, h1, h2, h3, h4, fun j v e => ?_, h6⟩
    obtain ⟨v', e1, r1⟩ := h5 j v e
    obtain ⟨u, _, r0⟩ := g5 j v e
    exact ⟨v', e1, r0.back hle r1⟩
  | map es clock =>
    obtain ⟨_, es0, _, g2⟩ := h0
    obtain ⟨ho, es', h1, h2⟩ := h
    exact ⟨ho, es', h1, g2.back (fun a b c r s => ⟨r.1.back hle s.1, r.2.1.back hle s.2.1, s.2.2⟩) h2⟩
  | miter m since seen stepped =>
    obtain ⟨_, _, m0, _, g2⟩ := h0
    obtain ⟨ho, hb, m', h1, h2⟩ := h
    exact ⟨ho, hb, m', h1, g2.back hle h2⟩
  | siter s pos => exact h
  | opq k => exact h
theorem HRel.gc {ι ι1 : Emb} {ow ow1 : Own} {h h1 h2 : Heap} {w w1 : World} (H0 : HRel X ι ow h w) (hle : ι.le ι1) (H1 : HRel X ι1 ow1 h1 w1) (hn : h2.next = h.next) (hsub : ∀ n o, h2.get n = some o → h1.get n = some o ∧ h.get n = some o) : HRel X ι ow1 h2 w1 := by
  have lv : ∀ n, h2.live n → h1.live n := fun n hl => by
    unfold Heap.live at *
    cases e : h2.get n with
    | none => rw [e] at hl; cases hl
    | some o => rw [(hsub n o e).1]; rfl
  refine ⟨fun n o e => ?_, fun n b hl => H1.lt n b (lv n hl), fun n m b hl hl' => H1.dis n m b (lv n hl) (lv m hl'), fun n hm => H0.low n (by omega)⟩
  obtain ⟨e1, e0⟩ := hsub n o e
  obtain ⟨l, hl, ho⟩ := H1.obj n o e1
  obtain ⟨l0, hl0, ho0⟩ := H0.obj n o e0
  have := hle n l0 hl0
  rw [this] at hl; cases hl
  exact ⟨l, hl0, ho0.back hle ho⟩
/-- a value that has no names -/
def plainV : Value → Bool
  | .bool _ | .int .. | .string _ | .pointer none | .slice none _ _ | .map none | .nilFunc | .nilIface => true
  | _ => false
theorem plainV_rel {ι : Emb} {v : Value} (h : plainV v = true) : VRel ι v v := by
  unfold plainV at h
  split at h
  · exact .bool _
  · exact .int _ _
  · exact .string _
  · exact .ptrNil
  · exact .slNil _ _
  · exact .mapNil
  · exact .nilFunc
  · exact .nilIface
  · cases h
/-- a call whose outcome has no names, and which leaves all that was as it was -/
theorem CS.gc {f : FuncId} {args : List Value} {h : Heap} {Q : Value → Heap → Prop} {Q' : Value → Prop} (C : CS P X f args h Q) (hq : ∀ v h', Q v h' → Q' v ∧ plainV v = true ∧ ∀ n o, h.get n = some o → h'.get n = some o) :
    CS P X f args h (fun v h' => Q' v ∧ h' = h) := by
  refine ⟨C.1, fun ι ow w args' H hl => (C.2 ι ow w args' H hl).mono fun e w' ⟨v, h', q, B⟩ => ?_⟩
  obtain ⟨q', hp, hk⟩ := hq v h' q
  refine ⟨v, h, ⟨q', rfl⟩, ?_⟩
  cases e with
  | returned v' =>
    obtain ⟨ι1, ow1, b1, b2, b3, b4⟩ := B
    refine ⟨ι, ow1, ι.ext_refl _, (plainV_rel (ι := ι) hp).back b1.1 b2, H.gc b1.1 b3 rfl (fun n o e => ⟨hk n o e, e⟩), ⟨b4.size, b4.keep, fun n b hl => b4.own n b ?_, b4.os, b4.out, Nat.le_refl _, fun n _ hl => hl⟩⟩
    unfold Heap.live at *
    cases e : h.get n with
    | none => rw [e] at hl; cases hl
    | some o => rw [hk n o e]; rfl
  | _ => cases B
/-- contracts as a machine's own functions -/
theorem ov_of_cs {f : FuncId} {g : List Value → Heap → Option (Value × Heap)} (he : Enters P f) (hg : ∀ args h v h', g args h = some (v, h') → CS P X f args h fun v1 h1 => v1 = v ∧ h1 = h') :
    Enters P f ∧ ∀ args h v h', g args h = some (v, h') → ∀ (ι : Emb) (ow : Own) (w : World) (args' : Array Value), HRel X ι ow h w → LRel ι args args'.toList → Calls P f args' w (Back X ι ow h w v h') :=
  ⟨he, fun args h v h' e ι ow w args' H hl => ((hg args h v h' e).2 ι ow w args' H hl).mono fun e w' ⟨v1, h1, ⟨e1, e2⟩, B⟩ => by subst e1; subst e2; exact B⟩
end Go.AM

/- Closed runs, taken apart; a small heap carried into a large one, by looks that are computed. -/
namespace Go.AM
variable {P : Program} {X : Opq} {ty : Ty}

noncomputable def tOf : Option (Ex × Tr Value × Heap) → Tr Value
  | some (_, t, _) => t
  | none => .tip []
noncomputable def hOf : Option (Ex × Tr Value × Heap) → Heap
  | some (_, _, h) => h
  | none => { next := 0, tab := .tip [] }
noncomputable def isNormal : Option (Ex × Tr Value × Heap) → Bool
  | some (.normal, _, _) => true
  | _ => false
noncomputable def isRet : Option (Ex × Tr Value × Heap) → Bool
  | some (.ret, _, _) => true
  | _ => false
theorem some_normal {r : Option (Ex × Tr Value × Heap)} (h : isNormal r = true) : r = some (.normal, tOf r, hOf r) := by
  unfold isNormal at h
  split at h
  · rfl
  · cases h
theorem some_ret {r : Option (Ex × Tr Value × Heap)} (h : isRet r = true) : r = some (.ret, tOf r, hOf r) := by
  unfold isRet at h
  split at h
  · rfl
  · cases h
noncomputable def valOf : Option (Value × Heap) → Value
  | some (v, _) => v
  | none => undef
noncomputable def heapOf : Option (Value × Heap) → Heap
  | some (_, h) => h
  | none => { next := 0, tab := .tip [] }
noncomputable def isSomeR : Option (Value × Heap) → Bool
  | some _ => true
  | none => false
theorem some_run {r : Option (Value × Heap)} (h : isSomeR r = true) : r = some (valOf r, heapOf r) := by
  cases r with
  | none => cases h
  | some p => rfl

/-! ### all objects of a heap, listed -/
noncomputable def Tr.all {α : Type} (f : Nat → α → Bool) (t : Tr α) : Bool :=
  Tr.rec (motive := fun _ => Bool) (fun l => List.rec (motive := fun _ => Bool) true (fun x _ ih => f x.1 x.2 && ih) l) (fun _ _ a b => a && b) t
theorem lget_all {α : Type} {f : Nat → α → Bool} : ∀ {l : List (Nat × α)}, (List.rec (motive := fun _ => Bool) true (fun x _ ih => f x.1 x.2 && ih) l : Bool) = true → ∀ {n : Nat} {o : α}, lget l n = some o → f n o = true
  | [], _, n, o, h => by cases h
  | (j, v) :: l, ha, n, o, h => by
    have ha : (f j v && (List.rec (motive := fun _ => Bool) true (fun x _ ih => f x.1 x.2 && ih) l : Bool)) = true := ha
    rw [Bool.and_eq_true] at ha
    rw [lget_cons] at h
    cases hb : Nat.beq j n with
    | true =>
      rw [hb] at h
      cases h
      rw [← Nat.eq_of_beq_eq_true hb]
      exact ha.1
    | false =>
      rw [hb] at h
      exact lget_all ha.2 h
theorem Tr.all_get {α : Type} {f : Nat → α → Bool} {t : Tr α} (h : t.all f = true) {n : Nat} {o : α} (hg : t.get n = some o) : f n o = true := by
  have key : ∀ (t : Tr α) (p : Nat), t.all f = true → t.getP p n = some o → f n o = true := by
    intro t
    induction t with
    | tip l => intro p h hg; exact lget_all h hg
    | bin a b iha ihb =>
      intro p h hg
      have h : (a.all f && b.all f) = true := h
      rw [Bool.and_eq_true] at h
      rw [Tr.getP_bin] at hg
      cases hb : Nat.beq (Nat.mod p 2) 0 with
      | true => rw [hb] at hg; exact iha _ h.1 hg
      | false => rw [hb] at hg; exact ihb _ h.2 hg
  exact key t n h hg

/-! ### names below a bound -/
/-- the names of a value lie below nx: values of one cell, and rows of them -/
noncomputable def below1 (nx : Nat) : Value → Bool
  | .bool _ | .int .. | .string _ | .pointer none | .slice none _ _ | .map none | .nilFunc | .nilIface => true
  | .pointer (some ⟨n, _, none⟩) => Nat.blt n nx
  | .slice (some ⟨n, _, none⟩) _ _ => Nat.blt n nx
  | .slice (some ⟨n, _, some (_ + 1)⟩) _ _ => Nat.blt n nx
  | .slice (some ⟨0, 0, some 0⟩) 0 0 => true
  | .map (some n) => Nat.blt n nx
  | _ => false
noncomputable def below1L (nx : Nat) (l : List Value) : Bool := List.rec (motive := fun _ => Bool) true (fun v _ ih => below1 nx v && ih) l
noncomputable def belowV (nx : Nat) : Value → Bool
  | .agg a => below1L nx a.toList
  | .func (.func _) a b => below1L nx a.toList && below1L nx b.toList
  | .tuple a => below1L nx a.toList
  | v => below1 nx v
noncomputable def belowL (nx : Nat) (l : List Value) : Bool := List.rec (motive := fun _ => Bool) true (fun v _ ih => belowV nx v && ih) l
noncomputable def belowE (nx : Nat) (l : List MEnt) : Bool := List.rec (motive := fun _ => Bool) true (fun e _ ih => belowV nx e.key && belowV nx e.val && ih) l
noncomputable def belowO (nx : Nat) : AObj → Bool
  | .cells c _ => belowL nx c
  | .map es _ => belowE nx es
  | .miter m _ _ _ => below1 nx (.map m)
  | .siter _ _ => true
  | .opq _ => false
theorem below1_vr {nx : Nat} {v : Value} (h : below1 nx v = true) : VR (· < nx) id v v := by
  unfold below1 at h
  split at h
  · exact .bool _
  · exact .int _ _
  · exact .string _
  · exact .ptrNil
  · exact .slNil _ _
  · exact .mapNil
  · exact .nilFunc
  · exact .nilIface
  · exact .ptr _ _ (blt_lt h)
  · exact .slEx _ _ _ _ (blt_lt h)
  · exact .slGr _ _ _ _ _ (blt_lt h)
  · exact .slEmp
  · exact .map _ (blt_lt h)
  · cases h
theorem below1L_get {nx : Nat} : ∀ {l : List Value}, below1L nx l = true → ∀ {i : Nat} {v : Value}, l[i]? = some v → below1 nx v = true
  | [], _, i, v, h => by simp at h
  | x :: l, ha, i, v, h => by
    have ha : (below1 nx x && below1L nx l) = true := ha
    rw [Bool.and_eq_true] at ha
    cases i with
    | zero => simp at h; rw [← h]; exact ha.1
    | succ i => simp at h; exact below1L_get ha.2 h
theorem belowV_vr {nx : Nat} {v : Value} (h : belowV nx v = true) : VR (· < nx) id v v := by
  unfold belowV at h
  split at h
  · rename_i a
    refine .agg a a rfl (fun i v v' hv hv' => ?_)
    rw [hv] at hv'; cases hv'
    exact below1_vr (below1L_get h (i := i) (by simpa using hv))
  · rename_i f a b
    rw [Bool.and_eq_true] at h
    refine .func f a b a b rfl rfl (fun i v v' hv hv' => ?_) (fun i v v' hv hv' => ?_)
    · rw [hv] at hv'; cases hv'
      exact below1_vr (below1L_get h.1 (i := i) (by simpa using hv))
    · rw [hv] at hv'; cases hv'
      exact below1_vr (below1L_get h.2 (i := i) (by simpa using hv))
  · rename_i a
    refine .tuple a a rfl (fun i v v' hv hv' => ?_)
    rw [hv] at hv'; cases hv'
    exact below1_vr (below1L_get h (i := i) (by simpa using hv))
  · exact below1_vr h
theorem belowL_vr {nx : Nat} : ∀ {l : List Value}, belowL nx l = true → All2 (VR (· < nx) id) l l
  | [], _ => .nil
  | x :: l, ha => by
    have ha : (belowV nx x && belowL nx l) = true := ha
    rw [Bool.and_eq_true] at ha
    exact .cons (belowV_vr ha.1) (belowL_vr ha.2)
theorem belowE_vr {nx : Nat} : ∀ {l : List MEnt}, belowE nx l = true → All2 (fun e e2 => VR (· < nx) id e.key e2.key ∧ VR (· < nx) id e.val e2.val ∧ e.born = e2.born) l l
  | [], _ => .nil
  | x :: l, ha => by
    have ha : (belowV nx x.key && belowV nx x.val && belowE nx l) = true := ha
    rw [Bool.and_eq_true, Bool.and_eq_true] at ha
    exact .cons ⟨belowV_vr ha.1.1, belowV_vr ha.1.2, rfl⟩ (belowE_vr ha.2)
theorem belowO_or {nx : Nat} {o : AObj} (h : belowO nx o = true) : OR (· < nx) id o o := by
  cases o with
  | cells c k => exact .cells (belowL_vr h)
  | map es clock => exact .map (belowE_vr h)
  | miter m since seen stepped => exact .miter (below1_vr h)
  | siter s pos => exact .siter s pos
  | opq k => cases h
/-- a heap whose names all lie below its next one -/
noncomputable def closedH (h : Heap) : Bool := h.tab.all fun n o => Nat.blt n h.next && belowO h.next o
theorem closedH_obj {h : Heap} (hc : closedH h = true) {n : Nat} {o : AObj} (hg : h.get n = some o) : n < h.next ∧ OR (· < h.next) id o o := by
  have := Tr.all_get hc hg
  rw [Bool.and_eq_true] at this
  exact ⟨blt_lt this.1, belowO_or this.2⟩

/-! ### the same objects -/
/-- so many names of the one heap are in the other one, as they were -/
structure Sub (H h : Heap) : Prop where
  obj : ∀ n o, H.get n = some o → h.get n = some o
  next : H.next ≤ h.next
theorem Sub.refl (h : Heap) : Sub h h := ⟨fun _ _ e => e, Nat.le_refl _⟩
theorem Sub.trans {a b c : Heap} (h : Sub a b) (h' : Sub b c) : Sub a c := ⟨fun n o e => h'.obj n o (h.obj n o e), Nat.le_trans h.next h'.next⟩
theorem Sub.within {H h : Heap} (S : Sub H h) (hc : closedH H = true) : Within id H h :=
  ⟨fun n o e => ⟨(closedH_obj hc e).1, o, S.obj n o e, (closedH_obj hc e).2⟩, fun _ _ _ _ e => e, fun n hn => Nat.lt_of_lt_of_le hn S.next⟩
/-- a call that leaves the small heap as it was, and whose outcome has no names: in any larger heap it leaves all as it was -/
theorem CS.still (hX : X.local) {f : FuncId} {args : List Value} {H h : Heap} {Q : Value → Heap → Prop} {Q' : Value → Prop} (C : CS P X f args H Q) (hc : closedH H = true) (hargs : belowL H.next args = true) (S : Sub H h)
    (hq : ∀ v H', Q v H' → Q' v ∧ plainV v = true ∧ ∀ n o, H.get n = some o → H'.get n = some o) : CS P X f args h (fun v h' => Q' v ∧ h' = h) := by
  refine CS.lift hX C (belowL_vr hargs) (S.within hc) (fun v H' q => ?_)
  obtain ⟨q', hp, hk⟩ := hq v H' q
  refine ⟨v, h, id, fun _ => False, ⟨q', rfl⟩, ⟨fun _ _ => rfl, fun _ h => h.elim, fun _ _ h => h.elim, ?_, ?_, Nat.le_refl _⟩⟩
  · unfold plainV at hp
    split at hp
    · exact .bool _
    · exact .int _ _
    · exact .string _
    · exact .ptrNil
    · exact .slNil _ _
    · exact .mapNil
    · exact .nilFunc
    · exact .nilIface
    · cases hp
  · intro m o2 hg
    cases hH : H.get m with
    | none => exact .inr ⟨hg, fun n hn e => by
        have e : n = m := e
        subst e
        unfold Heap.live at hn
        rw [hH] at hn
        cases hn⟩
    | some o =>
      obtain ⟨hlt, hor⟩ := closedH_obj hc hH
      have : o = o2 := by have := S.obj m o hH; rw [hg] at this; cases this; rfl
      subst this
      have hmono : ∀ {v v2 : Value}, VR (· < H.next) id v v2 → VR (fun n => n < H.next ∨ False) id v v2 := fun h => by
        have he : (fun n => n < H.next ∨ False) = (· < H.next) := by funext n; simp
        rw [he]; exact h
      refine .inl ⟨m, o, .inl hlt, rfl, hk m o hH, ?_⟩
      have he : (fun n => n < H.next ∨ False) = (· < H.next) := by funext n; simp
      rw [he]; exact hor
end Go.AM

/- Are two objects the same? computed. -/
namespace Go.AM
variable {P : Program} {X : Opq} {ty : Ty}
def sameKi : Kind → Kind → Bool
  | .var, .var => true
  | .row, .row => true
  | .grown a, .grown b => Nat.beq a b
  | _, _ => false
theorem sameKi_eq {a b : Kind} (h : sameKi a b = true) : a = b := by
  unfold sameKi at h
  split at h
  · rfl
  · rfl
  · rw [Nat.eq_of_beq_eq_true h]
  · cases h
/-- functions too, with what they have caught -/
def sameF : Value → Value → Bool
  | .func (.func f) a b, .func (.func g) c d => Nat.beq f g && sameLW a.toList c.toList && sameLW b.toList d.toList
  | a, b => sameW a b
theorem sameF_eq {a b : Value} (h : sameF a b = true) : a = b := by
  unfold sameF at h
  split at h
  · simp only [Bool.and_eq_true] at h
    rw [Nat.eq_of_beq_eq_true h.1.1, Array.ext' (sameLW_eq h.1.2), Array.ext' (sameLW_eq h.2)]
  · exact sameW_eq h
def sameFL : List Value → List Value → Bool
  | [], [] => true
  | a :: s, b :: t => sameF a b && sameFL s t
  | _, _ => false
theorem sameFL_eq : ∀ {a b : List Value}, sameFL a b = true → a = b
  | [], [], _ => rfl
  | a :: s, b :: t, h => by
    simp only [sameFL, Bool.and_eq_true] at h
    rw [sameF_eq h.1, sameFL_eq h.2]
  | [], _ :: _, h => by cases h
  | _ :: _, [], h => by cases h
def sameEL : List MEnt → List MEnt → Bool
  | [], [] => true
  | a :: s, b :: t => sameF a.key b.key && sameF a.val b.val && Nat.beq a.born b.born && sameEL s t
  | _, _ => false
theorem sameEL_eq : ∀ {a b : List MEnt}, sameEL a b = true → a = b
  | [], [], _ => rfl
  | ⟨k, v, n⟩ :: s, ⟨k', v', n'⟩ :: t, h => by
    simp only [sameEL, Bool.and_eq_true] at h
    rw [sameF_eq h.1.1.1, sameF_eq h.1.1.2, Nat.eq_of_beq_eq_true h.1.2, sameEL_eq h.2]
  | [], _ :: _, h => by cases h
  | _ :: _, [], h => by cases h
def sameO : AObj → AObj → Bool
  | .cells a k, .cells b j => sameKi k j && sameFL a b
  | .map a c, .map b d => Nat.beq c d && sameEL a b
  | .siter s p, .siter u q => eqStr s u && Nat.beq p q
  | _, _ => false
theorem sameO_eq {a b : AObj} (h : sameO a b = true) : a = b := by
  unfold sameO at h
  split at h
  · rw [Bool.and_eq_true] at h
    rw [sameKi_eq h.1, sameFL_eq h.2]
  · rw [Bool.and_eq_true] at h
    rw [Nat.eq_of_beq_eq_true h.1, sameEL_eq h.2]
  · rw [Bool.and_eq_true] at h
    have h1 := sameS_eq (a := .string _) (b := .string _) h.1
    cases h1
    rw [Nat.eq_of_beq_eq_true h.2]
  · cases h
/-- all that the one heap has the other one has -/
noncomputable def subH (H h : Heap) : Bool := H.tab.all fun n o => match h.get n with
  | some p => sameO o p
  | none => false
theorem subH_get {H h : Heap} (hs : subH H h = true) : ∀ n o, H.get n = some o → h.get n = some o := by
  intro n o e
  have := Tr.all_get hs e
  split at this
  · rename_i p hp
    rw [hp, sameO_eq this]
  · cases this
/-- a call comes to just this, with a smaller heap behind it -/
noncomputable def comesTo (r : Option (Value × Heap)) (v : Value) (H : Heap) : Bool := match r with
  | some (u, h) => sameV u v && Nat.beq H.next h.next && subH H h
  | none => false
theorem CS.comes {cl : Call} (hcl : CallOk P X cl) {f : FuncId} {args : List Value} {h H : Heap} {v : Value} (hr : comesTo (cl f args h) v H = true) : CS P X f args h (fun v1 h1 => v1 = v ∧ h1 = H) := by
  unfold comesTo at hr
  split at hr
  · rename_i u g e
    simp only [Bool.and_eq_true] at hr
    refine (CS.of_call hcl e).drop fun v1 h1 ⟨e1, e2⟩ => ⟨H, ⟨e1.trans (sameV_eq hr.1.1), rfl⟩, fun n o hg => by rw [e2]; exact subH_get hr.2 n o hg, by rw [e2]; exact Nat.eq_of_beq_eq_true hr.1.2⟩
  · cases hr
/-- a call comes to a value without names, and leaves the heap's objects as they were -/
noncomputable def stays (r : Option (Value × Heap)) (v : Value) (H : Heap) : Bool := match r with
  | some (u, h) => sameV u v && plainV v && subH H h
  | none => false
theorem CS.stays (hX : X.local) {cl : Call} (hcl : CallOk P X cl) {f : FuncId} {args : List Value} {h H : Heap} {v : Value} (hc : closedH H = true) (hargs : belowL H.next args = true) (S : Sub H h) (hr : stays (cl f args H) v H = true) :
    CS P X f args h (fun v1 h1 => v1 = v ∧ h1 = h) := by
  unfold AM.stays at hr
  split at hr
  · rename_i u g e
    simp only [Bool.and_eq_true] at hr
    refine CS.still (Q' := fun v1 => v1 = v) hX (CS.of_call hcl e) hc hargs S fun v1 h1 ⟨e1, e2⟩ => ?_
    have hu := sameV_eq hr.1.1
    refine ⟨e1.trans hu, by rw [e1, hu]; exact hr.1.2, fun n o hg => ?_⟩
    rw [e2]
    exact subH_get hr.2 n o hg
  · cases hr
/-- a call of a function by its name -/
theorem RegS.callF (F : PF P ty) (hd : kdepth ≤ P.depth) (hX : X.local) {nt base : Nat} {b : BOper} {l : List BOper} {T : Tr Value} {h : Heap} {Q : Tr Value → Heap → Prop} {args : List Opd} {g : FuncId} {argv : List Value} {Q1 : Value → Heap → Prop} (hw : wantedA T b.guard = true) (hop : b.op = .call (.func g) args)
    (hargs : args.map (evA T) = argv) (hC : CS P X g argv h Q1) (C : ∀ v h', Q1 v h' → RegS P X ty nt base l (putA T b.dst v) h' Q) : RegS P X ty nt base (b :: l) T h Q :=
  RegS.call (first := #[]) (captured := #[]) F hd hX hw hop rfl (by
    rw [show (#[] : Array Value).toList ++ args.map (evA T) ++ (#[] : Array Value).toList = argv from by rw [hargs]; simp]
    exact hC) C
end Go.AM

/- Short words for printed tables. -/
namespace Go.AM.Sh
def t (n : Nat) : Operand := .tmp n
def k (n : Int) : Operand := .const (.int .i64 n)
def kb (b : Bool) : Operand := .const (.bool b)
def ks (l : List UInt8) : Operand := .const (.string ⟨⟨l⟩⟩)
def kp : Operand := .const (.pointer none)
def kl : Operand := .const (.slice none 0 0)
def km : Operand := .const (.map none)
def s (f : SF) : Act1 := .simp false f
def l (f : SF) : Act1 := .simp true f
def mv (n : Nat) : Act1 := .simp false (sMov (.tmp n))
noncomputable def ld (agg : Bool) (n b : Nat) : Act1 := .simp true (sLoad agg n (.tmp b))
def nc (b : Nat) : Act1 := .simp false (sNilc (.tmp b))
def fa (off b : Nat) : Act1 := .simp false (sFld off (.tmp b))
noncomputable def ex (b i : Nat) : Act1 := .simp false (sExt (.tmp b) i)
def o (i d : Nat) (a : Act1) : BOper := ⟨i, some d, none, a, 0⟩
def n (i : Nat) (a : Act1) : BOper := ⟨i, none, none, a, 0⟩
def g (i d j : Nat) (w : Bool) (a : Act1) : BOper := ⟨i, some d, some (j, w), a, 0⟩
end Go.AM.Sh

