/- The other operations, but calls: maps. -/
import Derived.Test.YtcnldppfncojkaaGreatDoorAmA
namespace Go.AM
variable {P : Program} {X : Opq} {ι : Emb} {ow : Own} {h : Heap} {w : World} {nm : Nat} {ea er : Operand → Value} {v : Value} {ob : Option AObj} {o : Oper} {h' : Heap}

theorem sameKS_spec {a b a' b' : Value} (ha : VRel ι a a') (hb : VRel ι b b') (h : sameKS a b = true) (n : Nat) : Instr.sameBits n b' a' = true := by
  unfold sameKS at h
  split at h
  · cases ha; cases hb
    rw [beq_iff_eq] at h
    subst h
    cases n <;> simp [Instr.sameBits]
  · cases ha; cases hb
    rw [Bool.and_eq_true] at h
    cases eqK_eq.1 h.1
    have h2 := h.2
    rw [eqI_eq] at h2
    rw [beq_iff_eq] at h2
    subst h2
    cases n <;> simp [Instr.sameBits]
  · cases ha; cases hb
    rename_i s t
    have : s = t := by
      rw [eqStr_eq] at h
      cases s; cases t; rename_i s t; cases s; cases t
      simpa using h
    subst this
    cases s
    cases n <;> simp [Instr.sameBits, bytes_beq]
  · cases h
theorem sameKL_spec {n : Nat} : ∀ {a b a' b' : List Value}, LRel ι a a' → LRel ι b b' → sameKL a b = true → b'.length = a'.length ∧ (b'.zip a').all (fun (x, y) => Instr.sameBits n x y) = true
  | _, _, _, _, .nil, .nil, _ => ⟨rfl, rfl⟩
  | _, _, _, _, .nil, .cons _ _, h => by cases h
  | _, _, _, _, .cons _ _, .nil, h => by cases h
  | _, _, _, _, .cons ha hs, .cons hb ht, h => by
    simp only [sameKL, Bool.and_eq_true] at h
    obtain ⟨h1, h2⟩ := sameKL_spec (n := n) hs ht h.2
    refine ⟨by simp [h1], ?_⟩
    simp only [List.zip_cons_cons, List.all_cons, Bool.and_eq_true]
    exact ⟨sameKS_spec ha hb h.1 n, h2⟩
theorem sameK_spec {a b a' b' : Value} (ha : VRel ι a a') (hb : VRel ι b b') (h : sameK a b = true) : Instr.sameBits 10000 b' a' = true := by
  unfold sameK at h
  split at h
  · cases ha with
    | agg _ a' ha ra =>
    cases hb with
    | agg _ b' hb rb =>
      obtain ⟨h1, h2⟩ := sameKL_spec (n := 9999) (LRel.of_arr ha ra) (LRel.of_arr hb rb) h
      show Instr.sameBits (9999 + 1) _ _ = true
      simp only [Instr.sameBits, Bool.and_eq_true, beq_iff_eq]
      exact ⟨by simpa using h1, h2⟩
  · exact sameKS_spec ha hb h _
theorem keyStays {a b a' b' : Value} (ha : VRel ι a a') (hb : VRel ι b b') (h : sameK a b = true) (w : World) : (Instr.keyThatStays b' a').run P w = .ok a' w := by
  simp [Instr.keyThatStays, sameK_spec ha hb h]
/-- an entry that turns -/
theorem setE_rel : ∀ {es : List MEnt} {es' : List MapEntry} {i : Nat} {e : MEnt} {g : MapEntry → MapEntry}, All2 (ERel ι) es es' → (∀ x, es'[i]? = some x → ERel ι e (g x)) → All2 (ERel ι) (setE es i e) (es'.modify i g)
  | _, _, i, _, _, .nil, _ => by
    have : List.modify ([] : List MapEntry) i ‹_› = [] := by simp
    rw [this]; exact .nil
  | _, _, 0, e, g, .cons ha hs, hg => by
    simp only [setE, List.modify_zero_cons]
    exact .cons (hg _ rfl) hs
  | _, _, i + 1, e, g, .cons ha hs, hg => by
    simp only [setE, List.modify_succ_cons]
    exact .cons ha (setE_rel hs (fun x hx => hg x (by simpa using hx)))
theorem delE_rel : ∀ {es : List MEnt} {es' : List MapEntry} {i : Nat}, All2 (ERel ι) es es' → All2 (ERel ι) (delE es i) (es'.eraseIdx i)
  | _, _, i, .nil => by simp [delE]; exact .nil
  | _, _, 0, .cons ha hs => hs
  | _, _, i + 1, .cons ha hs => by
    simp only [delE, List.eraseIdx_cons_succ]
    exact .cons ha (delE_rel hs)
/-- a map that turns -/
theorem HOk.map (hX : X.local) (H : HRel X ι ow h w) {n : Nat} {l : Loc} {es es2 : List MEnt} {c c2 : Nat} (hl : ι n = some l) (hg : h.get n = some (.map es c)) {es2' : Array MapEntry} (he : All2 (ERel ι) es2 es2'.toList)
    {v v' : Value} (hv : VRel ι v v') {nx : Next} (hnx : nextV nx = some v') : HOk X ι ow h w v (h.set n (.map es2 c2)) (.ok nx (World.setB w l.blk (.map es2' c2))) := by
  obtain ⟨hown, es', h1, h2⟩ := H.map hl hg
  exact HOk.setB (p' := .map es2 c2) (ob := .map es2' c2) hX H hg hl hown ⟨hown, es2', setB_get h1, he⟩ hv hnx
theorem ok_mset {ty : Ty} (F : PF P ty) (hX : X.local) (H : HRel X ι ow h w) {t kt e : Nat} {i : TyI} (f : TF P t i) (hu : i.under = .map kt e) {kk : KT} (hk : keyT ty kdepth kt = some kk) {m k x : Operand}
    (ho : o.op = .mapUpdate t m k x ∨ o.op = .insert t m k x) (E : EvRel ι ea er o.op.operands) (hs : hMset kk m k x ea h = some (v, h')) : HOk X ι ow h w v h' ((execOp er o).run P w) := by
  have hm : VRel ι (ea m) (er m) := by rcases ho with ho | ho <;> exact E m (by rw [ho]; simp [Op.operands])
  have hkk : VRel ι (ea k) (er k) := by rcases ho with ho | ho <;> exact E k (by rw [ho]; simp [Op.operands])
  have hx : VRel ι (ea x) (er x) := by rcases ho with ho | ho <;> exact E x (by rw [ho]; simp [Op.operands])
  have hex : execOp er o = (do Instr.mapUpdate t (er m) (er k) (er x); pure Next.skip) := by rcases ho with ho | ho <;> simp only [execOp, ho]
  rw [hex]
  simp only [hMset] at hs
  generalize ea m = a1 at *
  generalize er m = a2 at *
  cases hm with
  | map n l hl =>
    dsimp only at hs
    cases hg : h.get n with
    | none => rw [hg] at hs; cases hs
    | some p =>
      cases p with
      | map es clock =>
        cases he : eqS kk (ea k) (ea k) with
        | none => rw [hg, he] at hs; cases hs
        | some r =>
          rw [hg, he] at hs
          dsimp only at hs
          obtain ⟨_, es', h1, h2⟩ := H.map hl hg
          cases hf : find kk (ea k) es 0 with
          | none => rw [hf] at hs; cases hs
          | some q =>
            rw [hf] at hs
            obtain ⟨q', h3, h4⟩ := findKey_sound (w := w) F hk hkk h2 hf
            cases q with
            | none =>
              cases hs
              cases h3
              have hr : (Instr.mapUpdate t (.map (some l.blk)) (er k) (er x)).run P w = .ok () (World.setB w l.blk (.map (es'.push { key := er k, val := er x, born := clock }) (clock + 1))) := by
                simp only [Instr.mapUpdate, Sem.run_bind, f.under, hu, Result.andThen_ok, getObj_map h1, checkKey_sound F hk hkk he, h4, setObj_map h1]
              rw [run_u hr]
              exact HOk.map hX H hl hg (by rw [Array.toList_push]; exact All2.snoc h2 ⟨hkk, hx, rfl⟩) (VRel.undef ι) rfl
            | some q =>
              obtain ⟨j, e0⟩ := q
              dsimp only at hs
              obtain ⟨_, h6, e', h7, h5, rfl⟩ := h3
              cases hsk : sameK (ea k) e0.key with
              | false => rw [hsk] at hs; cases hs
              | true =>
                rw [hsk] at hs; cases hs
                have h7' : es'[j]? = some e' := by simpa using h7
                have hr : (Instr.mapUpdate t (.map (some l.blk)) (er k) (er x)).run P w = .ok () (World.setB w l.blk (.map (es'.modify j fun e => { e with key := er k, val := er x }) clock)) := by
                  simp only [Instr.mapUpdate, Sem.run_bind, f.under, hu, Result.andThen_ok, getObj_map h1, checkKey_sound F hk hkk he, h4, h7', Option.map_some, Option.getD_some, keyStays hkk h5.1 hsk, setObj_map h1]
                rw [run_u hr]
                refine HOk.map hX H hl hg ?_ (VRel.undef ι) rfl
                rw [Array.toList_modify]
                refine setE_rel h2 (fun y hy => ?_)
                have : y = e' := by rw [show es'.toList[j]? = some e' by simpa using h7'] at hy; exact (Option.some.inj hy).symm
                subst this
                exact ⟨hkk, hx, h5.2.2⟩
      | _ => rw [hg] at hs; cases hs
  | _ => cases hs
theorem ok_ment {ty : Ty} (F : PF P ty) (hX : X.local) (H : HRel X ι ow h w) {t kt e : Nat} {i ei : TyI} (f : TF P t i) (hu : i.under = .map kt e) (fe : TF P e ei) {kk : KT} (hk : keyT ty kdepth kt = some kk) {m k : Operand}
    (ho : o.op = .mapEntry t m k) (E : EvRel ι ea er o.op.operands) (hs : hMent kk ei.zero m k ea h = some (v, h')) : HOk X ι ow h w v h' ((execOp er o).run P w) := by
  have hm : VRel ι (ea m) (er m) := E m (by rw [ho]; simp [Op.operands])
  have hkk : VRel ι (ea k) (er k) := E k (by rw [ho]; simp [Op.operands])
  simp only [execOp, ho]
  simp only [hMent] at hs
  have hz : VRel ι ei.zero ei.zero := VRel.closedW fe.cl
  generalize ea m = a1 at *
  generalize er m = a2 at *
  cases hm with
  | map n l hl =>
    dsimp only at hs
    cases hg : h.get n with
    | none => rw [hg] at hs; cases hs
    | some p =>
      cases p with
      | map es clock =>
        cases he : eqS kk (ea k) (ea k) with
        | none => rw [hg, he] at hs; cases hs
        | some r =>
          rw [hg, he] at hs
          dsimp only at hs
          obtain ⟨_, es', h1, h2⟩ := H.map hl hg
          cases hf : find kk (ea k) es 0 with
          | none => rw [hf] at hs; cases hs
          | some q =>
            rw [hf] at hs
            obtain ⟨q', h3, h4⟩ := findKey_sound (w := w) F hk hkk h2 hf
            cases q with
            | none =>
              cases hs
              cases h3
              have hr : (Instr.mapEntry t (.map (some l.blk)) (er k)).run P w = .ok (.tuple #[ei.zero, goInt clock]) (World.setB w l.blk (.map (es'.push { key := er k, val := ei.zero, born := clock }) (clock + 1))) := by
                simp only [Instr.mapEntry, Sem.run_bind, f.under, hu, Result.andThen_ok, getObj_map h1, checkKey_sound F hk hkk he, h4, setObj_map h1, fe.zero, Sem.run_pure]
              rw [run_v hr]
              exact HOk.map hX H hl hg (by rw [Array.toList_push]; exact All2.snoc h2 ⟨hkk, hz, rfl⟩) (VRel.mkTuple (.cons hz (.cons (.int _ _) .nil))) rfl
            | some q =>
              obtain ⟨j, e0⟩ := q
              dsimp only at hs
              obtain ⟨_, h6, e', h7, h5, rfl⟩ := h3
              cases hsk : sameK (ea k) e0.key with
              | false => rw [hsk] at hs; cases hs
              | true =>
                rw [hsk] at hs; cases hs
                have h7' : es'[j]? = some e' := by simpa using h7
                have hr : (Instr.mapEntry t (.map (some l.blk)) (er k)).run P w = .ok (.tuple #[e'.val, goInt e'.born]) (World.setB w l.blk (.map (es'.modify j fun e => { e with key := er k }) clock)) := by
                  simp only [Instr.mapEntry, Sem.run_bind, f.under, hu, Result.andThen_ok, getObj_map h1, checkKey_sound F hk hkk he, h4, h7', Option.map_some, Option.getD_some, keyStays hkk h5.1 hsk, setObj_map h1, Sem.run_pure]
                rw [run_v hr]
                refine HOk.map hX H hl hg ?_ (VRel.mkTuple (.cons h5.2.1 (.cons (by rw [h5.2.2]; exact .int _ _) .nil))) rfl
                rw [Array.toList_modify]
                refine setE_rel h2 (fun y hy => ?_)
                have : y = e' := by rw [show es'.toList[j]? = some e' by simpa using h7'] at hy; exact (Option.some.inj hy).symm
                subst this
                exact ⟨hkk, h5.2.1, h5.2.2⟩
      | _ => rw [hg] at hs; cases hs
  | _ => cases hs
theorem findB_spec (b : Nat) : ∀ (es : List MEnt) (es' : List MapEntry) (n : Nat), All2 (ERel ι) es es' → match findB b es n with
    | none => es'.findIdx? (fun e => (e.born : Int) == (b : Int)) = none ∧ es'.find? (·.born == b) = none
    | some (j, e) => n ≤ j ∧ ∃ e', es'[j - n]? = some e' ∧ ERel ι e e' ∧ es'.findIdx? (fun e => (e.born : Int) == (b : Int)) = some (j - n) ∧ es'.find? (·.born == b) = some e'
  | _, _, n, .nil => by simp [findB]
  | _, _, n, .cons (a := e) (b := e') (s := es) (t := es') ha hs => by
    unfold findB
    have hb := ha.2.2
    cases h : Nat.beq e.born b with
    | true =>
      have hb2 : e'.born = b := by rw [← hb]; exact Nat.eq_of_beq_eq_true h
      simp [hb2, ha, List.findIdx?_cons]
    | false =>
      have hb2 : ¬ e'.born = b := by rw [← hb]; intro e; rw [e, beq_same] at h; cases h
      have hb3 : (e'.born == b) = false := by simp [hb2]
      have ih := findB_spec b es es' (n + 1) hs
      dsimp only
      cases hf : findB b es (Nat.succ n) with
      | none =>
        rw [show Nat.succ n = n + 1 from rfl] at hf
        rw [hf] at ih
        dsimp only at ih ⊢
        refine ⟨?_, ?_⟩
        · rw [List.findIdx?_cons, ih.1]; simp; omega
        · rw [List.find?_cons, hb3]; exact ih.2
      | some p =>
        obtain ⟨j, e0⟩ := p
        rw [show Nat.succ n = n + 1 from rfl] at hf
        rw [hf] at ih
        dsimp only at ih ⊢
        obtain ⟨h1, e'', h2, h3, h4, h5⟩ := ih
        have e1 : j - n = j - (n + 1) + 1 := by omega
        refine ⟨by omega, e'', by rw [e1]; simpa using h2, h3, ?_, ?_⟩
        · rw [List.findIdx?_cons, h4, e1]; simp; omega
        · rw [List.find?_cons, hb3]; exact h5
theorem ok_esto (hX : X.local) (H : HRel X ι ow h w) {t : Nat} {m s x : Operand}
    (ho : o.op = .entryStore t m s x) (E : EvRel ι ea er o.op.operands) (hs : hEsto m s x ea h = some (v, h')) : HOk X ι ow h w v h' ((execOp er o).run P w) := by
  have hm : VRel ι (ea m) (er m) := E m (by rw [ho]; simp [Op.operands])
  have hst : VRel ι (ea s) (er s) := E s (by rw [ho]; simp [Op.operands])
  have hx : VRel ι (ea x) (er x) := E x (by rw [ho]; simp [Op.operands])
  simp only [execOp, ho]
  simp only [hEsto] at hs
  generalize ea m = a1 at *
  generalize er m = a2 at *
  generalize ea s = b1 at *
  generalize er s = b2 at *
  cases hm with
  | map n l hl =>
    cases hst with
    | int k b => cases b with
      | negSucc b => cases hs
      | ofNat b =>
        dsimp only at hs
        cases hg : h.get n with
        | none => rw [hg] at hs; cases hs
        | some p =>
          rw [hg] at hs
          cases p with
          | map es clock =>
            dsimp only at hs
            obtain ⟨_, es', h1, h2⟩ := H.map hl hg
            have h3 := findB_spec b es es'.toList 0 h2
            cases hf : findB b es 0 with
            | none => rw [hf] at hs; cases hs
            | some p =>
              obtain ⟨j, e⟩ := p
              rw [hf] at hs h3
              dsimp only at hs h3
              cases hs
              obtain ⟨_, e', h4, h5, h6, h7⟩ := h3
              have h6' : es'.findIdx? (fun e => (e.born : Int) == (Int.ofNat b)) = some j := by
                have e : es' = es'.toList.toArray := by simp
                rw [e, List.findIdx?_toArray]; simpa using h6
              have hr : (Instr.entryStore t (.map (some l.blk)) (.int k (Int.ofNat b)) (er x)).run P w = .ok () (World.setB w l.blk (.map (es'.modify j fun e => { e with val := er x }) clock)) := by
                simp only [Instr.entryStore, Sem.run_bind, getObj_map h1, Result.andThen_ok, asInt, asIntOf_run, Sem.run_pure, h6', setObj_map h1]
              rw [run_u hr]
              refine HOk.map hX H hl hg ?_ (VRel.undef ι) rfl
              rw [Array.toList_modify]
              refine setE_rel h2 (fun y hy => ?_)
              have : y = e' := by rw [show es'.toList[j]? = some e' by simpa using h4] at hy; exact (Option.some.inj hy).symm
              subst this
              exact ⟨h5.1, hx, h5.2.2⟩
          | _ => cases hs
    | _ => cases hs
  | _ => cases hs
theorem HOk.mapSame (H : HRel X ι ow h w) {n : Nat} {l : Loc} {es : List MEnt} {c : Nat} (hl : ι n = some l) (hg : h.get n = some (.map es c)) {es' : Array MapEntry} (h1 : w.heap[l.blk]? = some (.map es' c))
    {v v' : Value} (hv : VRel ι v v') {nx : Next} (hnx : nextV nx = some v') : HOk X ι ow h w v h (.ok nx (World.setB w l.blk (.map es' c))) := by
  rw [setB_self h1]; exact HOk.val H hv hnx
theorem ok_del {ty : Ty} (F : PF P ty) (hX : X.local) (H : HRel X ι ow h w) {t kt e : Nat} {i : TyI} (f : TF P t i) (hu : i.under = .map kt e) {kk : KT} (hk : keyT ty kdepth kt = some kk) {m k : Operand} {ts : Array TypeId} (hts : ts[0]? = some t)
    (ho : o.op = .call { callee := .builtin .delete, args := #[m, k], argTypes := ts }) (E : EvRel ι ea er o.op.operands) (hs : hDel kk m k ea h = some (v, h')) : HOk X ι ow h w v h' ((execOp er o).run P w) := by
  have hm : VRel ι (ea m) (er m) := E m (by rw [ho]; simp [Op.operands, Call.operands])
  have hkk : VRel ι (ea k) (er k) := E k (by rw [ho]; simp [Op.operands, Call.operands])
  rw [exec_builtin ho]
  simp only [builtin, List.map_toArray, List.map_cons, List.map_nil]
  simp only [hDel] at hs
  have hun : VRel ι undef (.tuple #[]) := VRel.undef ι
  generalize ea m = a1 at *
  generalize er m = a2 at *
  cases hm with
  | mapNil =>
    dsimp only at hs
    cases he : eqS kk (ea k) (ea k) with
    | none => rw [he] at hs; cases hs
    | some r =>
      rw [he] at hs; cases hs
      have hr : (Builtin.delete_ ts o.type #[.map none, er k]).run P w = .ok (.tuple #[]) w := by
        simp [Builtin.delete_, hts, f.under, hu, checkKey_sound F hk hkk he]
      rw [run_v hr]
      exact HOk.val H hun rfl
  | map n l hl =>
    dsimp only at hs
    cases hg : h.get n with
    | none => rw [hg] at hs; cases hs
    | some p =>
      cases p with
      | map es clock =>
        cases he : eqS kk (ea k) (ea k) with
        | none => rw [hg, he] at hs; cases hs
        | some r =>
          rw [hg, he] at hs
          dsimp only at hs
          obtain ⟨_, es', h1, h2⟩ := H.map hl hg
          cases hf : find kk (ea k) es 0 with
          | none => rw [hf] at hs; cases hs
          | some q =>
            rw [hf] at hs
            obtain ⟨q', h3, h4⟩ := findKey_sound (w := w) F hk hkk h2 hf
            cases q with
            | none =>
              cases hs
              cases h3
              have hr : (Builtin.delete_ ts o.type #[.map (some l.blk), er k]).run P w = .ok (.tuple #[]) (World.setB w l.blk (.map es' clock)) := by
                simp [Builtin.delete_, hts, f.under, hu, getObj_map h1, checkKey_sound F hk hkk he, h4, setObj_map h1]
              rw [run_v hr]
              exact HOk.mapSame H hl hg h1 hun rfl
            | some q =>
              obtain ⟨j, e0⟩ := q
              cases hs
              obtain ⟨_, h6, e', h7, h5, rfl⟩ := h3
              have hr : (Builtin.delete_ ts o.type #[.map (some l.blk), er k]).run P w = .ok (.tuple #[]) (World.setB w l.blk (.map (es'.eraseIdxIfInBounds j) clock)) := by
                simp [Builtin.delete_, hts, f.under, hu, getObj_map h1, checkKey_sound F hk hkk he, h4, setObj_map h1]
              rw [run_v hr]
              refine HOk.map hX H hl hg ?_ hun rfl
              rw [Array.toList_eraseIdxIfInBounds]
              exact delE_rel h2
      | _ => rw [hg] at hs; cases hs
  | _ => cases hs
end Go.AM

/- The other operations, but calls: ranges. -/
namespace Go.AM
variable {P : Program} {X : Opq} {ι : Emb} {ow : Own} {h : Heap} {w : World} {nm : Nat} {ea er : Operand → Value} {v : Value} {ob : Option AObj} {o : Oper} {h' : Heap}

theorem upd_ext {n : Nat} {l : Loc} (hn : h.next ≤ n) (hi : ι n = none) : ι.ext (upd ι n l) h.next := ⟨upd_le hi, fun m hm => upd_ne ι l (by omega)⟩
/-- an object is made -/
theorem HOk.new (hX : X.local) (H : HRel X ι ow h w) {p : AObj} {l : Loc} {w' : World} {obj : Obj} (hw : w'.heap = w.heap.push obj) (hos : w'.os = w.os) (hout : w'.output = w.output)
    (ho : ORel X (upd ι h.next l) w' l (fun b => b = w.heap.size) p) {v v' : Value} (hv : VRel (upd ι h.next l) v v') {nx : Next} (hnx : nextV nx = some v') :
    HOk X ι ow h w v (h.new p) (.ok nx w') := by
  have hi : ι h.next = none := H.low _ (Nat.le_refl _)
  have hg : ∀ m, (h.new p).get m = if h.next = m then some p else h.get m := fun m => Heap.get_new h m p
  have hnx2 : (h.new p).next = h.next + 1 := rfl
  exact ⟨nx, v', w', _, _, rfl, hnx, upd_ext (Nat.le_refl _) hi, hv, HRel.add hX H hi hw hg (by omega) (by omega) ho, Fr.add hw hos hout hg (Nat.le_refl _) (by omega)⟩
theorem ok_rangem (hX : X.local) (H : HRel X ι ow h w) {t kt e : Nat} {i : TyI} (f : TF P t i) (hu : i.under = .map kt e) {x : Operand}
    (ho : o.op = .range t x) (E : EvRel ι ea er o.op.operands) (hs : hRangem x ea h = some (v, h')) : HOk X ι ow h w v h' ((execOp er o).run P w) := by
  have hx : VRel ι (ea x) (er x) := E x (by rw [ho]; simp [Op.operands])
  simp only [execOp, ho]
  simp only [hRangem] at hs
  have hi : ι h.next = none := H.low _ (Nat.le_refl _)
  generalize ea x = a1 at *
  generalize er x = a2 at *
  cases hx with
  | mapNil =>
    cases hs
    have hr : (Instr.range t (.map none)).run P w = .ok (.pointer (some ⟨w.heap.size, 0, none⟩)) { w with heap := w.heap.push (.mapIter none 0 #[] 0) } := by
      simp [Instr.range, f.under, hu]
    rw [run_v hr]
    refine HOk.new (nx := .value (.pointer (some ⟨w.heap.size, 0, none⟩))) (v' := .pointer (some ⟨w.heap.size, 0, none⟩)) (w' := { w with heap := w.heap.push (.mapIter none 0 #[] 0) }) (l := ⟨w.heap.size, 0, 0, 0⟩) (obj := .mapIter none 0 #[] 0) hX H rfl rfl rfl ?_ (.ptr h.next 0 _ (upd_same _ _ _)) rfl
    exact ⟨fun b => Iff.rfl, rfl, none, by simp, .mapNil⟩
  | map n l hl =>
    dsimp only at hs
    cases hg : h.get n with
    | none => rw [hg] at hs; cases hs
    | some p =>
      rw [hg] at hs
      cases p with
      | map es clock =>
        cases hs
        obtain ⟨_, es', h1, h2⟩ := H.map hl hg
        have hr : (Instr.range t (.map (some l.blk))).run P w = .ok (.pointer (some ⟨w.heap.size, 0, none⟩)) { w with heap := w.heap.push (.mapIter (some l.blk) clock #[] clock) } := by
          simp [Instr.range, f.under, hu, getObj_map h1]
        rw [run_v hr]
        refine HOk.new (nx := .value (.pointer (some ⟨w.heap.size, 0, none⟩))) (v' := .pointer (some ⟨w.heap.size, 0, none⟩)) (w' := { w with heap := w.heap.push (.mapIter (some l.blk) clock #[] clock) }) (l := ⟨w.heap.size, 0, 0, 0⟩) (obj := .mapIter (some l.blk) clock #[] clock) hX H rfl rfl rfl ?_ (.ptr h.next 0 _ (upd_same _ _ _)) rfl
        exact ⟨fun b => Iff.rfl, rfl, some l.blk, by simp, .map n l (upd_le hi n l hl)⟩
      | _ => cases hs
  | _ => cases hs
theorem ok_ranges (hX : X.local) (H : HRel X ι ow h w) {t : Nat} {i : TyI} (f : TF P t i) (hu : i.under = .string) {x : Operand}
    (ho : o.op = .range t x) (E : EvRel ι ea er o.op.operands) (hs : hRanges x ea h = some (v, h')) : HOk X ι ow h w v h' ((execOp er o).run P w) := by
  have hx : VRel ι (ea x) (er x) := E x (by rw [ho]; simp [Op.operands])
  simp only [execOp, ho]
  simp only [hRanges] at hs
  generalize ea x = a1 at *
  generalize er x = a2 at *
  cases hx with
  | string s =>
    cases hs
    have hr : (Instr.range t (.string s)).run P w = .ok (.pointer (some ⟨w.heap.size, 0, none⟩)) { w with heap := w.heap.push (.stringIter s 0) } := by
      simp [Instr.range, f.under, hu]
    rw [run_v hr]
    refine HOk.new (nx := .value (.pointer (some ⟨w.heap.size, 0, none⟩))) (v' := .pointer (some ⟨w.heap.size, 0, none⟩)) (w' := { w with heap := w.heap.push (.stringIter s 0) }) (l := ⟨w.heap.size, 0, 0, 0⟩) (obj := .stringIter s 0) hX H rfl rfl rfl ?_ (.ptr h.next 0 _ (upd_same _ _ _)) rfl
    exact ⟨fun b => Iff.rfl, rfl, by simp⟩
  | _ => cases hs
theorem getObj_iter {w : World} {b : Nat} {m s n k} (hb : w.heap[b]? = some (.mapIter m s n k)) : (getObj b).run P w = .ok (.mapIter m s n k) w := by simp [getObj, Sem.run, hb]
theorem setObj_iter {w : World} {b : Nat} {m s n k} (hb : w.heap[b]? = some (.mapIter m s n k)) (ob : Obj) : (setObj b ob).run P w = .ok () (World.setB w b ob) := by simp [setObj, Sem.run, hb, World.setB]
theorem getObj_siter {w : World} {b : Nat} {s n} (hb : w.heap[b]? = some (.stringIter s n)) : (getObj b).run P w = .ok (.stringIter s n) w := by simp [getObj, Sem.run, hb]
theorem setObj_siter {w : World} {b : Nat} {s n} (hb : w.heap[b]? = some (.stringIter s n)) (ob : Obj) : (setObj b ob).run P w = .ok () (World.setB w b ob) := by simp [setObj, Sem.run, hb, World.setB]
theorem ok_nexts (hX : X.local) (H : HRel X ι ow h w) {x : Operand}
    (ho : o.op = .next x true) (E : EvRel ι ea er o.op.operands) (hs : hNexts x ea h = some (v, h')) : HOk X ι ow h w v h' ((execOp er o).run P w) := by
  have hx : VRel ι (ea x) (er x) := E x (by rw [ho]; simp [Op.operands])
  simp only [execOp, ho]
  simp only [hNexts] at hs
  generalize ea x = a1 at *
  generalize er x = a2 at *
  cases hx with
  | ptr n off l hl =>
    dsimp only at hs
    cases hoff : Nat.beq off 0 with
    | false => rw [hoff] at hs; cases hs
    | true =>
      rw [hoff, cond_true] at hs
      have hoff : off = 0 := Nat.eq_of_beq_eq_true hoff
      subst hoff
      cases hg : h.get n with
      | none => rw [hg] at hs; cases hs
      | some p =>
        rw [hg] at hs
        cases p with
        | siter s pos =>
          dsimp only at hs
          obtain ⟨l', hl', h0, hb, h1⟩ := H.obj n _ hg
          rw [hl] at hl'; cases hl'
          cases e : Nat.blt pos s.size with
          | true =>
            rw [e] at hs; cases hs
            have hlt : pos < s.size := blt_lt e
            have hr : (Instr.next (.pointer (some ⟨l.blk, l.base + 0, none⟩)) true o.type).run P w = .ok (.tuple #[.bool true, goInt pos, .int .i32 (Utf8.decode s pos).1]) (World.setB w l.blk (.stringIter s (pos + (Utf8.decode s pos).2))) := by
              rw [hb]
              simp [Instr.next, getObj_siter h1, hlt, setObj_siter h1]
            rw [run_v hr]
            refine HOk.setB (p' := .siter s (pos + (Utf8.decode s pos).2)) hX H hg hl h0 ⟨h0, hb, setB_get h1⟩ (VRel.mkTuple (.cons (.bool _) (.cons (.int _ _) (.cons (.int _ _) .nil)))) rfl
          | false =>
            rw [e] at hs; cases hs
            have hlt : ¬ pos < s.size := by rw [blt_eq] at e; simpa using e
            have hr : (Instr.next (.pointer (some ⟨l.blk, l.base + 0, none⟩)) true o.type).run P w = .ok (.tuple #[.bool false]) w := by
              rw [hb]
              simp [Instr.next, getObj_siter h1, hlt]
            rw [run_v hr]
            exact HOk.val H (VRel.mkTuple (.cons (.bool _) .nil)) rfl
        | _ => cases hs
  | _ => cases hs
theorem inN_eq : ∀ (l : List Nat) (n : Nat), inN l n = l.contains n
  | [], _ => rfl
  | x :: l, n => by
    simp only [inN, inN_eq l n, List.contains_cons]
    by_cases h : x = n
    · subst h; simp [beq_same]
    · have : (n == x) = false := by simp [Ne.symm h]
      rw [beq_ne h, this]; rfl
theorem leftOf_rel (since : Nat) (seen : List Nat) (old : Bool) : ∀ {es : List MEnt} {es' : List MapEntry}, All2 (ERel ι) es es' →
    All2 (ERel ι) (leftOf since seen old es) (es'.filter fun e => !seen.contains e.born && (decide (e.born < since) == old))
  | _, _, .nil => .nil
  | _, _, .cons (a := e) (b := e') ha hs => by
    have ih := leftOf_rel since seen old hs
    unfold leftOf
    rw [inN_eq, ha.2.2, blt_eq, List.filter_cons]
    cases h1 : seen.contains e'.born with
    | true => simpa using ih
    | false =>
      cases h2 : (decide (e'.born < since) == old) with
      | true => simpa using All2.cons ha ih
      | false => simpa using ih
theorem allNew_eq (last : Nat) : ∀ {es : List MEnt} {es' : List MapEntry}, All2 (ERel ι) es es' → allNew last es = es'.all (fun e => decide (e.born ≥ last))
  | _, _, .nil => rfl
  | _, _, .cons ha hs => by
    simp only [allNew, allNew_eq last hs, List.all_cons, ble_eq, ha.2.2]
theorem ok_nextm (hX : X.local) (H : HRel X ι ow h w) {x : Operand}
    (ho : o.op = .next x false) (E : EvRel ι ea er o.op.operands) (hs : hNextm x ea h = some (v, h')) : HOk X ι ow h w v h' ((execOp er o).run P w) := by
  have hx : VRel ι (ea x) (er x) := E x (by rw [ho]; simp [Op.operands])
  simp only [execOp, ho]
  simp only [hNextm] at hs
  generalize ea x = a1 at *
  generalize er x = a2 at *
  cases hx with
  | ptr n off l hl =>
    dsimp only at hs
    cases hoff : Nat.beq off 0 with
    | false => rw [hoff] at hs; cases hs
    | true =>
      rw [hoff, cond_true] at hs
      have hoff : off = 0 := Nat.eq_of_beq_eq_true hoff
      subst hoff
      cases hg : h.get n with
      | none => rw [hg] at hs; cases hs
      | some p =>
        rw [hg] at hs
        cases p with
        | miter m since seen last =>
          obtain ⟨l', hl', h0, hb, m', h1, hm⟩ := H.obj n _ hg
          rw [hl] at hl'; cases hl'
          cases m with
          | none =>
            cases hm
            cases hs
            have hr : (Instr.next (.pointer (some ⟨l.blk, l.base + 0, none⟩)) false o.type).run P w = .ok (.tuple #[.bool false]) w := by
              rw [hb]
              simp [Instr.next, getObj_iter h1]
            rw [run_v hr]
            exact HOk.val H (VRel.mkTuple (.cons (.bool _) .nil)) rfl
          | some m =>
            cases hm with
            | map _ lm hlm =>
            dsimp only at hs
            cases hgm : h.get m with
            | none => rw [hgm] at hs; cases hs
            | some p =>
              rw [hgm] at hs
              cases p with
              | map es clock =>
                dsimp only at hs
                obtain ⟨_, es', k1, k2⟩ := H.map hlm hgm
                have hall := allNew_eq last k2
                cases hc : (!seen.isEmpty && !es.isEmpty && allNew last es) with
                | true => rw [hc] at hs; cases hs
                | false =>
                  rw [hc] at hs
                  dsimp only at hs
                  have hemp : es.isEmpty = es'.toList.isEmpty := by
                    have k3 := k2
                    revert k3
                    generalize es'.toList = L
                    intro k3
                    cases k3 <;> rfl
                  have hc' : (!seen.toArray.isEmpty && !es'.isEmpty && es'.all (fun e => decide (e.born ≥ last))) = false := by
                    rw [← Array.all_toList, ← hall, ← hc, hemp]
                    congr 1
                    congr 1
                    · simp
                    · simp
                  have ro := leftOf_rel since seen true k2
                  have rn := leftOf_rel since seen false k2
                  -- what the model holds
                  have eo : ((es'.filter fun e => !seen.toArray.contains e.born).filter (·.born < since)).toList = es'.toList.filter fun e => !seen.contains e.born && (decide (e.born < since) == true) := by
                    rw [Array.toList_filter, Array.toList_filter, List.filter_filter]
                    congr 1; funext e; simp [Bool.and_comm]
                  have en : ((es'.filter fun e => !seen.toArray.contains e.born).filter (·.born ≥ since)).toList = es'.toList.filter fun e => !seen.contains e.born && (decide (e.born < since) == false) := by
                    rw [Array.toList_filter, Array.toList_filter, List.filter_filter]
                    congr 1; funext e
                    by_cases hlt : e.born < since
                    · have : ¬ since ≤ e.born := by omega
                      simp [hlt, this]
                    · have : since ≤ e.born := by omega
                      simp [hlt, this]
                  split at hs
                  · rename_i e1 e2
                    cases hs
                    rw [e1, ← eo] at ro; rw [e2, ← en] at rn
                    have ho2 : (es'.filter fun e => !seen.toArray.contains e.born).filter (·.born < since) = #[] := Array.ext' (by
                      revert ro
                      generalize ((es'.filter fun e => !seen.toArray.contains e.born).filter (·.born < since)).toList = L
                      intro k; cases k; rfl)
                    have hn2 : (es'.filter fun e => !seen.toArray.contains e.born).filter (·.born ≥ since) = #[] := Array.ext' (by
                      revert rn
                      generalize ((es'.filter fun e => !seen.toArray.contains e.born).filter (·.born ≥ since)).toList = L
                      intro k; cases k; rfl)
                    have hr : (Instr.next (.pointer (some ⟨l.blk, l.base + 0, none⟩)) false o.type).run P w = .ok (.tuple #[.bool false]) w := by
                      rw [hb]
                      unfold Instr.next
                      simp only [Sem.run_bind, getObj_iter h1, getObj_map k1, Result.andThen_ok, hc', ho2, hn2, Bool.false_eq_true, if_false]
                      simp [Question.forced]
                    rw [run_v hr]
                    exact HOk.val H (VRel.mkTuple (.cons (.bool _) .nil)) rfl
                  · rename_i e e1 e2
                    cases hs
                    rw [e1, ← eo] at ro; rw [e2, ← en] at rn
                    have ho2 : ∃ e', (es'.filter fun e => !seen.toArray.contains e.born).filter (·.born < since) = #[e'] ∧ ERel ι e e' := by
                      revert ro
                      generalize (es'.filter fun e => !seen.toArray.contains e.born).filter (·.born < since) = L
                      obtain ⟨L⟩ := L
                      intro k
                      cases k with
                      | cons k1 k2 => cases k2; exact ⟨_, rfl, k1⟩
                    have hn2 : (es'.filter fun e => !seen.toArray.contains e.born).filter (·.born ≥ since) = #[] := Array.ext' (by
                      revert rn
                      generalize ((es'.filter fun e => !seen.toArray.contains e.born).filter (·.born ≥ since)).toList = L
                      intro k; cases k; rfl)
                    obtain ⟨e', ho2, he⟩ := ho2
                    have hr : (Instr.next (.pointer (some ⟨l.blk, l.base + 0, none⟩)) false o.type).run P w = .ok (.tuple #[.bool true, e'.key, e'.val]) (World.setB w l.blk (.mapIter (some lm.blk) since (seen.toArray.push e'.born) clock)) := by
                      rw [hb]
                      unfold Instr.next
                      simp only [Sem.run_bind, getObj_iter h1, getObj_map k1, Result.andThen_ok, hc', ho2, hn2, Bool.false_eq_true, if_false]
                      simp [Question.forced, setObj_iter h1]
                    rw [run_v hr]
                    refine HOk.setB (p' := .miter (some m) since (seen ++ [e.born]) clock) hX H hg hl h0 ⟨h0, hb, some lm.blk, ?_, .map m lm hlm⟩ (VRel.mkTuple (.cons (.bool _) (.cons he.1 (.cons he.2.1 .nil)))) rfl
                    rw [he.2.2]
                    simpa using setB_get h1
                  · cases hs
              | _ => cases hs
        | _ => cases hs
  | _ => cases hs
theorem ok_entry (H : HRel X ι ow h w) {x : Operand}
    (ho : o.op = .entry x) (E : EvRel ι ea er o.op.operands) (hs : hEntry x ea h = some (v, h')) : HOk X ι ow h w v h' ((execOp er o).run P w) := by
  have hx : VRel ι (ea x) (er x) := E x (by rw [ho]; simp [Op.operands])
  simp only [execOp, ho]
  simp only [hEntry] at hs
  generalize ea x = a1 at *
  generalize er x = a2 at *
  cases hx with
  | ptr n off l hl =>
    dsimp only at hs
    cases hoff : Nat.beq off 0 with
    | false => rw [hoff] at hs; cases hs
    | true =>
      rw [hoff, cond_true] at hs
      have hoff : off = 0 := Nat.eq_of_beq_eq_true hoff
      subst hoff
      cases hg : h.get n with
      | none => rw [hg] at hs; cases hs
      | some p =>
        rw [hg] at hs
        cases p with
        | miter m since seen stepped =>
          obtain ⟨l', hl', h0, hb, m', h1, hm⟩ := H.obj n _ hg
          rw [hl] at hl'; cases hl'
          cases m with
          | none => cases hs
          | some m =>
            cases hm with
            | map _ lm hlm =>
            dsimp only at hs
            cases hsl : seen.getLast? with
            | none => rw [hsl] at hs; cases hs
            | some stamp =>
              cases hgm : h.get m with
              | none => rw [hsl, hgm] at hs; cases hs
              | some p =>
                rw [hsl, hgm] at hs
                cases p with
                | map es clock =>
                  dsimp only at hs
                  obtain ⟨_, es', k1, k2⟩ := H.map hlm hgm
                  cases hc : Nat.beq clock stepped with
                  | false => rw [hc] at hs; cases hs
                  | true =>
                    cases hf : findB stamp es 0 with
                    | none => rw [hc, hf] at hs; cases hs
                    | some q =>
                      obtain ⟨j, e⟩ := q
                      rw [hc, hf] at hs
                      cases hs
                      have h3 := findB_spec stamp es es'.toList 0 k2
                      rw [hf] at h3
                      obtain ⟨_, e', h4, h5, h6, h7⟩ := h3
                      have hcl : clock = stepped := Nat.eq_of_beq_eq_true hc
                      have h7' : es'.find? (·.born == stamp) = some e' := by
                        have ee : es' = es'.toList.toArray := by simp
                        rw [ee, List.find?_toArray]; exact h7
                      have hr : (Instr.entry (.pointer (some ⟨l.blk, l.base + 0, none⟩))).run P w = .ok (.tuple #[e'.key, e'.val]) w := by
                        rw [hb]
                        simp [Instr.entry, getObj_iter h1, getObj_map k1, hsl, hcl, h7']
                      rw [run_v hr]
                      exact HOk.val H (VRel.mkTuple (.cons h5.1 (.cons h5.2.1 .nil))) rfl
                | _ => cases hs
        | _ => cases hs
  | _ => cases hs
end Go.AM

/- The other operations, but calls: append, clear. -/
namespace Go.AM
variable {P : Program} {X : Opq} {ι : Emb} {ow : Own} {h : Heap} {w : World} {nm : Nat} {ea er : Operand → Value} {v : Value} {ob : Option AObj} {o : Oper} {h' : Heap}

theorem loads_zero (a : Addr) (w : World) : (loadCells a 0).run P w = .ok #[] w := run_loadCells_list w a [] (fun j v e => by simp at e)
theorem lenOf_run {x x' : Value} {n : Nat} (hx : VRel ι x x') (hn : lenV x = some n) : (Builtin.lenOf x').run P w = .ok n w := by
  cases hx <;> cases hn <;> rfl
/-- the first elements of a slice, or a string's bytes -/
theorem first_rel (H : HRel X ι ow h w) {x x' : Value} {n esz : Nat} {new : List Value} (hx : VRel ι x x') (hn : lenV x = some n) (hf : firstOf h.get esz n x = some new) :
    ∃ arr : Array Value, (∀ w1 : World, w1.heap = w.heap → (Builtin.firstCells esz n x').run P w1 = .ok arr w1) ∧ LRel ι new arr.toList ∧ (new.length = n * esz ∨ ∃ s, x = .string s ∧ new.length = n) := by
  have row : ∀ (b off len cap cap' : Nat) (sp : Option Nat) (l : Loc), ι b = some l → sp ≠ some 0 → lenV (.slice (some ⟨b, off, sp⟩) len cap) = some n → firstOf h.get esz n (.slice (some ⟨b, off, sp⟩) len cap) = some new →
      ∃ arr : Array Value, (∀ w1 : World, w1.heap = w.heap → (Builtin.firstCells esz n (.slice (some ⟨l.blk, l.base + off, none⟩) len cap')).run P w1 = .ok arr w1) ∧ LRel ι new arr.toList ∧ (new.length = n * esz ∨ ∃ s, Value.slice (some ⟨b, off, sp⟩) len cap = .string s ∧ new.length = n) := by
    intro b off len cap cap' sp l hl hsp hn hf
    unfold firstOf at hf
    split at hf
    · rename_i e; cases e
    · rename_i e; cases e; exact absurd rfl hsp
    · rename_i b0 off0 sp0 _ _ _ e
      cases e
      cases n with
      | zero =>
        cases hf
        exact ⟨#[], fun w1 _ => by simp [Builtin.firstCells, loads_zero], .nil, .inl (by simp)⟩
      | succ n =>
        dsimp only at hf
        cases hg : h.get b with
        | none => rw [hg] at hf; cases hf
        | some p =>
          rw [hg] at hf
          cases p with
          | cells c k =>
            dsimp only at hf
            obtain ⟨_, c', elem, fr, h1, h2, h3, h4, h5, h6⟩ := H.cells hl hg
            obtain ⟨h7, rfl⟩ := subO_eq _ _ _ _ hf
            have e1 : Nat.mul (Nat.succ n) esz = (n + 1) * esz := rfl
            rw [e1] at h7 ⊢
            refine ⟨_, fun w1 e2 => run_loads (by rw [e2]; exact h1) (l.base + off) ((n + 1) * esz) (by omega), ?_, .inl (by simp; omega)⟩
            exact h5.sub rfl h7
          | _ => cases hf
    · rename_i e; cases e
    · cases hf
  cases hx with
  | slNil len c =>
    cases hn
    cases n with
    | zero => cases hf; exact ⟨#[], fun _ _ => rfl, .nil, .inl (by simp)⟩
    | succ n => cases hf
  | slEx b off len cap l hl => exact row b off len cap cap none l hl (by simp) hn hf
  | slGr b off len cap cap' l hl hlen hc hb => exact row b off len cap cap' _ l hl (by simp) hn hf
  | slEmp a c =>
    cases hn
    cases hf
    exact ⟨#[], fun w1 _ => by simp [Builtin.firstCells, loads_zero], .nil, .inl (by simp)⟩
  | string s =>
    cases hn
    have hf' : (match Nat.beq s.size s.size with | true => some (byteVs s) | false => none) = some new := hf
    rw [beq_same] at hf'
    cases hf'
    refine ⟨(s.extract 0 s.size).data.map fun b => .int .u8 b.toNat, fun _ _ => rfl, ?_, .inr ⟨s, rfl, by simp [byteVs]⟩⟩
    have : ((s.extract 0 s.size).data.map fun b => (Value.int .u8 b.toNat : Value)).toList = byteVs s := by
      have e : s.extract 0 s.size = s := by
        cases s; simp
      rw [e]
      simp [byteVs]
    rw [this]
    unfold byteVs
    exact All2.of_map _ (fun b _ => .int _ _)
  | _ => cases hn
theorem growBy_le (N : Nat) (hN : 256 ≤ N) : ∀ (r c : Nat), c ≤ 3 * N → Builtin.growBy N r c ≤ 3 * N := by
  intro r
  induction r with
  | zero => intro c hc; exact hc
  | succ r ih =>
    intro c hc
    unfold Builtin.growBy
    by_cases h : c ≥ N
    · rw [if_pos h]; exact hc
    · rw [if_neg h]; exact ih _ (by omega)
theorem slicecap_le (N c : Nat) (h : c < N) : Builtin.nextslicecap N c ≤ 3 * N := by
  unfold Builtin.nextslicecap
  split
  · omega
  · split
    · omega
    · exact growBy_le N (by omega) 4 c (by omega)
structure AppFacts (P : Program) (ts : Array TypeId) (ei : TyI) (e : Nat) : Prop where
  fe : TF P e ei
  t : ∃ t i, ts[0]? = some t ∧ TF P t i ∧ i.under = .slice e
  u : ∃ u j, ts[1]? = some u ∧ TF P u j ∧ ((∃ e2, j.under = .slice e2) ∨ j.under = .string)
/-- there is room -/
theorem append_fits {ts : Array TypeId} {ei : TyI} {e : Nat} (A : AppFacts P ts ei e) {T : TypeId} {a : Addr} {sLen sCap n : Nat} {x' : Value} {arr : Array Value} (hl : (Builtin.lenOf x').run P w = .ok n w)
    (hf : (Builtin.firstCells ei.size n x').run P w = .ok arr w) (hfit : sLen + n ≤ sCap) {w' : World} (hst : (storeCells (a.add (sLen * ei.size)) arr.toList).run P w = .ok () w') :
    (Builtin.append_ ts T #[.slice (some a) sLen sCap, x']).run P w = .ok (.slice (some a) (sLen + n) sCap) w' := by
  obtain ⟨t, i, ht, f, hu⟩ := A.t
  obtain ⟨u, j, hu', g, hj⟩ := A.u
  rcases hj with ⟨e2, hj⟩ | hj <;> simp [Builtin.append_, ht, hu', f.under, hu, A.fe.size, g.under, hj, hl, hfit, hf, hst]
theorem append_none {ts : Array TypeId} {ei : TyI} {e : Nat} (A : AppFacts P ts ei e) {T : TypeId} {x' : Value} {arr : Array Value} (hl : (Builtin.lenOf x').run P w = .ok 0 w)
    (hf : (Builtin.firstCells ei.size 0 x').run P w = .ok arr w) (c : Nat) :
    (Builtin.append_ ts T #[.slice none 0 c, x']).run P w = .ok (.slice none 0 c) w := by
  obtain ⟨t, i, ht, f, hu⟩ := A.t
  obtain ⟨u, j, hu', g, hj⟩ := A.u
  rcases hj with ⟨e2, hj⟩ | hj <;> simp [Builtin.append_, ht, hu', f.under, hu, A.fe.size, g.under, hj, hl, hf]
/-- there is none -/
theorem append_grows {ts : Array TypeId} {ei : TyI} {e : Nat} (A : AppFacts P ts ei e) {T : TypeId} {base : Option Addr} {sLen sCap n : Nat} {x' : Value} {arr old : Array Value} (hl : (Builtin.lenOf x').run P w = .ok n w)
    (hf : ∀ w1, w1.heap = w.heap → (Builtin.firstCells ei.size n x').run P w1 = .ok arr w1) (ho : ∀ w1, w1.heap = w.heap → (Builtin.firstCells ei.size sLen (.slice base sLen sCap)).run P w1 = .ok old w1) (hfit : ¬ sLen + n ≤ sCap)
    (hbig : appBig (sLen + n) ei.bytes = true) : ∃ cap' w', sLen + n ≤ cap' ∧
      (Builtin.append_ ts T #[.slice base sLen sCap, x']).run P w = .ok (.slice (some ⟨w.heap.size, 0, none⟩) (sLen + n) cap') w' ∧
      w'.heap = w.heap.push (.cells (old ++ arr ++ Builtin.zeroCells ei.zero.cells (cap' - (sLen + n))) e (0, 0)) ∧ w'.os = w.os ∧ w'.output = w.output := by
  obtain ⟨t, i, ht, f, hu⟩ := A.t
  obtain ⟨u, j, hu', g, hj⟩ := A.u
  have hb : (4 * (sLen + n + 1)) * (ei.bytes + 1) ≤ 70368744177664 := Nat.le_of_ble_eq_true hbig
  have hb2 : 4 * (sLen + n + 1) ≤ 70368744177664 := Nat.le_trans (Nat.le_mul_of_pos_right _ (Nat.succ_pos _)) hb
  have hcap := slicecap_le (sLen + n) sCap (by omega)
  have hb3 : Builtin.nextslicecap (sLen + n) sCap * ei.bytes ≤ 70368744177664 := by
    have : Builtin.nextslicecap (sLen + n) sCap ≤ 4 * (sLen + n + 1) := by omega
    exact Nat.le_trans (Nat.mul_le_mul this (Nat.le_succ _)) hb
  have hmax : IntKind.i64.max = 9223372036854775807 := rfl
  have c1 : ¬ (((sLen + n : Nat) : Int) > IntKind.i64.max ∧ ((false = true) ∨ ei.bytes = 0)) := by rw [hmax]; omega
  have c2 : ¬ (Builtin.nextslicecap (sLen + n) sCap * ei.bytes > 2 ^ 48) := by
    have : (2 : Nat) ^ 48 = 281474976710656 := by decide
    omega
  refine ⟨sLen + n + (w.tape w.drawn (.appendCap (sLen + n) sCap e)) % (2 ^ 63 - (sLen + n)), { w with drawn := w.drawn + 1, heap := w.heap.push (.cells (old ++ arr ++ Builtin.zeroCells ei.zero.cells (sLen + n + (w.tape w.drawn (.appendCap (sLen + n) sCap e)) % (2 ^ 63 - (sLen + n)) - (sLen + n))) e (0, 0)) }, by omega, ?_, rfl, rfl, rfl⟩
  have hfd := hf w.drew rfl
  have hod := ho w.drew rfl
  have c1' : ¬ (9223372036854775807 < ((sLen : Int) + (n : Int))) := by omega
  have c2' : ¬ (281474976710656 < Builtin.nextslicecap (sLen + n) sCap * ei.bytes) := by omega
  obtain ⟨x, hx, hs, hb5, hz5⟩ := A.fe.inf
  rcases hj with ⟨e2, hj⟩ | hj <;> simp [Builtin.append_, ht, hu', f.under, hu, A.fe.size, g.under, hj, hl, hfit, typeInfo, hx, hb5, c1', c2', Question.forced, Question.cut, hod, hfd, zeroValue, hz5, newRow] <;> exact rfl
end Go.AM

/- The other operations, but calls: append, clear: the second part. -/
namespace Go.AM
variable {P : Program} {X : Opq} {ι : Emb} {ow : Own} {h : Heap} {w : World} {nm : Nat} {ea er : Operand → Value} {v : Value} {ob : Option AObj} {o : Oper} {h' : Heap}

theorem Heap.live_rem {b m : Nat} (hl : (h.rem b).live m) : h.live m ∧ m ≠ b := by
  unfold Heap.live at *
  rw [Heap.get_rem] at hl
  by_cases e : b = m
  · subst e; simp at hl
  · simp [e] at hl; exact ⟨hl, fun h => e h.symm⟩
/-- an object is forgotten -/
theorem HRel.rem (H : HRel X ι ow h w) (b : Nat) : HRel X ι ow (h.rem b) w where
  obj := fun n o e => by
    rw [Heap.get_rem] at e
    by_cases hb : b = n
    · simp [hb] at e
    · simp [hb] at e; exact H.obj n o e
  lt := fun n k hl ho => H.lt n k (Heap.live_rem hl).1 ho
  dis := fun n m k hn hm => H.dis n m k (Heap.live_rem hn).1 (Heap.live_rem hm).1
  low := H.low
theorem Fr.rem (ow : Own) (h : Heap) (w : World) (b : Nat) : Fr ow h w ow (h.rem b) w :=
  ⟨Nat.le_refl _, fun _ _ _ => rfl, fun n _ hn ho _ => ⟨n, (Heap.live_rem hn).1, ho⟩, rfl, rfl, Nat.le_refl _, fun _ _ hl => (Heap.live_rem hl).1⟩
theorem HOk.rem (b : Nat) {r : Result Next} (k : HOk X ι ow (h.rem b) w v h' r) : HOk X ι ow h w v h' r := by
  obtain ⟨nx, v', w', ι', ow', h1, h2, h3, h4, h5, h6⟩ := k
  exact ⟨nx, v', w', ι', ow', h1, h2, h3, h4, h5, (Fr.rem ow h w b).trans h6⟩
theorem LRel.length_eq {s t : List Value} (h : LRel ι s t) : s.length = t.length := h.length
/-- a row that has grown, in a new block -/
theorem HOk.grown (hX : X.local) (H : HRel X ι ow h w) {esz len cap' e : Nat} {cs : List Value} {arr : Array Value} {z : Array Value} {w' : World} (hcs : LRel ι cs arr.toList) (hlen : cs.length = len * esz) (hz : z.size = esz) (hcap : len ≤ cap')
    (hw : w'.heap = w.heap.push (.cells (arr ++ Builtin.zeroCells z (cap' - len)) e (0, 0))) (hos : w'.os = w.os) (hout : w'.output = w.output) :
    HOk X ι ow h w (.slice (some ⟨h.next, 0, some (Nat.succ esz)⟩) len len) (h.new (.cells cs (.grown esz))) (.ok (.value (.slice (some ⟨w.heap.size, 0, none⟩) len cap')) w') := by
  have hi : ι h.next = none := H.low _ (Nat.le_refl _)
  have hl := hcs.length
  have hsz : (arr ++ Builtin.zeroCells z (cap' - len)).size = cap' * esz := by
    have h1 : arr.size = len * esz := by rw [← hlen, hl]; simp
    have h2 : (Builtin.zeroCells z (cap' - len)).size = (cap' - len) * esz := by simp [Builtin.zeroCells, hz]
    rw [Array.size_append, h1, h2, ← Nat.add_mul]; congr 1; omega
  refine HOk.new (nx := .value (.slice (some ⟨w.heap.size, 0, none⟩) len cap')) (v' := .slice (some ⟨w.heap.size, 0, none⟩) len cap') (w' := w') (l := ⟨w.heap.size, 0, cap' * esz, esz⟩) (obj := .cells (arr ++ Builtin.zeroCells z (cap' - len)) e (0, 0)) hX H hw hos hout ?_ ?_ rfl
  · refine ⟨fun b => Iff.rfl, _, e, (0, 0), by rw [hw]; simp, hsz, ?_, .inl rfl, fun j u hj => ?_, rfl⟩
    · show 0 + cs.length ≤ cap' * esz
      rw [hlen, Nat.zero_add]
      exact Nat.mul_le_mul hcap (Nat.le_refl _)
    · obtain ⟨u', hu, hr⟩ := hcs.get hj
      refine ⟨u', ?_, hr.mono (upd_le hi)⟩
      have hlt : j < arr.size := by have := (List.getElem?_eq_some_iff.1 hu).1; simpa using this
      show (arr ++ _)[0 + j]? = some u'
      rw [Nat.zero_add, Array.getElem?_append_left hlt]
      simpa using hu
  · exact .slGr h.next 0 len len cap' ⟨w.heap.size, 0, cap' * esz, esz⟩ (upd_same _ _ _) (Nat.le_refl _) hcap (by show 0 + 0 + cap' * esz ≤ cap' * esz; omega)
/-- a row that grows where it is, and is named anew -/
theorem HOk.regrown (hX : X.local) (H : HRel X ι ow h w) {b off esz len n cap' : Nat} {l : Loc} {c old new new' : List Value} (hl : ι b = some l) (he : l.esz = esz) (hg : h.get b = some (.cells c (.grown esz))) (hnew : LRel ι new new') (h1 : oneL new = true)
    (hold : subO off (len * esz) c = some old) (hn : new.length = n * esz) (hfit : len + n ≤ cap') (hroom : l.base + off + cap' * l.esz ≤ l.size) :
    ∃ w', (storeCells ⟨l.blk, l.base + off + len * esz, none⟩ new').run P w = .ok () w' ∧
      HOk X ι ow h w (.slice (some ⟨h.next, 0, some (Nat.succ esz)⟩) (len + n) (len + n)) ((h.rem b).new (.cells (old ++ new) (.grown esz))) (.ok (.value (.slice (some ⟨l.blk, l.base + off, none⟩) (len + n) cap')) w') := by
  obtain ⟨l', hl', g1, c', elem, fr, g2, g3, g4, g5, g6, g7⟩ := H.obj b _ hg
  rw [hl] at hl'; cases hl'
  have hlen := hnew.length
  have hi : ι h.next = none := H.low _ (Nat.le_refl _)
  have hlive : h.live b := by simp [Heap.live, hg]
  have hbn : b ≠ h.next := fun e => by rw [e, hi] at hl; cases hl
  have hsum : l.base + off + len * esz + n * esz ≤ l.size := by
    have : (len + n) * esz ≤ cap' * esz := Nat.mul_le_mul hfit (Nat.le_refl _)
    rw [he] at hroom
    rw [Nat.add_mul] at this; omega
  obtain ⟨ho1, ho2⟩ := subO_eq _ _ _ _ hold
  have holdl : old.length = len * esz := by rw [ho2]; simp; omega
  have hrun := run_stores (P := P) l.blk (l.base + off + len * esz) elem fr new' 0 c' w g2 (by rw [g3]; exact g5) (by omega) (ones_rel hnew h1)
  have hoth : ∀ k, k ≠ l.blk → (w.setRow l.blk (c'.toList.take (l.base + off + len * esz + 0) ++ new' ++ c'.toList.drop (l.base + off + len * esz + 0 + new'.length)).toArray).heap[k]? = w.heap[k]? := fun k hk => setRow_other _ _ _ _ hk
  refine ⟨_, hrun, ?_⟩
  have hblk := setRow_heap w l.blk c' (c'.toList.take (l.base + off + len * esz + 0) ++ new' ++ c'.toList.drop (l.base + off + len * esz + 0 + new'.length)).toArray elem fr g2
  have hcells : ∀ j v, (old ++ new)[j]? = some v → ∃ v', ((c'.toList.take (l.base + off + len * esz + 0) ++ new' ++ c'.toList.drop (l.base + off + len * esz + 0 + new'.length)).toArray)[l.base + off + j]? = some v' ∧ VRel ι v v' := by
    intro j v hj
    by_cases hjo : j < len * esz
    · rw [List.getElem?_append_left (by omega), ho2, List.getElem?_take_of_lt hjo, List.getElem?_drop] at hj
      obtain ⟨v', hv', hr⟩ := g6 _ v hj
      refine ⟨v', ?_, hr⟩
      have : (c'.toList.take (l.base + off + len * esz + 0) ++ new' ++ c'.toList.drop (l.base + off + len * esz + 0 + new'.length))[l.base + off + j]? = some v' := by
        rw [List.append_assoc, List.getElem?_append_left (by simp; omega), List.getElem?_take_of_lt (by omega)]
        rw [Nat.add_assoc]
        simpa using hv'
      simpa using this
    · rw [List.getElem?_append_right (by omega), holdl] at hj
      obtain ⟨v', hv', hr⟩ := hnew.get hj
      have hlt : j - len * esz < new'.length := (List.getElem?_eq_some_iff.1 hv').1
      refine ⟨v', ?_, hr⟩
      have : (c'.toList.take (l.base + off + len * esz + 0) ++ new' ++ c'.toList.drop (l.base + off + len * esz + 0 + new'.length))[l.base + off + j]? = some v' := by
        rw [List.append_assoc, List.getElem?_append_right (by simp; omega), List.getElem?_append_left (by simp; omega)]
        rw [← hv']; congr 1; simp; omega
      simpa using this
  refine ⟨_, _, _, upd ι h.next ⟨l.blk, l.base + off, l.size, l.esz⟩, updO ow h.next (fun k => k = l.blk), rfl, rfl, upd_ext (Nat.le_refl _) hi, ?_, ?_, ?_⟩
  · rw [← he]
    exact .slGr h.next 0 (len + n) (len + n) cap' ⟨l.blk, l.base + off, l.size, l.esz⟩ (upd_same _ _ _) (Nat.le_refl _) hfit (by show l.base + off + 0 + cap' * l.esz ≤ l.size; omega)
  · refine ⟨fun m p e => ?_, fun m k hm hk => ?_, fun m k q hm hk hq hq' => ?_, fun m hm => ?_⟩
    · rw [Heap.get_new] at e
      by_cases hmn : h.next = m
      · subst hmn
        simp only [Heap.rem, if_true] at e
        cases e
        refine ⟨_, upd_same _ _ _, ?_⟩
        have : updO ow h.next (fun k => k = l.blk) h.next = fun k => k = l.blk := by funext k; simp [updO]
        rw [this]
        refine ⟨fun k => Iff.rfl, _, elem, fr, hblk, by simp; omega, ?_, g5, fun j v hj => ?_, he⟩
        · show l.base + off + (old ++ new).length ≤ l.size
          rw [List.length_append, holdl, hn]; omega
        · obtain ⟨v', hv', hr⟩ := hcells j v hj
          exact ⟨v', hv', hr.mono (upd_le hi)⟩
      · rw [if_neg (show ¬ (h.rem b).next = m from hmn), Heap.get_rem] at e
        by_cases hbm : b = m
        · simp [hbm] at e
        · simp [hbm] at e
          obtain ⟨lm, hlm, hom⟩ := H.obj m p e
          refine ⟨lm, by rw [upd_ne _ _ hmn]; exact hlm, ?_⟩
          have : updO ow h.next (fun k => k = l.blk) m = ow m := by funext k; simp [updO, hmn]
          rw [this]
          refine hom.mono hX (upd_le hi) (fun k hk => hoth k fun e2 => ?_)
          exact hbm (H.dis b m k hlive (by simp [Heap.live, e]) ((g1 k).2 e2) hk)
    · rw [setRow_size]
      unfold updO at hk
      by_cases hmn : h.next = m
      · simp [hmn] at hk; subst hk
        exact H.lt b _ hlive ((g1 _).2 rfl)
      · simp [hmn] at hk
        have : (h.rem b).live m := by unfold Heap.live at hm ⊢; rw [Heap.get_new] at hm; simpa [show ¬ (h.rem b).next = m from hmn] using hm
        exact H.lt m k (Heap.live_rem this).1 hk
    · have lv : ∀ j, ((h.rem b).new (.cells (old ++ new) (.grown esz))).live j → h.next ≠ j → h.live j ∧ j ≠ b := fun j hj e => by
        refine Heap.live_rem (b := b) ?_
        unfold Heap.live at hj ⊢; rw [Heap.get_new] at hj; simpa [show ¬ (h.rem b).next = j from e] using hj
      unfold updO at hq hq'
      by_cases e1 : h.next = m <;> by_cases e2 : h.next = k
      · exact e1.symm.trans e2
      · simp [e1] at hq
        simp [e2] at hq'
        obtain ⟨h3, h4⟩ := lv k hk e2
        exact absurd (H.dis k b q h3 hlive hq' ((g1 q).2 hq)) h4
      · simp [e1] at hq
        simp [e2] at hq'
        obtain ⟨h3, h4⟩ := lv m hm e1
        exact absurd (H.dis m b q h3 hlive hq ((g1 q).2 hq')) h4
      · simp [e1] at hq
        simp [e2] at hq'
        exact H.dis m k q (lv m hm e1).1 (lv k hk e2).1 hq hq'
    · have hm' : h.next + 1 ≤ m := hm
      rw [upd_ne _ _ (by omega)]; exact H.low m (by omega)
  · refine ⟨by rw [setRow_size]; omega, fun k _ hk => hoth k fun e => hk b hlive ((g1 k).2 e), fun m k hm hk hlt => ?_, rfl, rfl, Nat.le_succ _, fun m hm hl2 => ?_⟩
    · unfold updO at hk
      by_cases hmn : h.next = m
      · simp [hmn] at hk; exact ⟨b, hlive, (g1 k).2 hk⟩
      · simp [hmn] at hk
        have : (h.rem b).live m := by unfold Heap.live at hm ⊢; rw [Heap.get_new] at hm; simpa [show ¬ (h.rem b).next = m from hmn] using hm
        exact ⟨m, (Heap.live_rem this).1, hk⟩
    · have : (h.rem b).live m := by
        unfold Heap.live at hl2 ⊢; rw [Heap.get_new] at hl2
        have e : ¬ (h.rem b).next = m := by show ¬ h.next = m; omega
        simpa [e] using hl2
      exact (Heap.live_rem this).1
end Go.AM

/- The other operations, but calls: append, clear: the last part. -/
namespace Go.AM
variable {P : Program} {X : Opq} {ι : Emb} {ow : Own} {h : Heap} {w : World} {nm : Nat} {ea er : Operand → Value} {v : Value} {ob : Option AObj} {o : Oper} {h' : Heap}

theorem ok_app (hX : X.local) (H : HRel X ι ow h w) {ts : Array TypeId} {ei : TyI} {e : Nat} (A : AppFacts P ts ei e) (hz : (vcells ei.zero).length = ei.size) {s x : Operand}
    (ho : o.op = .call { callee := .builtin .append, args := #[s, x], argTypes := ts }) (E : EvRel ι ea er o.op.operands) (hs : hApp ei.size ei.bytes s x ea h = some (v, h')) : HOk X ι ow h w v h' ((execOp er o).run P w) := by
  have hsr : VRel ι (ea s) (er s) := E s (by rw [ho]; simp [Op.operands, Call.operands])
  have hxr : VRel ι (ea x) (er x) := E x (by rw [ho]; simp [Op.operands, Call.operands])
  rw [exec_builtin ho]
  simp only [builtin, List.map_toArray, List.map_cons, List.map_nil]
  simp only [hApp, appB] at hs
  have hzc : ei.zero.cells.size = ei.size := by rw [← hz, vcells_eq]; simp
  cases hn : lenV (ea x) with
  | none => rw [hn] at hs; cases hs
  | some n =>
    rw [hn] at hs; dsimp only at hs
    cases hf : firstOf h.get ei.size n (ea x) with
    | none => rw [hf] at hs; cases hs
    | some new =>
      rw [hf] at hs; dsimp only at hs
      cases hc : Nat.beq new.length (Nat.mul n ei.size) with
      | false => rw [hc] at hs; cases hs
      | true =>
        rw [hc, cond_true] at hs
        have hnl : new.length = n * ei.size := Nat.eq_of_beq_eq_true hc
        have hlen := lenOf_run (P := P) (w := w) hxr hn
        obtain ⟨arr, hfcW, hrel, _⟩ := first_rel (P := P) H hxr hn hf
        have hfc := hfcW w rfl
        have hal := hrel.length
        -- a row that is there
        have row : ∀ (b off len cap cap' : Nat) (sp : Option Nat) (l : Loc), ι b = some l → (sp = none ∧ cap' = cap) ∨ (sp = some (l.esz + 1) ∧ len ≤ cap ∧ cap ≤ cap' ∧ l.base + off + cap' * l.esz ≤ l.size) → er s = .slice (some ⟨l.blk, l.base + off, none⟩) len cap' →
            (match h.get b with
              | some (.cells c k) =>
                match Nat.ble (Nat.add len n) cap with
                | true => match spliceO (Nat.add off (Nat.mul len ei.size)) new c, oneL new with
                  | some c', true => some (Value.slice (some ⟨b, off, sp⟩) (Nat.add len n) cap, h.set b (.cells c' k))
                  | _, _ => none
                | false => match subO off (Nat.mul len ei.size) c, appBig (Nat.add len n) ei.bytes && oneL new with
                  | some old, true => match sp, k with
                    | none, _ => some (.slice (some ⟨h.next, 0, some (Nat.succ ei.size)⟩) (Nat.add len n) (Nat.add len n), h.new (.cells (old ++ new) (.grown ei.size)))
                    | some (s + 1), .grown e => match Nat.beq s ei.size && Nat.beq e ei.size && Nat.beq (Nat.add off (Nat.mul len ei.size)) c.length with
                      | true => some (.slice (some ⟨h.next, 0, some (Nat.succ ei.size)⟩) (Nat.add len n) (Nat.add len n), (h.rem b).new (.cells (old ++ new) (.grown ei.size)))
                      | false => none
                    | _, _ => none
                  | _, _ => none
              | _ => none) = some (v, h') → HOk X ι ow h w v h' ((do pure (Next.value (← Builtin.append_ ts o.type #[er s, er x])) : Sem Next).run P w) := by
          intro b off len cap cap' sp l hl hsp her hs
          rw [her]
          cases hg : h.get b with
          | none => rw [hg] at hs; cases hs
          | some p =>
            rw [hg] at hs
            cases p with
            | cells c k =>
              dsimp only at hs
              cases hle : Nat.ble (Nat.add len n) cap with
              | true =>
                rw [hle] at hs; dsimp only at hs
                have hfit : len + n ≤ cap := Nat.le_of_ble_eq_true hle
                cases e2 : spliceO (Nat.add off (Nat.mul len ei.size)) new c with
                | none => rw [e2] at hs; cases hs
                | some c2 =>
                  cases e3 : oneL new with
                  | false => rw [e2, e3] at hs; cases hs
                  | true =>
                    rw [e2, e3] at hs; cases hs
                    obtain ⟨w', g1, g2, g3, g4, g5, g6⟩ := write_rel (P := P) hX H hl hg hrel e3 e2
                    have hst : (storeCells ((⟨l.blk, l.base + off, none⟩ : Addr).add (len * ei.size)) arr.toList).run P w = .ok () w' := by
                      rw [addr_add, Nat.add_assoc]; exact g1
                    have hfit' : len + n ≤ cap' := by rcases hsp with ⟨_, h1⟩ | ⟨_, _, h1, _⟩ <;> omega
                    rw [run_v (append_fits A hlen hfc hfit' hst)]
                    refine HOk.turn hX H hg hl g2 g3 g4 g5 g6 ?_ rfl
                    rcases hsp with ⟨rfl, rfl⟩ | ⟨rfl, h1, h2, h3⟩
                    · exact .slEx b off (len + n) cap' l hl
                    · exact .slGr b off (len + n) cap cap' l hl hfit h2 h3
              | false =>
                rw [hle] at hs; dsimp only at hs
                have hnf : ¬ len + n ≤ cap := fun hh => by
                  have : Nat.ble (len + n) cap = true := by rw [ble_eq]; simpa using hh
                  rw [show Nat.add len n = len + n from rfl, this] at hle; cases hle
                cases e2 : subO off (Nat.mul len ei.size) c with
                | none => rw [e2] at hs; cases hs
                | some old =>
                  cases e3 : (appBig (Nat.add len n) ei.bytes && oneL new) with
                  | false => rw [e2, e3] at hs; cases hs
                  | true =>
                    rw [e2, e3] at hs; dsimp only at hs
                    rw [Bool.and_eq_true] at e3
                    obtain ⟨_, c', elem, fr, h1, h2, h3, h4, h5, h6⟩ := H.cells hl hg
                    obtain ⟨ho1, ho2⟩ := subO_eq _ _ _ _ e2
                    have ho1 : off + len * ei.size ≤ c.length := ho1
                    have ho2 : old = (c.drop off).take (len * ei.size) := ho2
                    have hoW : ∀ w1 : World, w1.heap = w.heap → (Builtin.firstCells ei.size len (.slice (some ⟨l.blk, l.base + off, none⟩) len cap')).run P w1 = .ok ((c'.toList.drop (l.base + off)).take (len * ei.size)).toArray w1 :=
                      fun w1 e => run_loads (by rw [e]; exact h1) (l.base + off) (len * ei.size) (by omega)
                    have hold : LRel ι old (((c'.toList.drop (l.base + off)).take (len * ei.size)).toArray).toList := by
                      rw [ho2]; simpa using h5.sub rfl ho1
                    have holdl : old.length = len * ei.size := by rw [ho2]; simp; omega
                    -- a new block
                    have fresh : ¬ len + n ≤ cap' → HOk X ι ow h w (.slice (some ⟨h.next, 0, some (Nat.succ ei.size)⟩) (len + n) (len + n)) (h.new (.cells (old ++ new) (.grown ei.size))) ((do pure (Next.value (← Builtin.append_ ts o.type #[.slice (some ⟨l.blk, l.base + off, none⟩) len cap', er x])) : Sem Next).run P w) ∧
                        ∀ q, HOk X ι ow h w (.slice (some ⟨h.next, 0, some (Nat.succ ei.size)⟩) (len + n) (len + n)) ((h.rem q).new (.cells (old ++ new) (.grown ei.size))) ((do pure (Next.value (← Builtin.append_ ts o.type #[.slice (some ⟨l.blk, l.base + off, none⟩) len cap', er x])) : Sem Next).run P w) := by
                      intro hn2
                      obtain ⟨cap2, w', k1, k2, k3, k4, k5⟩ := append_grows A (T := o.type) hlen hfcW hoW hn2 e3.1
                      have hcs : LRel ι (old ++ new) ((((c'.toList.drop (l.base + off)).take (len * ei.size)).toArray ++ arr)).toList := by
                        rw [Array.toList_append]; exact hold.append hrel
                      have hcl : (old ++ new).length = (len + n) * ei.size := by rw [List.length_append, holdl, hnl, Nat.add_mul]
                      rw [run_v k2]
                      exact ⟨HOk.grown hX H hcs hcl hzc k1 k3 k4 k5, fun q => HOk.rem q (HOk.grown hX (HRel.rem H q) hcs hcl hzc k1 k3 k4 k5)⟩
                    rcases hsp with ⟨rfl, rfl⟩ | ⟨rfl, h7, h8, h9⟩
                    · cases hs
                      exact (fresh hnf).1
                    · cases k with
                      | grown e0 =>
                        dsimp only at hs
                        cases e4 : (Nat.beq l.esz ei.size && Nat.beq e0 ei.size && Nat.beq (Nat.add off (Nat.mul len ei.size)) c.length) with
                        | false => rw [e4] at hs; cases hs
                        | true =>
                          rw [e4] at hs; cases hs
                          rw [Bool.and_eq_true, Bool.and_eq_true] at e4
                          have q1 : l.esz = ei.size := Nat.eq_of_beq_eq_true e4.1.1
                          have q2 : e0 = ei.size := Nat.eq_of_beq_eq_true e4.1.2
                          subst q2
                          by_cases hfit' : len + n ≤ cap'
                          · obtain ⟨w', k1, k2⟩ := HOk.regrown (P := P) hX H hl q1 hg hrel e3.2 e2 hnl hfit' h9
                            have hst : (storeCells ((⟨l.blk, l.base + off, none⟩ : Addr).add (len * ei.size)) arr.toList).run P w = .ok () w' := by
                              rw [addr_add]; exact k1
                            rw [run_v (append_fits A hlen hfc hfit' hst)]
                            exact k2
                          · exact (fresh hfit').2 b
                      | _ => cases hs
            | _ => cases hs
        generalize hsv : ea s = a1 at *
        generalize hsw : er s = a2 at *
        cases hsr with
        | slNil len cap =>
          cases len with
          | succ len => cases hs
          | zero => cases cap with
            | succ cap => cases hs
            | zero =>
              cases n with
              | zero =>
                cases hs
                rw [run_v (append_none A hlen hfc 0)]
                exact HOk.val H (.slNil 0 0) rfl
              | succ n =>
                replace hs : (match appBig (Nat.succ n) ei.bytes with
                  | true => some (Value.slice (some ⟨h.next, 0, some (Nat.succ ei.size)⟩) (Nat.succ n) (Nat.succ n), h.new (.cells new (.grown ei.size)))
                  | false => none) = some (v, h') := hs
                cases e3 : appBig (Nat.succ n) ei.bytes with
                | false => rw [e3] at hs; cases hs
                | true =>
                  rw [e3] at hs; cases hs
                  obtain ⟨cap2, w', k1, k2, k3, k4, k5⟩ := append_grows A (T := o.type) (base := none) (sLen := 0) (sCap := 0) (old := #[]) hlen hfcW (fun _ _ => rfl) (by omega) (by rw [Nat.zero_add]; exact e3)
                  rw [Nat.zero_add] at k1 k2 k3
                  rw [run_v k2]
                  exact HOk.grown hX H (by simpa using hrel) hnl hzc k1 k3 k4 k5
        | slEmp a cap =>
          cases n with
          | succ n => cases hs
          | zero =>
            cases hs
            have h0 : arr.toList = [] := by
              rw [Nat.zero_mul] at hnl
              exact List.eq_nil_of_length_eq_zero (by omega)
            rw [run_v (append_fits A hlen hfc (Nat.zero_le _) (w' := w) (by rw [h0]; rfl))]
            exact HOk.val H (.slEmp a cap) rfl
        | slEx b off len cap l hl => exact row b off len cap cap none l hl (.inl ⟨rfl, rfl⟩) rfl hs
        | slGr b off len cap cap' l hl hlen hc hb => exact row b off len cap cap' (some (l.esz + 1)) l hl (.inr ⟨rfl, hlen, hc, hb⟩) rfl hs
        | _ => cases hs
theorem zeroCells_list (z : Array Value) (n : Nat) : (Builtin.zeroCells z n).toList = rep z.toList n := by
  unfold Builtin.zeroCells
  exact zeros_eq z z.size n rfl
theorem ok_clr (hX : X.local) (H : HRel X ι ow h w) {ts : Array TypeId} {t e : Nat} {i ei : TyI} (hts : ts[0]? = some t) (f : TF P t i) (hu : i.under = .slice e) (fe : TF P e ei) {s : Operand}
    (ho : o.op = .call { callee := .builtin .clear, args := #[s], argTypes := ts }) (E : EvRel ι ea er o.op.operands) (hs : hClr (vcells ei.zero) s ea h = some (v, h')) : HOk X ι ow h w v h' ((execOp er o).run P w) := by
  have hsr : VRel ι (ea s) (er s) := E s (by rw [ho]; simp [Op.operands, Call.operands])
  rw [exec_builtin ho]
  simp only [builtin, List.map_toArray, List.map_cons, List.map_nil]
  simp only [hClr] at hs
  have hun : VRel ι undef (.tuple #[]) := VRel.undef ι
  have row : ∀ (b off len cap : Nat) (l : Loc), ι b = some l → (match len with
      | 0 => some (undef, h)
      | len + 1 => match h.get b with
        | some (.cells c k) => match spliceO off (rep (vcells ei.zero) (Nat.succ len)) c, oneL (vcells ei.zero) with
          | some c', true => some (undef, h.set b (.cells c' k))
          | _, _ => none
        | _ => none) = some (v, h') → HOk X ι ow h w v h' ((do pure (Next.value (← Builtin.clear_ ts o.type #[.slice (some ⟨l.blk, l.base + off, none⟩) len cap])) : Sem Next).run P w) := by
    intro b off len cap l hl hs
    cases len with
    | zero =>
      cases hs
      rw [run_v (x := .tuple #[]) (w' := w) (by simp [Builtin.clear_, hts, f.under, hu])]
      exact HOk.val H hun rfl
    | succ len =>
      dsimp only at hs
      cases hg : h.get b with
      | none => rw [hg] at hs; cases hs
      | some p =>
        rw [hg] at hs
        cases p with
        | cells c k =>
          dsimp only at hs
          cases e2 : spliceO off (rep (vcells ei.zero) (Nat.succ len)) c with
          | none => rw [e2] at hs; cases hs
          | some c2 =>
            cases e3 : oneL (vcells ei.zero) with
            | false => rw [e2, e3] at hs; cases hs
            | true =>
              rw [e2, e3] at hs; cases hs
              have hz : LRel ι (rep (vcells ei.zero) (Nat.succ len)) (Builtin.zeroCells ei.zero.cells (len + 1)).toList := by
                rw [zeroCells_list, ← vcells_eq]
                exact LRel.closed (rep_closed fe.cl _)
              have h1 : oneL (rep (vcells ei.zero) (Nat.succ len)) = true := by
                have app : ∀ (a b : List Value), oneL a = true → oneL b = true → oneL (a ++ b) = true := by
                  intro a b ha hb
                  induction a with
                  | nil => exact hb
                  | cons x a ih =>
                    have h' : (isOne x && oneL a) = true := ha
                    rw [Bool.and_eq_true] at h'
                    show (isOne x && oneL (a ++ b)) = true
                    rw [h'.1, ih h'.2]; rfl
                have : ∀ m, oneL (rep (vcells ei.zero) m) = true := by
                  intro m
                  induction m with
                  | zero => rfl
                  | succ m ih => exact app _ _ e3 ih
                exact this _
              obtain ⟨w', g1, g2, g3, g4, g5, g6⟩ := write_rel (P := P) hX H hl hg hz h1 e2
              rw [run_v (x := .tuple #[]) (w' := w') (by simp [Builtin.clear_, hts, f.under, hu, fe.zero, g1])]
              exact HOk.turn hX H hg hl g2 g3 g4 g5 g6 hun rfl
        | _ => cases hs
  generalize ea s = a1 at *
  generalize er s = a2 at *
  cases hsr with
  | slNil len cap =>
    cases hs
    rw [run_v (x := .tuple #[]) (w' := w) (by simp [Builtin.clear_, hts, f.under, hu])]
    exact HOk.val H hun rfl
  | slEmp a cap =>
    cases hs
    rw [run_v (x := .tuple #[]) (w' := w) (by simp [Builtin.clear_, hts, f.under, hu])]
    exact HOk.val H hun rfl
  | slEx b off len cap l hl => exact row b off len cap l hl hs
  | slGr b off len cap cap' l hl hlen hc hb => exact row b off len cap' l hl hs
  | _ => cases hs
end Go.AM

/- All operations together: what is compiled does what the model does. -/
namespace Go.AM
variable {P : Program} {X : Opq} {ty : Ty}

def ActOk (P : Program) (X : Opq) (o : Oper) : Act1 → Prop
  | .simp _ f => ∀ (ι : Emb) (ow : Own) (h : Heap) (w : World) (nm : Nat) (ea er : Operand → Value) (v : Value) (ob : Option AObj), HRel X ι ow h w → ι nm = none → EvRel ι ea er o.op.operands → (∀ z, er (.const z) = z) →
      f nm ea h.get = some (v, ob) → SOk X ι ow h w nm v ob ((execOp er o).run P w)
  | .heavy f => ∀ (ι : Emb) (ow : Own) (h : Heap) (w : World) (ea er : Operand → Value) (v : Value) (h' : Heap), HRel X ι ow h w → EvRel ι ea er o.op.operands → (∀ z, er (.const z) = z) →
      f ea h = some (v, h') → HOk X ι ow h w v h' ((execOp er o).run P w)
  | .call f args => ∃ c : Go.Call, o.op = .call c ∧ c.callee = .value f ∧ c.args.toList = args
theorem eqOp_ok (F : PF P ty) (hd : kdepth ≤ P.depth) {o : Oper} {act : Act1} {neg : Bool} {t u : Nat} {x y : Operand} {i : TyI} (hi : ty t = some i) (ho : o.op = .binOp (cond neg .neq .eql) t x y u) (hc : eqOp ty neg t x y i.under = some act) : ActOk P X o act := by
  have f := F.of _ _ hi
  unfold eqOp at hc
  split at hc
  · rename_i hu
    cases hc
    intro ι ow h w nm ea er v ob H hn E hE hs
    exact ok_binb H (by rw [f.u, hu]) ho E hs
  · rename_i e hu
    cases h1 : isNilConst .p y with
    | true =>
      rw [h1] at hc; cases hc
      intro ι ow h w nm ea er v ob H hn E hE hs
      exact ok_eqn (k := .p) (d := .pointer e) H (f.u.trans (by rw [hu])) True.intro h1 hE ho E hs
    | false =>
      cases h2 : isNilConst .p x with
      | true =>
        rw [h1, h2] at hc; cases hc
        intro ι ow h w nm ea er v ob H hn E hE hs
        exact ok_eqnl H (f.u.trans (by rw [hu])) h2 hE ho E hs
      | false =>
        rw [h1, h2] at hc
        simp only [cond_false] at hc
        split at hc
        · rename_i ei he
          cases h3 : Nat.beq ei.size 0 with
          | true => rw [h3] at hc; cases hc
          | false =>
            rw [h3] at hc; cases hc
            intro ι ow h w ea er v h' H E hE hs
            exact ok_eqp H f hu (F.of _ _ he) (fun e => by rw [e] at h3; cases h3) rfl ho E hs
        · cases hc
  · rename_i e hu
    cases h1 : isNilConst .s y with
    | true =>
      rw [h1] at hc; cases hc
      intro ι ow h w nm ea er v ob H hn E hE hs
      exact ok_eqn (k := .s) (d := .slice e) H (f.u.trans (by rw [hu])) True.intro h1 hE ho E hs
    | false => rw [h1] at hc; cases hc
  · rename_i e e' hu
    cases h1 : isNilConst .m y with
    | true =>
      rw [h1] at hc; cases hc
      intro ι ow h w nm ea er v ob H hn E hE hs
      exact ok_eqn (k := .m) (d := .map e e') H (f.u.trans (by rw [hu])) True.intro h1 hE ho E hs
    | false => rw [h1] at hc; cases hc
  · rename_i e e' e'' hu
    cases h1 : isNilConst .f y with
    | true =>
      rw [h1] at hc; cases hc
      intro ι ow h w nm ea er v ob H hn E hE hs
      exact ok_eqn (k := .f) (d := .func e e' e'') H (f.u.trans (by rw [hu])) True.intro h1 hE ho E hs
    | false => rw [h1] at hc; cases hc
  · rename_i fs hu
    split at hc
    · rename_i k hk
      cases hc
      intro ι ow h w nm ea er v ob H hn E hE hs
      exact ok_eqk F hd H f (.inl ⟨fs, hu⟩) hk rfl hi ho E hs
    · cases hc
  · rename_i n e hu
    split at hc
    · rename_i k hk
      cases hc
      intro ι ow h w nm ea er v ob H hn E hE hs
      exact ok_eqk F hd H f (.inr ⟨n, e, hu⟩) hk rfl hi ho E hs
    · cases hc
  · cases hc
theorem arr2 {α : Type} {a : Array α} {x y : α} (h : a.toList = [x, y]) : a = #[x, y] := Array.ext' h
theorem builtin_ok (F : PF P ty) (hX : X.local) {o : Oper} {act : Act1} {b : Builtin} {args : Array Operand} {ts : Array TypeId} (ho : o.op = .call { callee := .builtin b, args, argTypes := ts }) (hc : compBuiltin ty b args.toList ts.toList = some act) : ActOk P X o act := by
  unfold compBuiltin at hc
  split at hc
  · -- len
    rename_i x t ha ht
    have ha : args = #[x] := Array.ext' ha
    have ht0 : ts[0]? = some t := by rw [← Array.getElem?_toList, ht]; rfl
    subst ha
    split at hc
    · rename_i i hi
      have f := F.of _ _ hi
      split at hc
      · rename_i n e hu
        cases hc
        intro ι ow h w nm ea er v ob H hn E hE hs
        exact ok_lena H f hu ho ht0 hs
      · rename_i hu
        cases hc
        intro ι ow h w nm ea er v ob H hn E hE hs
        exact ok_lens H f hu ho ht0 E hs
      · rename_i e hu
        cases hc
        intro ι ow h w nm ea er v ob H hn E hE hs
        exact ok_len H f hu ho ht0 E hs
      · rename_i k e hu
        cases hc
        intro ι ow h w nm ea er v ob H hn E hE hs
        exact ok_lenm H f hu ho ht0 E hs
      · cases hc
    · cases hc
  · -- append
    rename_i s x t u ha ht
    have ha : args = #[s, x] := Array.ext' ha
    have ht0 : ts[0]? = some t := by rw [← Array.getElem?_toList, ht]; rfl
    have ht1 : ts[1]? = some u := by rw [← Array.getElem?_toList, ht]; rfl
    subst ha
    split at hc
    · rename_i i j hi hj
      split at hc
      · rename_i e e2 hu hv
        split at hc
        · rename_i ei he
          cases h1 : (Nat.beq ei.size 0 || !Nat.beq (vcells ei.zero).length ei.size) with
          | true => rw [h1] at hc; cases hc
          | false =>
            rw [h1] at hc; cases hc
            rw [Bool.or_eq_false_iff] at h1
            have hz : (vcells ei.zero).length = ei.size := Nat.eq_of_beq_eq_true (by simpa using h1.2)
            intro ι ow h w ea er v h' H E hE hs
            exact ok_app hX H ⟨F.of _ _ he, ⟨t, i, ht0, F.of _ _ hi, hu⟩, ⟨u, j, ht1, F.of _ _ hj, .inl ⟨e2, hv⟩⟩⟩ hz ho E hs
        · cases hc
      · rename_i e hu hv
        split at hc
        · rename_i ei he
          cases h1 : (Nat.beq ei.size 1 && Nat.beq (vcells ei.zero).length ei.size) with
          | false => rw [h1] at hc; cases hc
          | true =>
            rw [h1] at hc; cases hc
            rw [Bool.and_eq_true] at h1
            have hz : (vcells ei.zero).length = ei.size := Nat.eq_of_beq_eq_true h1.2
            intro ι ow h w ea er v h' H E hE hs
            exact ok_app hX H ⟨F.of _ _ he, ⟨t, i, ht0, F.of _ _ hi, hu⟩, ⟨u, j, ht1, F.of _ _ hj, .inr hv⟩⟩ hz ho E hs
        · cases hc
      · cases hc
    · cases hc
  · -- min
    rename_i x xs ha
    have ha : args = ⟨x :: xs⟩ := Array.ext' ha
    subst ha
    cases hc
    intro ι ow h w nm ea er v ob H hn E hE hs
    exact ok_mm (mx := false) H ho E hs
  · -- max
    rename_i x xs ha
    have ha : args = ⟨x :: xs⟩ := Array.ext' ha
    subst ha
    cases hc
    intro ι ow h w nm ea er v ob H hn E hE hs
    exact ok_mm (mx := true) H ho E hs
  · -- delete
    rename_i m k t u ha ht
    have ha : args = #[m, k] := Array.ext' ha
    have ht0 : ts[0]? = some t := by rw [← Array.getElem?_toList, ht]; rfl
    subst ha
    split at hc
    · rename_i i hi
      split at hc
      · rename_i kt e hu
        split at hc
        · rename_i kk hk
          cases hc
          intro ι ow h w ea er v h' H E hE hs
          exact ok_del F hX H (F.of _ _ hi) hu hk ht0 ho E hs
        · cases hc
      · cases hc
    · cases hc
  · -- clear
    rename_i s t ha ht
    have ha : args = #[s] := Array.ext' ha
    have ht0 : ts[0]? = some t := by rw [← Array.getElem?_toList, ht]; rfl
    subst ha
    split at hc
    · rename_i i hi
      split at hc
      · rename_i e hu
        split at hc
        · rename_i ei he
          cases h1 : Nat.beq (vcells ei.zero).length ei.size with
          | false => rw [h1] at hc; cases hc
          | true =>
            rw [h1] at hc; cases hc
            intro ι ow h w ea er v h' H E hE hs
            exact ok_clr hX H ht0 (F.of _ _ hi) hu (F.of _ _ he) ho E hs
        · cases hc
      · cases hc
    · cases hc
  · cases hc
theorem act_ok (F : PF P ty) (hd : kdepth ≤ P.depth) (hX : X.local) {o : Oper} {act : Act1} (hc : compOp ty o.op = some act) : ActOk P X o act := by
  unfold compOp at hc
  split at hc
  · rename_i x ho
    cases hc
    intro ι ow h w nm ea er v ob H hn E hE hs
    exact ok_mov H (.inl ho) E hs
  · rename_i x ho
    cases hc
    intro ι ow h w nm ea er v ob H hn E hE hs
    exact ok_mov H (.inr ho) E hs
  · rename_i c a b ho
    cases hc
    intro ι ow h w nm ea er v ob H hn E hE hs
    exact ok_pick H ho E hs
  · -- alloc
    rename_i t ho
    split at hc
    · rename_i i hi
      cases hc
      intro ι ow h w nm ea er v ob H hn E hE hs
      exact ok_alloc hn (F.of _ _ hi) ho hs
    · cases hc
  · -- box
    rename_i t x ho
    cases hc
    intro ι ow h w nm ea er v ob H hn E hE hs
    exact ok_box hn ho E hs
  · -- build
    rename_i t parts ho
    split at hc
    · cases hc
    · rename_i i hi
      split at hc
      · rename_i fs hu
        split at hc
        · rename_i ps hall hps
          cases hc
          intro ι ow h w nm ea er v ob H hn E hE hs
          exact ok_build H F.of (F.of _ _ hi) hu hall hps ho E hs
        · cases hc
      · rename_i n e hu
        split at hc
        · rename_i ei he
          cases hc
          intro ι ow h w nm ea er v ob H hn E hE hs
          exact ok_buildA H (F.of _ _ hi) hu (F.of _ _ he) ho E hs
        · cases hc
      · cases hc
  · -- buildSlice
    rename_i t len parts ho
    split at hc
    · cases hc
    · rename_i i hi
      split at hc
      · rename_i e hu
        split at hc
        · rename_i ei he
          cases h1 : (Nat.ble (Nat.mul len ei.size) 16777216 && Nat.beq (vcells ei.zero).length ei.size) with
          | false => rw [h1] at hc; cases hc
          | true =>
            rw [h1] at hc; cases hc
            rw [Bool.and_eq_true] at h1
            intro ι ow h w nm ea er v ob H hn E hE hs
            exact ok_bslice hn (F.of _ _ hi) hu (F.of _ _ he) (Nat.le_of_ble_eq_true h1.1) (Nat.eq_of_beq_eq_true h1.2) ho E hs
        · cases hc
      · cases hc
  · -- load
    rename_i t a ho
    split at hc
    · rename_i i hi
      cases hc
      intro ι ow h w nm ea er v ob H hn E hE hs
      exact ok_load H (F.of _ _ hi) ho E hs
    · cases hc
  · -- store
    rename_i t a x ho
    split at hc
    · rename_i i hi
      cases hc
      intro ι ow h w ea er v h' H E hE hs
      exact ok_store hX H (F.of _ _ hi) ho E hs
    · cases hc
  · rename_i x ho
    cases hc
    intro ι ow h w nm ea er v ob H hn E hE hs
    exact ok_nilc H ho E hs
  · -- binOp
    rename_i op t x y u ho
    split at hc
    · cases hc
    · rename_i i hi
      split at hc
      · cases hc
        intro ι ow h w nm ea er v ob H hn E hE hs
        exact ok_bin H ho E hs
      · cases hc
        intro ι ow h w nm ea er v ob H hn E hE hs
        exact ok_bin H ho E hs
      · split at hc
        · exact eqOp_ok (neg := false) F hd hi ho hc
        · exact eqOp_ok (neg := true) F hd hi ho hc
        · cases hc
  · rename_i op t x ho
    cases hc
    intro ι ow h w nm ea er v ob H hn E hE hs
    exact ok_un H ho E hs
  · -- convert
    rename_i s d x ho
    split at hc
    · rename_i si di hs hd'
      split at hc
      · rename_i k1 k hu hv
        cases hc
        intro ι ow h w nm ea er v ob H hn E hE hs'
        exact ok_cvi H (F.of _ _ hs) (F.of _ _ hd') hv ho E hs'
      · rename_i hu hv
        cases hc
        intro ι ow h w nm ea er v ob H hn E hE hs'
        exact ok_cvss H (F.of _ _ hs) (F.of _ _ hd') hv ho E hs'
      · rename_i e hu hv
        split at hc
        · rename_i ei he
          split at hc
          · rename_i hw
            cases hc
            intro ι ow h w nm ea er v ob H hn E hE hs'
            exact ok_cvsb hn (F.of _ _ hs) (F.of _ _ hd') (F.of _ _ he) hv hw ho E hs'
          · cases hc
        · cases hc
      · rename_i e hu hv
        split at hc
        · rename_i ei he
          split at hc
          · rename_i hw
            cases hc
            intro ι ow h w nm ea er v ob H hn E hE hs'
            exact ok_cvbs H (F.of _ _ hs) (F.of _ _ hd') (F.of _ _ he) hu hv hw ho E hs'
          · cases hc
        · cases hc
      · rename_i e1 e hu hv
        split at hc
        · rename_i ei hsd he
          split at hc
          · rename_i hw
            cases hc
            intro ι ow h w nm ea er v ob H hn E hE hs'
            exact ok_mark hX H (F.of _ _ hs) (F.of _ _ hd') (F.of _ _ he) ⟨_, hu⟩ hv hw (Nat.eq_of_beq_eq_true hsd) ho E hs'
          · cases hc
        · cases hc
      · cases hc
    · cases hc
  · -- sliceToArrayPointer
    rename_i t x ho
    split at hc
    · rename_i i hi
      split at hc
      · rename_i n e hu
        cases hc
        intro ι ow h w nm ea er v ob H hn E hE hs
        exact ok_s2a H (F.of _ _ hi) hu ho E hs
      · cases hc
    · cases hc
  · -- makeFunc
    rename_i fn first captured ho
    split at hc
    · rename_i f
      cases hc
      intro ι ow h w nm ea er v ob H hn E hE hs
      exact ok_mkf H ho E hs
    · cases hc
  · -- makeMap
    rename_i t ho
    cases hc
    intro ι ow h w nm ea er v ob H hn E hE hs
    exact ok_mkmap hn ho hs
  · -- makeSlice
    rename_i t l c ho
    split at hc
    · rename_i i hi
      split at hc
      · rename_i e hu
        split at hc
        · rename_i ei he
          cases h1 : Nat.beq (vcells ei.zero).length ei.size with
          | false => rw [h1] at hc; cases hc
          | true =>
            rw [h1] at hc; cases hc
            intro ι ow h w nm ea er v ob H hn E hE hs
            exact ok_mkslice hn (F.of _ _ hi) hu (F.of _ _ he) (Nat.eq_of_beq_eq_true h1) ho E hs
        · cases hc
      · cases hc
    · cases hc
  · -- slice
    rename_i t x lo hi mx ho
    split at hc
    · cases hc
    · rename_i i hm hi'
      have hm' : mx.isSome = true → hi.isSome = true := by
        intro h; rw [h] at hm; exact hm
      split at hc
      · rename_i e hu
        split at hc
        · rename_i ei he
          cases hc
          intro ι ow h w nm ea er v ob H hn E hE hs
          exact ok_slc H (F.of _ _ hi') hu (F.of _ _ he) hm' ho E hs
        · cases hc
      · rename_i hu
        split at hc
        · cases hc
          intro ι ow h w nm ea er v ob H hn E hE hs
          exact ok_slstr H (F.of _ _ hi') hu ho E hs
        · cases hc
      · rename_i n e hu
        split at hc
        · rename_i ei he
          cases hc
          intro ι ow h w nm ea er v ob H hn E hE hs
          exact ok_slarr H (F.of _ _ hi') hu (F.of _ _ he) hm' ho E hs
        · cases hc
      · cases hc
    · cases hc
  · -- fieldAddr
    rename_i s x k ho
    split at hc
    · rename_i i hi
      split at hc
      · rename_i fs hu
        split at hc
        · rename_i fd hf
          split at hc
          · rename_i fi hfi
            cases h1 : Nat.beq fi.size 0 with
            | true => rw [h1] at hc; cases hc
            | false =>
              rw [h1] at hc; cases hc
              intro ι ow h w nm ea er v ob H hn E hE hs
              exact ok_fld H (F.of _ _ hi) hu hf (F.of _ _ hfi) (fun e => by rw [e] at h1; cases h1) ho E hs
          · cases hc
        · cases hc
      · cases hc
    · cases hc
  · -- field
    rename_i t x k ho
    split at hc
    · rename_i i hi
      split at hc
      · rename_i fs hu
        split at hc
        · rename_i fd hf
          split at hc
          · rename_i fi hfi
            cases hc
            intro ι ow h w nm ea er v ob H hn E hE hs
            exact ok_fldv H (F.of _ _ hi) hu hf (F.of _ _ hfi) ho E hs
          · cases hc
        · cases hc
      · cases hc
    · cases hc
  · -- indexAddr
    rename_i t x ix ho
    split at hc
    · rename_i i hi
      split at hc
      · rename_i n e hu
        split at hc
        · rename_i ei he
          cases hc
          intro ι ow h w nm ea er v ob H hn E hE hs
          exact ok_ixa H (F.of _ _ hi) hu (F.of _ _ he) ho E hs
        · cases hc
      · rename_i e hu
        split at hc
        · rename_i ei he
          cases hc
          intro ι ow h w nm ea er v ob H hn E hE hs
          exact ok_ixs H (F.of _ _ hi) hu (F.of _ _ he) ho E hs
        · cases hc
      · cases hc
    · cases hc
  · -- index
    rename_i t x ix ho
    split at hc
    · rename_i i hi
      split at hc
      · rename_i n e hu
        split at hc
        · rename_i ei he
          cases hc
          intro ι ow h w nm ea er v ob H hn E hE hs
          refine ok_ixv H (F.of _ _ hi) hu (F.of _ _ he) ?_ ho E hs
          cases h1 : ei.agg with
          | true => left; simp [TyI.cells, h1]
          | false => right; rfl
        · cases hc
      · rename_i hu
        cases hc
        intro ι ow h w nm ea er v ob H hn E hE hs
        exact ok_ixstr H (F.of _ _ hi) hu ho E hs
      · cases hc
    · cases hc
  · -- lookup
    rename_i t m k ok ho
    split at hc
    · rename_i i hi
      split at hc
      · rename_i kt e hu
        split at hc
        · rename_i kk ei hk he
          cases hc
          intro ι ow h w nm ea er v ob H hn E hE hs
          exact ok_lookup F H (F.of _ _ hi) hu (F.of _ _ he) hk ho E hs
        · cases hc
      · cases hc
    · cases hc
  · -- mapUpdate
    rename_i t m k x ho
    split at hc
    · rename_i i hi
      split at hc
      · rename_i kt e hu
        split at hc
        · rename_i kk hk
          cases hc
          intro ι ow h w ea er v h' H E hE hs
          exact ok_mset F hX H (F.of _ _ hi) hu hk (.inl ho) E hs
        · cases hc
      · cases hc
    · cases hc
  · -- insert
    rename_i t m k x ho
    split at hc
    · rename_i i hi
      split at hc
      · rename_i kt e hu
        split at hc
        · rename_i kk hk
          cases hc
          intro ι ow h w ea er v h' H E hE hs
          exact ok_mset F hX H (F.of _ _ hi) hu hk (.inr ho) E hs
        · cases hc
      · cases hc
    · cases hc
  · -- mapEntry
    rename_i t m k ho
    split at hc
    · rename_i i hi
      split at hc
      · rename_i kt e hu
        split at hc
        · rename_i kk ei hk he
          cases hc
          intro ι ow h w ea er v h' H E hE hs
          exact ok_ment F hX H (F.of _ _ hi) hu (F.of _ _ he) hk ho E hs
        · cases hc
      · cases hc
    · cases hc
  · -- entryStore
    rename_i t m s x ho
    cases hc
    intro ι ow h w ea er v h' H E hE hs
    exact ok_esto hX H ho E hs
  · -- range
    rename_i t x ho
    split at hc
    · rename_i i hi
      split at hc
      · rename_i k e hu
        cases hc
        intro ι ow h w ea er v h' H E hE hs
        exact ok_rangem hX H (F.of _ _ hi) hu ho E hs
      · rename_i hu
        cases hc
        intro ι ow h w ea er v h' H E hE hs
        exact ok_ranges hX H (F.of _ _ hi) hu ho E hs
      · cases hc
    · cases hc
  · -- next
    rename_i it isStr ho
    cases isStr with
    | true =>
      cases hc
      intro ι ow h w ea er v h' H E hE hs
      exact ok_nexts hX H ho E hs
    | false =>
      cases hc
      intro ι ow h w ea er v h' H E hE hs
      exact ok_nextm hX H ho E hs
  · rename_i it ho
    cases hc
    intro ι ow h w ea er v h' H E hE hs
    exact ok_entry H ho E hs
  · rename_i x k ho
    cases hc
    intro ι ow h w nm ea er v ob H hn E hE hs
    exact ok_ext H ho E hs
  · rename_i b args ts ho
    exact builtin_ok F hX ho hc
  · rename_i f args ts ho
    cases hc
    exact ⟨_, ho, rfl, rfl⟩
  · cases hc
end Go.AM

/- Regions in the order of their text. -/
namespace Go.AM
variable {DF : List Deferred}
variable {P : Program} {X : Opq} {ty : Ty}

/-! ### temporaries -/
structure TRel (DF : List Deferred) (ι : Emb) (nt : Nat) (T : Tr Value) (a : Act) : Prop where
  size : nt ≤ a.tmps.size
  val : ∀ i, VRel ι (evA T (.tmp i)) (a.eval (.tmp i))
  defers : a.defers = DF
theorem TRel.mono {ι ι' : Emb} {nt : Nat} {T : Tr Value} {a : Act} (h : TRel DF ι nt T a) (hi : ι.le ι') : TRel DF ι' nt T a := ⟨h.size, fun i => (h.val i).mono hi, h.defers⟩
theorem evA_put (T : Tr Value) (d : Nat) (v : Value) (i : Nat) : evA (T.put d v) (.tmp i) = if d = i then v else evA T (.tmp i) := by
  simp only [evA, Tr.get_put]
  by_cases h : d = i
  · simp [h]
  · simp [h]
theorem TRel.put {ι : Emb} {nt : Nat} {T : Tr Value} {a : Act} (h : TRel DF ι nt T a) {dst : Option Nat} (hd : ∀ d, dst = some d → d < nt) {v v' : Value} (hv : VRel ι v v') : TRel DF ι nt (putA T dst v) (a.put dst v') := by
  cases dst with
  | none => exact h
  | some d =>
    have hlt : d < a.tmps.size := Nat.lt_of_lt_of_le (hd d rfl) h.size
    refine ⟨by simpa [Act.put] using h.size, fun i => ?_, h.defers⟩
    show VRel ι (evA (T.put d v) (.tmp i)) _
    rw [evA_put]
    by_cases e : d = i
    · subst e
      rw [if_pos rfl]
      have : (a.put (some d) v').eval (.tmp d) = v' := by simp [Act.eval, Act.put, hlt]
      rw [this]; exact hv
    · rw [if_neg e]
      have : (a.put (some d) v').eval (.tmp i) = a.eval (.tmp i) := by simp [Act.eval, Act.put, Array.getElem?_setIfInBounds_ne e]
      rw [this]; exact h.val i
theorem TRel.ev {ι : Emb} {nt : Nat} {T : Tr Value} {a : Act} (h : TRel DF ι nt T a) {x : Operand} (hx : closedO x = true) : VRel ι (evA T x) (a.eval x) := by
  cases x with
  | tmp i => exact h.val i
  | const z => exact VRel.closed hx
  | global g => cases hx
  | func f => exact VRel.mkFunc (s := []) (t := []) (s' := []) (t' := []) .nil .nil
theorem TRel.evs {ι : Emb} {nt : Nat} {T : Tr Value} {a : Act} (h : TRel DF ι nt T a) {xs : Array Operand} (hx : xs.all closedO = true) : EvRel ι (evA T) a.eval xs := fun x hm => h.ev (Array.all_eq_true_iff_forall_mem.1 hx x hm)
theorem wanted_rel {ι : Emb} {nt : Nat} {T : Tr Value} {a : Act} (h : TRel DF ι nt T a) {o : Oper} {ops : Array Oper} {g : Option (Nat × Bool)}
    (hg : match o.guard with | none => g = none | some (j, want) => ∃ d, (ops[j]?).bind (·.dst) = some d ∧ g = some (d, want)) : Region.wanted o (yielded ops a.tmps) = wantedA T g := by
  unfold Region.wanted
  cases hgd : o.guard with
  | none => rw [hgd] at hg; subst hg; rfl
  | some p =>
    obtain ⟨j, want⟩ := p
    rw [hgd] at hg
    obtain ⟨d, hd, rfl⟩ := hg
    have hv := h.val d
    simp only [evA, Act.eval] at hv
    simp only [yielded, hd, Option.bind_some, wantedA]
    cases hT : T.get d with
    | none =>
      rw [hT] at hv
      cases ha : a.tmps[d]? with
      | none => rfl
      | some u =>
        have : a.tmps.getD d undef = u := by simp [Array.getD, (Array.getElem?_eq_some_iff.1 ha).1]; exact (Array.getElem?_eq_some_iff.1 ha).2
        rw [this] at hv
        cases u with
        | bool b => cases hv
        | _ => rfl
    | some v =>
      rw [hT] at hv
      cases ha : a.tmps[d]? with
      | none =>
        have : a.tmps.getD d undef = undef := by
          have := Array.getElem?_eq_none_iff.1 ha
          simp [Array.getD, Nat.not_lt.2 this]
        rw [this] at hv
        cases v with
        | bool b => cases hv
        | _ => rfl
      | some u =>
        have : a.tmps.getD d undef = u := by simp [Array.getD, (Array.getElem?_eq_some_iff.1 ha).1]; exact (Array.getElem?_eq_some_iff.1 ha).2
        rw [this] at hv
        cases hv <;> rfl

/-! ### calls -/
def Enters (P : Program) (f : FuncId) : Prop := ∃ fn, P.funcs[f]? = some fn ∧ fn.body.isSome = true ∧ (fn.name == "runtime.NumGoroutine") = false
theorem Enters.run {f : FuncId} (h : Enters P f) (args : Array Value) (w : World) : (callFunc f args).run P w = .ok (.enter f args) w := by
  obtain ⟨fn, h1, h2, h3⟩ := h
  have h4 : fn.body.isNone = false := by cases hb : fn.body <;> simp_all
  simp only [callFunc, Sem.run_bind, run_program, Result.andThen_ok, h1, h3, Bool.false_eq_true, if_false, h4, Sem.run_pure]
/-- how a call comes back -/
def Back (X : Opq) (ι : Emb) (ow : Own) (h : Heap) (w : World) (v : Value) (h' : Heap) : Ending → World → Prop
  | .returned v', w' => ∃ ι' ow', ι.ext ι' h.next ∧ VRel ι' v v' ∧ HRel X ι' ow' h' w' ∧ Fr ow h w ow' h' w'
  | _, _ => False
def CallOk (P : Program) (X : Opq) (cl : Call) : Prop :=
  ∀ f args h v h', cl f args h = some (v, h') → Enters P f ∧ ∀ (ι : Emb) (ow : Own) (w : World) (args' : Array Value), HRel X ι ow h w → LRel ι args args'.toList → Calls P f args' w (Back X ι ow h w v h')
theorem call_exec {o : Oper} {c : Go.Call} {f : Operand} (ho : o.op = .call c) (hc : c.callee = .value f) {er : Operand → Value} {g : FuncId} {a b : Array Value} (hf : er f = .func (.func g) a b) (hg : Enters P g) (w : World) :
    (execOp er o).run P w = .ok (.enter g (a ++ c.args.map er ++ b)) w := by
  simp only [execOp, ho, resolve, hc, hf]
  simp [Deferred.ofValue, invoke, hg.run]
/-! ### the state of a region -/
/-- from the start of a region -/
structure RI (DF : List Deferred) (X : Opq) (nt : Nat) (ι0 : Emb) (ow0 : Own) (h0 : Heap) (w0 : World) (n : Nat) (ι : Emb) (ow : Own) (h : Heap) (w : World) (T : Tr Value) (a : Act) : Prop where
  ext : ι0.ext ι h0.next
  rel : HRel X ι ow h w
  fr : Fr ow0 h0 w0 ow h w
  tmps : TRel DF ι nt T a
  nxt : h0.next + n ≤ h.next
theorem Fr.grow {ow0 ow : Own} {h0 h : Heap} {w0 w w' : World} (b : Fr ow0 h0 w0 ow h w) {n : Nat} {o : AObj} {ob : Obj} (hw : w'.heap = w.heap.push ob) (hos : w'.os = w.os) (hout : w'.output = w.output) (hn : h0.next ≤ n) (hnew : h.next = (h.set n o).next) :
    Fr ow0 h0 w0 (updO ow n (fun b => b = w.heap.size)) (h.set n o) w' where
  size := by rw [hw, Array.size_push]; have := b.size; omega
  keep := fun k hk hno => by
    have hk2 : k < w.heap.size := Nat.lt_of_lt_of_le hk b.size
    rw [hw, Array.getElem?_push_lt hk2, ← Array.getElem?_eq_getElem hk2]; exact b.keep k hk hno
  own := fun m k hm hk hlt => by
    unfold updO at hk
    by_cases e : n = m
    · simp [e] at hk; have := b.size; omega
    · simp [e] at hk
      exact b.own m k (by unfold Heap.live at hm ⊢; rw [Heap.get_set] at hm; simpa [e] using hm) hk hlt
  os := by rw [hos]; exact b.os
  out := by rw [hout]; exact b.out
  nxt := b.nxt
  old := fun m hm hl => b.old m hm (by unfold Heap.live at hl ⊢; rw [Heap.get_set] at hl; simpa [show ¬ n = m by omega] using hl)
theorem Fr.same {ι : Emb} {ow0 ow : Own} {h0 h : Heap} {w0 w w' : World} (b : Fr ow0 h0 w0 ow h w) (s : Same X ι ow h w w') : Fr ow0 h0 w0 ow h w' where
  size := by rw [s.size]; exact b.size
  keep := fun k hk hno => by
    rw [s.keep k (fun n hl ho => ?_)]
    · exact b.keep k hk hno
    · obtain ⟨m, hm, hom⟩ := b.own n k hl ho hk
      exact hno m hm hom
  own := b.own
  os := by rw [s.os]; exact b.os
  out := by rw [s.out]; exact b.out
  nxt := b.nxt
  old := b.old
/-- a simple operation -/
theorem RI.simple {nt : Nat} {ι0 : Emb} {ow0 : Own} {h0 : Heap} {w0 : World} {n : Nat} {ι : Emb} {ow : Own} {h : Heap} {w : World} {T : Tr Value} {a : Act} (hX : X.local) (R : RI DF X nt ι0 ow0 h0 w0 n ι ow h w T a) {i : Nat} (hin : i < n)
    (hi : ι (h0.next + i) = none) {dst : Option Nat} (hd : ∀ d, dst = some d → d < nt) {v : Value} {ob : Option AObj} {r : Result Next} (hs : SOk X ι ow h w (h0.next + i) v ob r) :
    ∃ v' w' ι' ow', r = .ok (.value v') w' ∧ RI DF X nt ι0 ow0 h0 w0 n ι' ow' (h.putO (h0.next + i) ob) w' (putA T dst v) (a.put dst v') ∧ (∀ m, m ≠ h0.next + i → ι' m = ι m) := by
  obtain ⟨v', w', rfl, hs⟩ := hs
  cases ob with
  | none =>
    obtain ⟨hv, s⟩ := hs
    exact ⟨v', w', ι, ow, rfl, ⟨R.ext, s.rel, R.fr.same s, R.tmps.put hd hv, R.nxt⟩, fun _ _ => rfl⟩
  | some p =>
    obtain ⟨hos, hout, l, obj, hw, hv, ho⟩ := hs
    have hle := upd_le (l := l) hi
    have hnx := R.nxt
    refine ⟨v', w', upd ι (h0.next + i) l, updO ow (h0.next + i) (fun b => b = w.heap.size), rfl, ⟨?_, ?_, ?_, (R.tmps.mono hle).put hd hv, R.nxt⟩, fun m hm => upd_ne ι l (fun e => hm e.symm)⟩
    · exact ⟨Emb.le_trans R.ext.1 hle, fun m hm => by rw [upd_ne ι l (by omega)]; exact R.ext.2 m hm⟩
    · exact HRel.add hX R.rel hi hw (fun m => Heap.get_set h _ m p) (show h0.next + i < h.next by omega) (Nat.le_refl _) ho
    · exact R.fr.grow hw hos hout (Nat.le_add_right _ _) rfl
/-- an operation with effects -/
theorem RI.heavy {nt : Nat} {ι0 : Emb} {ow0 : Own} {h0 : Heap} {w0 : World} {n : Nat} {ι : Emb} {ow : Own} {h : Heap} {w : World} {T : Tr Value} {a : Act} (R : RI DF X nt ι0 ow0 h0 w0 n ι ow h w T a)
    {dst : Option Nat} (hd : ∀ d, dst = some d → d < nt) {v v' : Value} {h' : Heap} {w' : World} {ι' : Emb} {ow' : Own} (he : ι.ext ι' h.next) (hv : VRel ι' v v') (hr : HRel X ι' ow' h' w') (hf : Fr ow h w ow' h' w') :
    RI DF X nt ι0 ow0 h0 w0 n ι' ow' h' w' (putA T dst v) (a.put dst v') ∧ (∀ m, m < h.next → ι' m = ι m) :=
  ⟨⟨Emb.ext_trans R.ext R.fr.nxt he, hr, R.fr.trans hf, (R.tmps.mono he.1).put hd hv, Nat.le_trans R.nxt hf.nxt⟩, he.2⟩
end Go.AM

/- Regions in the order of their text: the walk. -/
namespace Go.AM
variable {DF : List Deferred}
variable {P : Program} {X : Opq} {ty : Ty}

/-- what is known of a compiled operation -/
structure OpOk (ty : Ty) (nt : Nat) (ops : Array Oper) (b : BOper) (o : Oper) : Prop where
  get : ops[b.idx]? = some o
  dst : b.dst = o.dst
  lt : ∀ d, b.dst = some d → d < nt
  op : compOp ty o.op = some b.op
  closed : o.op.operands.all closedO = true
  guard : match o.guard with | none => b.guard = none | some (j, want) => ∃ d, (ops[j]?).bind (·.dst) = some d ∧ b.guard = some (d, want)
theorem compOper_ok {nt : Nat} {ops : Array Oper} {i q : Nat} {b : BOper} (h : compOper ty nt ops i q = some b) : b.idx = i ∧ b.q = q ∧ ∃ o, OpOk ty nt ops b o := by
  unfold compOper at h
  cases hi : ops[i]? with
  | none => rw [hi] at h; cases h
  | some o =>
    rw [hi] at h; dsimp only at h
    cases hc : o.op.operands.all closedO with
    | false => rw [hc] at h; cases h
    | true =>
      cases hop : compOp ty o.op with
      | none => rw [hc, hop] at h; cases h
      | some op =>
        rw [hc, hop] at h; dsimp only at h
        cases hd : dstOk nt o.dst with
        | false => rw [hd] at h; cases h
        | true =>
          rw [hd] at h; dsimp only at h
          have hlt : ∀ d, o.dst = some d → d < nt := by
            intro d e
            rw [e] at hd
            exact blt_lt hd
          cases hg : o.guard with
          | none =>
            rw [hg] at h
            cases h
            exact ⟨rfl, rfl, o, hi, rfl, hlt, hop, hc, by rw [hg]⟩
          | some p =>
            obtain ⟨j, want⟩ := p
            rw [hg] at h; dsimp only at h
            cases hb : (ops[j]?).bind (·.dst) with
            | none => rw [hb] at h; cases h
            | some d =>
              rw [hb] at h
              cases h
              exact ⟨rfl, rfl, o, hi, rfl, hlt, hop, hc, by rw [hg]; exact ⟨d, hb, rfl⟩⟩
theorem compRegL_ok {nt : Nat} {ops : Array Oper} {q : Nat → Nat} : ∀ {is : List Nat} {l : List BOper}, compRegL ty nt ops q is = some l → All2 (fun i b => b.idx = i ∧ b.q = q i ∧ ∃ o, OpOk ty nt ops b o) is l
  | [], l, h => by cases h; exact .nil
  | i :: is, l, h => by
    simp only [compRegL] at h
    cases h1 : compOper ty nt ops i (q i) with
    | none => rw [h1] at h; cases h
    | some b =>
      cases h2 : compRegL ty nt ops q is with
      | none => rw [h1, h2] at h; cases h
      | some l' =>
        rw [h1, h2] at h; cases h
        exact .cons (compOper_ok h1) (compRegL_ok h2)
theorem toList_opt (x : Array Value) : x.toList = x.toList := rfl
/-- a call -/
theorem call_ok {cl : Call} (hcl : CallOk P X cl) {o : Oper} {f : Operand} {args : List Operand} (ha : ActOk P X o (.call f args)) (hclo : o.op.operands.all closedO = true)
    {nt : Nat} {ι : Emb} {ow : Own} {h : Heap} {w : World} {T : Tr Value} {a : Act} (ht : TRel DF ι nt T a) (H : HRel X ι ow h w) {v : Value} {h' : Heap} (hs : doCall cl T f args h = some (v, h')) :
    ∃ g cargs, (execOp a.eval o).run P w = .ok (.enter g cargs) w ∧ Calls P g cargs w (Back X ι ow h w v h') := by
  obtain ⟨c, ho, hc, hargs⟩ := ha
  have E := ht.evs hclo
  have hf := E f (by rw [ho]; simp [Op.operands, Call.operands, hc])
  have hA : LRel ι (args.map (evA T)) (c.args.map a.eval).toList := by
    rw [← hargs, Array.toList_map]
    exact All2.of_map _ (fun x hx => E x (by rw [ho]; simp [Op.operands, Call.operands]; exact .inr (by simpa using hx)))
  unfold doCall at hs
  generalize evA T f = f1 at *
  generalize hfe : a.eval f = f2 at *
  cases hf with
  | func g x y x' y' hx hy rx ry =>
    dsimp only at hs
    obtain ⟨hen, hcall⟩ := hcl _ _ _ _ _ hs
    refine ⟨g, x' ++ c.args.map a.eval ++ y', call_exec ho hc hfe hen w, hcall ι ow w _ H ?_⟩
    rw [Array.toList_append, Array.toList_append]
    exact ((LRel.of_arr hx rx).append hA).append (LRel.of_arr hy ry)
  | _ => cases hs
/-- an operation that is not simple: the model's step -/
theorem hard_ok (F : PF P ty) (hd : kdepth ≤ P.depth) (hX : X.local) {cl : Call} (hcl : CallOk P X cl) {nt : Nat} {ops : Array Oper} {b : BOper} {o : Oper} (ok : OpOk ty nt ops b o) {ι : Emb} {ow : Own} {h : Heap} {w : World} {T : Tr Value} {a : Act}
    (ht : TRel DF ι nt T a) (H : HRel X ι ow h w) {v : Value} {h' : Heap} (hs : doHard cl T h b.op = some (v, h')) {K : Act → World → Prop} {Q : Exit → Act → World → Prop}
    (hK : ∀ v' w' ι' ow', ι.ext ι' h.next → VRel ι' v v' → HRel X ι' ow' h' w' → Fr ow h w ow' h' w' → K (a.put o.dst v') w') : o.wp P a w K Q := by
  have hact := act_ok F hd hX ok.op
  have E := ht.evs ok.closed
  unfold Oper.wp
  cases hb : b.op with
  | simp l f => rw [hb] at hs; cases hs
  | heavy f =>
    rw [hb] at hs hact
    obtain ⟨nx, v', w', ι', ow', hr, hn, he, hv, hr2, hf⟩ := hact ι ow h w (evA T) a.eval v h' H E (fun _ => rfl) hs
    rw [hr]
    cases nx <;> cases hn
    · exact hK _ _ _ _ he hv hr2 hf
    · exact hK _ _ _ _ he hv hr2 hf
  | call f args =>
    rw [hb] at hs hact
    obtain ⟨g, cargs, hr, hc⟩ := call_ok hcl hact ok.closed ht H hs
    rw [hr]
    refine Calls.mono hc (fun e w' he => ?_)
    cases e with
    | returned v' =>
      obtain ⟨ι', ow', h1, h2, h3, h4⟩ := he
      exact hK _ _ _ _ h1 h2 h3 h4
    | _ => cases he
theorem reg_ok (F : PF P ty) (hd : kdepth ≤ P.depth) (hX : X.local) {cl : Call} (hcl : CallOk P X cl) {nt : Nat} {ops : Array Oper} {ι0 : Emb} {ow0 : Own} {h0 : Heap} {w0 : World} {n : Nat} {Q : Exit → Act → World → Prop} :
    ∀ (is : List Nat) (l : List BOper), All2 (fun i b => b.idx = i ∧ ∃ o, OpOk ty nt ops b o) is l → is.Nodup → (∀ i ∈ is, i < n) → ∀ (ι : Emb) (ow : Own) (h : Heap) (w : World) (T : Tr Value) (a : Act) (T' : Tr Value) (h' : Heap),
      RI DF X nt ι0 ow0 h0 w0 n ι ow h w T a → (∀ i ∈ is, ι (h0.next + i) = none) → regA cl h0.next l T h = some (T', h') →
      (∀ ι' ow' w' a', RI DF X nt ι0 ow0 h0 w0 n ι' ow' h' w' T' a' → Q .normal a' w') → wpOps P ops Q is a w := by
  intro is l hall
  induction hall with
  | nil =>
    intro _ _ ι ow h w T a T' h' R _ hr hQ
    have hr : some (T, h) = some (T', h') := hr
    cases hr
    exact hQ ι ow w a R
  | @cons i b is l hb hs ih =>
    intro hnd hlt ι ow h w T a T' h' R hfresh hr hQ
    obtain ⟨hidx, o, ok⟩ := hb
    subst hidx
    have hr : regStep cl h0.next b (regA cl h0.next l) T h = some (T', h') := hr
    rw [List.nodup_cons] at hnd
    have hbn : b.idx < n := hlt _ (by simp)
    have hw := wanted_rel (o := o) (ops := ops) (g := b.guard) R.tmps ok.guard
    simp only [wpOps, ok.get]
    unfold regStep at hr
    cases hwa : wantedA T b.guard with
    | false =>
      rw [hwa] at hr hw; dsimp only at hr
      rw [hw]
      simp only [Bool.false_eq_true, if_false]
      have R' : RI DF X nt ι0 ow0 h0 w0 n ι ow h w (putA T b.dst undef) (a.put o.dst undef) := by
        rw [← ok.dst]
        exact ⟨R.ext, R.rel, R.fr, R.tmps.put ok.lt (VRel.undef ι), R.nxt⟩
      exact ih hnd.2 (fun j hj => hlt j (by simp [hj])) ι ow h w _ _ T' h' R' (fun j hj => hfresh j (by simp [hj])) hr hQ
    | true =>
      rw [hwa] at hr hw; dsimp only at hr
      rw [hw]
      simp only [if_true]
      left
      have hard : ∀ (v : Value) (h2 : Heap), doHard cl T h b.op = some (v, h2) → regA cl h0.next l (putA T b.dst v) h2 = some (T', h') → o.wp P a w (wpOps P ops Q is) Q := by
        intro v h2 hdo hrest
        refine hard_ok F hd hX hcl ok R.tmps R.rel hdo (fun v' w' ι' ow' e1 e2 e3 e4 => ?_)
        rw [← ok.dst]
        obtain ⟨R', hsame⟩ := R.heavy ok.lt e1 e2 e3 e4
        refine ih hnd.2 (fun j hj => hlt j (by simp [hj])) ι' ow' h2 w' _ _ T' h' R' (fun j hj => ?_) hrest hQ
        have := R.nxt
        have hjn := hlt j (by simp [hj])
        rw [hsame _ (by omega)]
        exact hfresh j (by simp [hj])
      cases hop : b.op with
      | simp looks f =>
        rw [hop] at hr; dsimp only at hr
        cases hf : f (Nat.add h0.next b.idx) (evA T) h.get with
        | none => rw [hf] at hr; cases hr
        | some p =>
          obtain ⟨v, ob⟩ := p
          rw [hf] at hr; dsimp only at hr
          have hact := act_ok F hd hX ok.op
          rw [hop] at hact
          have hi := hfresh b.idx (by simp)
          have hs := hact ι ow h w (h0.next + b.idx) (evA T) a.eval v ob R.rel hi (R.tmps.evs ok.closed) (fun _ => rfl) hf
          obtain ⟨v', w', ι', ow', hrun, R', hsame⟩ := R.simple hX hbn hi ok.lt hs
          unfold Oper.wp
          rw [hrun]
          show wpOps P ops Q is (a.put o.dst v') w'
          rw [← ok.dst]
          refine ih hnd.2 (fun j hj => hlt j (by simp [hj])) ι' ow' _ w' _ _ T' h' R' (fun j hj => ?_) hr hQ
          rw [hsame _ (by intro e; have : j = b.idx := by omega
                          exact hnd.1 (this ▸ hj))]
          exact hfresh j (by simp [hj])
      | heavy f =>
        rw [hop] at hr; dsimp only at hr
        cases hdo : doHard cl T h (.heavy f) with
        | none => rw [hdo] at hr; cases hr
        | some p =>
          obtain ⟨v, h2⟩ := p
          rw [hdo] at hr
          exact hard v h2 (by rw [hop]; exact hdo) hr
      | call f args =>
        rw [hop] at hr; dsimp only at hr
        cases hdo : doHard cl T h (.call f args) with
        | none => rw [hdo] at hr; cases hr
        | some p =>
          obtain ⟨v, h2⟩ := p
          rw [hdo] at hr
          exact hard v h2 (by rw [hop]; exact hdo) hr
end Go.AM

/- Code: the machine's is the model's. -/
namespace Go.AM
variable {DF : List Deferred}
variable {P : Program} {X : Opq} {ty : Ty}

/-- so many rounds of a loop, at most -/
def Rounds (P : Program) (c : Code) (Q : Exit → Act → World → Prop) : Nat → Act → World → Prop
  | 0, _, _ => False
  | n + 1, a, w => c.wp P (Exit.then (Rounds P c Q n) Q) a w
theorem wp_rounds {c : Code} {Q : Exit → Act → World → Prop} {n : Nat} {a : Act} {w : World} (h : Rounds P c Q n a w) : (Code.loop c).wp P Q a w := by
  intro b k cs
  have key : ∀ n a w, Rounds P c Q n a w → ∃ e a' w', Q e a' w' ∧ Arrives P (lone (b.at a (.code c :: .inLoop c :: k)) cs w) b k cs e a' w' := by
    intro n
    induction n with
    | zero => intro a w h; cases h
    | succ n ih =>
      intro a w hI
      obtain ⟨e, a₁, w₁, hq, harr⟩ := hI b (.inLoop c :: k) cs
      cases e with
      | normal =>
        obtain ⟨e₂, a₂, w₂, hq₂, harr₂⟩ := ih a₁ w₁ hq
        exact ⟨e₂, a₂, w₂, hq₂, .of_steps (Steps.trans harr (.one step_inLoop)) harr₂⟩
      | exit id => exact ⟨_, a₁, w₁, hq, .pass (x := .inLoop c) rfl (fun _ _ => .inl (by simp)) harr⟩
      | goto l => exact ⟨_, a₁, w₁, hq, .pass (x := .inLoop c) rfl (fun _ _ => .inl (by simp)) harr⟩
      | ret => exact ⟨_, a₁, w₁, hq, .pass (x := .inLoop c) rfl (fun _ _ => .inl (by simp)) harr⟩
      | panic ch => exact ⟨_, a₁, w₁, hq, .pass (x := .inLoop c) rfl (fun _ _ => .inl (by simp)) harr⟩
      | outgrown => exact ⟨_, a₁, w₁, hq, .pass (x := .inLoop c) rfl (fun _ _ => .inl (by simp)) harr⟩
  obtain ⟨e, a', w', hq, harr⟩ := key n a w h
  exact ⟨e, a', w', hq, .of_steps (.one step_loop) harr⟩
def exitOf : Ex → Exit
  | .normal => .normal
  | .exit id => .exit id
  | .ret => .ret
/-- what is known behind -/
structure After (DF : List Deferred) (X : Opq) (nt : Nat) (ι : Emb) (ow : Own) (h : Heap) (w : World) (T' : Tr Value) (h' : Heap) (ι' : Emb) (ow' : Own) (w' : World) (a' : Act) : Prop where
  ext : ι.ext ι' h.next
  rel : HRel X ι' ow' h' w'
  fr : Fr ow h w ow' h' w'
  tmps : TRel DF ι' nt T' a'
theorem After.trans {nt : Nat} {ι ι1 ι2 : Emb} {ow ow1 ow2 : Own} {h h1 h2 : Heap} {w w1 w2 : World} {T1 T2 : Tr Value} {a1 a2 : Act} (A : After DF X nt ι ow h w T1 h1 ι1 ow1 w1 a1) (B : After DF X nt ι1 ow1 h1 w1 T2 h2 ι2 ow2 w2 a2) : After DF X nt ι ow h w T2 h2 ι2 ow2 w2 a2 :=
  ⟨Emb.ext_trans A.ext A.fr.nxt B.ext, B.rel, A.fr.trans B.fr, B.tmps⟩
def DrawnOk (P : Program) (X : Opq) (ty : Ty) (nt : Nat) (cl : Call) : Prop :=
  ∀ (DF : List Deferred) (id : Nat) (ops : Array Oper) (n : Nat) (l : List BOper), compReg ty nt ops true = some (.drawn n l) → ∀ (ι : Emb) (ow : Own) (h : Heap) (w : World) (T : Tr Value) (a : Act) (T' : Tr Value) (h' : Heap) (Q : Exit → Act → World → Prop),
    HRel X ι ow h w → TRel DF ι nt T a → drawA cl h.next l T { next := Nat.add h.next n, tab := h.tab } [(h.tab, [])] = some (T', h') →
    (∀ ι' ow' w' a', After DF X nt ι ow h w T' h' ι' ow' w' a' → Q .normal a' w') → (Code.region id ops true).wp P Q a w
theorem HRel.bump {ι : Emb} {ow : Own} {h : Heap} {w : World} (H : HRel X ι ow h w) (n : Nat) : HRel X ι ow { next := Nat.add h.next n, tab := h.tab } w :=
  ⟨H.obj, H.lt, H.dis, fun m hm => H.low m (Nat.le_trans (Nat.le_add_right _ _) hm)⟩
theorem Fr.bump (ow : Own) (h : Heap) (w : World) (n : Nat) : Fr ow h w ow { next := Nat.add h.next n, tab := h.tab } w :=
  ⟨Nat.le_refl _, fun _ _ _ => rfl, fun m _ hm ho _ => ⟨m, hm, ho⟩, rfl, rfl, Nat.le_add_right _ _, fun _ _ hl => hl⟩
theorem region_ok (F : PF P ty) (hd : kdepth ≤ P.depth) (hX : X.local) {cl : Call} (hcl : CallOk P X cl) {nt : Nat} {id : Nat} {ops : Array Oper} {n : Nat} {l : List BOper} (hc : compReg ty nt ops false = some (.reg n l))
    {ι : Emb} {ow : Own} {h : Heap} {w : World} {T : Tr Value} {a : Act} {T' : Tr Value} {h' : Heap} {Q : Exit → Act → World → Prop} (H : HRel X ι ow h w) (ht : TRel DF ι nt T a)
    (hr : regA cl h.next l T { next := Nat.add h.next n, tab := h.tab } = some (T', h')) (hQ : ∀ ι' ow' w' a', After DF X nt ι ow h w T' h' ι' ow' w' a' → Q .normal a' w') : (Code.region id ops false).wp P Q a w := by
  simp only [compReg] at hc
  cases h1 : compRegL ty nt ops (fun _ => 0) (List.range ops.size) with
  | none => rw [h1] at hc; cases hc
  | some l' =>
    rw [h1] at hc; cases hc
    refine wp_region ?_
    refine reg_ok (ι0 := ι) (ow0 := ow) (h0 := h) (w0 := w) F hd hX hcl _ l (All2.mono (fun _ _ hh => ⟨hh.1, hh.2.2⟩) (compRegL_ok h1)) List.nodup_range (fun i hi => List.mem_range.1 hi) ι ow _ w T a T' h'
      ⟨ι.ext_refl _, H.bump _, Fr.bump ow h w _, ht, Nat.le_refl _⟩ (fun i _ => H.low _ (Nat.le_add_right _ _)) hr (fun ι' ow' w' a' R => hQ ι' ow' w' a' ⟨R.ext, R.rel, R.fr, R.tmps⟩)
theorem code_ok (F : PF P ty) (hd : kdepth ≤ P.depth) (hX : X.local) {cl : Call} (hcl : CallOk P X cl) {nt : Nat} (hdr : DrawnOk P X ty nt cl) : ∀ (fuel : Nat),
    (∀ (c : Code) (b : BCode), compCode ty nt c = some b → ∀ (ι : Emb) (ow : Own) (h : Heap) (w : World) (T : Tr Value) (a : Act) (e : Ex) (T' : Tr Value) (h' : Heap) (Q : Exit → Act → World → Prop),
      HRel X ι ow h w → TRel DF ι nt T a → codeA cl fuel b T h = some (e, T', h') → (∀ ι' ow' w' a', After DF X nt ι ow h w T' h' ι' ow' w' a' → Q (exitOf e) a' w') → c.wp P Q a w) ∧
    (∀ (c : Code) (b : BCode), compCode ty nt c = some b → ∀ (ι : Emb) (ow : Own) (h : Heap) (w : World) (T : Tr Value) (a : Act) (e : Ex) (T' : Tr Value) (h' : Heap) (Q : Exit → Act → World → Prop),
      HRel X ι ow h w → TRel DF ι nt T a → codeA cl fuel (.loop b) T h = some (e, T', h') → (∀ ι' ow' w' a', After DF X nt ι ow h w T' h' ι' ow' w' a' → Q (exitOf e) a' w') → Rounds P c Q fuel a w) := by
  intro fuel
  induction fuel with
  | zero =>
    constructor
    · intro c b _ ι ow h w T a e T' h' Q _ _ hr _
      have hr : none = some (e, T', h') := hr
      cases hr
    · intro c b _ ι ow h w T a e T' h' Q _ _ hr _
      have hr : none = some (e, T', h') := hr
      cases hr
  | succ fuel ih =>
    obtain ⟨ihA, ihB⟩ := ih
    have B : ∀ (c : Code) (b : BCode), compCode ty nt c = some b → ∀ (ι : Emb) (ow : Own) (h : Heap) (w : World) (T : Tr Value) (a : Act) (e : Ex) (T' : Tr Value) (h' : Heap) (Q : Exit → Act → World → Prop),
      HRel X ι ow h w → TRel DF ι nt T a → codeA cl (fuel + 1) (.loop b) T h = some (e, T', h') → (∀ ι' ow' w' a', After DF X nt ι ow h w T' h' ι' ow' w' a' → Q (exitOf e) a' w') → Rounds P c Q (fuel + 1) a w := by
      intro c b hc ι ow h w T a e T' h' Q H ht hr hQ
      have hr : (match codeA cl fuel b T h with
        | some (.normal, t, h) => codeA cl fuel (.loop b) t h
        | r => r) = some (e, T', h') := hr
      show c.wp P (Exit.then (Rounds P c Q fuel) Q) a w
      cases h1 : codeA cl fuel b T h with
      | none => rw [h1] at hr; cases hr
      | some r =>
        obtain ⟨e1, T1, h1'⟩ := r
        rw [h1] at hr
        cases e1 with
        | normal =>
          dsimp only at hr
          refine ihA c b hc ι ow h w T a .normal T1 h1' _ H ht h1 (fun ι1 ow1 w1 a1 A => ?_)
          exact ihB c b hc ι1 ow1 h1' w1 T1 a1 e T' h' Q A.rel A.tmps hr (fun ι' ow' w' a' A' => hQ _ _ _ _ (A.trans A'))
        | exit i =>
          cases hr
          exact ihA c b hc ι ow h w T a (.exit i) _ _ _ H ht h1 hQ
        | ret =>
          cases hr
          exact ihA c b hc ι ow h w T a .ret _ _ _ H ht h1 hQ
    refine ⟨?_, B⟩
    intro c
    cases c with
    | skip =>
      intro b hc ι ow h w T a e T' h' Q H ht hr hQ
      cases hc; cases hr
      exact wp_skip (hQ _ _ _ _ ⟨ι.ext_refl _, H, Fr.refl _ _ _, ht⟩)
    | region id ops draw =>
      intro b hc ι ow h w T a e T' h' Q H ht hr hQ
      simp only [compCode] at hc
      cases draw with
      | false =>
        have hb : ∃ n l, b = .reg n l := by
          simp only [compReg] at hc
          cases h1 : compRegL ty nt ops (fun _ => 0) (List.range ops.size) with
          | none => rw [h1] at hc; cases hc
          | some l => rw [h1] at hc; cases hc; exact ⟨_, _, rfl⟩
        obtain ⟨n, l, rfl⟩ := hb
        have hr : (match regA cl h.next l T { next := Nat.add h.next n, tab := h.tab } with
          | some (t, h) => some (Ex.normal, t, h)
          | none => none) = some (e, T', h') := hr
        cases h1 : regA cl h.next l T { next := Nat.add h.next n, tab := h.tab } with
        | none => rw [h1] at hr; cases hr
        | some r =>
          obtain ⟨T1, h2⟩ := r
          rw [h1] at hr; cases hr
          exact region_ok F hd hX hcl hc H ht h1 hQ
      | true =>
        have hb : ∃ n l, b = .drawn n l := by
          simp only [compReg] at hc
          split at hc
          · cases h1 : compRegL ty nt ops _ _ with
            | none => rw [h1] at hc; cases hc
            | some l => rw [h1] at hc; cases hc; exact ⟨_, _, rfl⟩
          · cases hc
        obtain ⟨n, l, rfl⟩ := hb
        have hr : (match drawA cl h.next l T { next := Nat.add h.next n, tab := h.tab } [(h.tab, [])] with
          | some (t, h) => some (Ex.normal, t, h)
          | none => none) = some (e, T', h') := hr
        cases h1 : drawA cl h.next l T { next := Nat.add h.next n, tab := h.tab } [(h.tab, [])] with
        | none => rw [h1] at hr; cases hr
        | some r =>
          obtain ⟨T1, h2⟩ := r
          rw [h1] at hr; cases hr
          exact hdr _ id ops n l hc ι ow h w T a T' h' Q H ht h1 hQ
    | seq x y =>
      intro b hc ι ow h w T a e T' h' Q H ht hr hQ
      simp only [compCode] at hc
      cases hx : compCode ty nt x with
      | none => rw [hx] at hc; cases hc
      | some bx =>
        cases hy : compCode ty nt y with
        | none => rw [hx, hy] at hc; cases hc
        | some by' =>
          rw [hx, hy] at hc; cases hc
          have hr : (match codeA cl fuel bx T h with
            | some (.normal, t, h) => codeA cl fuel by' t h
            | r => r) = some (e, T', h') := hr
          refine wp_seq ?_
          cases h1 : codeA cl fuel bx T h with
          | none => rw [h1] at hr; cases hr
          | some r =>
            obtain ⟨e1, T1, h1'⟩ := r
            rw [h1] at hr
            cases e1 with
            | normal =>
              dsimp only at hr
              refine ihA x bx hx ι ow h w T a .normal T1 h1' _ H ht h1 (fun ι1 ow1 w1 a1 A => ?_)
              exact ihA y by' hy ι1 ow1 h1' w1 T1 a1 e T' h' Q A.rel A.tmps hr (fun ι' ow' w' a' A' => hQ _ _ _ _ (A.trans A'))
            | exit i =>
              cases hr
              exact ihA x bx hx ι ow h w T a (.exit i) _ _ _ H ht h1 hQ
            | ret =>
              cases hr
              exact ihA x bx hx ι ow h w T a .ret _ _ _ H ht h1 hQ
    | cond q x y =>
      intro b hc ι ow h w T a e T' h' Q H ht hr hQ
      simp only [compCode] at hc
      cases hq : closedO q with
      | false => rw [hq] at hc; cases hc
      | true =>
        cases hx : compCode ty nt x with
        | none => rw [hq, hx] at hc; cases hc
        | some bx =>
          cases hy : compCode ty nt y with
          | none => rw [hq, hx, hy] at hc; cases hc
          | some by' =>
            rw [hq, hx, hy] at hc; cases hc
            have hr : (match evA T q with
              | .bool true => codeA cl fuel bx T h
              | .bool false => codeA cl fuel by' T h
              | _ => none) = some (e, T', h') := hr
            have hv := ht.ev hq
            generalize evA T q = v1 at *
            generalize hv2 : a.eval q = v2 at *
            cases hv with
            | bool t =>
              cases t with
              | true => exact wp_cond_true hv2 (ihA x bx hx ι ow h w T a e T' h' Q H ht hr hQ)
              | false => exact wp_cond_false hv2 (ihA y by' hy ι ow h w T a e T' h' Q H ht hr hQ)
            | _ => cases hr
    | block id x =>
      intro b hc ι ow h w T a e T' h' Q H ht hr hQ
      simp only [compCode] at hc
      cases hx : compCode ty nt x with
      | none => rw [hx] at hc; cases hc
      | some bx =>
        rw [hx] at hc; cases hc
        have hr : (match codeA cl fuel bx T h with
          | some (.exit i, t, h) => match Nat.beq i id with
            | true => some (Ex.normal, t, h)
            | false => some (.exit i, t, h)
          | r => r) = some (e, T', h') := hr
        refine wp_block ?_
        cases h1 : codeA cl fuel bx T h with
        | none => rw [h1] at hr; cases hr
        | some r =>
          obtain ⟨e1, T1, h1'⟩ := r
          rw [h1] at hr
          cases e1 with
          | normal => cases hr; exact ihA x bx hx ι ow h w T a .normal _ _ _ H ht h1 hQ
          | ret => cases hr; exact ihA x bx hx ι ow h w T a .ret _ _ _ H ht h1 hQ
          | exit i =>
            dsimp only at hr
            refine ihA x bx hx ι ow h w T a (.exit i) T1 h1' _ H ht h1 (fun ι' ow' w' a' A => ?_)
            show (if i = id then Q .normal a' w' else Q (.exit i) a' w')
            cases hi : Nat.beq i id with
            | true =>
              rw [hi] at hr; cases hr
              rw [if_pos (Nat.eq_of_beq_eq_true hi)]
              exact hQ _ _ _ _ A
            | false =>
              rw [hi] at hr; cases hr
              rw [if_neg (fun e => by rw [e, beq_same] at hi; cases hi)]
              exact hQ _ _ _ _ A
    | loop x =>
      intro b hc ι ow h w T a e T' h' Q H ht hr hQ
      simp only [compCode] at hc
      cases hx : compCode ty nt x with
      | none => rw [hx] at hc; cases hc
      | some bx =>
        rw [hx] at hc; cases hc
        exact wp_rounds (B x bx hx ι ow h w T a e T' h' Q H ht hr hQ)
    | exit id =>
      intro b hc ι ow h w T a e T' h' Q H ht hr hQ
      cases hc; cases hr
      exact wp_exit (hQ _ _ _ _ ⟨ι.ext_refl _, H, Fr.refl _ _ _, ht⟩)
    | ret =>
      intro b hc ι ow h w T a e T' h' Q H ht hr hQ
      cases hc; cases hr
      exact wp_ret (hQ _ _ _ _ ⟨ι.ext_refl _, H, Fr.refl _ _ _, ht⟩)
    | _ =>
      intro b hc
      cases hc
end Go.AM

/- Calls: the machine's is the model's. -/
namespace Go.AM
variable {DF : List Deferred}
variable {P : Program} {X : Opq} {ty : Ty}

theorem argsT_get (vs : List Value) : ∀ (i : Nat) (T : Tr Value) (j : Nat), evA (argsT vs i T) (.tmp j) = if i ≤ j ∧ j < i + vs.length then vs.getD (j - i) undef else evA T (.tmp j) := by
  induction vs with
  | nil => intro i T j; simp [argsT]; omega
  | cons v vs ih =>
    intro i T j
    simp only [argsT]
    rw [ih, evA_put]
    by_cases h1 : i = j
    · subst h1
      rw [if_neg (by omega), if_pos rfl, if_pos (by simp)]
      simp
    · by_cases h2 : Nat.succ i ≤ j ∧ j < Nat.succ i + vs.length
      · rw [if_pos h2, if_pos (by simp; omega)]
        have : j - i = (j - Nat.succ i) + 1 := by omega
        rw [this]; simp
      · rw [if_neg h2, if_neg h1, if_neg (by simp; omega)]
theorem args_rel {ι : Emb} {nt : Nat} {args : List Value} {args' : Array Value} (h : LRel ι args args'.toList) :
    TRel [] ι nt (argsT args 0 (.tip [])) { tmps := args' ++ Array.replicate (nt - args'.size) undef, defers := [] } := by
  have hl : args.length = args'.size := by simpa using h.length
  refine ⟨by simp; omega, fun i => ?_, rfl⟩
  rw [argsT_get]
  by_cases hi : i < args.length
  · have hi' : i < args'.size := hl ▸ hi
    rw [if_pos ⟨Nat.zero_le _, by rw [Nat.zero_add]; exact hi⟩]
    obtain ⟨v, hv⟩ : ∃ v, args[i]? = some v := ⟨args[i], by simp [hi]⟩
    obtain ⟨v', hv', hr⟩ := h.get hv
    have e1 : args.getD (i - 0) undef = v := by simp [hv]
    have e2 : (args' ++ Array.replicate (nt - args'.size) undef)[i]? = some v' := by
      rw [Array.getElem?_append_left hi']; simpa using hv'
    have e3 : Act.eval { tmps := args' ++ Array.replicate (nt - args'.size) undef, defers := [] } (.tmp i) = v' := by
      simp only [Act.eval, Array.getD_eq_getD_getElem?, e2, Option.getD_some]
    rw [e1, e3]; exact hr
  · have hi' : args'.size ≤ i := hl ▸ Nat.le_of_not_lt hi
    rw [if_neg (fun hh => hi (by have := hh.2; rw [Nat.zero_add] at this; exact this))]
    have e1 : evA (.tip []) (.tmp i) = undef := by simp [evA, Tr.get_empty]
    have e3 : Act.eval { tmps := args' ++ Array.replicate (nt - args'.size) undef, defers := [] } (.tmp i) = undef := by
      simp only [Act.eval, Array.getD_eq_getD_getElem?]
      rw [Array.getElem?_append_right hi']
      cases e : (Array.replicate (nt - args'.size) undef)[i - args'.size]? with
      | none => rfl
      | some v =>
        rw [Array.getElem?_replicate] at e
        split at e
        · cases e; rfl
        · cases e
    rw [e1, e3]; exact VRel.undef ι
/-! ### results -/
def pack : List Value → Value
  | [v] => v
  | vs => .tuple ⟨vs⟩
def resOne (tmps : Array Value) : ResultVar → Sem Value
  | .tmp t => pure (tmps.getD t undef)
  | .cell a t => do loadVar t (← asAddr (tmps.getD a undef))
theorem resL_ok (F : PF P ty) {ι : Emb} {ow : Own} {h : Heap} {w : World} {nt : Nat} {T : Tr Value} {a : Act} (H : HRel X ι ow h w) (ht : TRel DF ι nt T a) : ∀ (rs : List ResultVar) (bs : List BRes) (vs : List Value), compRes ty rs = some bs → resL h T bs = some vs →
    ∃ vs' : List Value, (rs.mapM (resOne a.tmps)).run P w = .ok vs' w ∧ LRel ι vs vs' := by
  intro rs
  induction rs with
  | nil =>
    intro bs vs hc hr
    cases hc; cases hr
    exact ⟨[], rfl, .nil⟩
  | cons r rs ih =>
    intro bs vs hc hr
    have key : ∃ b bs', bs = b :: bs' ∧ compRes ty rs = some bs' ∧ ∀ v, resA h T b = some v → ∃ v', (resOne a.tmps r).run P w = .ok v' w ∧ VRel ι v v' := by
      cases r with
      | tmp t =>
        simp only [compRes] at hc
        cases h1 : compRes ty rs with
        | none => rw [h1] at hc; cases hc
        | some bs' =>
          rw [h1] at hc; cases hc
          refine ⟨_, _, rfl, rfl, fun v hv => ?_⟩
          have hv : some (evA T (.tmp t)) = some v := hv
          cases hv
          exact ⟨_, rfl, ht.val t⟩
      | cell t u =>
        simp only [compRes] at hc
        cases h2 : ty u with
        | none => rw [h2] at hc; cases hc
        | some i =>
          cases h1 : compRes ty rs with
          | none => rw [h1, h2] at hc; cases hc
          | some bs' =>
            rw [h1, h2] at hc; cases hc
            refine ⟨_, _, rfl, rfl, fun v hv => ?_⟩
            have hval := ht.val t
            have he : a.eval (.tmp t) = a.tmps.getD t undef := rfl
            simp only [resA] at hv
            simp only [resOne]
            rw [he] at hval
            generalize evA T (.tmp t) = x at *
            generalize a.tmps.getD t undef = y at *
            cases hval with
            | ptr n off l hl =>
              dsimp only at hv
              cases hg : h.get n with
              | none => rw [hg] at hv; cases hv
              | some p =>
                rw [hg] at hv
                cases p with
                | cells c k =>
                  dsimp only at hv
                  obtain ⟨_, c', elem, fr, h1, h2', h3, h4, h5, h6⟩ := H.cells hl hg
                  have f := F.of _ _ h2
                  have hrun : ∃ v', (loadVar u ⟨l.blk, l.base + off, none⟩).run P w = .ok v' w ∧ VRel ι v v' := by
                    rw [run_loadVar f h1]
                    rcases partV_rel h5 rfl hv with ⟨e, hle, hr⟩ | ⟨e, v', hv, hr⟩
                    · have : i.cells = i.size := by simp [TyI.cells, e]
                      rw [this] at hle hr
                      rw [if_pos e, if_pos (by omega)]
                      exact ⟨_, rfl, hr⟩
                    · rw [if_neg (by simp [e])]
                      have : c'[l.base + off]? = some v' := by simpa using hv
                      rw [this]
                      exact ⟨v', rfl, hr⟩
                  obtain ⟨v', q1, q2⟩ := hrun
                  exact ⟨v', by simpa [asAddr] using q1, q2⟩
                | _ => cases hv
            | _ => cases hv
    obtain ⟨b, bs', rfl, hc', hb⟩ := key
    simp only [resL] at hr
    cases h1 : resA h T b with
    | none => rw [h1] at hr; cases hr
    | some v =>
      cases h2 : resL h T bs' with
      | none => rw [h1, h2] at hr; cases hr
      | some vs2 =>
        rw [h1, h2] at hr; cases hr
        obtain ⟨v', q1, q2⟩ := hb v h1
        obtain ⟨vs', q3, q4⟩ := ih bs' vs2 hc' h2
        refine ⟨v' :: vs', ?_, .cons q2 q4⟩
        simp only [List.mapM_cons, Sem.run_bind, q1, Result.andThen_ok, q3, Sem.run_pure]
theorem results_ok {fn : Func} {tmps : Array Value} {vs : List Value} {w : World} (h : (fn.results.toList.mapM (resOne tmps)).run P w = .ok vs w) :
    (results fn tmps).run P w = .ok (pack vs) w := by
  have e : results fn tmps = (do let vs ← fn.results.mapM (resOne tmps); pure (if h : vs.size = 1 then vs[0] else .tuple vs)) := by
    unfold results
    congr 1
  rw [e, Array.mapM_eq_mapM_toList]
  simp only [Sem.run_bind, Sem.run_map, h, Result.andThen_ok, Sem.run_pure]
  congr 1
  match vs with
  | [] => rfl
  | [v] => rfl
  | v :: u :: vs => simp; rfl
/-! ### the machine -/
structure MachOk (P : Program) (X : Opq) (ty : Ty) (m : Mach) : Prop where
  fn : ∀ f b, m.fn f = some b → ∃ fn, P.funcs[f]? = some fn ∧ compFun ty fn = some b ∧ (fn.name == "runtime.NumGoroutine") = false
  ov : ∀ f g, m.ov f = some g → Enters P f ∧ ∀ args h v h', g args h = some (v, h') → ∀ (ι : Emb) (ow : Own) (w : World) (args' : Array Value), HRel X ι ow h w → LRel ι args args'.toList → Calls P f args' w (Back X ι ow h w v h')
theorem call_sound (F : PF P ty) (hd : kdepth ≤ P.depth) (hX : X.local) {m : Mach} (hm : MachOk P X ty m) (hdr : ∀ nt cl, CallOk P X cl → DrawnOk P X ty nt cl) (fuel : Nat) : ∀ depth, CallOk P X (callA m fuel depth) := by
  intro depth
  induction depth with
  | zero => intro f args h v h' hr; have hr : none = some (v, h') := hr; cases hr
  | succ depth ih =>
    intro f args h v h' hr
    have hr : callStep m fuel (callA m fuel depth) f args h = some (v, h') := hr
    unfold callStep at hr
    cases ho : m.ov f with
    | some g =>
      rw [ho] at hr
      obtain ⟨h1, h2⟩ := hm.ov f g ho
      exact ⟨h1, fun ι ow w args' H hl => h2 args h v h' hr ι ow w args' H hl⟩
    | none =>
      rw [ho] at hr; dsimp only at hr
      cases hb : m.fn f with
      | none => rw [hb] at hr; cases hr
      | some b =>
        rw [hb] at hr; dsimp only at hr
        obtain ⟨fn, h1, h2, h3⟩ := hm.fn f b hb
        unfold compFun at h2
        cases hbody : fn.body with
        | none => rw [hbody] at h2; cases h2
        | some c =>
          rw [hbody] at h2; dsimp only at h2
          cases hc : compCode ty fn.ntmps c with
          | none => rw [hc] at h2; cases h2
          | some bc =>
            cases hres : compRes ty fn.results.toList with
            | none => rw [hc, hres] at h2; cases h2
            | some br =>
              rw [hc, hres] at h2; cases h2
              refine ⟨⟨fn, h1, by rw [hbody]; rfl, h3⟩, fun ι ow w args' H hl => ?_⟩
              cases hcode : codeA (callA m fuel depth) fuel bc (argsT args 0 (.tip [])) h with
              | none => rw [hcode] at hr; cases hr
              | some r =>
                obtain ⟨e, T', h2⟩ := r
                rw [hcode] at hr
                have hdone : (e = .normal ∨ e = .ret) ∧ ∃ vs, resL h2 T' br = some vs ∧ v = (pack vs) ∧ h' = h2 := by
                  cases e with
                  | exit i => cases hr
                  | normal =>
                    refine ⟨.inl rfl, ?_⟩
                    simp only [finish] at hr
                    cases hrl : resL h2 T' br with
                    | none => rw [hrl] at hr; cases hr
                    | some vs =>
                      rw [hrl] at hr
                      refine ⟨vs, rfl, ?_⟩
                      match vs, hr with
                      | [], hr => cases hr; exact ⟨rfl, rfl⟩
                      | [v], hr => cases hr; exact ⟨rfl, rfl⟩
                      | _ :: _ :: _, hr => cases hr; exact ⟨rfl, rfl⟩
                  | ret =>
                    refine ⟨.inr rfl, ?_⟩
                    simp only [finish] at hr
                    cases hrl : resL h2 T' br with
                    | none => rw [hrl] at hr; cases hr
                    | some vs =>
                      rw [hrl] at hr
                      refine ⟨vs, rfl, ?_⟩
                      match vs, hr with
                      | [], hr => cases hr; exact ⟨rfl, rfl⟩
                      | [v], hr => cases hr; exact ⟨rfl, rfl⟩
                      | _ :: _ :: _, hr => cases hr; exact ⟨rfl, rfl⟩
                obtain ⟨he, vs, hrl, rfl, rfl⟩ := hdone
                refine calls_of_wp h1 hbody ?_
                refine (code_ok F hd hX ih (hdr _ _ ih) fuel).1 c bc hc ι ow h w _ _ e T' h' _ H (args_rel hl) hcode (fun ι' ow' w' a' A => ?_)
                obtain ⟨vs', q1, q2⟩ := resL_ok F A.rel A.tmps _ _ _ hres hrl
                have q3 := results_ok q1
                have q4 : VRel ι' (pack vs) (pack vs') := by
                  cases q2 with
                  | nil => exact VRel.undef ι'
                  | cons ha hs => cases hs with
                    | nil => exact ha
                    | cons hb hs => exact VRel.mkTuple (.cons ha (.cons hb hs))
                have post : a'.defers = [] ∧ ∃ v, (results fn a'.tmps).run P w' = .ok v w' ∧ Back X ι ow h w (pack vs) h' (.returned v) w' :=
                  ⟨A.tmps.defers, _, q3, ι', ow', A.ext, q4, A.rel, A.fr⟩
                rcases he with rfl | rfl
                · exact post
                · exact post
end Go.AM

/- A compiled operation looks at its operands alone. -/
namespace Go.AM
variable {P : Program} {X : Opq} {ty : Ty}

def Cong (op : Op) : Act1 → Prop
  | .simp looks f => ∀ (nm : Nat) (ea ea' : Operand → Value) (look look' : Look), (∀ x ∈ op.operands, ea x = ea' x) → (looks = true → look = look') → f nm ea look = f nm ea' look'
  | .heavy f => ∀ (ea ea' : Operand → Value) (h : Heap), (∀ x ∈ op.operands, ea x = ea' x) → f ea h = f ea' h
  | .call f args => f ∈ op.operands ∧ ∀ x ∈ args, x ∈ op.operands
theorem fillL_congr {ea ea' : Operand → Value} : ∀ (ps : List (Nat × Nat × Operand)) (c : List Value), (∀ p ∈ ps, ea p.2.2 = ea' p.2.2) → fillL ea ps c = fillL ea' ps c
  | [], _, _ => rfl
  | (off, size, x) :: ps, c, h => by
    have h1 : ea x = ea' x := h (off, size, x) (by simp)
    simp only [fillL, h1]
    cases Nat.beq (vcells (ea' x)).length size with
    | false => rfl
    | true => cases spliceO off (vcells (ea' x)) c with
      | none => rfl
      | some c' => exact fillL_congr ps c' (fun p hp => h p (by simp [hp]))
theorem mmL_congr {ea ea' : Operand → Value} {mx : Bool} : ∀ (l : List Operand) (v : Value), (∀ x ∈ l, ea x = ea' x) → mmL mx ea v l = mmL mx ea' v l
  | [], _, _ => rfl
  | x :: l, v, h => by
    have h1 : ea x = ea' x := h x (by simp)
    simp only [mmL, h1]
    cases mm2 mx v (ea' x) with
    | none => rfl
    | some z => exact mmL_congr l z (fun y hy => h y (by simp [hy]))
theorem partsS_mem {ty : Ty} {fs : Array Field} : ∀ {l : List (Nat × Operand)} {ps : List (Nat × Nat × Operand)}, partsS ty fs l = some ps → ∀ p ∈ ps, ∃ q ∈ l, q.2 = p.2.2
  | [], ps, h => by cases h; intro p hp; cases hp
  | (i, x) :: l, ps, h => by
    simp only [partsS] at h
    split at h
    · cases h
    · split at h
      · rename_i fi r h1 h2
        cases h
        intro p hp
        cases hp with
        | head => exact ⟨(i, x), by simp, rfl⟩
        | tail _ hp =>
          obtain ⟨q, hq, e⟩ := partsS_mem h2 p hp
          exact ⟨q, by simp [hq], e⟩
      · cases h
theorem oev_congr {ea ea' : Operand → Value} {x : Option Operand} (h : ∀ y, x = some y → ea y = ea' y) : oev ea x = oev ea' x := by
  cases x with
  | none => rfl
  | some y => simp only [oev, h y rfl]
theorem eqOp_cong {neg : Bool} {t u : Nat} {x y : Operand} {d : TypeDesc} {op : BinOp} {act : Act1} (hc : eqOp ty neg t x y d = some act) : Cong (.binOp op t x y u) act := by
  unfold eqOp at hc
  split at hc
  · cases hc
    intro nm ea ea' look look' E hl
    have e0 := E x (by simp [Op.operands, Call.operands])
    have e1 := E y (by simp [Op.operands, Call.operands])
    simp only [sBinB, e0, e1]
  · cases h1 : isNilConst .p y with
    | true =>
      rw [h1] at hc
      cases hc
      intro nm ea ea' look look' E hl
      have e0 := E x (by simp [Op.operands, Call.operands])
      simp only [sEqn, e0]
    | false =>
      cases h2 : isNilConst .p x with
      | true =>
        rw [h1, h2] at hc
        cases hc
        intro nm ea ea' look look' E hl
        have e0 := E y (by simp [Op.operands, Call.operands])
        simp only [sEqn, e0]
      | false =>
        rw [h1, h2] at hc
        simp only [cond_false] at hc
        split at hc
        · rename_i ei he
          cases h3 : Nat.beq ei.size 0 with
          | true => rw [h3] at hc; cases hc
          | false =>
            rw [h3] at hc
            cases hc
            intro ea ea' h E
            have e0 := E x (by simp [Op.operands, Call.operands])
            have e1 := E y (by simp [Op.operands, Call.operands])
            simp only [hEqp, e0, e1]
        · cases hc
  · cases h1 : isNilConst .s y with
    | true =>
      rw [h1] at hc
      cases hc
      intro nm ea ea' look look' E hl
      have e0 := E x (by simp [Op.operands, Call.operands])
      simp only [sEqn, e0]
    | false => rw [h1] at hc; cases hc
  · cases h1 : isNilConst .m y with
    | true =>
      rw [h1] at hc
      cases hc
      intro nm ea ea' look look' E hl
      have e0 := E x (by simp [Op.operands, Call.operands])
      simp only [sEqn, e0]
    | false => rw [h1] at hc; cases hc
  · cases h1 : isNilConst .f y with
    | true =>
      rw [h1] at hc
      cases hc
      intro nm ea ea' look look' E hl
      have e0 := E x (by simp [Op.operands, Call.operands])
      simp only [sEqn, e0]
    | false => rw [h1] at hc; cases hc
  · split at hc
    · cases hc
      intro nm ea ea' look look' E hl
      have e0 := E x (by simp [Op.operands, Call.operands])
      have e1 := E y (by simp [Op.operands, Call.operands])
      simp only [sEqk, e0, e1]
    · cases hc
  · split at hc
    · cases hc
      intro nm ea ea' look look' E hl
      have e0 := E x (by simp [Op.operands, Call.operands])
      have e1 := E y (by simp [Op.operands, Call.operands])
      simp only [sEqk, e0, e1]
    · cases hc
  · cases hc
theorem builtin_cong {b : Builtin} {args : Array Operand} {ts : Array TypeId} {act : Act1} (hc : compBuiltin ty b args.toList ts.toList = some act) : Cong (.call { callee := .builtin b, args, argTypes := ts }) act := by
  unfold compBuiltin at hc
  split at hc
  · rename_i x t ha ht
    have ha : args = #[x] := Array.ext' ha
    subst ha
    split at hc
    · split at hc
      · cases hc
        intro nm ea ea' look look' E hl
        simp only [sLena]
      · cases hc
        intro nm ea ea' look look' E hl
        have e0 := E x (by simp [Op.operands, Call.operands])
        simp only [sLens, e0]
      · cases hc
        intro nm ea ea' look look' E hl
        have e0 := E x (by simp [Op.operands, Call.operands])
        simp only [sLen, e0]
      · cases hc
        intro nm ea ea' look look' E hl
        have e0 := E x (by simp [Op.operands, Call.operands])
        have hl := hl rfl
        subst hl
        simp only [sLenm, e0]
      · cases hc
    · cases hc
  · rename_i s x t u ha ht
    have ha : args = #[s, x] := Array.ext' ha
    subst ha
    split at hc
    · split at hc
      · split at hc
        · rename_i ei he
          cases h1 : (Nat.beq ei.size 0 || !Nat.beq (vcells ei.zero).length ei.size) with
          | true => rw [h1] at hc; cases hc
          | false =>
            rw [h1] at hc
            cases hc
            intro ea ea' h E
            have e0 := E s (by simp [Op.operands, Call.operands])
            have e1 := E x (by simp [Op.operands, Call.operands])
            simp only [hApp, e0, e1]
        · cases hc
      · split at hc
        · rename_i ei he
          cases h1 : (Nat.beq ei.size 1 && Nat.beq (vcells ei.zero).length ei.size) with
          | false => rw [h1] at hc; cases hc
          | true =>
            rw [h1] at hc
            cases hc
            intro ea ea' h E
            have e0 := E s (by simp [Op.operands, Call.operands])
            have e1 := E x (by simp [Op.operands, Call.operands])
            simp only [hApp, e0, e1]
        · cases hc
      · cases hc
    · cases hc
  · rename_i x xs ha
    have ha : args = ⟨x :: xs⟩ := Array.ext' ha
    subst ha
    cases hc
    intro nm ea ea' look look' E hl
    have e0 := E x (by simp [Op.operands, Call.operands])
    simp only [sMm, e0]
    rw [mmL_congr xs _ (fun y hy => E y (by simp [Op.operands, Call.operands, hy]))]
  · rename_i x xs ha
    have ha : args = ⟨x :: xs⟩ := Array.ext' ha
    subst ha
    cases hc
    intro nm ea ea' look look' E hl
    have e0 := E x (by simp [Op.operands, Call.operands])
    simp only [sMm, e0]
    rw [mmL_congr xs _ (fun y hy => E y (by simp [Op.operands, Call.operands, hy]))]
  · rename_i m k t u ha ht
    have ha : args = #[m, k] := Array.ext' ha
    subst ha
    split at hc
    · split at hc
      · split at hc
        · cases hc
          intro ea ea' h E
          have e0 := E m (by simp [Op.operands, Call.operands])
          have e1 := E k (by simp [Op.operands, Call.operands])
          simp only [hDel, e0, e1]
        · cases hc
      · cases hc
    · cases hc
  · rename_i s t ha ht
    have ha : args = #[s] := Array.ext' ha
    subst ha
    split at hc
    · split at hc
      · split at hc
        · rename_i ei he
          cases h1 : Nat.beq (vcells ei.zero).length ei.size with
          | false => rw [h1] at hc; cases hc
          | true =>
            rw [h1] at hc
            cases hc
            intro ea ea' h E
            have e0 := E s (by simp [Op.operands, Call.operands])
            simp only [hClr, e0]
        · cases hc
      · cases hc
    · cases hc
  · cases hc
end Go.AM

/- A compiled operation looks at its operands alone: all of them. -/
namespace Go.AM
variable {P : Program} {X : Opq} {ty : Ty}

theorem cong_ok {op : Op} {act : Act1} (hc : compOp ty op = some act) : Cong op act := by
  unfold compOp at hc
  split at hc
  · rename_i x
    cases hc
    intro nm ea ea' look look' E hl
    have e0 := E x (by simp [Op.operands, Call.operands])
    simp only [sMov, e0]
  · rename_i x
    cases hc
    intro nm ea ea' look look' E hl
    have e0 := E x (by simp [Op.operands, Call.operands])
    simp only [sMov, e0]
  · rename_i c a b
    cases hc
    intro nm ea ea' look look' E hl
    have e0 := E c (by simp [Op.operands, Call.operands])
    have e1 := E a (by simp [Op.operands, Call.operands])
    have e2 := E b (by simp [Op.operands, Call.operands])
    simp only [sPick, e0, e1, e2]
  · split at hc
    · cases hc
      intro nm ea ea' look look' E hl
      simp only [sAlloc]
    · cases hc
  · rename_i t x
    cases hc
    intro nm ea ea' look look' E hl
    have e0 := E x (by simp [Op.operands, Call.operands])
    simp only [sBox, e0]
  · rename_i t parts
    split at hc
    · cases hc
    · rename_i i hi
      split at hc
      · rename_i fs hu
        split at hc
        · rename_i ps hall hps
          cases hc
          intro nm ea ea' look look' E hl
          simp only [sBuild]
          have hf := fillL_congr (ea := ea) (ea' := ea') ps (vcells i.zero) (fun p hp => by
            obtain ⟨q, hq, e⟩ := partsS_mem hps p hp
            rw [← e]
            exact E q.2 (by simp [Op.operands]; exact ⟨q.1, by simpa using hq⟩))
          rw [hf]
        · cases hc
      · rename_i n e hu
        split at hc
        · rename_i ei he
          cases hc
          intro nm ea ea' look look' E hl
          simp only [sBuild]
          have hf := fillL_congr (ea := ea) (ea' := ea') (partsA ei.size parts.toList) (vcells i.zero) (fun p hp => by
            obtain ⟨q, hq, rfl⟩ := List.mem_map.1 hp
            exact E q.2 (by simp [Op.operands]; exact ⟨q.1, by simpa using hq⟩))
          rw [hf]
        · cases hc
      · cases hc
  · rename_i t len parts
    split at hc
    · cases hc
    · rename_i i hi
      split at hc
      · rename_i e hu
        split at hc
        · rename_i ei he
          cases h1 : (Nat.ble (Nat.mul len ei.size) 16777216 && Nat.beq (vcells ei.zero).length ei.size) with
          | false => rw [h1] at hc; cases hc
          | true =>
            rw [h1] at hc; cases hc
            intro nm ea ea' look look' E hl
            simp only [sBslice]
            have hf := fillL_congr (ea := ea) (ea' := ea') (partsA ei.size parts.toList) (rep (vcells ei.zero) len) (fun p hp => by
              obtain ⟨q, hq, rfl⟩ := List.mem_map.1 hp
              exact E q.2 (by simp [Op.operands]; exact ⟨q.1, by simpa using hq⟩))
            rw [hf]
        · cases hc
      · cases hc
  · rename_i t a
    split at hc
    · cases hc
      intro nm ea ea' look look' E hl
      have e0 := E a (by simp [Op.operands, Call.operands])
      have hl := hl rfl
      subst hl
      simp only [sLoad, e0]
    · cases hc
  · rename_i t a x
    split at hc
    · cases hc
      intro ea ea' h E
      have e0 := E a (by simp [Op.operands, Call.operands])
      have e1 := E x (by simp [Op.operands, Call.operands])
      simp only [hStore, e0, e1]
    · cases hc
  · rename_i x
    cases hc
    intro nm ea ea' look look' E hl
    have e0 := E x (by simp [Op.operands, Call.operands])
    simp only [sNilc, e0]
  · rename_i op t x y u
    split at hc
    · cases hc
    · split at hc
      · cases hc
        intro nm ea ea' look look' E hl
        have e0 := E x (by simp [Op.operands, Call.operands])
        have e1 := E y (by simp [Op.operands, Call.operands])
        simp only [sBin, e0, e1]
      · cases hc
        intro nm ea ea' look look' E hl
        have e0 := E x (by simp [Op.operands, Call.operands])
        have e1 := E y (by simp [Op.operands, Call.operands])
        simp only [sBin, e0, e1]
      · split at hc
        · exact eqOp_cong hc
        · exact eqOp_cong hc
        · cases hc
  · rename_i op t x
    cases hc
    intro nm ea ea' look look' E hl
    have e0 := E x (by simp [Op.operands, Call.operands])
    simp only [sUn, e0]
  · rename_i s d x
    split at hc
    · split at hc
      · cases hc
        intro nm ea ea' look look' E hl
        have e0 := E x (by simp [Op.operands, Call.operands])
        simp only [sCvi, e0]
      · cases hc
        intro nm ea ea' look look' E hl
        have e0 := E x (by simp [Op.operands, Call.operands])
        simp only [sCvss, e0]
      · split at hc
        · split at hc
          · cases hc
            intro nm ea ea' look look' E hl
            have e0 := E x (by simp [Op.operands, Call.operands])
            simp only [sCvsb, e0]
          · cases hc
        · cases hc
      · split at hc
        · split at hc
          · cases hc
            intro nm ea ea' look look' E hl
            have e0 := E x (by simp [Op.operands, Call.operands])
            have hl := hl rfl
            subst hl
            simp only [sCvbs, e0, firstOf]
          · cases hc
        · cases hc
      · split at hc
        · split at hc
          · cases hc
            intro nm ea ea' look look' E hl
            have e0 := E x (by simp [Op.operands, Call.operands])
            have hl := hl rfl
            subst hl
            simp only [sMark, e0]
          · cases hc
        · cases hc
      · cases hc
    · cases hc
  · rename_i t x
    split at hc
    · split at hc
      · cases hc
        intro nm ea ea' look look' E hl
        have e0 := E x (by simp [Op.operands, Call.operands])
        simp only [sS2a, e0]
      · cases hc
    · cases hc
  · rename_i fn first captured
    split at hc
    · cases hc
      intro nm ea ea' look look' E hl
      have h1 : first.toList.map ea = first.toList.map ea' := List.map_congr_left fun x hx => E x (by simp [Op.operands]; exact .inl (by simpa using hx))
      have h2 : captured.toList.map ea = captured.toList.map ea' := List.map_congr_left fun x hx => E x (by simp [Op.operands]; exact .inr (by simpa using hx))
      simp only [sMkf, h1, h2]
    · cases hc
  · cases hc
    intro nm ea ea' look look' E hl
    simp only [sMkmap]
  · rename_i t l c
    split at hc
    · split at hc
      · split at hc
        · rename_i ei he
          cases h1 : Nat.beq (vcells ei.zero).length ei.size with
          | false => rw [h1] at hc; cases hc
          | true =>
            rw [h1] at hc
            cases hc
            intro nm ea ea' look look' E hl
            have e0 := E l (by simp [Op.operands, Call.operands])
            have e1 := E c (by simp [Op.operands, Call.operands])
            simp only [sMkslice, e0, e1]
        · cases hc
      · cases hc
    · cases hc
  · rename_i t x lo hi mx
    split at hc
    · cases hc
    · split at hc
      · split at hc
        · cases hc
          intro nm ea ea' look look' E hl
          have e0 := E x (by simp [Op.operands])
          have e1 : oev ea lo = oev ea' lo := oev_congr fun y hy => E y (by simp [Op.operands, hy])
          have e2 : oev ea hi = oev ea' hi := oev_congr fun y hy => E y (by simp [Op.operands, hy])
          have e3 : oev ea mx = oev ea' mx := oev_congr fun y hy => E y (by simp [Op.operands, hy])
          simp only [sSlc, e0, e1, e2, e3]
        · cases hc
      · split at hc
        · cases hc
          intro nm ea ea' look look' E hl
          have e0 := E x (by simp [Op.operands])
          have e1 : oev ea lo = oev ea' lo := oev_congr fun y hy => E y (by simp [Op.operands, hy])
          have e2 : oev ea hi = oev ea' hi := oev_congr fun y hy => E y (by simp [Op.operands, hy])
          simp only [sSlstr, e0, e1, e2]
        · cases hc
      · split at hc
        · cases hc
          intro nm ea ea' look look' E hl
          have e0 := E x (by simp [Op.operands])
          have e1 : oev ea lo = oev ea' lo := oev_congr fun y hy => E y (by simp [Op.operands, hy])
          have e2 : oev ea hi = oev ea' hi := oev_congr fun y hy => E y (by simp [Op.operands, hy])
          have e3 : oev ea mx = oev ea' mx := oev_congr fun y hy => E y (by simp [Op.operands, hy])
          simp only [sSlarr, e0, e1, e2, e3]
        · cases hc
      · cases hc
    · cases hc
  · rename_i s x k
    split at hc
    · split at hc
      · split at hc
        · split at hc
          · rename_i fi hfi
            cases h1 : Nat.beq fi.size 0 with
            | true => rw [h1] at hc; cases hc
            | false =>
              rw [h1] at hc
              cases hc
              intro nm ea ea' look look' E hl
              have e0 := E x (by simp [Op.operands, Call.operands])
              simp only [sFld, e0]
          · cases hc
        · cases hc
      · cases hc
    · cases hc
  · rename_i t x k
    split at hc
    · split at hc
      · split at hc
        · split at hc
          · cases hc
            intro nm ea ea' look look' E hl
            have e0 := E x (by simp [Op.operands, Call.operands])
            simp only [sFldv, e0]
          · cases hc
        · cases hc
      · cases hc
    · cases hc
  · rename_i t x ix
    split at hc
    · split at hc
      · split at hc
        · cases hc
          intro nm ea ea' look look' E hl
          have e0 := E x (by simp [Op.operands, Call.operands])
          have e1 := E ix (by simp [Op.operands, Call.operands])
          simp only [sIxa, e0, e1]
        · cases hc
      · split at hc
        · cases hc
          intro nm ea ea' look look' E hl
          have e0 := E x (by simp [Op.operands, Call.operands])
          have e1 := E ix (by simp [Op.operands, Call.operands])
          simp only [sIxs, e0, e1]
        · cases hc
      · cases hc
    · cases hc
  · rename_i t x ix
    split at hc
    · split at hc
      · split at hc
        · cases hc
          intro nm ea ea' look look' E hl
          have e0 := E x (by simp [Op.operands, Call.operands])
          have e1 := E ix (by simp [Op.operands, Call.operands])
          simp only [sIxv, e0, e1]
        · cases hc
      · cases hc
        intro nm ea ea' look look' E hl
        have e0 := E x (by simp [Op.operands, Call.operands])
        have e1 := E ix (by simp [Op.operands, Call.operands])
        simp only [sIxstr, e0, e1]
      · cases hc
    · cases hc
  · rename_i t m k ok
    split at hc
    · split at hc
      · split at hc
        · cases hc
          intro nm ea ea' look look' E hl
          have e0 := E m (by simp [Op.operands, Call.operands])
          have e1 := E k (by simp [Op.operands, Call.operands])
          have hl := hl rfl
          subst hl
          simp only [sLookup, e0, e1]
        · cases hc
      · cases hc
    · cases hc
  · rename_i t m k x
    split at hc
    · split at hc
      · split at hc
        · cases hc
          intro ea ea' h E
          have e0 := E m (by simp [Op.operands, Call.operands])
          have e1 := E k (by simp [Op.operands, Call.operands])
          have e2 := E x (by simp [Op.operands, Call.operands])
          simp only [hMset, e0, e1, e2]
        · cases hc
      · cases hc
    · cases hc
  · rename_i t m k x
    split at hc
    · split at hc
      · split at hc
        · cases hc
          intro ea ea' h E
          have e0 := E m (by simp [Op.operands, Call.operands])
          have e1 := E k (by simp [Op.operands, Call.operands])
          have e2 := E x (by simp [Op.operands, Call.operands])
          simp only [hMset, e0, e1, e2]
        · cases hc
      · cases hc
    · cases hc
  · rename_i t m k
    split at hc
    · split at hc
      · split at hc
        · cases hc
          intro ea ea' h E
          have e0 := E m (by simp [Op.operands, Call.operands])
          have e1 := E k (by simp [Op.operands, Call.operands])
          simp only [hMent, e0, e1]
        · cases hc
      · cases hc
    · cases hc
  · rename_i t m s x
    cases hc
    intro ea ea' h E
    have e0 := E m (by simp [Op.operands, Call.operands])
    have e1 := E s (by simp [Op.operands, Call.operands])
    have e2 := E x (by simp [Op.operands, Call.operands])
    simp only [hEsto, e0, e1, e2]
  · rename_i t x
    split at hc
    · split at hc
      · cases hc
        intro ea ea' h E
        have e0 := E x (by simp [Op.operands, Call.operands])
        simp only [hRangem, e0]
      · cases hc
        intro ea ea' h E
        have e0 := E x (by simp [Op.operands, Call.operands])
        simp only [hRanges, e0]
      · cases hc
    · cases hc
  · rename_i it isStr
    cases isStr with
    | true =>
      cases hc
      intro ea ea' h E
      have e0 := E it (by simp [Op.operands, Call.operands])
      simp only [hNexts, e0]
    | false =>
      cases hc
      intro ea ea' h E
      have e0 := E it (by simp [Op.operands, Call.operands])
      simp only [hNextm, e0]
  · rename_i it
    cases hc
    intro ea ea' h E
    have e0 := E it (by simp [Op.operands, Call.operands])
    simp only [hEntry, e0]
  · rename_i x k
    cases hc
    intro nm ea ea' look look' E hl
    have e0 := E x (by simp [Op.operands, Call.operands])
    simp only [sExt, e0]
  · exact builtin_cong hc
  · rename_i f args ts
    cases hc
    exact ⟨by simp [Op.operands, Call.operands], fun x hx => by simp [Op.operands, Call.operands]; exact .inr (by simpa using hx)⟩
  · cases hc
end Go.AM

/- A simple operation that looks at the heap looks at its operands' own objects alone. -/
namespace Go.AM
variable {P : Program} {X : Opq} {ty : Ty}

/-- the object that a value names -/
def nameOf : Value → Option Nat
  | .pointer (some ⟨n, _, none⟩) => some n
  | .slice (some ⟨_, _, some 0⟩) _ _ => none
  | .slice (some ⟨n, _, _⟩) _ _ => some n
  | .map (some n) => some n
  | _ => none
theorem name_emb {ι : Emb} {v v' : Value} (h : VRel ι v v') {n : Nat} (hn : nameOf v = some n) : ∃ l, ι n = some l := by
  cases h <;> cases hn
  · exact ⟨_, ‹ι _ = some _›⟩
  · exact ⟨_, ‹ι _ = some _›⟩
  · exact ⟨_, ‹ι _ = some _›⟩
  · exact ⟨_, ‹ι _ = some _›⟩
/-- a heap that says no less of a value's object -/
def Sees (look look' : Look) (v : Value) : Prop := ∀ n, nameOf v = some n → ∀ o, look n = some o → look' n = some o
def Mono (op : Op) : Act1 → Prop
  | .simp true f => ∀ (nm : Nat) (ea : Operand → Value) (look look' : Look) (r : Value × Option AObj), (∀ x ∈ op.operands, Sees look look' (ea x)) → f nm ea look = some r → f nm ea look' = some r
  | _ => True
theorem mono_sLoad {op : Op} {agg : Bool} {n : Nat} {a : Operand} (ha : a ∈ op.operands) : Mono op (.simp true (sLoad agg n a)) := by
  intro nm ea look look' r S h
  have h1 := S a ha
  simp only [sLoad] at h ⊢
  split at h
  · rename_i b off e
    rw [e] at h1
    cases hl : look b with
    | none => rw [hl] at h; cases h
    | some p => rw [hl] at h; rw [h1 b rfl p hl]; exact h
  · cases h
theorem mono_sLenm {op : Op} {a : Operand} (ha : a ∈ op.operands) : Mono op (.simp true (sLenm a)) := by
  intro nm ea look look' r S h
  have h1 := S a ha
  simp only [sLenm] at h ⊢
  split at h
  · exact h
  · rename_i b e
    rw [e] at h1
    cases hl : look b with
    | none => rw [hl] at h; cases h
    | some p => rw [hl] at h; rw [h1 b rfl p hl]; exact h
  · cases h
theorem mono_sLookup {op : Op} {t : KT} {z : Value} {ok : Bool} {m k : Operand} (ha : m ∈ op.operands) : Mono op (.simp true (sLookup t z ok m k)) := by
  intro nm ea look look' r S h
  have h1 := S m ha
  simp only [sLookup] at h ⊢
  split at h
  · exact h
  · rename_i b e
    rw [e] at h1
    cases hl : look b with
    | none => rw [hl] at h; cases h
    | some p => rw [hl] at h; rw [h1 b rfl p hl]; exact h
  · cases h
theorem mono_sMark {op : Op} {a : Operand} (ha : a ∈ op.operands) : Mono op (.simp true (sMark a)) := by
  intro nm ea look look' r S h
  have h1 := S a ha
  simp only [sMark] at h ⊢
  split at h
  · cases h
  · rename_i b off sp l c hne e
    rw [e] at h1
    cases hl : look b with
    | none => rw [hl] at h; cases h
    | some p =>
      have : nameOf (.slice (some ⟨b, off, sp⟩) l c) = some b := by
        cases sp with
        | none => rfl
        | some s => cases s with
          | zero => exact (hne rfl).elim
          | succ s => rfl
      rw [hl] at h; rw [h1 b this p hl]; exact h
  · cases h
theorem firstOf_sees {look look' : Look} {esz n : Nat} {v : Value} {r : List Value} (S : Sees look look' v) (h : firstOf look esz n v = some r) : firstOf look' esz n v = some r := by
  unfold firstOf at h ⊢
  split at h
  · exact h
  · exact h
  · rename_i b off sp l c hne
    cases n with
    | zero => exact h
    | succ n =>
      dsimp only at h ⊢
      cases hl : look b with
      | none => rw [hl] at h; cases h
      | some p =>
        have : nameOf (.slice (some ⟨b, off, sp⟩) l c) = some b := by
          cases sp with
          | none => rfl
          | some s => cases s with
            | zero => exact (hne rfl).elim
            | succ s => rfl
        rw [hl] at h; rw [S b this p hl]; exact h
  · exact h
  · cases h
theorem mono_sCvbs {op : Op} {a : Operand} (ha : a ∈ op.operands) : Mono op (.simp true (sCvbs a)) := by
  intro nm ea look look' r S h
  have h1 := S a ha
  simp only [sCvbs] at h ⊢
  split at h
  · rename_i a' l c e
    rw [e] at h1
    cases hf : firstOf look 1 l (.slice a' l c) with
    | none => rw [hf] at h; cases h
    | some cs => rw [hf] at h; rw [firstOf_sees h1 hf]; exact h
  · cases h
theorem eqOp_mono {neg : Bool} {t u : Nat} {x y : Operand} {d : TypeDesc} {op : BinOp} {act : Act1} (hc : eqOp ty neg t x y d = some act) : Mono (.binOp op t x y u) act := by
  unfold eqOp at hc
  split at hc
  · cases hc
    trivial
  · cases h1 : isNilConst .p y with
    | true =>
      rw [h1] at hc
      cases hc
      trivial
    | false =>
      cases h2 : isNilConst .p x with
      | true =>
        rw [h1, h2] at hc
        cases hc
        trivial
      | false =>
        rw [h1, h2] at hc
        simp only [cond_false] at hc
        split at hc
        · rename_i ei he
          cases h3 : Nat.beq ei.size 0 with
          | true => rw [h3] at hc; cases hc
          | false =>
            rw [h3] at hc
            cases hc
            trivial
        · cases hc
  · cases h1 : isNilConst .s y with
    | true =>
      rw [h1] at hc
      cases hc
      trivial
    | false => rw [h1] at hc; cases hc
  · cases h1 : isNilConst .m y with
    | true =>
      rw [h1] at hc
      cases hc
      trivial
    | false => rw [h1] at hc; cases hc
  · cases h1 : isNilConst .f y with
    | true =>
      rw [h1] at hc
      cases hc
      trivial
    | false => rw [h1] at hc; cases hc
  · split at hc
    · cases hc
      trivial
    · cases hc
  · split at hc
    · cases hc
      trivial
    · cases hc
  · cases hc
theorem builtin_mono {b : Builtin} {args : Array Operand} {ts : Array TypeId} {act : Act1} (hc : compBuiltin ty b args.toList ts.toList = some act) : Mono (.call { callee := .builtin b, args, argTypes := ts }) act := by
  unfold compBuiltin at hc
  split at hc
  · rename_i x t ha ht
    have ha : args = #[x] := Array.ext' ha
    subst ha
    split at hc
    · split at hc
      · cases hc
        trivial
      · cases hc
        trivial
      · cases hc
        trivial
      · cases hc
        exact mono_sLenm (by simp [Op.operands, Call.operands])
      · cases hc
    · cases hc
  · rename_i s x t u ha ht
    have ha : args = #[s, x] := Array.ext' ha
    subst ha
    split at hc
    · split at hc
      · split at hc
        · rename_i ei he
          cases h1 : (Nat.beq ei.size 0 || !Nat.beq (vcells ei.zero).length ei.size) with
          | true => rw [h1] at hc; cases hc
          | false =>
            rw [h1] at hc
            cases hc
            trivial
        · cases hc
      · split at hc
        · rename_i ei he
          cases h1 : (Nat.beq ei.size 1 && Nat.beq (vcells ei.zero).length ei.size) with
          | false => rw [h1] at hc; cases hc
          | true =>
            rw [h1] at hc
            cases hc
            trivial
        · cases hc
      · cases hc
    · cases hc
  · rename_i x xs ha
    have ha : args = ⟨x :: xs⟩ := Array.ext' ha
    subst ha
    cases hc
    trivial
  · rename_i x xs ha
    have ha : args = ⟨x :: xs⟩ := Array.ext' ha
    subst ha
    cases hc
    trivial
  · rename_i m k t u ha ht
    have ha : args = #[m, k] := Array.ext' ha
    subst ha
    split at hc
    · split at hc
      · split at hc
        · cases hc
          trivial
        · cases hc
      · cases hc
    · cases hc
  · rename_i s t ha ht
    have ha : args = #[s] := Array.ext' ha
    subst ha
    split at hc
    · split at hc
      · split at hc
        · rename_i ei he
          cases h1 : Nat.beq (vcells ei.zero).length ei.size with
          | false => rw [h1] at hc; cases hc
          | true =>
            rw [h1] at hc
            cases hc
            trivial
        · cases hc
      · cases hc
    · cases hc
  · cases hc
theorem mono_ok {op : Op} {act : Act1} (hc : compOp ty op = some act) : Mono op act := by
  unfold compOp at hc
  split at hc
  · rename_i x
    cases hc
    trivial
  · rename_i x
    cases hc
    trivial
  · rename_i c a b
    cases hc
    trivial
  · split at hc
    · cases hc
      trivial
    · cases hc
  · rename_i t x
    cases hc
    trivial
  · rename_i t parts
    split at hc
    · cases hc
    · rename_i i hi
      split at hc
      · rename_i fs hu
        split at hc
        · rename_i ps hall hps
          cases hc
          trivial
        · cases hc
      · rename_i n e hu
        split at hc
        · rename_i ei he
          cases hc
          trivial
        · cases hc
      · cases hc
  · rename_i t len parts
    split at hc
    · cases hc
    · rename_i i hi
      split at hc
      · rename_i e hu
        split at hc
        · rename_i ei he
          cases h1 : (Nat.ble (Nat.mul len ei.size) 16777216 && Nat.beq (vcells ei.zero).length ei.size) with
          | false => rw [h1] at hc; cases hc
          | true =>
            rw [h1] at hc; cases hc
            trivial
        · cases hc
      · cases hc
  · rename_i t a
    split at hc
    · cases hc
      exact mono_sLoad (by simp [Op.operands, Call.operands])
    · cases hc
  · rename_i t a x
    split at hc
    · cases hc
      trivial
    · cases hc
  · rename_i x
    cases hc
    trivial
  · rename_i op t x y u
    split at hc
    · cases hc
    · split at hc
      · cases hc
        trivial
      · cases hc
        trivial
      · split at hc
        · exact eqOp_mono hc
        · exact eqOp_mono hc
        · cases hc
  · rename_i op t x
    cases hc
    trivial
  · rename_i s d x
    split at hc
    · split at hc
      · cases hc
        trivial
      · cases hc
        trivial
      · split at hc
        · split at hc
          · cases hc
            trivial
          · cases hc
        · cases hc
      · split at hc
        · split at hc
          · cases hc
            exact mono_sCvbs (by simp [Op.operands, Call.operands])
          · cases hc
        · cases hc
      · split at hc
        · split at hc
          · cases hc
            exact mono_sMark (by simp [Op.operands, Call.operands])
          · cases hc
        · cases hc
      · cases hc
    · cases hc
  · rename_i t x
    split at hc
    · split at hc
      · cases hc
        trivial
      · cases hc
    · cases hc
  · rename_i fn first captured
    split at hc
    · cases hc
      trivial
    · cases hc
  · cases hc
    trivial
  · rename_i t l c
    split at hc
    · split at hc
      · split at hc
        · rename_i ei he
          cases h1 : Nat.beq (vcells ei.zero).length ei.size with
          | false => rw [h1] at hc; cases hc
          | true =>
            rw [h1] at hc
            cases hc
            trivial
        · cases hc
      · cases hc
    · cases hc
  · rename_i t x lo hi mx
    split at hc
    · cases hc
    · split at hc
      · split at hc
        · cases hc
          trivial
        · cases hc
      · split at hc
        · cases hc
          trivial
        · cases hc
      · split at hc
        · cases hc
          trivial
        · cases hc
      · cases hc
    · cases hc
  · rename_i s x k
    split at hc
    · split at hc
      · split at hc
        · split at hc
          · rename_i fi hfi
            cases h1 : Nat.beq fi.size 0 with
            | true => rw [h1] at hc; cases hc
            | false =>
              rw [h1] at hc
              cases hc
              trivial
          · cases hc
        · cases hc
      · cases hc
    · cases hc
  · rename_i t x k
    split at hc
    · split at hc
      · split at hc
        · split at hc
          · cases hc
            trivial
          · cases hc
        · cases hc
      · cases hc
    · cases hc
  · rename_i t x ix
    split at hc
    · split at hc
      · split at hc
        · cases hc
          trivial
        · cases hc
      · split at hc
        · cases hc
          trivial
        · cases hc
      · cases hc
    · cases hc
  · rename_i t x ix
    split at hc
    · split at hc
      · split at hc
        · cases hc
          trivial
        · cases hc
      · cases hc
        trivial
      · cases hc
    · cases hc
  · rename_i t m k ok
    split at hc
    · split at hc
      · split at hc
        · cases hc
          exact mono_sLookup (by simp [Op.operands, Call.operands])
        · cases hc
      · cases hc
    · cases hc
  · rename_i t m k x
    split at hc
    · split at hc
      · split at hc
        · cases hc
          trivial
        · cases hc
      · cases hc
    · cases hc
  · rename_i t m k x
    split at hc
    · split at hc
      · split at hc
        · cases hc
          trivial
        · cases hc
      · cases hc
    · cases hc
  · rename_i t m k
    split at hc
    · split at hc
      · split at hc
        · cases hc
          trivial
        · cases hc
      · cases hc
    · cases hc
  · rename_i t m s x
    cases hc
    trivial
  · rename_i t x
    split at hc
    · split at hc
      · cases hc
        trivial
      · cases hc
        trivial
      · cases hc
    · cases hc
  · rename_i it isStr
    cases isStr with
    | true =>
      cases hc
      trivial
    | false =>
      cases hc
      trivial
  · rename_i it
    cases hc
    trivial
  · rename_i x k
    cases hc
    trivial
  · exact builtin_mono hc
  · rename_i f args ts
    cases hc
    trivial
  · cases hc
end Go.AM

/- Regions that draw their order: the run in the canonical one, and what is known of that order. -/
namespace Go.AM
variable {P : Program} {X : Opq} {ty : Ty} {cl : Call} {base : Nat}

/-! ### lists of numbers -/
theorem inN_iff {l : List Nat} {n : Nat} : inN l n = true ↔ n ∈ l := by
  induction l with
  | nil => simp [inN]
  | cons x l ih =>
    by_cases h : x = n
    · subst h; simp [inN]
    · have : ¬ n = x := fun e => h e.symm
      simp [inN, beq_ne h, ih, this]
theorem ndN_nodup {l : List Nat} (h : ndN l = true) : l.Nodup := by
  induction l with
  | nil => exact List.nodup_nil
  | cons x l ih =>
    simp only [ndN, Bool.and_eq_true, Bool.not_eq_true'] at h
    rw [List.nodup_cons]
    refine ⟨fun hm => ?_, ih h.2⟩
    rw [inN_iff.2 hm] at h
    cases h.1
theorem lget_mem {α : Type} {l : List (Nat × α)} {n : Nat} {o : α} (h : lget l n = some o) : (n, o) ∈ l := by
  induction l with
  | nil => cases h
  | cons x l ih =>
    obtain ⟨j, v⟩ := x
    rw [lget_cons] at h
    cases hb : Nat.beq j n with
    | true =>
      rw [hb] at h
      cases h
      rw [Nat.eq_of_beq_eq_true hb]
      simp
    | false =>
      rw [hb] at h
      simp [ih h]

/-! ### one operation -/
noncomputable def stepD (cl : Call) (base : Nat) (o : BOper) (t : Tr Value) (h : Heap) (snaps : List Snap) : Option (Value × Option AObj × Heap × List Snap) :=
  match wantedA t o.guard with
  | false => match o.op.simple with
    | true => some (undef, none, h, snaps)
    | false => some (undef, none, h, (h.tab, []) :: snaps)
  | true =>
    match o.op with
    | .simp looks f => match f (Nat.add base o.idx) (evA t) h.get with
      | none => none
      | some (v, none) =>
        match looks && !steadyL f (Nat.add base o.idx) (evA t) v (snaps.length - o.q) snaps with
        | true => none
        | false => some (v, none, h, snaps)
      | some (v, some ob) => match looks with
        | true => none
        | false => some (v, some ob, h.set (Nat.add base o.idx) ob, madeS (Nat.add base o.idx) ob snaps)
    | op => match doHard cl t h op with
      | none => none
      | some (v, h') => some (v, none, h', (h'.tab, []) :: snaps)
theorem drawStep_eq (o : BOper) (ih : Tr Value → Heap → List Snap → Option (Tr Value × Heap)) (t : Tr Value) (h : Heap) (sn : List Snap) :
    drawStep cl base o ih t h sn = match stepD cl base o t h sn with
      | none => none
      | some (v, _, h', sn') => ih (putA t o.dst v) h' sn' := by
  obtain ⟨idx, dst, guard, op, q⟩ := o
  unfold drawStep stepD
  dsimp only
  cases wantedA t guard with
  | false => cases op.simple <;> rfl
  | true =>
    dsimp only
    cases op with
    | simp looks f =>
      dsimp only
      cases f (Nat.add base idx) (evA t) h.get with
      | none => rfl
      | some p =>
        obtain ⟨v, ob⟩ := p
        cases ob with
        | none =>
          dsimp only
          cases (looks && !steadyL f (Nat.add base idx) (evA t) v (sn.length - q) sn) <;> rfl
        | some x => cases looks <;> rfl
    | heavy f =>
      dsimp only
      cases doHard cl t h (.heavy f) <;> rfl
    | call f args =>
      dsimp only
      cases doHard cl t h (.call f args) <;> rfl
/-- what it has made is booked -/
def madeO (nm : Nat) : Option AObj → List Snap → List Snap
  | none, sn => sn
  | some o, sn => madeS nm o sn
theorem stepD_simple {b : BOper} {T : Tr Value} {h0 h1 : Heap} {sn sn1 : List Snap} {v : Value} {ob : Option AObj} (hs : b.op.simple = true) (h : stepD cl base b T h0 sn = some (v, ob, h1, sn1)) :
    h1 = h0.putO (base + b.idx) ob ∧ sn1 = madeO (base + b.idx) ob sn := by
  obtain ⟨idx, dst, guard, op, q⟩ := b
  unfold stepD at h
  dsimp only at h hs ⊢
  cases hw : wantedA T guard with
  | false =>
    rw [hw, hs] at h
    cases h
    exact ⟨rfl, rfl⟩
  | true =>
    rw [hw] at h
    dsimp only at h
    cases op with
    | simp looks f =>
      dsimp only at h
      cases hf : f (Nat.add base idx) (evA T) h0.get with
      | none => rw [hf] at h; cases h
      | some p =>
        obtain ⟨u, o⟩ := p
        rw [hf] at h
        cases o with
        | none =>
          dsimp only at h
          cases hl : (looks && !steadyL f (Nat.add base idx) (evA T) u (sn.length - q) sn) with
          | true => rw [hl] at h; cases h
          | false => rw [hl] at h; cases h; exact ⟨rfl, rfl⟩
        | some x =>
          dsimp only at h
          cases looks with
          | true => cases h
          | false => cases h; exact ⟨rfl, rfl⟩
    | heavy f => cases hs
    | call f args => cases hs
theorem stepD_hard {b : BOper} {T : Tr Value} {h0 h1 : Heap} {sn sn1 : List Snap} {v : Value} {ob : Option AObj} (hs : b.op.simple = false) (h : stepD cl base b T h0 sn = some (v, ob, h1, sn1)) :
    ob = none ∧ sn1 = (h1.tab, []) :: sn ∧ ((wantedA T b.guard = false ∧ v = undef ∧ h1 = h0) ∨ (wantedA T b.guard = true ∧ doHard cl T h0 b.op = some (v, h1))) := by
  obtain ⟨idx, dst, guard, op, q⟩ := b
  unfold stepD at h
  dsimp only at h hs ⊢
  cases hw : wantedA T guard with
  | false =>
    rw [hw, hs] at h
    cases h
    exact ⟨rfl, rfl, .inl ⟨rfl, rfl, rfl⟩⟩
  | true =>
    rw [hw] at h
    dsimp only at h
    cases op with
    | simp looks f => cases hs
    | heavy f =>
      dsimp only at h
      cases hd : doHard cl T h0 (.heavy f) with
      | none => rw [hd] at h; cases h
      | some p => rw [hd] at h; cases h; exact ⟨rfl, rfl, .inr ⟨rfl, rfl⟩⟩
    | call f args =>
      dsimp only at h
      cases hd : doHard cl T h0 (.call f args) with
      | none => rw [hd] at h; cases h
      | some p => rw [hd] at h; cases h; exact ⟨rfl, rfl, .inr ⟨rfl, rfl⟩⟩

/-! ### runs -/
inductive Run (cl : Call) (base : Nat) (val : Nat → Value) (mk : Nat → Option AObj) : List BOper → Tr Value → Heap → List Snap → Tr Value → Heap → List Snap → Prop
  | nil {T h sn} : Run cl base val mk [] T h sn T h sn
  | cons {b l T h sn h1 sn1 T' h' sn'} : stepD cl base b T h sn = some (val b.idx, mk b.idx, h1, sn1) → Run cl base val mk l (putA T b.dst (val b.idx)) h1 sn1 T' h' sn' →
      Run cl base val mk (b :: l) T h sn T' h' sn'
section
variable {val val' : Nat → Value} {mk mk' : Nat → Option AObj}
theorem Run.congr {l : List BOper} {T T' : Tr Value} {h h' : Heap} {sn sn' : List Snap} (R : Run cl base val mk l T h sn T' h' sn') (hv : ∀ b ∈ l, val b.idx = val' b.idx) (hm : ∀ b ∈ l, mk b.idx = mk' b.idx) :
    Run cl base val' mk' l T h sn T' h' sn' := by
  induction R with
  | nil => exact .nil
  | @cons b l T h sn h1 sn1 T' h' sn' hs _ ih =>
    have e1 := hv b (by simp)
    have e2 := hm b (by simp)
    rw [e1, e2] at hs
    refine .cons hs ?_
    rw [← e1]
    exact ih (fun c hc => hv c (by simp [hc])) (fun c hc => hm c (by simp [hc]))
theorem drawA_run : ∀ (l : List BOper) (T : Tr Value) (h : Heap) (sn : List Snap) (T' : Tr Value) (h' : Heap), (l.map (·.idx)).Nodup → drawA cl base l T h sn = some (T', h') →
    ∃ val mk sn', Run cl base val mk l T h sn T' h' sn' := by
  intro l
  induction l with
  | nil =>
    intro T h sn T' h' _ hr
    have hr : some (T, h) = some (T', h') := hr
    cases hr
    exact ⟨fun _ => undef, fun _ => none, sn, .nil⟩
  | cons b l ih =>
    intro T h sn T' h' hnd hr
    have hr : drawStep cl base b (drawA cl base l) T h sn = some (T', h') := hr
    rw [drawStep_eq] at hr
    cases hs : stepD cl base b T h sn with
    | none => rw [hs] at hr; cases hr
    | some p =>
      obtain ⟨v, ob, h1, sn1⟩ := p
      rw [hs] at hr
      dsimp only at hr
      rw [List.map_cons, List.nodup_cons] at hnd
      obtain ⟨val, mk, sn', R⟩ := ih _ _ _ _ _ hnd.2 hr
      have hne : ∀ c ∈ l, ¬ c.idx = b.idx := fun c hc e => hnd.1 (List.mem_map.2 ⟨c, hc, e⟩)
      refine ⟨fun i => if i = b.idx then v else val i, fun i => if i = b.idx then ob else mk i, sn', .cons (h1 := h1) (sn1 := sn1) (by simpa using hs) ?_⟩
      rw [if_pos rfl]
      exact R.congr (fun c hc => by simp [hne c hc]) (fun c hc => by simp [hne c hc])
theorem Run.split : ∀ {A B : List BOper} {T T' : Tr Value} {h h' : Heap} {sn sn' : List Snap}, Run cl base val mk (A ++ B) T h sn T' h' sn' →
    ∃ T1 h1 sn1, Run cl base val mk A T h sn T1 h1 sn1 ∧ Run cl base val mk B T1 h1 sn1 T' h' sn'
  | [], _, _, _, _, _, _, _, R => ⟨_, _, _, .nil, R⟩
  | _ :: _, _, _, _, _, _, _, _, .cons hs R => let ⟨T1, h1, sn1, R1, R2⟩ := Run.split R; ⟨T1, h1, sn1, .cons hs R1, R2⟩
theorem Run.append : ∀ {A B : List BOper} {T T1 T' : Tr Value} {h h1 h' : Heap} {sn sn1 sn' : List Snap}, Run cl base val mk A T h sn T1 h1 sn1 → Run cl base val mk B T1 h1 sn1 T' h' sn' →
    Run cl base val mk (A ++ B) T h sn T' h' sn'
  | _, _, _, _, _, _, _, _, _, _, _, .nil, R => R
  | _, _, _, _, _, _, _, _, _, _, _, .cons hs R1, R => .cons hs (Run.append R1 R)

/-! ### slots -/
theorem evA_putA (T : Tr Value) (dst : Option Nat) (v : Value) (d : Nat) : evA (putA T dst v) (.tmp d) = if dst = some d then v else evA T (.tmp d) := by
  cases dst with
  | none => simp [putA]
  | some e =>
    show evA (T.put e v) (.tmp d) = _
    rw [evA_put]
    simp
theorem Run.slot_other {l : List BOper} {T T' : Tr Value} {h h' : Heap} {sn sn' : List Snap} (R : Run cl base val mk l T h sn T' h' sn') {d : Nat} (hd : ∀ b ∈ l, b.dst ≠ some d) : evA T' (.tmp d) = evA T (.tmp d) := by
  induction R with
  | nil => rfl
  | @cons b l T h sn h1 sn1 T' h' sn' hs _ ih =>
    rw [ih (fun c hc => hd c (by simp [hc])), evA_putA, if_neg (hd b (by simp))]
def Single (l : List BOper) : Prop := l.Pairwise fun b c => ∀ d, b.dst = some d → c.dst ≠ some d
theorem Run.slot_own {l : List BOper} {T T' : Tr Value} {h h' : Heap} {sn sn' : List Snap} (R : Run cl base val mk l T h sn T' h' sn') (hs : Single l) {b : BOper} (hb : b ∈ l) {d : Nat} (hd : b.dst = some d) :
    evA T' (.tmp d) = val b.idx := by
  induction R with
  | nil => cases hb
  | @cons c l T h sn h1 sn1 T' h' sn' hst R ih =>
    unfold Single at hs
    rw [List.pairwise_cons] at hs
    cases hb with
    | head => rw [R.slot_other (fun e he => hs.1 e he d hd), evA_putA, if_pos hd]
    | tail _ hb => exact ih hs.2 hb

/-! ### the heap behind simple operations -/
theorem Heap.putO_next (h : Heap) (n : Nat) (o : Option AObj) : (h.putO n o).next = h.next := by cases o <;> rfl
theorem Heap.get_putO (h : Heap) (n m : Nat) (o : Option AObj) : (h.putO n o).get m = if n = m ∧ o.isSome = true then o else h.get m := by
  cases o with
  | none => simp [Heap.putO]
  | some p => simp [Heap.putO, Heap.get_set]
theorem Run.simple_heap {l : List BOper} {T T' : Tr Value} {h h' : Heap} {sn sn' : List Snap} (R : Run cl base val mk l T h sn T' h' sn') (hs : ∀ b ∈ l, b.op.simple = true) (hnd : (l.map (·.idx)).Nodup) :
    h'.next = h.next ∧ (∀ n, (∀ b ∈ l, n = base + b.idx → mk b.idx = none) → h'.get n = h.get n) ∧ (∀ b ∈ l, ∀ o, mk b.idx = some o → h'.get (base + b.idx) = some o) := by
  induction R with
  | nil => exact ⟨rfl, fun _ _ => rfl, fun b hb => by cases hb⟩
  | @cons b l T h sn h1 sn1 T' h' sn' hst R ih =>
    rw [List.map_cons, List.nodup_cons] at hnd
    obtain ⟨i1, i2, i3⟩ := ih (fun c hc => hs c (by simp [hc])) hnd.2
    obtain ⟨e1, _⟩ := stepD_simple (hs b (by simp)) hst
    subst e1
    have hne : ∀ c ∈ l, ¬ c.idx = b.idx := fun c hc e => hnd.1 (List.mem_map.2 ⟨c, hc, e⟩)
    refine ⟨by rw [i1, Heap.putO_next], fun n hn => ?_, fun c hc o ho => ?_⟩
    · rw [i2 n (fun c hc => hn c (by simp [hc])), Heap.get_putO, if_neg]
      intro ⟨e, ho⟩
      rw [hn b (by simp) e.symm] at ho
      cases ho
    · cases hc with
      | head =>
        rw [i2 _ (fun c hc e => absurd (by omega) (hne c hc)), Heap.get_putO, if_pos ⟨rfl, by rw [ho]; rfl⟩]
        exact ho
      | tail _ hc => exact i3 c hc o ho

/-! ### snapshots -/
def hards (l : List BOper) : Nat := (l.filter fun b => !b.op.simple).length
theorem hards_append (A B : List BOper) : hards (A ++ B) = hards A + hards B := by simp [hards]
theorem hards_simple {l : List BOper} (h : ∀ b ∈ l, b.op.simple = true) : hards l = 0 := by
  unfold hards
  rw [List.filter_eq_nil_iff.2 (fun b hb => by simp [h b hb])]
  rfl
def allMade (l : List Snap) : List (Nat × AObj) := l.flatMap (·.2)
theorem Run.snaps {l : List BOper} {T T' : Tr Value} {h h' : Heap} {sn sn' : List Snap} (R : Run cl base val mk l T h sn T' h' sn') : ∀ (tops : List Snap) (tab : Tr AObj) (m : List (Nat × AObj)) (older : List Snap), sn = tops ++ (tab, m) :: older →
    ∃ tops' m', sn' = tops' ++ (tab, m') :: older ∧ tops'.length = tops.length + hards l ∧
      ∀ p ∈ allMade (tops' ++ [(tab, m')]), p ∈ allMade (tops ++ [(tab, m)]) ∨ ∃ b ∈ l, p.1 = base + b.idx ∧ mk b.idx = some p.2 := by
  induction R with
  | nil => intro tops tab m older e; exact ⟨tops, m, e, by simp [hards], fun p hp => .inl hp⟩
  | @cons b l T h sn h1 sn1 T' h' sn' hst R ih =>
    intro tops tab m older e
    have key : ∃ tops1 m1, sn1 = tops1 ++ (tab, m1) :: older ∧ tops1.length + hards l = tops.length + hards (b :: l) ∧
        ∀ p ∈ allMade (tops1 ++ [(tab, m1)]), p ∈ allMade (tops ++ [(tab, m)]) ∨ (p.1 = base + b.idx ∧ mk b.idx = some p.2) := by
      cases hb : b.op.simple with
      | true =>
        obtain ⟨_, e2⟩ := stepD_simple hb hst
        have hh : hards (b :: l) = hards l := by simp [hards, hb]
        cases hm : mk b.idx with
        | none =>
          rw [hm] at e2
          exact ⟨tops, m, e2.trans e, by rw [hh], fun p hp => .inl hp⟩
        | some o =>
          rw [hm] at e2
          simp only [madeO] at e2
          cases tops with
          | nil =>
            refine ⟨[], (base + b.idx, o) :: m, by rw [e2, e]; rfl, by rw [hh], fun p hp => ?_⟩
            simp only [allMade, List.nil_append, List.flatMap_cons, List.flatMap_nil, List.append_nil, List.mem_cons] at hp ⊢
            rcases hp with rfl | hp
            · exact .inr ⟨rfl, rfl⟩
            · exact .inl hp
          | cons s ts =>
            refine ⟨(s.1, (base + b.idx, o) :: s.2) :: ts, m, by rw [e2, e]; rfl, by rw [hh]; rfl, fun p hp => ?_⟩
            simp only [allMade, List.cons_append, List.flatMap_cons, List.mem_append, List.mem_cons] at hp ⊢
            rcases hp with rfl | hp
            · exact .inr ⟨rfl, rfl⟩
            · exact .inl (by simpa using hp)
      | false =>
        obtain ⟨_, e2, _⟩ := stepD_hard hb hst
        have hh : hards (b :: l) = hards l + 1 := by simp [hards, hb]
        refine ⟨(h1.tab, []) :: tops, m, by rw [e2, e]; rfl, by rw [hh]; simp; omega, fun p hp => ?_⟩
        simp only [allMade, List.cons_append, List.flatMap_cons, List.nil_append] at hp ⊢
        exact .inl hp
    obtain ⟨tops1, m1, e1, e2, e3⟩ := key
    obtain ⟨tops', m', f1, f2, f3⟩ := ih tops1 tab m1 older e1
    refine ⟨tops', m', f1, by omega, fun p hp => ?_⟩
    rcases f3 p hp with hp | ⟨c, hc, h1, h2⟩
    · rcases e3 p hp with hp | ⟨h1, h2⟩
      · exact .inl hp
      · exact .inr ⟨b, by simp, h1, h2⟩
    · exact .inr ⟨c, by simp [hc], h1, h2⟩
end
theorem steady_at {f : SF} {nm : Nat} {ev : Opd → Value} {v : Value} {tab : Tr AObj} {m : List (Nat × AObj)} {older : List Snap} : ∀ (tops : List Snap) (made : List (Nat × AObj)) (n : Nat), tops.length < n → steady f nm ev v made n (tops ++ (tab, m) :: older) = true →
    ∃ u made', f nm ev (lookS tab made') = some (u, none) ∧ sameV u v = true ∧ ∀ p ∈ made', p ∈ made ∨ p ∈ allMade (tops ++ [(tab, m)])
  | [], made, n, hn, h => by
    cases n with
    | zero => cases hn
    | succ n =>
      simp only [List.nil_append, steady, Bool.and_eq_true] at h
      obtain ⟨h1, _⟩ := h
      split at h1
      · rename_i u e
        refine ⟨u, m ++ made, e, h1, fun p hp => ?_⟩
        rw [List.mem_append] at hp
        rcases hp with hp | hp
        · exact .inr (by simp [allMade, hp])
        · exact .inl hp
      · cases h1
  | s :: tops, made, n, hn, h => by
    cases n with
    | zero => cases hn
    | succ n =>
      simp only [List.cons_append, steady, Bool.and_eq_true] at h
      obtain ⟨u, made', h1, h2, h3⟩ := steady_at tops (s.2 ++ made) n (by simp at hn; omega) h.2
      refine ⟨u, made', h1, h2, fun p hp => ?_⟩
      rcases h3 p hp with hp | hp
      · rw [List.mem_append] at hp
        rcases hp with hp | hp
        · exact .inr (by simp [allMade, hp])
        · exact .inl hp
      · refine .inr ?_
        simp only [allMade, List.cons_append, List.flatMap_cons, List.mem_append]
        exact .inr hp
theorem sameS_eq {a b : Value} (h : sameS a b = true) : a = b := by
  unfold sameS at h
  split at h
  · simp at h; rw [h]
  · simp only [Bool.and_eq_true, eqK_eq, eqI_eq, beq_iff_eq] at h
    rw [h.1, h.2]
  · rw [eqStr_eq, beq_iff_eq] at h
    rename_i a b
    obtain ⟨⟨a⟩⟩ := a
    obtain ⟨⟨b⟩⟩ := b
    have h : a = b := h
    rw [h]
  · simp at h; rw [h]
  · simp only [Bool.and_eq_true, decide_eq_true_eq, Nat.beq_eq] at h
    rw [h.1.1, h.1.2, h.2]
  · simp at h; rw [h]
  · rfl
  · rfl
  · cases h
theorem sameL_eq : ∀ {a b : List Value}, sameL a b = true → a = b
  | [], [], _ => rfl
  | a :: s, b :: t, h => by
    simp only [sameL, Bool.and_eq_true] at h
    rw [sameS_eq h.1, sameL_eq h.2]
  | [], _ :: _, h => by cases h
  | _ :: _, [], h => by cases h
theorem sameW_eq {a b : Value} (h : sameW a b = true) : a = b := by
  unfold sameW at h
  split at h
  · rename_i a b
    rw [Array.ext' (sameL_eq h)]
  · exact sameS_eq h
theorem sameLW_eq : ∀ {a b : List Value}, sameLW a b = true → a = b
  | [], [], _ => rfl
  | a :: s, b :: t, h => by
    simp only [sameLW, Bool.and_eq_true] at h
    rw [sameW_eq h.1, sameLW_eq h.2]
  | [], _ :: _, h => by cases h
  | _ :: _, [], h => by cases h
theorem sameV_eq {a b : Value} (h : sameV a b = true) : a = b := by
  unfold sameV at h
  split at h
  · rename_i a b
    rw [Array.ext' (sameLW_eq h)]
  · exact sameW_eq h

/-! ### what lies ahead of an operation -/
section
variable {ops : Array Oper} {L : Nat → Prop}
theorem fold_bits {acc : Array Nat} (hacc : ∀ k, L k → ∀ j, (acc.getD k 0).testBit j = true → L j) : ∀ (es : List Edge) (s : Nat), (∀ j, s.testBit j = true → L j) → (∀ e ∈ es, Region.binds .any e = true → L e.on) →
    ∀ j, (es.foldl (fun s e => if Region.binds .any e then s ||| 2 ^ e.on ||| acc.getD e.on 0 else s) s).testBit j = true → L j
  | [], s, hs, _ => hs
  | e :: es, s, hs, he => by
    intro j hj
    rw [List.foldl_cons] at hj
    refine fold_bits hacc es _ ?_ (fun x hx => he x (by simp [hx])) j hj
    intro k hk
    by_cases hb : Region.binds .any e = true
    · rw [if_pos hb] at hk
      rw [Nat.testBit_or, Nat.testBit_or, Nat.testBit_two_pow] at hk
      simp only [Bool.or_eq_true, decide_eq_true_eq] at hk
      rcases hk with (hk | hk) | hk
      · exact hs k hk
      · subst hk; exact he e (by simp) hb
      · exact hacc _ (he e (by simp) hb) k hk
    · rw [if_neg hb] at hk
      exact hs k hk
theorem before_bits (hL : ∀ i o, L i → ops[i]? = some o → ∀ e ∈ o.after, Region.binds .any e = true → L e.on) {i : Nat} {o : Oper} (hi : ops[i]? = some o) (he : ∀ e ∈ o.after, Region.binds .any e = true → L e.on) {j : Nat}
    (hj : ((Region.before ops).getD i 0).testBit j = true) : L j := by
  let step : Array Nat → Oper → Array Nat := fun acc o => acc.push (o.after.foldl (fun s e => if Region.binds .any e then s ||| 2 ^ e.on ||| acc.getD e.on 0 else s) 0)
  have go : ∀ (l pre : List Oper) (acc : Array Nat), ops.toList = pre ++ l → acc.size = pre.length →
      (∀ i o, ops[i]? = some o → (∀ e ∈ o.after, Region.binds .any e = true → L e.on) → ∀ j, (acc.getD i 0).testBit j = true → L j) →
      (∀ i o, ops[i]? = some o → (∀ e ∈ o.after, Region.binds .any e = true → L e.on) → ∀ j, ((l.foldl step acc).getD i 0).testBit j = true → L j) := by
    intro l
    induction l with
    | nil => intro pre acc _ _ h; exact h
    | cons x l ih =>
      intro pre acc hp hs h
      rw [List.foldl_cons]
      refine ih (pre ++ [x]) (step acc x) (by simp [hp]) (by simp [step, hs]) ?_
      intro i o hi he j hj
      by_cases hlt : i < acc.size
      · refine h i o hi he j ?_
        have : (step acc x).getD i 0 = acc.getD i 0 := by
          simp only [step, Array.getD_eq_getD_getElem?]
          rw [Array.getElem?_push_lt hlt, Array.getElem?_eq_getElem hlt]
        rwa [this] at hj
      · by_cases heq : i = acc.size
        · subst heq
          have hx : o = x := by
            have h1 : ops.toList[acc.size]? = some o := by simpa using hi
            rw [hp, List.getElem?_append_right (by omega)] at h1
            simp [hs] at h1
            exact h1.symm
          subst hx
          have e1 : (step acc o).getD acc.size 0 = o.after.foldl (fun s e => if Region.binds .any e then s ||| 2 ^ e.on ||| acc.getD e.on 0 else s) 0 := by
            simp [step, Array.getD_eq_getD_getElem?]
          rw [e1, ← Array.foldl_toList] at hj
          refine fold_bits (acc := acc) ?_ o.after.toList 0 (fun j hj => by simp at hj) (fun e hm => he e (by simpa using hm)) j hj
          intro k hk j hj
          by_cases hk2 : k < acc.size
          · have hk3 : k < ops.size := by
              have : ops.size = (pre ++ o :: l).length := by rw [← hp]; simp
              simp at this
              omega
            exact h k _ (Array.getElem?_eq_getElem hk3) (hL k _ hk (Array.getElem?_eq_getElem hk3)) j hj
          · rw [Array.getD_eq_getD_getElem?, Array.getElem?_eq_none (by omega)] at hj
            simp at hj
        · have : (step acc x).getD i 0 = 0 := by
            rw [Array.getD_eq_getD_getElem?, Array.getElem?_eq_none (by simp [step]; omega)]
            rfl
          rw [this] at hj
          simp at hj
  have hfold : Region.before ops = ops.toList.foldl step #[] := by
    unfold Region.before
    rw [← Array.foldl_toList]
  rw [hfold] at hj
  exact go ops.toList [] #[] rfl rfl (fun i o _ _ j hj => by simp at hj) i o hi he j hj
end
end Go.AM

/- Regions that draw their order: whatever the order, all comes out as in the canonical one. -/
namespace Go.AM
variable {DF : List Deferred}
variable {P : Program} {X : Opq} {ty : Ty} {cl : Call}

/-! ### the facts of a canonical order -/
def bitB (ops : Array Oper) (i j : Nat) : Bool := ((Region.before ops).getD i 0).testBit j
structure DrawF (ty : Ty) (nt : Nat) (ops : Array Oper) (l : List BOper) : Prop where
  all : ∀ b ∈ l, ∃ o, OpOk ty nt ops b o
  len : l.length = ops.size
  cover : ∀ i, i < ops.size → ∃ b ∈ l, b.idx = i
  nd : (l.map (·.idx)).Nodup
  edge : ∀ i o, ops[i]? = some o → ∀ e ∈ o.after, Region.binds .any e = true → e.on < i
  pre : ∀ A b C, l = A ++ b :: C → ∀ o, ops[b.idx]? = some o → ∀ e ∈ o.after, Region.binds .any e = true → ∃ c ∈ A, c.idx = e.on
  hard : ∀ A b C, l = A ++ b :: C → b.op.simple = false → ∀ c ∈ A, bitB ops b.idx c.idx = true
  single : Single l
  rdwr : ∀ b ∈ l, ∀ o, ops[b.idx]? = some o → ∀ t ∈ o.looksAt ops, ∀ c ∈ l, c.dst = some t → c.idx = b.idx ∨ bitB ops b.idx c.idx = true ∨ bitB ops c.idx b.idx = true
  q : ∀ b ∈ l, b.q = (l.filter fun c => !c.op.simple && bitB ops b.idx c.idx).length
theorem walkOk_spec {b : Array Nat} {ops : Array Oper} {ws : List Nat} : ∀ (rest done : List Nat), walkOk b ops ws done rest = true → ∀ (A : List Nat) (i : Nat) (C : List Nat), rest = A ++ i :: C →
    (∀ o, ops[i]? = some o → ∀ e ∈ o.after, Region.binds .any e = true → e.on ∈ done ∨ e.on ∈ A) ∧ (i ∈ ws → ∀ j, j ∈ done ∨ j ∈ A → (b.getD i 0).testBit j = true)
  | [], _, _, A, i, C, e => by cases A <;> cases e
  | x :: rest, done, h, A, i, C, e => by
    simp only [walkOk, Bool.and_eq_true] at h
    obtain ⟨⟨h1, h2⟩, h3⟩ := h
    cases A with
    | nil =>
      rw [List.nil_append] at e
      injection e with e1 e2
      subst e1; subst e2
      refine ⟨fun o ho e he hb => ?_, fun hw j hj => ?_⟩
      · rw [ho] at h1
        have h4 := Array.all_eq_true_iff_forall_mem.1 h1 e he
        rw [hb] at h4
        exact .inl (inN_iff.1 (by simpa using h4))
      · rcases hj with hj | hj
        · rw [inN_iff.2 hw] at h2
          exact List.all_eq_true.1 (by simpa using h2) j hj
        · cases hj
    | cons a A =>
      rw [List.cons_append] at e
      injection e with e1 e2
      subst e1; subst e2
      obtain ⟨g1, g2⟩ := walkOk_spec (A ++ i :: C) (x :: done) h3 A i C rfl
      refine ⟨fun o ho e he hb => ?_, fun hw j hj => g2 hw j ?_⟩
      · rcases g1 o ho e he hb with g | g
        · rcases List.mem_cons.1 g with g | g
          · exact .inr (by simp [g])
          · exact .inl g
        · exact .inr (by simp [g])
      · rcases hj with hj | hj
        · exact .inl (by simp [hj])
        · rcases List.mem_cons.1 hj with hj | hj
          · exact .inl (by simp [hj])
          · exact .inr hj
theorem nd_filterMap {α : Type} {f : α → Option Nat} : ∀ (l : List α), (l.filterMap f).Nodup → ∀ (i j : Nat) (a b : α) (d : Nat), l[i]? = some a → l[j]? = some b → f a = some d → f b = some d → i = j
  | [], _, i, _, _, _, _, h, _, _, _ => by simp at h
  | x :: l, hn, i, j, a, b, d, ha, hb, fa, fb => by
    have tail : (l.filterMap f).Nodup := by
      rw [List.filterMap_cons] at hn
      cases hx : f x with
      | none => rw [hx] at hn; exact hn
      | some y => rw [hx] at hn; exact (List.nodup_cons.1 hn).2
    have notmem : ∀ (k : Nat) (c : α), l[k]? = some c → f c = some d → f x ≠ some d := by
      intro k c hk hc hx
      rw [List.filterMap_cons, hx] at hn
      exact (List.nodup_cons.1 hn).1 (List.mem_filterMap.2 ⟨c, List.mem_of_getElem? hk, hc⟩)
    cases i with
    | zero => cases j with
      | zero => rfl
      | succ j =>
        simp at ha hb
        subst ha
        exact absurd fa (notmem j b hb fb)
    | succ i => cases j with
      | zero =>
        simp at ha hb
        subst hb
        exact absurd fb (notmem i a ha fa)
      | succ j =>
        simp at ha hb
        rw [nd_filterMap l tail i j a b d ha hb fa fb]
theorem All2.memR {α β : Type} {R : α → β → Prop} : ∀ {s : List α} {t : List β}, All2 R s t → ∀ b ∈ t, ∃ a ∈ s, R a b
  | _, _, .nil, b, h => by cases h
  | _, _, .cons h1 h, b, hb => by
    cases hb with
    | head => exact ⟨_, by simp, h1⟩
    | tail _ hb => obtain ⟨a, ha, hr⟩ := h.memR b hb; exact ⟨a, by simp [ha], hr⟩
theorem nd_inj {l : List BOper} (h : (l.map (·.idx)).Nodup) {b c : BOper} (hb : b ∈ l) (hc : c ∈ l) (e : b.idx = c.idx) : b = c := by
  induction l with
  | nil => cases hb
  | cons x l ih =>
    rw [List.map_cons, List.nodup_cons] at h
    have ne : ∀ y ∈ l, x.idx ≠ y.idx := fun y hy e => h.1 (List.mem_map.2 ⟨y, hy, e.symm⟩)
    cases hb with
    | head => cases hc with
      | head => rfl
      | tail _ hc => exact absurd e (ne c hc)
    | tail _ hb => cases hc with
      | head => exact absurd e.symm (ne b hb)
      | tail _ hc => exact ih h.2 hb hc
theorem Single.inj {l : List BOper} (h : Single l) {b c : BOper} (hb : b ∈ l) (hc : c ∈ l) {d : Nat} (e : b.dst = some d) (e' : c.dst = some d) : b = c := by
  induction l with
  | nil => cases hb
  | cons x l ih =>
    unfold Single at h
    rw [List.pairwise_cons] at h
    cases hb with
    | head => cases hc with
      | head => rfl
      | tail _ hc => exact absurd e' (h.1 c hc d e)
    | tail _ hb => cases hc with
      | head => exact absurd e (h.1 b hb d e')
      | tail _ hc => exact ih h.2 hb hc
theorem All2.map_idx {R : Nat → BOper → Prop} (hR : ∀ i b, R i b → b.idx = i) : ∀ {cn : List Nat} {l : List BOper}, All2 R cn l → l.map (·.idx) = cn
  | _, _, .nil => rfl
  | _, _, .cons h1 h => by rw [List.map_cons, hR _ _ h1, h.map_idx hR]
theorem drawOk_facts {nt : Nat} {ops : Array Oper} {l : List BOper} {ws cn : List Nat} (hws : ∀ i, i ∈ ws ↔ ∃ o, ops[i]? = some o ∧ isW ty o = true) (hd : drawOk (Region.before ops) ops ws cn = true)
    (hc : compRegL ty nt ops (aheadOf (Region.before ops) ws cn) cn = some l) : DrawF ty nt ops l := by
  simp only [drawOk, Bool.and_eq_true] at hd
  obtain ⟨⟨⟨⟨⟨⟨h0, h1⟩, h2⟩, h3⟩, h4⟩, h5⟩, h6⟩ := hd
  have hall := compRegL_ok hc
  have hmap : l.map (·.idx) = cn := All2.map_idx (fun _ _ h => h.1) hall
  have hop : ∀ b ∈ l, b.q = aheadOf (Region.before ops) ws cn b.idx ∧ ∃ o, OpOk ty nt ops b o := fun b hb => by
    obtain ⟨i, _, e1, e2, e3⟩ := hall.memR b hb
    exact ⟨by rw [e1]; exact e2, e3⟩
  have hw : ∀ b ∈ l, inN ws b.idx = !b.op.simple := fun b hb => by
    obtain ⟨_, o, ok⟩ := hop b hb
    have hiw : isW ty o = !b.op.simple := by unfold isW; rw [ok.op]
    cases hs : b.op.simple with
    | false =>
      rw [hs] at hiw
      exact inN_iff.2 ((hws _).2 ⟨o, ok.get, hiw⟩)
    | true =>
      rw [hs] at hiw
      cases hi : inN ws b.idx with
      | false => rfl
      | true =>
        obtain ⟨o', h1, h2⟩ := (hws _).1 (inN_iff.1 hi)
        rw [ok.get] at h1
        cases h1
        rw [hiw] at h2
        cases h2
  have nd : (l.map (·.idx)).Nodup := by rw [hmap]; exact ndN_nodup h2
  have hsplit : ∀ A b C, l = A ++ b :: C → cn = A.map (·.idx) ++ b.idx :: C.map (·.idx) := fun A b C e => by rw [← hmap, e]; simp
  refine ⟨fun b hb => (hop b hb).2, ?_, fun i hi => ?_, nd, fun i o ho e he hb => ?_, fun A b C e o ho x hx hb => ?_, fun A b C e hs c hc => ?_, ?_, fun b hb o ho t ht c hc hct => ?_, fun b hb => ?_⟩
  · have : (l.map (·.idx)).length = ops.size := by rw [hmap]; exact Nat.eq_of_beq_eq_true h0
    simpa using this
  · have := inN_iff.1 (List.all_eq_true.1 h1 i (List.mem_range.2 hi))
    rw [← hmap] at this
    obtain ⟨b, hb, e⟩ := List.mem_map.1 this
    exact ⟨b, hb, e⟩
  · have hi : i < ops.size := (Array.getElem?_eq_some_iff.1 ho).1
    have h7 := List.all_eq_true.1 h3 i (List.mem_range.2 hi)
    rw [ho] at h7
    have h8 := Array.all_eq_true_iff_forall_mem.1 h7 e he
    rw [hb] at h8
    exact blt_lt (by simpa using h8)
  · have := (walkOk_spec cn [] h4 _ _ _ (hsplit A b C e)).1 o ho x hx hb
    rcases this with h | h
    · cases h
    · obtain ⟨c, hc, e⟩ := List.mem_map.1 h
      exact ⟨c, hc, e⟩
  · have hbl : b ∈ l := by rw [e]; simp
    have hbw : b.idx ∈ ws := inN_iff.1 (by rw [hw b hbl, hs]; rfl)
    exact (walkOk_spec cn [] h4 _ _ _ (hsplit A b C e)).2 hbw c.idx (.inr (List.mem_map.2 ⟨c, hc, rfl⟩))
  · have h7 := List.pairwise_map.1 nd
    refine List.Pairwise.imp_of_mem ?_ h7
    intro b c hb hc hne d e1 e2
    obtain ⟨_, o, ok⟩ := hop b hb
    obtain ⟨_, p, kk⟩ := hop c hc
    exact hne (nd_filterMap ops.toList (ndN_nodup h5) b.idx c.idx o p d (by simpa using ok.get) (by simpa using kk.get) (by rw [← ok.dst]; exact e1) (by rw [← kk.dst]; exact e2))
  · have hi : b.idx < ops.size := (Array.getElem?_eq_some_iff.1 ho).1
    have h7 := List.all_eq_true.1 h6 b.idx (List.mem_range.2 hi)
    rw [ho] at h7
    obtain ⟨_, p, kk⟩ := hop c hc
    have hj : c.idx < ops.size := (Array.getElem?_eq_some_iff.1 kk.get).1
    have h8 := List.all_eq_true.1 (List.all_eq_true.1 h7 t ht) c.idx (List.mem_range.2 hj)
    rw [kk.get] at h8
    have hpd : p.dst = some t := by rw [← kk.dst]; exact hct
    simp only [hpd, Bool.or_eq_true] at h8
    rcases h8 with ((h8 | h8) | h8) | h8
    · exact .inl (Nat.eq_of_beq_eq_true h8)
    · simp at h8
    · exact .inr (.inl h8)
    · exact .inr (.inr h8)
  · rw [(hop b hb).1]
    unfold aheadOf
    rw [← hmap, List.filter_map, List.length_map]
    congr 1
    refine List.filter_congr (fun c hc => ?_)
    show (inN ws c.idx && bitB ops b.idx c.idx) = _
    rw [hw c hc]
theorem compReg_facts {nt : Nat} {ops : Array Oper} {n : Nat} {l : List BOper} (h : compReg ty nt ops true = some (.drawn n l)) : n = ops.size ∧ DrawF ty nt ops l := by
  simp only [compReg] at h
  split at h
  · rename_i hd
    obtain ⟨l', hc, e⟩ := Option.map_eq_some_iff.1 h
    cases e
    refine ⟨rfl, drawOk_facts (fun i => ?_) hd hc⟩
    rw [List.mem_filter, List.mem_range]
    cases hi : ops[i]? with
    | none => simp
    | some o =>
      have := (Array.getElem?_eq_some_iff.1 hi).1
      simp [this]
  · cases h

/-! ### the state, whatever has been listed -/
abbrev Ls (listed : Array Bool) (i : Nat) : Prop := listed.getD i false = true
theorem Ls_set {listed : Array Bool} {i : Nat} (hi : i < listed.size) (j : Nat) : Ls (listed.setIfInBounds i true) j ↔ j = i ∨ Ls listed j := by
  unfold Ls
  by_cases h : i = j
  · subst h; simp [hi]
  · have : ¬ j = i := fun e => h e.symm
    rw [getD_set_ne false h]
    simp [this]
theorem HRel.cong {ι : Emb} {ow : Own} {h h' : Heap} {w : World} (H : HRel X ι ow h w) (hg : ∀ n, h'.get n = h.get n) (hn : h'.next = h.next) : HRel X ι ow h' w where
  obj := fun n o e => H.obj n o (by rw [← hg]; exact e)
  lt := fun n b hl => H.lt n b (by unfold Heap.live at *; rw [← hg]; exact hl)
  dis := fun n m b hl hl' => H.dis n m b (by unfold Heap.live at *; rw [← hg]; exact hl) (by unfold Heap.live at *; rw [← hg]; exact hl')
  low := fun n hm => H.low n (by rw [← hn]; exact hm)
theorem Fr.cong {ow0 ow : Own} {h0 h h' : Heap} {w0 w : World} (f : Fr ow0 h0 w0 ow h w) (hg : ∀ n, h'.get n = h.get n) (hn : h'.next = h.next) : Fr ow0 h0 w0 ow h' w where
  size := f.size
  keep := f.keep
  own := fun n b hl => f.own n b (by unfold Heap.live at *; rw [← hg]; exact hl)
  os := f.os
  out := f.out
  nxt := by rw [hn]; exact f.nxt
  old := fun n hlt hl => f.old n hlt (by unfold Heap.live at *; rw [← hg]; exact hl)
structure DI (DF : List Deferred) (X : Opq) (nt : Nat) (ι0 : Emb) (ow0 : Own) (h0 : Heap) (w0 : World) (ops : Array Oper) (l : List BOper) (T0 : Tr Value) (val : Nat → Value) (mk : Nat → Option AObj) (A B : List BOper) (hA : Heap)
    (listed : Array Bool) (ι : Emb) (ow : Own) (G : Heap) (w : World) (T : Tr Value) (a : Act) : Prop where
  ri : RI DF X nt ι0 ow0 h0 w0 ops.size ι ow G w T a
  size : listed.size = ops.size
  closed : ∀ i o, Ls listed i → ops[i]? = some o → ∀ e ∈ o.after, Region.binds .any e = true → Ls listed e.on
  inA : ∀ b ∈ A, Ls listed b.idx
  hardB : ∀ b ∈ B, b.op.simple = false → ¬ Ls listed b.idx
  t1 : ∀ b ∈ l, Ls listed b.idx → ∀ d, b.dst = some d → evA T (.tmp d) = val b.idx
  t2 : ∀ d, (∀ b ∈ l, Ls listed b.idx → b.dst ≠ some d) → evA T (.tmp d) = evA T0 (.tmp d)
  gnext : G.next = hA.next
  g1 : ∀ n o, hA.get n = some o → G.get n = some o
  g2 : ∀ b ∈ B, Ls listed b.idx → G.get (h0.next + b.idx) = mk b.idx
  g3 : ∀ n, hA.get n = none → (∀ b ∈ B, Ls listed b.idx → n ≠ h0.next + b.idx) → G.get n = none
  f1 : ∀ b ∈ B, hA.get (h0.next + b.idx) = none
  fresh : ∀ b ∈ B, ¬ Ls listed b.idx → ι (h0.next + b.idx) = none
section
variable {nt : Nat} {ι0 : Emb} {ow0 : Own} {h0 : Heap} {w0 : World} {ops : Array Oper} {l : List BOper} {T0 : Tr Value} {val : Nat → Value} {mk : Nat → Option AObj} {A B : List BOper} {hA : Heap}
  {listed : Array Bool} {ι : Emb} {ow : Own} {G : Heap} {w : World} {T : Tr Value} {a : Act}
theorem DrawF.ndB (D : DrawF ty nt ops l) (hl : l = A ++ B) : (B.map (·.idx)).Nodup := by
  have := D.nd
  rw [hl, List.map_append] at this
  exact (List.nodup_append.1 this).2.1
theorem draw_done (D : DrawF ty nt ops l) (hl : l = A ++ B) {TA T' : Tr Value} {h00 h' : Heap} {sn0 snA sn' : List Snap} (RA : Run cl h0.next val mk A T0 h00 sn0 TA hA snA) (RB : Run cl h0.next val mk B TA hA snA T' h' sn')
    (I : DI DF X nt ι0 ow0 h0 w0 ops l T0 val mk A B hA listed ι ow G w T a) (hall : ∀ b ∈ l, Ls listed b.idx) : After DF X nt ι0 ow0 h0 w0 T' h' ι ow w a := by
  have hBl : ∀ b ∈ B, b ∈ l := fun b hb => by rw [hl]; simp [hb]
  have hsB : ∀ b ∈ B, b.op.simple = true := fun b hb => by
    cases hs : b.op.simple with
    | true => rfl
    | false => exact absurd (hall b (hBl b hb)) (I.hardB b hb hs)
  obtain ⟨e1, e2, e3⟩ := RB.simple_heap hsB (D.ndB hl)
  have hget : ∀ n, h'.get n = G.get n := by
    intro n
    by_cases hn : ∃ b ∈ B, n = h0.next + b.idx
    · obtain ⟨b, hb, rfl⟩ := hn
      rw [I.g2 b hb (hall b (hBl b hb))]
      cases hm : mk b.idx with
      | none => rw [e2 _ (fun c hc e => by have : c.idx = b.idx := by omega
                                           rw [this]; exact hm), I.f1 b hb]
      | some o => exact e3 b hb o hm
    · have hn' : ∀ b ∈ B, n ≠ h0.next + b.idx := fun b hb e => hn ⟨b, hb, e⟩
      rw [e2 n (fun b hb e => absurd e (hn' b hb))]
      cases hg : hA.get n with
      | none => exact (I.g3 n hg (fun b hb _ => hn' b hb)).symm
      | some o => exact (I.g1 n o hg).symm
  have hnext : h'.next = G.next := by rw [e1, I.gnext]
  have R := RA.append RB
  have hev : ∀ d, evA T' (.tmp d) = evA T (.tmp d) := by
    intro d
    by_cases hd : ∃ b ∈ l, b.dst = some d
    · obtain ⟨b, hb, hbd⟩ := hd
      rw [R.slot_own (hl ▸ D.single) (hl ▸ hb) hbd, I.t1 b hb (hall b hb) d hbd]
    · have hd' : ∀ b ∈ l, b.dst ≠ some d := fun b hb e => hd ⟨b, hb, e⟩
      rw [R.slot_other (fun b hb => hd' b (hl ▸ hb)), I.t2 d (fun b hb _ => hd' b hb)]
  exact ⟨I.ri.ext, I.ri.rel.cong hget hnext, I.ri.fr.cong hget hnext, ⟨I.ri.tmps.size, fun i => by rw [hev]; exact I.ri.tmps.val i, I.ri.tmps.defers⟩⟩
/-- the slots and the list, when one more is listed -/
theorem DI.slots (D : DrawF ty nt ops l) (I : DI DF X nt ι0 ow0 h0 w0 ops l T0 val mk A B hA listed ι ow G w T a) {b : BOper} (hb : b ∈ l) (hlt : b.idx < listed.size) {o : Oper} (ho : ops[b.idx]? = some o) (hready : ∀ e ∈ o.after, Region.binds .any e = true → Ls listed e.on) :
    (∀ i o, Ls (listed.setIfInBounds b.idx true) i → ops[i]? = some o → ∀ e ∈ o.after, Region.binds .any e = true → Ls (listed.setIfInBounds b.idx true) e.on) ∧
    (∀ c ∈ l, Ls (listed.setIfInBounds b.idx true) c.idx → ∀ d, c.dst = some d → evA (putA T b.dst (val b.idx)) (.tmp d) = val c.idx) ∧
    (∀ d, (∀ c ∈ l, Ls (listed.setIfInBounds b.idx true) c.idx → c.dst ≠ some d) → evA (putA T b.dst (val b.idx)) (.tmp d) = evA T0 (.tmp d)) := by
  refine ⟨fun i p hi hp e he hbd => ?_, fun c hc hLc d hd => ?_, fun d hd => ?_⟩
  · rw [Ls_set hlt] at hi ⊢
    rcases hi with rfl | hi
    · rw [ho] at hp
      cases hp
      exact .inr (hready e he hbd)
    · exact .inr (I.closed i p hi hp e he hbd)
  · rw [Ls_set hlt] at hLc
    rw [evA_putA]
    by_cases h : b.dst = some d
    · rw [if_pos h, D.single.inj hb hc h hd]
    · rw [if_neg h]
      rcases hLc with e | hLc
      · rw [nd_inj D.nd hc hb e] at hd
        exact absurd hd h
      · exact I.t1 c hc hLc d hd
  · rw [evA_putA, if_neg (hd b hb ((Ls_set hlt _).2 (.inl rfl)))]
    exact I.t2 d (fun c hc hLc => hd c hc ((Ls_set hlt _).2 (.inr hLc)))
/-- a simple operation is listed -/
theorem DI.list (D : DrawF ty nt ops l) (hl : l = A ++ B) (I : DI DF X nt ι0 ow0 h0 w0 ops l T0 val mk A B hA listed ι ow G w T a) {b : BOper} (hb : b ∈ B) (hs : b.op.simple = true) (hun : ¬ Ls listed b.idx) {o : Oper} (ho : ops[b.idx]? = some o)
    (hready : ∀ e ∈ o.after, Region.binds .any e = true → Ls listed e.on) {ι' : Emb} {ow' : Own} {w' : World} {a' : Act} (R : RI DF X nt ι0 ow0 h0 w0 ops.size ι' ow' (G.putO (h0.next + b.idx) (mk b.idx)) w' (putA T b.dst (val b.idx)) a')
    (hι : ∀ m, m ≠ h0.next + b.idx → ι' m = ι m) : DI DF X nt ι0 ow0 h0 w0 ops l T0 val mk A B hA (listed.setIfInBounds b.idx true) ι' ow' (G.putO (h0.next + b.idx) (mk b.idx)) w' (putA T b.dst (val b.idx)) a' := by
  have hbl : b ∈ l := by rw [hl]; simp [hb]
  have hlt : b.idx < listed.size := by rw [I.size]; exact (Array.getElem?_eq_some_iff.1 ho).1
  obtain ⟨s1, s2, s3⟩ := I.slots D hbl hlt ho hready
  have hnone : G.get (h0.next + b.idx) = none := I.g3 _ (I.f1 b hb) (fun c _ hLc e => hun (by have : b.idx = c.idx := by omega
                                                                                              rw [this]; exact hLc))
  refine ⟨R, by simpa using I.size, s1, fun c hc => (Ls_set hlt _).2 (.inr (I.inA c hc)), fun c hc hcs hLc => ?_, s2, s3, by rw [Heap.putO_next]; exact I.gnext, fun n p hp => ?_, fun c hc hLc => ?_, fun n hn hne => ?_, I.f1, fun c hc hLc => ?_⟩
  · rcases (Ls_set hlt _).1 hLc with e | hLc
    · rw [nd_inj D.nd (by rw [hl]; simp [hc]) hbl e, hs] at hcs
      cases hcs
    · exact I.hardB c hc hcs hLc
  · rw [Heap.get_putO, if_neg]
    · exact I.g1 n p hp
    · intro ⟨e, _⟩
      rw [← e, I.f1 b hb] at hp
      cases hp
  · rw [Heap.get_putO]
    by_cases e : c.idx = b.idx
    · rw [e]
      cases hm : mk b.idx with
      | none => rw [if_neg (by simp)]; exact hnone
      | some p => rw [if_pos ⟨rfl, rfl⟩]
    · rw [if_neg (fun h => e (by have := h.1; omega))]
      rcases (Ls_set hlt _).1 hLc with e' | hLc
      · exact absurd e' e
      · exact I.g2 c hc hLc
  · rw [Heap.get_putO, if_neg (fun h => hne b hb ((Ls_set hlt _).2 (.inl rfl)) h.1.symm)]
    exact I.g3 n hn (fun c hc hLc => hne c hc ((Ls_set hlt _).2 (.inr hLc)))
  · have h1 : ¬ c.idx = b.idx := fun e => hLc ((Ls_set hlt _).2 (.inl e))
    rw [hι _ (fun e => h1 (by omega))]
    exact I.fresh c hc (fun h => hLc ((Ls_set hlt _).2 (.inr h)))
end
end Go.AM

/- Regions that draw their order: the theorem. -/
namespace Go.AM
variable {DF : List Deferred}
variable {P : Program} {X : Opq} {ty : Ty} {cl : Call}

/-! ### what a step with effects leaves alone -/
theorem HRel.sub {ι : Emb} {ow : Own} {h h1 : Heap} {w : World} (H : HRel X ι ow h w) (hg : ∀ n o, h1.get n = some o → h.get n = some o) (hn : h1.next = h.next) : HRel X ι ow h1 w := by
  have lv : ∀ n, h1.live n → h.live n := fun n hl => by
    unfold Heap.live at *
    cases e : h1.get n with
    | none => rw [e] at hl; cases hl
    | some o => rw [hg n o e]; rfl
  exact ⟨fun n o e => H.obj n o (hg n o e), fun n b hl => H.lt n b (lv n hl), fun n m b hl hl' => H.dis n m b (lv n hl) (lv m hl'), fun n hm => H.low n (by rw [← hn]; exact hm)⟩
theorem frame_hard (hX : X.local) {ι ι' : Emb} {ow ow' : Own} {h1 h2 G G' : Heap} {w w' : World} (isX : Nat → Prop) (H : HRel X ι ow G w) (hG : ∀ n, ¬ isX n → G.get n = h1.get n) (hGX : ∀ n, isX n → h1.get n = none)
    (hn1 : G.next = h1.next) (he : ι.ext ι' h1.next) (H2 : HRel X ι' ow' h2 w') (hf : Fr ow h1 w ow' h2 w') (hG' : ∀ n, ¬ isX n → G'.get n = h2.get n) (hX' : ∀ n, isX n → G'.get n = G.get n) (hn2 : G'.next = h2.next) :
    ∃ ow'', HRel X ι' ow'' G' w' ∧ Fr ow G w ow'' G' w' := by
  classical
  have live1 : ∀ n, h1.live n → G.live n ∧ ¬ isX n := fun n hl => by
    have hx : ¬ isX n := fun h => by unfold Heap.live at hl; rw [hGX n h] at hl; cases hl
    exact ⟨by unfold Heap.live at *; rw [hG n hx]; exact hl, hx⟩
  have live2 : ∀ n, ¬ isX n → G'.live n → h2.live n := fun n hx hl => by unfold Heap.live at *; rw [← hG' n hx]; exact hl
  have liveX : ∀ n, isX n → G'.live n → G.live n := fun n hx hl => by unfold Heap.live at *; rw [← hX' n hx]; exact hl
  have apart : ∀ n m b, isX n → G.live n → ow n b → h1.live m → ¬ ow m b := fun n m b hx hl ho hm ho' =>
    (live1 m hm).2 (H.dis n m b hl (live1 m hm).1 ho ho' ▸ hx)
  refine ⟨fun n => if isX n then ow n else ow' n, ⟨?_, ?_, ?_, ?_⟩, ⟨hf.size, ?_, ?_, hf.os, hf.out, ?_, ?_⟩⟩
  · intro n o e
    by_cases hx : isX n
    · rw [hX' n hx] at e
      obtain ⟨l, hl, ho⟩ := H.obj n o e
      have hlv : G.live n := by simp [Heap.live, e]
      refine ⟨l, he.1 n l hl, ?_⟩
      rw [if_pos hx]
      exact ho.mono hX he.1 (fun b hb => hf.keep b (H.lt n b hlv hb) (fun m hm => apart n m b hx hlv hb hm))
    · rw [hG' n hx] at e
      obtain ⟨l, hl, ho⟩ := H2.obj n o e
      refine ⟨l, hl, ?_⟩
      rw [if_neg hx]
      exact ho
  · intro n b hl ho
    by_cases hx : isX n
    · have ho : ow n b := by simpa [hx] using ho
      exact Nat.lt_of_lt_of_le (H.lt n b (liveX n hx hl) ho) hf.size
    · have ho : ow' n b := by simpa [hx] using ho
      exact H2.lt n b (live2 n hx hl) ho
  · intro n m b hl hl' ho ho'
    have cross : ∀ n m, isX n → ¬ isX m → G'.live n → G'.live m → ow n b → ow' m b → False := fun n m hx hy hn hm h1' h2' => by
      obtain ⟨k, hk, hok⟩ := hf.own m b (live2 m hy hm) h2' (H.lt n b (liveX n hx hn) h1')
      exact apart n k b hx (liveX n hx hn) h1' hk hok
    by_cases hx : isX n <;> by_cases hy : isX m
    · exact H.dis n m b (liveX n hx hl) (liveX m hy hl') (by simpa [hx] using ho) (by simpa [hy] using ho')
    · exact (cross n m hx hy hl hl' (by simpa [hx] using ho) (by simpa [hy] using ho')).elim
    · exact (cross m n hy hx hl' hl (by simpa [hy] using ho') (by simpa [hx] using ho)).elim
    · exact H2.dis n m b (live2 n hx hl) (live2 m hy hl') (by simpa [hx] using ho) (by simpa [hy] using ho')
  · intro n hn
    exact H2.low n (by rw [← hn2]; exact hn)
  · intro b hb hno
    exact hf.keep b hb (fun n hl => hno n (live1 n hl).1)
  · intro n b hl ho hlt
    by_cases hx : isX n
    · exact ⟨n, liveX n hx hl, by simpa [hx] using ho⟩
    · obtain ⟨m, hm, hom⟩ := hf.own n b (live2 n hx hl) (by simpa [hx] using ho) hlt
      exact ⟨m, (live1 m hm).1, hom⟩
  · rw [hn1, hn2]; exact hf.nxt
  · intro n hn hl
    by_cases hx : isX n
    · exact liveX n hx hl
    · exact (live1 n (hf.old n (by rw [← hn1]; exact hn) (live2 n hx hl))).1
/-- objects put back -/
noncomputable def addX (base : Nat) (mk : Nat → Option AObj) (h : Heap) : List BOper → Heap
  | [] => h
  | c :: l => (addX base mk h l).putO (base + c.idx) (mk c.idx)
theorem addX_spec {base : Nat} {mk : Nat → Option AObj} (h : Heap) : ∀ (E : List BOper), (E.map (·.idx)).Nodup → (∀ c ∈ E, h.get (base + c.idx) = none) →
    (addX base mk h E).next = h.next ∧ (∀ c ∈ E, (addX base mk h E).get (base + c.idx) = mk c.idx) ∧ (∀ n, (∀ c ∈ E, n ≠ base + c.idx) → (addX base mk h E).get n = h.get n)
  | [], _, _ => ⟨rfl, fun c hc => (by cases hc), fun _ _ => rfl⟩
  | c :: E, hnd, hz => by
    rw [List.map_cons, List.nodup_cons] at hnd
    have hne : ∀ d ∈ E, ¬ d.idx = c.idx := fun d hd e => hnd.1 (List.mem_map.2 ⟨d, hd, e⟩)
    obtain ⟨i1, i2, i3⟩ := addX_spec h E hnd.2 (fun d hd => hz d (by simp [hd]))
    refine ⟨by simp only [addX]; rw [Heap.putO_next, i1], fun d hd => ?_, fun n hn => ?_⟩
    · simp only [addX]
      rw [Heap.get_putO]
      cases hd with
      | head =>
        cases hm : mk c.idx with
        | none => rw [if_neg (by simp), i3 _ (fun d hd e => hne d hd (by omega))]; exact hz c (by simp)
        | some o => rw [if_pos ⟨rfl, rfl⟩]
      | tail _ hd =>
        rw [if_neg (fun h => hne d hd (by have := h.1; omega))]
        exact i2 d hd
    · simp only [addX]
      rw [Heap.get_putO, if_neg (fun h => hn c (by simp) h.1.symm)]
      exact i3 n (fun d hd => hn d (by simp [hd]))

/-! ### what is seen -/
section
variable {nt : Nat} {ι0 : Emb} {ow0 : Own} {h0 : Heap} {w0 : World} {ops : Array Oper} {l : List BOper} {T0 : Tr Value} {val : Nat → Value} {mk : Nat → Option AObj} {A B B1 B2 : List BOper} {hA : Heap}
  {listed : Array Bool} {ι : Emb} {ow : Own} {G : Heap} {w : World} {T T1 : Tr Value} {a : Act} {b : BOper} {o : Oper}
theorem DI.sees (D : DrawF ty nt ops l) (hl : l = A ++ (B1 ++ b :: B2)) (I : DI DF X nt ι0 ow0 h0 w0 ops l T0 val mk A (B1 ++ b :: B2) hA listed ι ow G w T a) {h00 h1 : Heap} {sn0 sn1 : List Snap} (R : Run cl h0.next val mk (A ++ B1) T0 h00 sn0 T1 h1 sn1)
    (hun : ¬ Ls listed b.idx) (ho : ops[b.idx]? = some o) (hready : ∀ e ∈ o.after, Region.binds .any e = true → Ls listed e.on) : ∀ t ∈ o.looksAt ops, evA T (.tmp t) = evA T1 (.tmp t) := by
  intro t ht
  have hl' : l = (A ++ B1) ++ b :: B2 := by rw [hl]; simp
  have hbl : b ∈ l := by rw [hl]; simp
  have hAB : ∀ c ∈ A ++ B1, c ∈ l := fun c hc => by rw [hl']; exact List.mem_append.2 (.inl hc)
  have nb : ∀ c ∈ A ++ B1, c.idx ≠ b.idx := by
    have := D.nd
    rw [hl', List.map_append, List.map_cons] at this
    exact fun c hc => (List.nodup_append.1 this).2.2 c.idx (List.mem_map.2 ⟨c, hc, rfl⟩) b.idx (by simp)
  have closA : ∀ i p, (∃ c ∈ A ++ B1, c.idx = i) → ops[i]? = some p → ∀ e ∈ p.after, Region.binds .any e = true → ∃ c ∈ A ++ B1, c.idx = e.on := by
    rintro i p ⟨c, hc, rfl⟩ hp e he hb
    obtain ⟨C1, C2, e2⟩ := List.append_of_mem hc
    obtain ⟨x, hx, e3⟩ := D.pre C1 c (C2 ++ b :: B2) (by rw [hl', e2]; simp) p hp e he hb
    exact ⟨x, by rw [e2]; simp [hx], e3⟩
  have readyA : ∀ e ∈ o.after, Region.binds .any e = true → ∃ c ∈ A ++ B1, c.idx = e.on := D.pre (A ++ B1) b B2 hl' o ho
  by_cases hd : ∃ c ∈ l, c.dst = some t
  · obtain ⟨c, hc, hct⟩ := hd
    have uniq : ∀ x ∈ l, x.dst = some t → x = c := fun x hx e => D.single.inj hx hc e hct
    have late : ¬ Ls listed c.idx → c ∉ A ++ B1 → evA T (.tmp t) = evA T1 (.tmp t) := by
      intro h1' h2'
      rw [I.t2 t (fun x hx hL e => h1' (uniq x hx e ▸ hL)), R.slot_other (fun x hx e => h2' (uniq x (hAB x hx) e ▸ hx))]
    rcases D.rdwr b hbl o ho t ht c hc hct with e | e | e
    · have : c = b := nd_inj D.nd hc hbl e
      subst this
      exact late hun (fun h => nb c h rfl)
    · have hL : Ls listed c.idx := before_bits (L := Ls listed) I.closed ho hready e
      obtain ⟨x, hx, ex⟩ := before_bits (L := fun i => ∃ c ∈ A ++ B1, c.idx = i) closA ho readyA e
      have : x = c := nd_inj D.nd (hAB x hx) hc ex
      subst this
      have sg : Single (A ++ B1) := by
        have := D.single
        unfold Single at this ⊢
        rw [hl'] at this
        exact (List.pairwise_append.1 this).1
      rw [I.t1 x hc hL t hct, R.slot_own sg hx hct]
    · obtain ⟨o2, ok2⟩ := D.all c hc
      refine late (fun hL => hun (before_bits (L := Ls listed) I.closed ok2.get (I.closed c.idx o2 hL ok2.get) e)) (fun hm => ?_)
      obtain ⟨x, hx, ex⟩ := before_bits (L := fun i => ∃ c ∈ A ++ B1, c.idx = i) closA ok2.get (closA c.idx o2 ⟨c, hm, rfl⟩ ok2.get) e
      exact nb x hx ex
  · have hd' : ∀ x ∈ l, x.dst ≠ some t := fun x hx e => hd ⟨x, hx, e⟩
    rw [I.t2 t (fun x hx _ => hd' x hx), R.slot_other (fun x hx => hd' x (hAB x hx))]
theorem ev_same (hs : ∀ t ∈ o.looksAt ops, evA T (.tmp t) = evA T1 (.tmp t)) : ∀ x ∈ o.op.operands, evA T x = evA T1 x := by
  intro x hx
  cases x with
  | tmp t => exact hs t (List.mem_append_left _ (List.mem_filterMap.2 ⟨.tmp t, by simpa using hx, rfl⟩))
  | _ => rfl
theorem wantedA_same (ok : OpOk ty nt ops b o) (hs : ∀ t ∈ o.looksAt ops, evA T (.tmp t) = evA T1 (.tmp t)) : wantedA T b.guard = wantedA T1 b.guard := by
  have hg := ok.guard
  cases h : o.guard with
  | none =>
    rw [h] at hg
    rw [hg]
    rfl
  | some p =>
    obtain ⟨j, want⟩ := p
    rw [h] at hg
    obtain ⟨d, hd, hbg⟩ := hg
    rw [hbg]
    have h1 := hs d (List.mem_append_right _ (by rw [h]; simp [hd]))
    simp only [evA] at h1
    simp only [wantedA]
    cases h2 : T.get d with
    | none =>
      cases h3 : T1.get d with
      | none => rfl
      | some u => rw [h2, h3] at h1; dsimp only at h1; subst h1; rfl
    | some u =>
      cases h3 : T1.get d with
      | none => rw [h2, h3] at h1; dsimp only at h1; subst h1; rfl
      | some u' => rw [h2, h3] at h1; dsimp only at h1; subst h1; rfl
theorem doHard_cong {op : Op} (h : Heap) : ∀ {act : Act1}, Cong op act → (∀ x ∈ op.operands, evA T x = evA T1 x) → doHard cl T h act = doHard cl T1 h act
  | .simp .., _, _ => rfl
  | .heavy f, hc, E => hc (evA T) (evA T1) h E
  | .call f args, hc, E => by
    have e1 : evA T f = evA T1 f := E f hc.1
    have e2 : args.map (evA T) = args.map (evA T1) := List.map_congr_left fun x hx => E x (hc.2 x hx)
    simp only [doHard, doCall, e1, e2]
theorem stepD_off {h0 h1 : Heap} {base : Nat} {sn sn1 : List Snap} {v : Value} {ob : Option AObj} (hs : b.op.simple = true) (hw : wantedA T b.guard = false) (h : stepD cl base b T h0 sn = some (v, ob, h1, sn1)) : v = undef ∧ ob = none := by
  unfold stepD at h
  rw [hw, hs] at h
  cases h
  exact ⟨rfl, rfl⟩
theorem stepD_on {h0 h1 : Heap} {base : Nat} {sn sn1 : List Snap} {v : Value} {ob : Option AObj} {looks : Bool} {f : SF} (hop : b.op = .simp looks f) (hw : wantedA T b.guard = true) (h : stepD cl base b T h0 sn = some (v, ob, h1, sn1)) :
    f (base + b.idx) (evA T) h0.get = some (v, ob) ∧ (looks = true → ob = none ∧ steadyL f (base + b.idx) (evA T) v (sn.length - b.q) sn = true) := by
  unfold stepD at h
  rw [hw, hop] at h
  dsimp only at h
  have e : Nat.add base b.idx = base + b.idx := rfl
  rw [e] at h
  cases hf : f (base + b.idx) (evA T) h0.get with
  | none => rw [hf] at h; cases h
  | some p =>
    obtain ⟨u, x⟩ := p
    rw [hf] at h
    cases x with
    | none =>
      dsimp only at h
      cases hl : (looks && !steadyL f (base + b.idx) (evA T) u (sn.length - b.q) sn) with
      | true => rw [hl] at h; cases h
      | false =>
        rw [hl] at h
        cases h
        refine ⟨rfl, fun hlk => ⟨rfl, ?_⟩⟩
        rw [hlk] at hl
        simpa using hl
    | some y =>
      dsimp only at h
      cases looks with
      | true => cases h
      | false => cases h; exact ⟨rfl, fun h => by cases h⟩
theorem filter_lt {α : Type} {p q : α → Bool} : ∀ {l : List α}, (∀ x ∈ l, q x = true → p x = true) → ∀ x ∈ l, p x = true → q x = false → (l.filter q).length < (l.filter p).length
  | [], _, _, hx, _, _ => by cases hx
  | y :: l, h, x, hx, hp, hq => by
    have hle : (l.filter q).length ≤ (l.filter p).length := by
      rw [← List.countP_eq_length_filter, ← List.countP_eq_length_filter]
      exact List.countP_mono_left (fun z hz => h z (by simp [hz]))
    cases hx with
    | head =>
      rw [List.filter_cons, List.filter_cons, hp, hq]
      simp
      omega
    | tail _ hx =>
      have := filter_lt (fun z hz => h z (by simp [hz])) x hx hp hq
      rw [List.filter_cons, List.filter_cons]
      cases hqy : q y with
      | true => rw [h y (by simp) hqy]; simpa using this
      | false =>
        cases hpy : p y with
        | true => simp; omega
        | false => simpa using this
theorem getD_flip {listed : Array Bool} {j : Nat} (hj : j < listed.size) : listed.getD j true = listed.getD j false := by simp [Array.getD, hj]
end
end Go.AM

/- Regions that draw their order: the walk, whatever is drawn. -/
namespace Go.AM
variable {DF : List Deferred}
variable {P : Program} {X : Opq} {ty : Ty} {cl : Call}
variable {nt : Nat} {ι0 : Emb} {ow0 : Own} {h0 : Heap} {w0 : World} {ops : Array Oper} {l : List BOper} {T0 : Tr Value} {val : Nat → Value} {mk : Nat → Option AObj}

/-- what a simple operation gives in the canonical order it gives here -/
theorem same_value {A B1 B2 : List BOper} {hA : Heap} {listed : Array Bool} {ι : Emb} {ow : Own} {G : Heap} {w : World} {T T1 TA : Tr Value} {a : Act} {b : BOper} {o : Oper} {h1 h2 : Heap} {sn1 sn2 older : List Snap} {looks : Bool} {f : SF}
    (D : DrawF ty nt ops l) (hl : l = A ++ (B1 ++ b :: B2)) (I : DI DF X nt ι0 ow0 h0 w0 ops l T0 val mk A (B1 ++ b :: B2) hA listed ι ow G w T a) (ok : OpOk ty nt ops b o) (hready : ∀ e ∈ o.after, Region.binds .any e = true → Ls listed e.on)
    (hold : older.length = hards A) (R1 : Run cl h0.next val mk B1 TA hA ((hA.tab, []) :: older) T1 h1 sn1) (hev : ∀ x ∈ o.op.operands, evA T x = evA T1 x)
    (hop : b.op = .simp looks f) (hwt : wantedA T1 b.guard = true) (hst : stepD cl h0.next b T1 h1 sn1 = some (val b.idx, mk b.idx, h2, sn2))
    (hsame : looks = false → f (h0.next + b.idx) (evA T1) h1.get = some (val b.idx, mk b.idx)) : f (h0.next + b.idx) (evA T) G.get = some (val b.idx, mk b.idx) := by
  obtain ⟨hf, hlk⟩ := stepD_on hop hwt hst
  have hcong := cong_ok ok.op
  have hmono := mono_ok ok.op
  rw [hop] at hcong hmono
  cases looks with
  | false =>
    have hc : ∀ (nm : Nat) (ea ea' : Operand → Value) (look look' : Look), (∀ x ∈ o.op.operands, ea x = ea' x) → (false = true → look = look') → f nm ea look = f nm ea' look' := hcong
    rw [hc _ (evA T) (evA T1) G.get h1.get hev (fun h => by cases h)]
    exact hf
  | true =>
    have hc : ∀ (nm : Nat) (ea ea' : Operand → Value) (look look' : Look), (∀ x ∈ o.op.operands, ea x = ea' x) → (true = true → look = look') → f nm ea look = f nm ea' look' := hcong
    have hm : ∀ (nm : Nat) (ea : Operand → Value) (look look' : Look) (r : Value × Option AObj), (∀ x ∈ o.op.operands, Sees look look' (ea x)) → f nm ea look = some r → f nm ea look' = some r := hmono
    obtain ⟨hmk, hsteady⟩ := hlk rfl
    obtain ⟨tops, m, f1, f2, f3⟩ := R1.snaps [] hA.tab [] older rfl
    have hbl : b ∈ l := by rw [hl]; simp
    have hq : b.q ≤ hards A := by
      rw [D.q b hbl, hl, List.filter_append, List.length_append]
      have e1 : ((B1 ++ b :: B2).filter fun c => !c.op.simple && bitB ops b.idx c.idx) = [] := by
        rw [List.filter_eq_nil_iff]
        intro c hc h
        simp only [Bool.and_eq_true, Bool.not_eq_true'] at h
        exact I.hardB c hc h.1 (before_bits (L := Ls listed) I.closed ok.get hready h.2)
      rw [e1]
      unfold hards
      rw [← List.countP_eq_length_filter, ← List.countP_eq_length_filter]
      exact List.countP_mono_left (fun c _ h => by simp only [Bool.and_eq_true] at h; exact h.1)
    have hlen : sn1.length = tops.length + 1 + hards A := by rw [f1]; simp; omega
    -- what is seen in a look that has no more than what is listed, or to come
    have seen : ∀ (look : Look) (x : Operand), x ∈ o.op.operands → (∀ n p, look n = some p → hA.get n = some p ∨ ∃ c ∈ B1, n = h0.next + c.idx ∧ mk c.idx = some p) → Sees look G.get (evA T x) := by
      intro look x hx hlook n hn p hp
      rcases hlook n p hp with h | ⟨c, hc1, e1, e2⟩
      · exact I.g1 n p h
      · obtain ⟨lc, hlc⟩ := name_emb (I.ri.tmps.ev (Array.all_eq_true_iff_forall_mem.1 ok.closed x hx)) hn
        by_cases hL : Ls listed c.idx
        · rw [e1, I.g2 c (by simp [hc1]) hL]; exact e2
        · rw [e1, I.fresh c (by simp [hc1]) hL] at hlc
          cases hlc
    cases tops with
    | nil =>
      have hB1s : ∀ c ∈ B1, c.op.simple = true := fun c hc => by
        have h0 : hards B1 = 0 := by simp at f2; exact f2.symm
        unfold hards at h0
        have h1 := List.filter_eq_nil_iff.1 (List.eq_nil_of_length_eq_zero h0) c hc
        cases hs : c.op.simple with
        | true => rfl
        | false => rw [hs] at h1; exact absurd rfl h1
      have ndB := D.ndB hl
      rw [List.map_append, List.nodup_append] at ndB
      obtain ⟨_, e2, e3⟩ := R1.simple_heap hB1s ndB.1
      refine hm _ _ _ _ _ (fun x hx => seen h1.get x hx (fun n p hp => ?_)) ((hc _ (evA T) (evA T1) _ _ hev (fun _ => rfl)).trans hf)
      by_cases hn : ∃ c ∈ B1, n = h0.next + c.idx ∧ mk c.idx ≠ none
      · obtain ⟨c, hc1, rfl, hne⟩ := hn
        cases hmk2 : mk c.idx with
        | none => exact absurd hmk2 hne
        | some q =>
          rw [e3 c hc1 q hmk2] at hp
          cases hp
          exact .inr ⟨c, hc1, rfl, hmk2⟩
      · rw [e2 n (fun c hc1 e => by
          cases hmk2 : mk c.idx with
          | none => rfl
          | some q => exact absurd ⟨c, hc1, e, by rw [hmk2]; simp⟩ hn)] at hp
        exact .inl hp
    | cons s0 tops =>
      rw [f1] at hsteady
      have hsteady : steady f (h0.next + b.idx) (evA T1) (val b.idx) s0.2 (Nat.pred ((s0 :: tops ++ (hA.tab, m) :: older).length - b.q)) (tops ++ (hA.tab, m) :: older) = true := hsteady
      obtain ⟨u, made, g1, g2, g3⟩ := steady_at tops s0.2 _ (by simp; omega) hsteady
      have hu : u = val b.idx := sameV_eq g2
      subst hu
      rw [hmk]
      refine hm _ _ _ _ _ (fun x hx => seen _ x hx (fun n p hp => ?_)) ((hc _ (evA T) (evA T1) _ _ hev (fun _ => rfl)).trans g1)
      unfold lookS at hp
      cases hg : hA.tab.get n with
      | some p' =>
        rw [hg] at hp
        cases hp
        exact .inl hg
      | none =>
        rw [hg] at hp
        have hmem := lget_mem hp
        have hmem2 : (n, p) ∈ allMade (s0 :: tops ++ [(hA.tab, m)]) := by
          simp only [allMade, List.cons_append, List.flatMap_cons, List.mem_append]
          rcases g3 _ hmem with h | h
          · exact .inl h
          · exact .inr h
        rcases f3 _ hmem2 with h | ⟨c, hc1, e1, e2⟩
        · simp [allMade] at h
        · exact .inr ⟨c, hc1, e1, e2⟩
theorem draw_any (F : PF P ty) (hd : kdepth ≤ P.depth) (hX : X.local) (hcl : CallOk P X cl) (D : DrawF ty nt ops l) {h00 : Heap} {sn0 : List Snap} {T' : Tr Value} {h' : Heap} {sn' : List Snap} {Q : Exit → Act → World → Prop}
    (hQ : ∀ ι' ow' w' a', After DF X nt ι0 ow0 h0 w0 T' h' ι' ow' w' a' → Q .normal a' w') :
    ∀ (fuel : Nat) (A B : List BOper) (TA : Tr Value) (hA : Heap) (older : List Snap) (listed : Array Bool) (ι : Emb) (ow : Own) (G : Heap) (w : World) (T : Tr Value) (a : Act), l = A ++ B →
      Run cl h0.next val mk A T0 h00 sn0 TA hA ((hA.tab, []) :: older) → older.length = hards A → Run cl h0.next val mk B TA hA ((hA.tab, []) :: older) T' h' sn' →
      DI DF X nt ι0 ow0 h0 w0 ops l T0 val mk A B hA listed ι ow G w T a → (l.filter fun b => !listed.getD b.idx false).length ≤ fuel → wpAny P .any ops Q fuel listed a w := by
  intro fuel
  induction fuel with
  | zero =>
    intro A B TA hA older listed ι ow G w T a hl RA _ RB I hn
    have hall : ∀ b ∈ l, Ls listed b.idx := fun b hb => by
      have h1 : (l.filter fun b => !listed.getD b.idx false) = [] := List.eq_nil_of_length_eq_zero (by omega)
      have h2 := List.filter_eq_nil_iff.1 h1 b hb
      unfold Ls
      cases hg : listed.getD b.idx false with
      | true => rfl
      | false => rw [hg] at h2; exact absurd rfl h2
    unfold wpAny
    refine ⟨?_, hQ _ _ _ _ (draw_done D hl RA RB I hall)⟩
    rw [List.eq_nil_iff_forall_not_mem]
    intro j hj
    obtain ⟨h1, o, ho, _⟩ := mem_ready.1 hj
    have hj' : j < ops.size := (Array.getElem?_eq_some_iff.1 ho).1
    obtain ⟨b, hb, rfl⟩ := D.cover j hj'
    have h2 := hall b hb
    rw [getD_flip (by rw [I.size]; exact hj')] at h1
    unfold Ls at h2
    rw [h1] at h2
    cases h2
  | succ fuel ih =>
    intro A B TA hA older listed ι ow G w T a hl RA hold RB I hn
    unfold wpAny
    refine ⟨fun hr => ?_, fun i hi => ?_⟩
    · have hall : ∀ i, i < ops.size → Ls listed i := by
        intro i
        induction i using Nat.strongRecOn with
        | ind i ihi =>
          intro hi
          by_cases h : Ls listed i
          · exact h
          · exfalso
            have hget := Array.getElem?_eq_getElem hi
            have hm : i ∈ Region.ready .any ops listed := mem_ready.2 ⟨by rw [getD_flip (by rw [I.size]; exact hi)]; simpa [Ls] using h, ops[i], hget, fun e he hb => by
              have := D.edge i _ hget e he hb
              exact ihi e.on this (by omega)⟩
            rw [hr] at hm
            cases hm
      exact hQ _ _ _ _ (draw_done D hl RA RB I (fun b hb => by obtain ⟨o, ok⟩ := D.all b hb; exact hall _ (Array.getElem?_eq_some_iff.1 ok.get).1))
    · obtain ⟨hno, o', ho', hready⟩ := mem_ready.1 hi
      have hlt : i < ops.size := (Array.getElem?_eq_some_iff.1 ho').1
      obtain ⟨b, hbl, rfl⟩ := D.cover i hlt
      obtain ⟨o, ok⟩ := D.all b hbl
      have hoo : o' = o := by rw [ok.get] at ho'; cases ho'; rfl
      subst hoo
      have hlt' : b.idx < listed.size := by rw [I.size]; exact hlt
      have hun : ¬ Ls listed b.idx := by
        rw [getD_flip hlt'] at hno
        unfold Ls
        rw [hno]
        simp
      have hbB : b ∈ B := by
        have h := hbl
        rw [hl] at h
        rcases List.mem_append.1 h with h | h
        · exact absurd (I.inA b h) hun
        · exact h
      obtain ⟨B1, B2, rfl⟩ := List.append_of_mem hbB
      obtain ⟨T1, h1, sn1, R1, R2⟩ := RB.split
      cases R2 with
      | @cons _ _ _ _ _ h2 sn2 _ _ _ hst R3 =>
      have hsee := I.sees D hl (RA.append R1) hun ok.get hready
      have hev := ev_same hsee
      have hwant := wantedA_same ok hsee
      have hfew : (l.filter fun c => !(listed.setIfInBounds b.idx true).getD c.idx false).length ≤ fuel := by
        have := filter_lt (p := fun c : BOper => !listed.getD c.idx false) (q := fun c : BOper => !(listed.setIfInBounds b.idx true).getD c.idx false) (l := l)
          (fun x _ hx => by
            cases h : listed.getD x.idx false with
            | false => rfl
            | true =>
              have := (Ls_set hlt' x.idx).2 (.inr h)
              unfold Ls at this
              rw [this] at hx
              cases hx) b hbl (by simpa [Ls] using hun) (by
              have := (Ls_set hlt' b.idx).2 (.inl rfl)
              unfold Ls at this
              rw [this]; rfl)
        omega
      unfold wpOp
      rw [ok.get]
      dsimp only
      rw [wanted_rel I.ri.tmps ok.guard, hwant]
      cases hs : b.op.simple with
      | true =>
        cases hwt : wantedA T1 b.guard with
        | false =>
          rw [if_neg (by simp)]
          obtain ⟨hv, hm⟩ := stepD_off hs hwt hst
          refine ih A (B1 ++ b :: B2) TA hA older _ ι ow (G.putO (h0.next + b.idx) (mk b.idx)) w (putA T b.dst (val b.idx)) _ hl RA hold RB (I.list D hl hbB hs hun ok.get hready ?_ (fun _ _ => rfl)) hfew
          rw [hv, hm, ← ok.dst]
          exact ⟨I.ri.ext, I.ri.rel, I.ri.fr, I.ri.tmps.put ok.lt (VRel.undef ι), I.ri.nxt⟩
        | true =>
          rw [if_pos rfl]
          left
          cases hop : b.op with
          | heavy f => rw [hop] at hs; cases hs
          | call f args => rw [hop] at hs; cases hs
          | simp looks f =>
            have hfG := same_value D hl I ok hready hold R1 hev hop hwt hst (fun _ => (stepD_on hop hwt hst).1)
            have hact := act_ok F hd hX ok.op
            rw [hop] at hact
            have hi := I.fresh b hbB hun
            have hso := hact ι ow G w (h0.next + b.idx) (evA T) a.eval (val b.idx) (mk b.idx) I.ri.rel hi (I.ri.tmps.evs ok.closed) (fun _ => rfl) hfG
            obtain ⟨v', w', ι', ow', hrun, R', hsame⟩ := I.ri.simple hX hlt hi ok.lt hso
            unfold Oper.wp
            rw [hrun]
            show wpAny P .any ops Q fuel _ (a.put o'.dst v') w'
            rw [← ok.dst]
            exact ih A (B1 ++ b :: B2) TA hA older _ ι' ow' _ w' _ _ hl RA hold RB (I.list D hl hbB hs hun ok.get hready R' hsame) hfew
      | false =>
        obtain ⟨hmk, hsn, hcase⟩ := stepD_hard hs hst
        have hl2 : l = (A ++ B1) ++ b :: B2 := by rw [hl]; simp
        have hB1 : ∀ c ∈ B1, Ls listed c.idx := fun c hc => before_bits (L := Ls listed) I.closed ok.get hready (D.hard (A ++ B1) b B2 hl2 hs c (by simp [hc]))
        have hB1s : ∀ c ∈ B1, c.op.simple = true := fun c hc => by
          cases h : c.op.simple with
          | true => rfl
          | false => exact absurd (hB1 c hc) (I.hardB c (by simp [hc]) h)
        have ndB := D.ndB hl
        rw [List.map_append, List.map_cons, List.nodup_append, List.nodup_cons] at ndB
        obtain ⟨nd1, ⟨nd2, nd3⟩, nd4⟩ := ndB
        have ne12 : ∀ c ∈ B1, ∀ d ∈ B2, c.idx ≠ d.idx := fun c hc d hd => nd4 c.idx (List.mem_map.2 ⟨c, hc, rfl⟩) d.idx (by simp; exact .inr ⟨d, hd, rfl⟩)
        have neb : ∀ c ∈ B2, c.idx ≠ b.idx := fun c hc e => nd2 (List.mem_map.2 ⟨c, hc, e⟩)
        obtain ⟨e1, e2, e3⟩ := R1.simple_heap hB1s nd1
        have k1 : ∀ n p, h1.get n = some p → G.get n = some p := by
          intro n p hp
          by_cases hn : ∃ c ∈ B1, n = h0.next + c.idx
          · obtain ⟨c, hc, rfl⟩ := hn
            rw [I.g2 c (by simp [hc]) (hB1 c hc)]
            cases hm : mk c.idx with
            | none =>
              rw [e2 _ (fun d hd e => by have : d.idx = c.idx := by omega
                                         rw [this]; exact hm), I.f1 c (by simp [hc])] at hp
              cases hp
            | some q => rw [e3 c hc q hm] at hp; exact hp
          · rw [e2 n (fun c hc e => absurd ⟨c, hc, e⟩ hn)] at hp
            exact I.g1 n p hp
        have k2 : ∀ c ∈ B2, h1.get (h0.next + c.idx) = none := fun c hc => by
          rw [e2 _ (fun d hd e => absurd (by omega) (ne12 d hd c hc))]
          exact I.f1 c (by simp [hc])
        have k3 : ∀ n, h1.get n = none → (∀ c ∈ B2, Ls listed c.idx → n ≠ h0.next + c.idx) → G.get n = none := by
          intro n hn hne
          by_cases hx : ∃ c ∈ B1, n = h0.next + c.idx
          · obtain ⟨c, hc, rfl⟩ := hx
            rw [I.g2 c (by simp [hc]) (hB1 c hc)]
            cases hm : mk c.idx with
            | none => rfl
            | some q => rw [e3 c hc q hm] at hn; cases hn
          · rw [e2 n (fun c hc e => absurd ⟨c, hc, e⟩ hx)] at hn
            refine I.g3 n hn (fun c hc hL e => ?_)
            rcases List.mem_append.1 hc with hc | hc
            · exact hx ⟨c, hc, e⟩
            · rcases List.mem_cons.1 hc with rfl | hc
              · exact hun hL
              · exact hne c hc hL e
        have knext : h1.next = G.next := by rw [e1, I.gnext]
        obtain ⟨tops, m, f1, f2, _⟩ := R1.snaps [] hA.tab [] older rfl
        have hlen : sn1.length = hards (A ++ B1 ++ [b]) := by
          have h3 : hards [b] = 1 := by simp [hards, hs]
          rw [f1, hards_append, hards_append, hards_simple hB1s, h3]
          rw [hards_simple hB1s] at f2
          simp at f2 ⊢
          rw [f2]
          simp
          omega
        obtain ⟨s1, s2, s3⟩ := I.slots D hbl hlt' ok.get hready
        have fin : ∀ (ι' : Emb) (ow' : Own) (G' : Heap) (w' : World) (a' : Act), RI DF X nt ι0 ow0 h0 w0 ops.size ι' ow' G' w' (putA T b.dst (val b.idx)) a' → G'.next = h2.next → (∀ c ∈ B2, Ls listed c.idx → G'.get (h0.next + c.idx) = mk c.idx) →
            (∀ n, (∀ c ∈ B2, Ls listed c.idx → n ≠ h0.next + c.idx) → G'.get n = h2.get n) → (∀ c ∈ B2, h2.get (h0.next + c.idx) = none) → (∀ c ∈ B2, ι' (h0.next + c.idx) = ι (h0.next + c.idx)) →
            wpAny P .any ops Q fuel (listed.setIfInBounds b.idx true) a' w' := by
          intro ι' ow' G' w' a' R' q1 q2 q3 q4 q5
          subst hsn
          refine ih (A ++ B1 ++ [b]) B2 (putA T1 b.dst (val b.idx)) h2 sn1 _ ι' ow' G' w' (putA T b.dst (val b.idx)) a' (by rw [hl]; simp) ((RA.append R1).append (.cons hst .nil)) hlen R3 ?_ hfew
          refine ⟨R', by simpa using I.size, s1, fun c hc => ?_, fun c hc hcs hL => ?_, s2, s3, q1, fun n p hp => ?_, fun c hc hL => ?_, fun n hn hne => ?_, q4, fun c hc hL => ?_⟩
          · rw [Ls_set hlt']
            simp only [List.append_assoc, List.mem_append, List.mem_singleton] at hc
            rcases hc with hc | hc | rfl
            · exact .inr (I.inA c hc)
            · exact .inr (hB1 c hc)
            · exact .inl rfl
          · rcases (Ls_set hlt' _).1 hL with e | hL
            · exact neb c hc e
            · exact I.hardB c (by simp [hc]) hcs hL
          · rw [q3 n (fun c hc _ e => by rw [e, q4 c hc] at hp; cases hp)]
            exact hp
          · rcases (Ls_set hlt' _).1 hL with e | hL
            · exact absurd e (neb c hc)
            · exact q2 c hc hL
          · rw [q3 n (fun c hc hL => hne c hc ((Ls_set hlt' _).2 (.inr hL)))]
            exact hn
          · rw [q5 c hc]
            exact I.fresh c (by simp [hc]) (fun h => hL ((Ls_set hlt' _).2 (.inr h)))
        have hGn : ∀ n, (∀ c ∈ B2, Ls listed c.idx → n ≠ h0.next + c.idx) → G.get n = h1.get n := by
          intro n hne
          cases hg : h1.get n with
          | none => exact k3 n hg hne
          | some p => exact k1 n p hg
        rcases hcase with ⟨hwf, hv, hh⟩ | ⟨hwt, hdo⟩
        · rw [hwf, if_neg (by simp)]
          refine fin ι ow G w _ ?_ (by rw [hh, knext]) (fun c hc hL => I.g2 c (by simp [hc]) hL) (fun n hne => by rw [hh]; exact hGn n hne) (fun c hc => by rw [hh]; exact k2 c hc) (fun _ _ => rfl)
          rw [hv, ← ok.dst]
          exact ⟨I.ri.ext, I.ri.rel, I.ri.fr, I.ri.tmps.put ok.lt (VRel.undef ι), I.ri.nxt⟩
        · rw [hwt, if_pos rfl]
          left
          have hdo' : doHard cl T h1 b.op = some (val b.idx, h2) := by rw [doHard_cong h1 (cong_ok ok.op) hev]; exact hdo
          refine hard_ok F hd hX hcl ok I.ri.tmps (I.ri.rel.sub k1 knext) hdo' (fun v' w' ι' ow' q1 q2 q3 q4 => ?_)
          have hB2lt : ∀ c ∈ B2, h0.next + c.idx < h1.next := fun c hc => by
            obtain ⟨oc, okc⟩ := D.all c (by rw [hl]; simp [hc])
            have h3 := (Array.getElem?_eq_some_iff.1 okc.get).1
            have h4 := I.ri.nxt
            rw [knext]
            omega
          have z2 : ∀ c ∈ B2, h2.get (h0.next + c.idx) = none := fun c hc => by
            cases hg : h2.get (h0.next + c.idx) with
            | none => rfl
            | some p =>
              have := q4.old _ (hB2lt c hc) (by simp [Heap.live, hg])
              unfold Heap.live at this
              rw [k2 c hc] at this
              cases this
          have ndE : ((B2.filter fun c => listed.getD c.idx false).map (·.idx)).Nodup := nd3.sublist (List.filter_sublist.map _)
          have memE : ∀ c, c ∈ (B2.filter fun c => listed.getD c.idx false) ↔ c ∈ B2 ∧ Ls listed c.idx := fun c => by rw [List.mem_filter]
          obtain ⟨x1, x2, x3⟩ := addX_spec (base := h0.next) (mk := mk) h2 (B2.filter fun c => listed.getD c.idx false) ndE (fun c hc => z2 c ((memE c).1 hc).1)
          have x3' : ∀ n, (∀ c ∈ B2, Ls listed c.idx → n ≠ h0.next + c.idx) → (addX h0.next mk h2 (B2.filter fun c => listed.getD c.idx false)).get n = h2.get n := fun n hne => x3 n (fun c hc => hne c ((memE c).1 hc).1 ((memE c).1 hc).2)
          have x2' : ∀ c ∈ B2, Ls listed c.idx → (addX h0.next mk h2 (B2.filter fun c => listed.getD c.idx false)).get (h0.next + c.idx) = mk c.idx := fun c hc hL => x2 c ((memE c).2 ⟨hc, hL⟩)
          have hnX : ∀ n, (¬ ∃ c ∈ B2, Ls listed c.idx ∧ n = h0.next + c.idx) → ∀ c ∈ B2, Ls listed c.idx → n ≠ h0.next + c.idx := fun n hn c hc hL e => hn ⟨c, hc, hL, e⟩
          obtain ⟨ow'', H'', F''⟩ := frame_hard (G' := addX h0.next mk h2 (B2.filter fun c => listed.getD c.idx false)) hX (fun n => ∃ c ∈ B2, Ls listed c.idx ∧ n = h0.next + c.idx) I.ri.rel
            (fun n hn => hGn n (hnX n hn)) (fun n ⟨c, hc, _, e⟩ => by rw [e]; exact k2 c hc) knext.symm q1 q3 q4 (fun n hn => x3' n (hnX n hn))
            (fun n ⟨c, hc, hL, e⟩ => by rw [e, x2' c hc hL, I.g2 c (by simp [hc]) hL]) x1
          rw [knext] at q1
          obtain ⟨R', _⟩ := I.ri.heavy ok.lt q1 q2 H'' F''
          rw [← ok.dst]
          exact fin ι' ow'' _ w' _ R' x1 x2' x3' z2 (fun c hc => q1.2 _ (by rw [← knext]; exact hB2lt c hc))
theorem drawn_ok (F : PF P ty) (hd : kdepth ≤ P.depth) (hX : X.local) (hm : P.follows .mixedOrders = true) (nt : Nat) (cl : Call) (hcl : CallOk P X cl) : DrawnOk P X ty nt cl := by
  intro DF id ops n l hc ι ow h w T a T' h' Q H ht hr hQ
  obtain ⟨rfl, D⟩ := compReg_facts hc
  obtain ⟨val, mk, sn', R⟩ := drawA_run l _ _ _ _ _ D.nd hr
  refine wp_region_any hm ?_
  have hz : ∀ i, Heap.get { next := Nat.add h.next ops.size, tab := h.tab } (h.next + i) = none := fun i => H.not_live (Nat.le_add_right _ _)
  have hnL : ∀ i, ¬ Ls (Array.replicate ops.size false) i := fun i hi => by
    unfold Ls at hi
    rw [Array.getD_eq_getD_getElem?, Array.getElem?_replicate] at hi
    by_cases h : i < ops.size
    · simp [h] at hi
    · simp [h] at hi
  refine draw_any (h00 := { next := Nat.add h.next ops.size, tab := h.tab }) (sn0 := [(h.tab, [])]) F hd hX hcl D hQ ops.size [] l T { next := Nat.add h.next ops.size, tab := h.tab } [] _ ι ow { next := Nat.add h.next ops.size, tab := h.tab } _ T a rfl .nil rfl R ?_ ?_
  · have hri : RI DF X nt ι ow h w ops.size ι ow { next := Nat.add h.next ops.size, tab := h.tab } { w with drawn := w.drawn + 1 } T a :=
      ⟨ι.ext_refl _, HRel.world hX (H.bump _) (Nat.le_refl _) (fun _ _ _ _ => rfl), ⟨Nat.le_refl _, fun _ _ _ => rfl, fun m _ hm ho _ => ⟨m, hm, ho⟩, rfl, rfl, Nat.le_add_right _ _, fun _ _ hl => hl⟩, ht, Nat.le_refl _⟩
    refine ⟨hri, ?_, fun i _ hi => absurd hi (hnL i), ?_, fun b _ _ => hnL _, fun b _ hL => absurd hL (hnL _), fun _ _ => rfl, rfl, fun _ _ h => h, fun b _ hL => absurd hL (hnL _), fun _ h _ => h, fun b _ => hz _, fun b _ _ => H.low _ (Nat.le_add_right _ _)⟩
    · simp
    · intro b hb
      cases hb
  · have := List.length_filter_le (fun b : BOper => !(Array.replicate ops.size false).getD b.idx false) l
    rw [D.len] at this
    exact this
/-- what the machine comes to the model comes to -/
theorem calls_ok (F : PF P ty) (hd : kdepth ≤ P.depth) (hX : X.local) (hm : P.follows .mixedOrders = true) {m : Mach} (hM : MachOk P X ty m) (fuel depth : Nat) : CallOk P X (callA m fuel depth) :=
  call_sound F hd hX hM (fun nt cl hcl => drawn_ok F hd hX hm nt cl hcl) fuel depth
end Go.AM

