/- Whatever who, n and kind are, gavellaw24.ClusterErrors returns true; no condition but the card's own. THE CARD. -/
import Derived.Test.YtcnldppfncojkaaGreatDoorCards
import Derived.Test.YtcnldppfncojkaaGreatDoorTie
import Derived.ProofKit
import Derived.OpenShut
import Derived.Deep.DeepHandedRow
import Derived.Lib.LaidTab
import Derived.Test.YtcnldppfncojkaaGreatDoorCe
import Derived.Test.YtcnldppfncojkaaGreatDoorKa
import Derived.Test.YtcnldppfncojkaaGreatDoorKb
import Derived.Test.YtcnldppfncojkaaGreatDoorKc
import Derived.Test.YtcnldppfncojkaaGreatDoorKd
import Derived.Test.YtcnldppfncojkaaGreatDoorKe
namespace Go.Proofs.YtcnldppfncojkaaGreatDoor
open Go.ChangeShapes Go.WideShapes Go.ChangeAt Go.RowKit Go.AM
set_option maxRecDepth 100000

theorem own : ownKnob Tryz.prog.godebug = none := by kernel_rfl
/-- a world that is as it was, but for what was laid since -/
def Kept (W W' : World) : Prop := W'.os = W.os ∧ W'.output = W.output ∧ ∀ i : Nat, i < W.heap.size → W'.heap[i]? = W.heap[i]?
theorem Kept.frame {W W' : World} (h : Kept W W') (may : MemPlace → Prop) : W.keptBut W' may := by
  refine ⟨h.1, h.2.1, fun i hi => ?_⟩
  rw [h.2.2 i hi]
  split
  · rename_i c t fr c' t' fr' e1 e2
    rw [e1] at e2
    cases e2
    exact ⟨rfl, rfl, rfl, fun _ _ => rfl⟩
  · rename_i es clock es' clock' e1 e2
    rw [e1] at e2
    cases e2
    exact .inr ⟨rfl, rfl⟩
  · rfl
theorem no_heap (W : World) : HRel noX (fun _ => none) (fun _ _ => False) h0 W :=
  ⟨fun n o e => (by have e : lget [] n = some o := e; cases e), fun _ _ _ h => h.elim, fun _ _ _ _ _ h => h.elim, fun _ _ => rfl⟩
theorem plain_eq {ι : Emb} {v v' : Value} (hp : plainV v = true) (r : VRel ι v v') : v' = v := by
  cases r <;> first | rfl | cases hp
/-- from the empty heap to a world -/
theorem calls_of {f : FuncId} {args : List Value} {args' : Array Value} {v : Value} (hp : plainV v = true) (C : CS Tryz.prog noX f args h0 (fun u _ => u = v)) (ha : LRel (fun _ => none) args args'.toList) (W : World) :
    Calls Tryz.prog f args' W fun e W' => e = .returned v ∧ Kept W W' := by
  refine (C.2 (fun _ => none) (fun _ _ => False) W args' (no_heap W) ha).mono fun e W' ⟨u, h', hu, B⟩ => ?_
  subst hu
  cases e with
  | returned v' =>
    obtain ⟨ι, ow, _, r, _, fr⟩ := B
    refine ⟨?_, fr.os, fr.out, fun i hi => fr.keep i hi fun n hl => ?_⟩
    · rw [plain_eq hp r]
    · exact fun h => h
  | _ => cases B
theorem ce_walk (a b c : Int) (W : World) : Calls Tryz.prog 4 #[.int .i64 a, .int .i64 b, .int .i64 c] W fun e W' => e = .returned (.bool true) ∧ Kept W W' :=
  calls_of rfl (ce a b c) (.cons (.int _ _) (.cons (.int _ _) (.cons (.int _ _) .nil))) W

theorem ce_contract (H : Type) (enc : TypeId × Value → H) (W : World) (base : Nat) (args : Array Value) (ds gs : List (DataW H)) (before : List MemPlace)
    (hval : ∀ (j : Nat) t v, Tryz.f4.params[j]? = some t → args[j]? = some v → Value.okWide Tryz.prog W .any base t v)
    (hW : DataW.Whole enc Tryz.prog Tryz.f4.params.toList Rows.clusterErrorsSpec.vars false W args.toList ds gs before) :
    Calls Tryz.prog 4 args W fun e W' => ∃ v, e = .returned v ∧ Rows.clusterErrorsSpec.post enc Tryz.prog Tryz.f4 false true false false W args v W' := by
  have hW' := hW
  obtain ⟨p, q, hA0, hV, rfl, hfz, hnd⟩ := hW
  have hA : DataW.TrodAll enc Tryz.prog W 0 (fun _ => true) true Tryz.f4.params.toList args.toList ds p := hA0
  rw [Tryz.params4] at hA hval
  obtain ⟨v0, vs0, d0, ds0, p0, q0, hargs, rfl, rfl, h0', r0⟩ := trodAll_cons hA
  obtain ⟨v1, vs1, d1, ds1, p1, q1, rfl, rfl, rfl, h1, r1⟩ := trodAll_cons r0
  obtain ⟨v2, vs2, d2, ds2, p2, q2, rfl, rfl, rfl, h2, r2⟩ := trodAll_cons r1
  obtain ⟨rfl, rfl, rfl⟩ := trodAll_nil r2
  obtain rfl : args = #[v0, v1, v2] := by cases args; simp_all
  obtain ⟨rfl, rfl⟩ := trodVars_none hV
  obtain ⟨x0, rfl, rfl, rfl, w0⟩ := open_int Tryz.underlying3 (hval 0 3 v0 rfl rfl) h0'
  obtain ⟨x1, rfl, rfl, rfl, w1⟩ := open_int Tryz.underlying3 (hval 1 3 v1 rfl rfl) h1
  obtain ⟨x2, rfl, rfl, rfl, w2⟩ := open_int Tryz.underlying3 (hval 2 3 v2 rfl rfl) h2
  clear hA0
  simp only [List.append_nil] at hW'
  refine (ce_walk x0 x1 x2 W).mono fun e W' ⟨he, hg⟩ => ?_
  subst he
  exact ⟨_, rfl, _, _, _, [], [], [], hW', trodAll_cons_mk (shut_bool Tryz.underlying4 true) trodAll_mk0,
    trodAll_cons_mk (shut_int Tryz.underlying3 w0) (trodAll_cons_mk (shut_int Tryz.underlying3 w1) (trodAll_cons_mk (shut_int Tryz.underlying3 w2) trodAll_mk0)), rfl, hg.frame _, fun h => by cases h⟩

/-! ### a start that fits: the listed tables lie as the text lays them -/
def flat {H : Type} : Nat → DataW H → List Value
  | 0, _ => []
  | n + 1, .agg parts => parts.flatMap (flat n)
  | _ + 1, .lit (.int k n) => [.int k n]
  | _ + 1, _ => []
def laying (b : Nat) (d : DataW Unit) (heap : Array Obj) : Array Obj := heap.modify b fun
  | .cells _ t frozen => .cells (flat 4 d).toArray t frozen
  | o => o
noncomputable def laidWorld (os : Os) : World :=
  let w0 := World.holding Tryz.prog os ⟨#[], #[], []⟩
  { w0 with heap := laying 4 Rows.laid_unicode_utf8_first (laying 5 Rows.laid_unicode_utf8_acceptRanges (laying 1 Rows.laid_internal_strconv_uint64pow10 (laying 3 Rows.laid_math_bits_deBruijn64tab (laying 2 Rows.laid_math_bits_deBruijn32tab w0.heap)))) }
theorem ce_laid_met (os : Os) : laidMet Tryz.prog Rows.clusterErrorsRow.laid ((laidWorld os).forCall (fun _ _ => 0) ⟨#[], #[.int .i64 0, .int .i64 0, .int .i64 0], []⟩).memory :=
  laidMet_of_run' 8 (by kernel_rfl) (by kernel_rfl)
theorem ce_reads (os : Os) {H : Type} (enc : TypeId × Value → H) : ∃ places, DataW.whole enc Tryz.prog ((laidWorld os).forCall (fun _ _ => 0) ⟨#[], #[.int .i64 0, .int .i64 0, .int .i64 0], []⟩).memory Tryz.f4.params.toList Rows.clusterErrorsSpec.vars false #[Value.int .i64 0, .int .i64 0, .int .i64 0].toList 8 = some ([.lit (.int .i64 0), .lit (.int .i64 0), .lit (.int .i64 0)], [], places) :=
  ⟨[], by kernel_rfl⟩
theorem ce_lifted (os : Os) (started : os.Started) (H : Type) (enc : TypeId × Value → H) (F : Stop.Interp) :
    ReturnsInHanded {} Tryz.checked os 4 .any ((OpenSpec.ofChange Rows.clusterErrorsSpec).preRow enc Tryz.prog Tryz.f4 Rows.clusterErrorsRow.domain false Rows.clusterErrorsRow.laid) (((OpenSpec.ofChange Rows.clusterErrorsSpec).at F).post enc Tryz.prog Tryz.f4 false true false false) := by
  obtain ⟨places, hx⟩ := ce_reads os enc
  refine returnsInHanded_of_row (C := Tryz.checked) (s := OpenSpec.ofChange Rows.clusterErrorsSpec) own started (by kernel_rfl) Tryz.func4
    (witness_row_at (enc := enc) (C := Tryz.checked) false (laidWorld os) #[.int .i64 0, .int .i64 0, .int .i64 0] rfl (by kernel_rfl) (by kernel_rfl) (by kernel_rfl)
      (OpenSpec.preRow_of_cond 8 hx (by kernel_rfl) (fun k hk => by cases hk) (by kernel_rfl) (ce_laid_met os))) ?_
  intro W base args ds gs before hval hW _ _ _ hL _ _
  exact ce_contract H enc W base args ds gs before hval hW
theorem ce_said : Rows.ClusterErrorsSaid :=
  OpenClaim.holds_of_cond 4 Tryz.f4 rfl rfl rfl rfl rfl rfl rfl ⟨rfl, rfl, rfl, rfl, rfl⟩ rfl rfl rfl rfl rfl (by kernel_rfl) Tryz.func4 (rowFacts k10 k11 k12 k13)
    (of_decide_eq_true (by kernel_rfl)) (by unfold Func.isWrapper; first | (rw [if_pos (by decide +kernel)]; kernel_rfl) | (rw [if_neg (by decide +kernel)]; exact ⟨rfl, rfl⟩))
    (fun os started H enc _ F => by rw [OpenClaim.pre_eq_preRow]; exact ce_lifted os started H enc F)
theorem ce_plain (f : FuncId) (fn : Func) (hf : Tryz.pinned.checked.prog.funcNamed "gavel/gavellaw24.ClusterErrors" = some f) (hfn : Tryz.pinned.checked.prog.funcs[f]? = some fn) :
    true = Tryz.pinned.checked.prog.looks [] ∧ ∀ (j : Nat) t, fn.params[j]? = some t → Tryz.pinned.checked.prog.wantsStandIn t = false := by
  obtain rfl : f = 4 := Option.some.inj ((show Tryz.prog.funcNamed "gavel/gavellaw24.ClusterErrors" = some 4 by kernel_rfl).symm.trans hf) |>.symm
  obtain rfl : fn = Tryz.f4 := (Option.some.inj (Tryz.func4.symm.trans hfn)).symm
  refine ⟨by kernel_rfl, fun j t ht => ?_⟩
  rw [Tryz.params4] at ht
  obtain rfl : t = 3 := by simpa using Array.mem_of_getElem? ht
  exact (show Tryz.prog.wantsStandIn 3 = false by kernel_rfl)
/-! ### no function of the program starts a goroutine -/
theorem noneGoes : Tryz.prog.funcs.toList.all (fun f => !f.goes) = true := by kernel_rfl
theorem goes_none (P : Program) (h : P.funcs.toList.all (fun f => !f.goes) = true) (f : FuncId) : P.goes f = false := by
  have h1 : ∀ fn ∈ P.funcs.toList, fn.goes = false := fun fn hm => by
    have := List.all_eq_true.1 h fn hm
    simpa using this
  unfold Program.goes
  rw [Bool.or_eq_false_iff]
  constructor
  · rw [List.any_eq_false]
    intro g _ hg
    cases hf : P.funcs[g]? with
    | none => rw [hf] at hg; cases hg
    | some fn =>
      rw [hf] at hg
      have := h1 fn (by simpa using Array.mem_of_getElem? hf)
      rw [Option.any_some, this] at hg
      cases hg
  · have : P.funcs.any Func.goes = false := by
      rw [← Array.any_toList, List.any_eq_false]
      intro fn hm hg
      rw [h1 fn hm] at hg
      cases hg
    rw [this, Bool.and_false]
theorem goes_from (P : Program) (h : P.funcs.toList.all (fun f => !f.goes) = true) (s : String) : P.goesFrom s = false := by
  unfold Program.goesFrom
  cases P.funcNamed s with
  | none => rfl
  | some f => exact goes_none P h f
/-- ████ THE CARD ████ -/
theorem clusterErrors_card : Rows.ClusterErrorsCardSaid :=
  Claim7.holds_tied_plain_at .later [] _ _ _ _ ce_said (fun _ h => by cases h) (by kernel_rfl) (fun _ h => by cases h) clusterErrors_row_tie rfl ⟨rfl, rfl⟩ (by kernel_rfl) rfl ce_plain
    (show false = (Tryz.prog.goesFrom "gavel/gavellaw24.ClusterErrors" || false) by rw [goes_from Tryz.prog noneGoes]; rfl)
end Go.Proofs.YtcnldppfncojkaaGreatDoor

