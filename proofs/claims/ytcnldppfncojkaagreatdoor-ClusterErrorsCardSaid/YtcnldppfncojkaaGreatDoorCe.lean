/- The machine of the tables. -/
import Derived.Test.YtcnldppfncojkaaGreatDoorTab
import Derived.Test.YtcnldppfncojkaaGreatDoorAmC
namespace Go.Proofs.YtcnldppfncojkaaGreatDoor
open Go Go.AM Go.AM.Sh
set_option maxRecDepth 100000
theorem lget_in {α : Type} {l : List (Nat × α)} {n : Nat} {o : α} (h : lget l n = some o) : (n, o) ∈ l := lget_mem h
theorem pf : PF Tryz.prog ty := ⟨fun _ _ h => TF.of (tyAll _ (lget_in h)).1, fun _ _ h => (tyAll _ (lget_in h)).2⟩
theorem deep : kdepth ≤ Tryz.prog.depth := Nat.le_of_ble_eq_true (by kernel_rfl)
theorem mixed : Tryz.prog.follows .mixedOrders = true := by kernel_rfl
def noX : Opq := fun _ _ _ _ => False
theorem noXl : noX.local := fun _ _ _ _ _ h _ => h
/-- AppendSeq, onto nothing, of the keys of a map that has none -/
noncomputable def emptySeq (k : Nat) : List Value → Heap → Option (Value × Heap)
  | [.slice none 0 0, .func (.func g) first caps], h => match Nat.beq g k, first.toList, caps.toList with
    | true, [], [.pointer (some ⟨q, 0, none⟩)] => match h.get q, Nat.blt q h.next with
      | some (.cells [.map none] _), true => some (.slice none 0 0, h)
      | some (.cells [.map (some n)] _), true => match h.get n, Nat.blt n h.next with
        | some (.map [] _), true => some (.slice none 0 0, h)
        | _, _ => none
      | _, _ => none
    | _, _, _ => none
  | _, _ => none
noncomputable def ovs (f : Nat) : Option (List Value → Heap → Option (Value × Heap)) := match Nat.beq f 448 with
  | true => some (emptySeq 407)
  | false => none
noncomputable def mach : Mach := { fn := lget bL, ov := ovs }
noncomputable def isTrue : Option (Value × Heap) → Bool
  | some (.bool true, _) => true
  | _ => false
end Go.Proofs.YtcnldppfncojkaaGreatDoor

/- AppendSeq over the keys of a map that has none. -/
namespace Go.Proofs.YtcnldppfncojkaaGreatDoor
open Go Go.AM Go.AM.Sh
set_option maxRecDepth 100000
noncomputable def mach0 : Mach := { fn := lget bL, ov := fun _ => none }
theorem m0ok : MachOk Tryz.prog noX ty mach0 := ⟨fun _ _ h => bAll _ (lget_in h), fun _ _ h => by cases h⟩
theorem cl0 (F D : Nat) : CallOk Tryz.prog noX (callA mach0 F D) := calls_ok pf deep noXl mixed m0ok F D

/-- the small heap: a variable that holds a map without entries -/
noncomputable def H1 (k : Kind) : Heap := { next := 2, tab := .tip [(1, .cells [.map none] k)] }
noncomputable def H2 (k : Kind) (clk : Nat) : Heap := { next := 3, tab := .tip [(1, .cells [.map (some 2)] k), (2, .map [] clk)] }
noncomputable def bx448 : BCode := .reg 2 [o 0 2 (s (sBox (t 0))), o 1 4 (s (sMov kl))]
noncomputable def by448 : BCode := .reg 1 [o 0 6 (mv 1)]
noncomputable def bz448 : BCode := .seq (.reg 2 [o 0 12 (ld false 1 2), o 1 4 (mv 12)]) .ret
noncomputable abbrev r1 (H : Heap) := codeA (callA mach0 1000 100) 50 bx448 (argsT [.slice none 0 0, .func (.func 407) #[] #[.pointer (some ⟨1, 0, none⟩)]] 0 (.tip [])) H
noncomputable abbrev r2 (H : Heap) := codeA (callA mach0 1000 100) 50 by448 (tOf (r1 H)) (hOf (r1 H))
noncomputable abbrev r3 (H : Heap) (l : Nat) := callA mach0 1000 100 407 [.func (.yield l) #[] #[], .pointer (some ⟨1, 0, none⟩)] (hOf (r2 H))
noncomputable abbrev r4 (H : Heap) (l : Nat) := codeA (callA mach0 1000 100) 50 bz448 (tOf (r2 H)) (heapOf (r3 H l))
theorem seqH (H : Heap) (h1 : isNormal (r1 H) = true) (h2 : isNormal (r2 H) = true) (h3 : evA (tOf (r2 H)) (.tmp 6) = .func (.func 407) #[] #[.pointer (some ⟨1, 0, none⟩)]) (h4 : ∀ l, isSomeR (r3 H l) = true) (h5 : ∀ l, isRet (r4 H l) = true)
    (h6 : ∀ l, resL (hOf (r4 H l)) (tOf (r4 H l)) [.tmp 4] = some [.slice none 0 0]) : CS Tryz.prog noX 448 [.slice none 0 0, .func (.func 407) #[] #[.pointer (some ⟨1, 0, none⟩)]] H (fun v h' => v = .slice none 0 0 ∧ ∃ l, h' = hOf (r4 H l)) := by
  refine CS.range_empty (bx := bx448) (by' := by448) (bz := bz448) (br := [.tmp 4]) pf noXl Tryz.func448 rfl (by kernel_rfl) (by kernel_rfl) (by kernel_rfl) (by kernel_rfl) rfl (by kernel_rfl) ?_
  refine (CodeS.run pf deep noXl mixed (cl0 1000 100) (fuel := 50) (some_normal h1)).mono ?_
  rintro e T1 g1 ⟨rfl, rfl, rfl⟩
  refine ⟨rfl, (CodeS.run pf deep noXl mixed (cl0 1000 100) (fuel := 50) (some_normal h2)).mono ?_⟩
  rintro e T2 g2 ⟨rfl, rfl, rfl⟩
  refine ⟨rfl, 407, #[.pointer (some ⟨1, 0, none⟩)], h3, fun l => (CS.of_call (cl0 1000 100) (some_run (h4 l))).mono ?_⟩
  rintro v g3 ⟨rfl, rfl⟩
  refine (CodeS.run pf deep noXl mixed (cl0 1000 100) (fuel := 50) (some_ret (h5 l))).mono ?_
  rintro e T4 g4 ⟨rfl, rfl, rfl⟩
  exact ⟨.inr rfl, _, h6 l, rfl, l, rfl⟩
theorem seqH1 (k : Kind) : CS Tryz.prog noX 448 [.slice none 0 0, .func (.func 407) #[] #[.pointer (some ⟨1, 0, none⟩)]] (H1 k) (fun v h' => v = .slice none 0 0 ∧ ∃ l, h' = hOf (r4 (H1 k) l)) :=
  seqH (H1 k) (by kernel_rfl) (by kernel_rfl) (by kernel_rfl) (fun _ => by kernel_rfl) (fun _ => by kernel_rfl) (fun _ => by kernel_rfl)
theorem seqH2 (k : Kind) (clk : Nat) : CS Tryz.prog noX 448 [.slice none 0 0, .func (.func 407) #[] #[.pointer (some ⟨1, 0, none⟩)]] (H2 k clk) (fun v h' => v = .slice none 0 0 ∧ ∃ l, h' = hOf (r4 (H2 k clk) l)) :=
  seqH (H2 k clk) (by kernel_rfl) (by kernel_rfl) (by kernel_rfl) (fun _ => by kernel_rfl) (fun _ => by kernel_rfl) (fun _ => by kernel_rfl)
theorem H1_get {k : Kind} {n : Nat} {o : AObj} (h : (H1 k).get n = some o) : n = 1 ∧ o = .cells [.map none] k := by
  have h : lget [(1, AObj.cells [.map none] k)] n = some o := h
  have hm := lget_mem h
  simp only [List.mem_singleton, Prod.mk.injEq] at hm
  exact hm
theorem H2_get {k : Kind} {clk n : Nat} {o : AObj} (h : (H2 k clk).get n = some o) : (n = 1 ∧ o = .cells [.map (some 2)] k) ∨ (n = 2 ∧ o = .map [] clk) := by
  have h : lget [(1, AObj.cells [.map (some 2)] k), (2, .map [] clk)] n = some o := h
  have hm := lget_mem h
  simp only [List.mem_cons, Prod.mk.injEq, List.not_mem_nil, or_false] at hm
  exact hm
theorem live_get {h : Heap} {n : Nat} (hl : h.live n) : ∃ o, h.get n = some o := by
  unfold Heap.live at hl
  cases e : h.get n with
  | none => rw [e] at hl; cases hl
  | some o => exact ⟨o, rfl⟩
theorem seqNil {q : Nat} {h : Heap} {k : Kind} (hq : h.get q = some (.cells [.map none] k)) (hlt : q < h.next) :
    CS Tryz.prog noX 448 [.slice none 0 0, .func (.func 407) #[] #[.pointer (some ⟨q, 0, none⟩)]] h (fun v h' => v = .slice none 0 0 ∧ h' = h) := by
  refine CS.lift (ρ := fun _ => q) noXl (seqH1 k) ?_ ⟨fun n o e => ?_, fun n m hn hm _ => ?_, fun n _ => hlt⟩ ?_
  · exact .cons (.slNil 0 0) (.cons (.func 407 #[] #[_] #[] #[_] rfl rfl (fun i v v' hv => by simp at hv) (fun i v v' hv hv' => by
      cases i with
      | zero => simp at hv hv'; subst hv; subst hv'; exact .ptr 1 0 (Nat.lt_succ_self 1)
      | succ i => simp at hv)) .nil)
  · obtain ⟨rfl, rfl⟩ := H1_get e
    exact ⟨Nat.lt_succ_self 1, _, hq, .cells (.cons .mapNil .nil)⟩
  · obtain ⟨o, ho⟩ := live_get hn
    obtain ⟨p, hp⟩ := live_get hm
    rw [(H1_get ho).1, (H1_get hp).1]
  · rintro v H' ⟨rfl, l, rfl⟩
    refine ⟨_, h, fun _ => q, fun _ => False, ⟨rfl, rfl⟩, ⟨fun _ _ => rfl, fun _ h => h.elim, fun _ _ h => h.elim, .slNil 0 0, fun m o2 hg => ?_, Nat.le_refl _⟩⟩
    by_cases hm : m = q
    · subst hm
      rw [hq] at hg
      cases hg
      exact .inl ⟨1, _, .inl (Nat.lt_succ_self 1), rfl, (by kernel_rfl : (hOf (r4 (H1 k) l)).get 1 = some (.cells [.map none] k)), .cells (.cons .mapNil .nil)⟩
    · exact .inr ⟨hg, fun n _ e => hm e.symm⟩
theorem seqOne {q b clk : Nat} {h : Heap} {k : Kind} (hq : h.get q = some (.cells [.map (some b)] k)) (hlt : q < h.next) (hb : h.get b = some (.map [] clk)) (hbt : b < h.next) :
    CS Tryz.prog noX 448 [.slice none 0 0, .func (.func 407) #[] #[.pointer (some ⟨q, 0, none⟩)]] h (fun v h' => v = .slice none 0 0 ∧ h' = h) := by
  have hne : q ≠ b := fun e => by rw [e, hb] at hq; cases hq
  refine CS.lift (ρ := fun n => if n = 2 then b else q) noXl (seqH2 k clk) ?_ ⟨fun n o e => ?_, fun n m hn hm he => ?_, fun n _ => ?_⟩ ?_
  · exact .cons (.slNil 0 0) (.cons (.func 407 #[] #[_] #[] #[_] rfl rfl (fun i v v' hv => by simp at hv) (fun i v v' hv hv' => by
      cases i with
      | zero => simp at hv hv'; subst hv; subst hv'; exact .ptr (ρ := fun n => if n = 2 then b else q) 1 0 (show 1 < 3 by omega)
      | succ i => simp at hv)) .nil)
  · rcases H2_get e with ⟨rfl, rfl⟩ | ⟨rfl, rfl⟩
    · exact ⟨show 1 < 3 by omega, _, hq, .cells (.cons (.map (ρ := fun n => if n = 2 then b else q) 2 (show 2 < 3 by omega)) .nil)⟩
    · exact ⟨show 2 < 3 by omega, _, hb, .map .nil⟩
  · obtain ⟨o, ho⟩ := live_get hn
    obtain ⟨p, hp⟩ := live_get hm
    rcases H2_get ho with ⟨rfl, _⟩ | ⟨rfl, _⟩ <;> rcases H2_get hp with ⟨rfl, _⟩ | ⟨rfl, _⟩
    · rfl
    · exact absurd (by simpa using he) hne
    · exact absurd (by simpa using he.symm) hne
    · rfl
  · split
    · exact hbt
    · exact hlt
  · rintro v H' ⟨rfl, l, rfl⟩
    refine ⟨_, h, fun n => if n = 2 then b else q, fun _ => False, ⟨rfl, rfl⟩, ⟨fun _ _ => rfl, fun _ h => h.elim, fun _ _ h => h.elim, .slNil 0 0, fun m o2 hg => ?_, Nat.le_refl _⟩⟩
    by_cases hm : m = q
    · subst hm
      rw [hq] at hg
      cases hg
      exact .inl ⟨1, _, .inl (show 1 < 3 by omega), rfl, (by kernel_rfl : (hOf (r4 (H2 k clk) l)).get 1 = some (.cells [.map (some 2)] k)), .cells (.cons (.map (ρ := fun n => if n = 2 then b else m) 2 (.inl (show 2 < 3 by omega))) .nil)⟩
    · by_cases hm2 : m = b
      · subst hm2
        rw [hb] at hg
        cases hg
        exact .inl ⟨2, _, .inl (show 2 < 3 by omega), rfl, (by kernel_rfl : (hOf (r4 (H2 k clk) l)).get 2 = some (.map [] clk)), .map .nil⟩
      · refine .inr ⟨hg, fun n _ e => ?_⟩
        split at e
        · exact hm2 e.symm
        · exact hm e.symm
theorem seq_ok : ∀ args h v h', emptySeq 407 args h = some (v, h') → CS Tryz.prog noX 448 args h fun v1 h1 => v1 = v ∧ h1 = h' := by
  intro args h v h' e
  unfold emptySeq at e
  split at e
  · rename_i g first caps
    split at e
    · rename_i q hg hf hc
      have hg := Nat.eq_of_beq_eq_true hg
      subst hg
      have hf : first = #[] := by
        apply Array.ext'
        rw [hf]
      have hc : caps = #[.pointer (some ⟨q, 0, none⟩)] := by
        apply Array.ext'
        rw [hc]
      subst hf
      subst hc
      split at e
      · rename_i k hq hlt
        cases e
        exact seqNil hq (blt_lt hlt)
      · rename_i n k hq hlt
        split at e
        · rename_i clk hb hbt
          cases e
          exact seqOne hq (blt_lt hlt) hb (blt_lt hbt)
        · cases e
      · cases e
    · cases e
  · cases e
theorem mok : MachOk Tryz.prog noX ty mach := by
  refine ⟨fun _ _ h => bAll _ (lget_in h), fun f g h => ?_⟩
  have h : ovs f = some g := h
  unfold ovs at h
  split at h
  · rename_i hf
    have hf := Nat.eq_of_beq_eq_true hf
    subst hf
    cases h
    exact ov_of_cs (seqH1 .var).1 seq_ok
  · cases h
theorem cl (F D : Nat) : CallOk Tryz.prog noX (callA mach F D) := calls_ok pf deep noXl mixed mok F D
end Go.Proofs.YtcnldppfncojkaaGreatDoor

/- ClusterErrors: the cluster that it makes; contracts of what it calls. -/
namespace Go.Proofs.YtcnldppfncojkaaGreatDoor
open Go Go.AM Go.AM.Sh
set_option maxRecDepth 100000
def i (n : Int) : Value := .int .i64 n
def p (n : Nat) : Value := .pointer (some ⟨n, 0, none⟩)
def z : Value := .slice none 0 0
def nc_v : Value := (.tuple #[(p 234), (i 0)])
noncomputable def nc_h : Heap := { next := 5889, tab := (.bin (.bin (.bin (.bin (.bin (.tip []) (.bin (.tip []) (.bin (.bin (.bin (.bin (.tip [(48, .map [⟨(i 3), (.bool true), 0⟩, ⟨(i 1000), (.bool true), 1⟩] 2), (5168, .map [] 0)]) (.tip [])) (.tip [])) (.bin (.bin (.tip []) (.tip [(688, .cells [(p 680), (.map (some 685)), (.map (some 686)), z, (.bool true), (i 0), (.int .u64 1), (.slice (some ⟨2366, 0, (some 7)⟩) 1 1), (.pointer none), (.pointer none), (.pointer none)] .var)])) (.tip []))) (.tip [])))) (.bin (.bin (.bin (.bin (.bin (.bin (.tip []) (.tip [(520, .cells [(i 1), (i 2), (i 0), (p 239), (.bool true), (p 374), (p 442), (p 525), (p 508), (p 531), (p 688), z, z, z] .var)])) (.tip [])) (.tip [])) (.tip [])) (.bin (.bin (.tip []) (.bin (.bin (.tip []) (.tip [(680, .cells [(i 1), (i 2), (i 0), (i 0), (i 0), (i 1), (i (-1)), (i (-1)), (.int .u8 0), (.int .u8 0), (.int .u8 0), (.int .u8 0), (.int .u8 0), (.int .u8 0), (.int .u8 0), (.int .u8 0), (.int .u8 0), (.int .u8 0), (.int .u8 0), (.int .u8 0), (.int .u8 0), (.int .u8 0), (.int .u8 0), (.int .u8 0), (.int .u8 0), (.int .u8 0), (.int .u8 0), (.int .u8 0), (.int .u8 0), (.int .u8 0), (.int .u8 0), (.int .u8 0), (.int .u8 0), (.int .u8 0), (.int .u8 0), (.int .u8 0), (.int .u8 0), (.int .u8 0), (.int .u8 0), (.int .u8 0), (.int .u8 0), (.int .u8 0), (.int .u8 0), (.int .u8 0), (.int .u8 0), (.int .u8 0), (.int .u8 0), (.int .u8 0), (.int .u8 0), (.int .u8 0), (.int .u8 0), (.int .u8 0), (.int .u8 0), (.int .u8 0), (.int .u8 0), (.int .u8 0), (.int .u8 0), (.int .u8 0), (.int .u8 0), (.int .u8 0), (.int .u8 0), (.int .u8 0), (.int .u8 0), (.int .u8 0), (.int .u8 0), (.int .u8 0), (.int .u8 0), (.int .u8 0), (.int .u8 0), (.int .u8 0), (.int .u8 0), (.int .u8 0), (.bool false), (.int .u8 0), (.int .u8 0), (.int .u8 0), (.int .u8 0), (.int .u8 0), (.int .u8 0), (.int .u8 0), (.int .u8 0), (.int .u8 0), (.int .u8 0), (.int .u8 0), (.int .u8 0), (.int .u8 0), (.int .u8 0), (.int .u8 0), (.int .u8 0), (.int .u8 0), (.int .u8 0), (.int .u8 0), (.int .u8 0), (.int .u8 0), (.int .u8 0), (.int .u8 0), (.int .u8 0), (.int .u8 0), (.int .u8 0), (.int .u8 0), (.int .u8 0), (.int .u8 0), (.int .u8 0), (.int .u8 0), (.int .u8 0), (p 670), (.map (some 678)), (.bool false), (.bool false), (.bool false)] .var)])) (.tip []))) (.bin (.tip []) (.bin (.bin (.tip [(232, .map [⟨(i 1), (p 5880), 0⟩] 1)]) (.tip [])) (.tip []))))) (.bin (.bin (.bin (.bin (.bin (.tip []) (.tip [(536, .cells [(.map (some 534))] .var)])) (.tip [])) (.tip [])) (.tip [])) (.bin (.bin (.tip []) (.bin (.tip []) (.bin (.tip [(440, .map [] 0)]) (.tip [])))) (.bin (.tip []) (.bin (.bin (.tip []) (.tip [(5880, .cells [(i 1), (i 2), (i 1), (p 239), z] .var)])) (.tip []))))))) (.bin (.bin (.bin (.bin (.tip []) (.bin (.bin (.bin (.tip [(5188, .map [] 0)]) (.tip [])) (.tip [])) (.tip []))) (.bin (.bin (.bin (.bin (.tip [(4132, .map [] 0)]) (.tip [])) (.tip [])) (.bin (.tip []) (.bin (.tip []) (.tip [(4004, .map [] 0), (5028, .cells [(i 0), (.int .u64 0), z, (.map (some 5026)), (i 0)] .var)])))) (.bin (.bin (.bin (.tip []) (.tip [(5732, .cells [(p 5023), (p 5219), (.bool false)] .var)])) (.tip [])) (.tip [])))) (.bin (.bin (.bin (.tip []) (.bin (.bin (.tip []) (.tip [(3732, .cells [z, (i 0), (i 0), (.bool false), (.bool false)] .var)])) (.bin (.tip []) (.tip [(3988, .map [] 0)])))) (.tip [])) (.bin (.bin (.bin (.bin (.tip []) (.tip [(5684, .cells [(.int .u64 10), (i 1), (i 0)] (.grown 3))])) (.tip [])) (.bin (.tip []) (.bin (.tip []) (.tip [(5044, .cells [(.map (some 5042))] .var)])))) (.bin (.bin (.tip []) (.bin (.tip [(372, .map [] 0)]) (.tip []))) (.tip []))))) (.bin (.bin (.bin (.tip []) (.bin (.tip []) (.bin (.bin (.tip []) (.tip [(716, .cells [(p 267), z] .var)])) (.tip [])))) (.tip [])) (.bin (.bin (.bin (.tip []) (.bin (.bin (.tip []) (.tip [(668, .map [] 0)])) (.bin (.tip []) (.tip [(3996, .cells [(p 4001), (p 4006), (i 0)] .var)])))) (.tip [])) (.bin (.tip []) (.bin (.tip []) (.bin (.tip []) (.bin (.tip [(508, .cells [(i 1), (i 2), (i 0), (.map (some 506))] .var)]) (.tip []))))))))) (.bin (.bin (.bin (.bin (.tip []) (.bin (.bin (.bin (.bin (.tip [(4130, .map [] 0)]) (.tip [])) (.tip [])) (.bin (.bin (.tip []) (.tip [(4770, .cells [z, (i 0), (i 0), (.bool false), (.bool false)] .var)])) (.bin (.tip []) (.tip [(5026, .map [] 0)])))) (.bin (.bin (.bin (.tip []) (.tip [(3682, .cells [(i 5), (i 0), (i 1), (i 0), (i 0), (.int .u8 0), (.int .u8 0), (.int .u8 0), (.int .u8 0), (.int .u8 0), (.int .u8 0), (.int .u8 0), (.int .u8 0), (.int .u8 0), (.int .u8 0), (.int .u8 0), (.int .u8 0), (.int .u8 0), (.int .u8 0), (.int .u8 0), (.int .u8 0), (.int .u8 0), (.int .u8 0), (.int .u8 0), (.int .u8 0), (.int .u8 0), (.int .u8 0), (.int .u8 0), (.int .u8 0), (.int .u8 0), (.int .u8 0), (.int .u8 0), (.int .u8 0), (.int .u8 0), (.int .u8 0), (.int .u8 0), (.int .u8 0), (i 0), (i 0), (i 0), (i 0), (i 0), (i 0), (.int .u8 0), (.int .u8 0), (.int .u8 0), (.int .u8 0), (.int .u8 0), (.int .u8 0), (.int .u8 0), (.int .u8 0), (.int .u8 0), (.int .u8 0), (.int .u8 0), (.int .u8 0), (.int .u8 0), (.int .u8 0), (.int .u8 0), (.int .u8 0), (.int .u8 0), (.int .u8 0), (.int .u8 0), (.int .u8 0), (.int .u8 0), (.int .u8 0), (.int .u8 0), (.int .u8 0), (.int .u8 0), (.int .u8 0), (.int .u8 0), (.int .u8 0), (.int .u8 0), (.int .u8 0), (.int .u8 0), (.int .u8 0), (.int .u64 0), (i 0), (i 0), (i 0), (i 0), (.int .u8 0), (.int .u8 0), (.int .u8 0), (.int .u8 0), (.int .u8 0), (.int .u8 0), (.int .u8 0), (.int .u8 0), (.int .u8 0), (.int .u8 0), (.int .u8 0), (.int .u8 0), (.int .u8 0), (.int .u8 0), (.int .u8 0), (.int .u8 0), (.int .u8 0), (.int .u8 0), (.int .u8 0), (.int .u8 0), (.int .u8 0), (.int .u8 0), (.int .u8 0), (.int .u8 0), (.int .u8 0), (.int .u8 0), (.int .u8 0), (.int .u8 0), (.int .u8 0), (.int .u8 0), (.int .u8 0), (.int .u8 0), (i 0), (i 0), (i 0), z, (i 0), (i 0), (i 0), (.int .u8 0), (.int .u8 0), (.int .u8 0), (.int .u8 0), (.int .u8 0), (.int .u8 0), (.int .u8 0), (.int .u8 0), (.int .u8 0), (.int .u8 0), (.int .u8 0), (.int .u8 0), (.int .u8 0), (.int .u8 0), (.int .u8 0), (.int .u8 0), (.int .u8 0), (.int .u8 0), (.int .u8 0), (.int .u8 0), (.int .u8 0), (.int .u8 0), (.int .u8 0), (.int .u8 0), (.int .u8 0), (.int .u8 0), (.int .u8 0), (.int .u8 0), (.int .u8 0), (.int .u8 0), (.int .u8 0), (.int .u8 0), (.int .u64 0), (i 0), (i 0), (i 0), (i 0), (.int .u64 1), (i 0), (i 0), (.int .u64 0), z, (i 0), (i 0), (i 0), (i 0), (i 0), (i 0), (i 0), (.int .u64 0), z, z, z, (i 0), (i 0), (i 0), (i 0), (i 0), (i 0), (.int .u8 0), (.int .u8 0), (.int .u8 0), (.int .u8 0), (.int .u8 0), (.int .u8 0), (.int .u8 0), (.int .u8 0), (.int .u8 0), (.int .u8 0), (.int .u8 0), (.int .u8 0), (.int .u8 0), (.int .u8 0), (.int .u8 0), (.int .u8 0), (.int .u8 0), (.int .u8 0), (.int .u8 0), (.int .u8 0), (.int .u8 0), (.int .u8 0), (.int .u8 0), (.int .u8 0), (.int .u8 0), (.int .u8 0), (.int .u8 0), (.int .u8 0), (.int .u8 0), (.int .u8 0), (.int .u8 0), (.int .u8 0), (i 0), (i 0), (i 0), (i 0), (i 0), (.int .u8 0), (.int .u8 0), (.int .u8 0), (.int .u8 0), (.int .u8 0), (.int .u8 0), (.int .u8 0), (.int .u8 0), (.int .u8 0), (.int .u8 0), (.int .u8 0), (.int .u8 0), (.int .u8 0), (.int .u8 0), (.int .u8 0), (.int .u8 0), (.int .u8 0), (.int .u8 0), (.int .u8 0), (.int .u8 0), (.int .u8 0), (.int .u8 0), (.int .u8 0), (.int .u8 0), (.int .u8 0), (.int .u8 0), (.int .u8 0), (.int .u8 0), (.int .u8 0), (.int .u8 0), (.int .u8 0), (.int .u8 0), (.int .u64 0), (i 0), z, (.int .u8 0), (.int .u8 0), (.int .u8 0), (.int .u8 0), (.int .u8 0), (.int .u8 0), (.int .u8 0), (.int .u8 0), (.int .u8 0), (.int .u8 0), (.int .u8 0), (.int .u8 0), (.int .u8 0), (.int .u8 0), (.int .u8 0), (.int .u8 0), (.int .u8 0), (.int .u8 0), (.int .u8 0), (.int .u8 0), (.int .u8 0), (.int .u8 0), (.int .u8 0), (.int .u8 0), (.int .u8 0), (.int .u8 0), (.int .u8 0), (.int .u8 0), (.int .u8 0), (.int .u8 0), (.int .u8 0), (.int .u8 0), (i 0), (i 0), (i 0), (i 0), (.string ⟨#[]⟩), (i 0), (i 0), (i 0), (.int .u64 0), z, z, z, z, (i 5), (i 0), (i 2), (i 0), (i 0), (.int .u8 0), (.int .u8 0), (.int .u8 0), (.int .u8 0), (.int .u8 0), (.int .u8 0), (.int .u8 0), (.int .u8 0), (.int .u8 0), (.int .u8 0), (.int .u8 0), (.int .u8 0), (.int .u8 0), (.int .u8 0), (.int .u8 0), (.int .u8 0), (.int .u8 0), (.int .u8 0), (.int .u8 0), (.int .u8 0), (.int .u8 0), (.int .u8 0), (.int .u8 0), (.int .u8 0), (.int .u8 0), (.int .u8 0), (.int .u8 0), (.int .u8 0), (.int .u8 0), (.int .u8 0), (.int .u8 0), (.int .u8 0), (i 0), (i 0), (i 0), (i 0), (i 0), (i 0), (.int .u8 0), (.int .u8 0), (.int .u8 0), (.int .u8 0), (.int .u8 0), (.int .u8 0), (.int .u8 0), (.int .u8 0), (.int .u8 0), (.int .u8 0), (.int .u8 0), (.int .u8 0), (.int .u8 0), (.int .u8 0), (.int .u8 0), (.int .u8 0), (.int .u8 0), (.int .u8 0), (.int .u8 0), (.int .u8 0), (.int .u8 0), (.int .u8 0), (.int .u8 0), (.int .u8 0), (.int .u8 0), (.int .u8 0), (.int .u8 0), (.int .u8 0), (.int .u8 0), (.int .u8 0), (.int .u8 0), (.int .u8 0), (.int .u64 0), (i 0), (i 0), (i 0), (i 0), (.int .u8 0), (.int .u8 0), (.int .u8 0), (.int .u8 0), (.int .u8 0), (.int .u8 0), (.int .u8 0), (.int .u8 0), (.int .u8 0), (.int .u8 0), (.int .u8 0), (.int .u8 0), (.int .u8 0), (.int .u8 0), (.int .u8 0), (.int .u8 0), (.int .u8 0), (.int .u8 0), (.int .u8 0), (.int .u8 0), (.int .u8 0), (.int .u8 0), (.int .u8 0), (.int .u8 0), (.int .u8 0), (.int .u8 0), (.int .u8 0), (.int .u8 0), (.int .u8 0), (.int .u8 0), (.int .u8 0), (.int .u8 0), (i 0), (i 0), (i 0), z, (i 0), (i 0), (i 0), (.int .u8 0), (.int .u8 0), (.int .u8 0), (.int .u8 0), (.int .u8 0), (.int .u8 0), (.int .u8 0), (.int .u8 0), (.int .u8 0), (.int .u8 0), (.int .u8 0), (.int .u8 0), (.int .u8 0), (.int .u8 0), (.int .u8 0), (.int .u8 0), (.int .u8 0), (.int .u8 0), (.int .u8 0), (.int .u8 0), (.int .u8 0), (.int .u8 0), (.int .u8 0), (.int .u8 0), (.int .u8 0), (.int .u8 0), (.int .u8 0), (.int .u8 0), (.int .u8 0), (.int .u8 0), (.int .u8 0), (.int .u8 0), (.int .u64 0), (i 0), (i 0), (i 0), (i 0), (.int .u64 1), (i 0), (i 0), (.int .u64 0), z, (i 0), (i 0), (i 0), (i 0), (i 0), (i 0), (i 0), (.int .u64 0), z, z, z, (i 0), (i 0), (i 0), (i 0), (i 0), (i 0), (.int .u8 0), (.int .u8 0), (.int .u8 0), (.int .u8 0), (.int .u8 0), (.int .u8 0), (.int .u8 0), (.int .u8 0), (.int .u8 0), (.int .u8 0), (.int .u8 0), (.int .u8 0), (.int .u8 0), (.int .u8 0), (.int .u8 0), (.int .u8 0), (.int .u8 0), (.int .u8 0), (.int .u8 0), (.int .u8 0), (.int .u8 0), (.int .u8 0), (.int .u8 0), (.int .u8 0), (.int .u8 0), (.int .u8 0), (.int .u8 0), (.int .u8 0), (.int .u8 0), (.int .u8 0), (.int .u8 0), (.int .u8 0), (i 0), (i 0), (i 0), (i 0), (i 0), (.int .u8 0), (.int .u8 0), (.int .u8 0), (.int .u8 0), (.int .u8 0), (.int .u8 0), (.int .u8 0), (.int .u8 0), (.int .u8 0), (.int .u8 0), (.int .u8 0), (.int .u8 0), (.int .u8 0), (.int .u8 0), (.int .u8 0), (.int .u8 0), (.int .u8 0), (.int .u8 0), (.int .u8 0), (.int .u8 0), (.int .u8 0), (.int .u8 0), (.int .u8 0), (.int .u8 0), (.int .u8 0), (.int .u8 0), (.int .u8 0), (.int .u8 0), (.int .u8 0), (.int .u8 0), (.int .u8 0), (.int .u8 0), (.int .u64 0), (i 0), z, (.int .u8 0), (.int .u8 0), (.int .u8 0), (.int .u8 0), (.int .u8 0), (.int .u8 0), (.int .u8 0), (.int .u8 0), (.int .u8 0), (.int .u8 0), (.int .u8 0), (.int .u8 0), (.int .u8 0), (.int .u8 0), (.int .u8 0), (.int .u8 0), (.int .u8 0), (.int .u8 0), (.int .u8 0), (.int .u8 0), (.int .u8 0), (.int .u8 0), (.int .u8 0), (.int .u8 0), (.int .u8 0), (.int .u8 0), (.int .u8 0), (.int .u8 0), (.int .u8 0), (.int .u8 0), (.int .u8 0), (.int .u8 0), (i 0), (i 0), (i 0), (i 0), (.string ⟨#[]⟩), (i 0), (i 0), (i 0), (.int .u64 0), z, z, z, z, (i 5), (i 0), (i 3), (i 0), (i 0), (.int .u8 0), (.int .u8 0), (.int .u8 0), (.int .u8 0), (.int .u8 0), (.int .u8 0), (.int .u8 0), (.int .u8 0), (.int .u8 0), (.int .u8 0), (.int .u8 0), (.int .u8 0), (.int .u8 0), (.int .u8 0), (.int .u8 0), (.int .u8 0), (.int .u8 0), (.int .u8 0), (.int .u8 0), (.int .u8 0), (.int .u8 0), (.int .u8 0), (.int .u8 0), (.int .u8 0), (.int .u8 0), (.int .u8 0), (.int .u8 0), (.int .u8 0), (.int .u8 0), (.int .u8 0), (.int .u8 0), (.int .u8 0), (i 0), (i 0), (i 0), (i 0), (i 0), (i 0), (.int .u8 0), (.int .u8 0), (.int .u8 0), (.int .u8 0), (.int .u8 0), (.int .u8 0), (.int .u8 0), (.int .u8 0), (.int .u8 0), (.int .u8 0), (.int .u8 0), (.int .u8 0), (.int .u8 0), (.int .u8 0), (.int .u8 0), (.int .u8 0), (.int .u8 0), (.int .u8 0), (.int .u8 0), (.int .u8 0), (.int .u8 0), (.int .u8 0), (.int .u8 0), (.int .u8 0), (.int .u8 0), (.int .u8 0), (.int .u8 0), (.int .u8 0), (.int .u8 0), (.int .u8 0), (.int .u8 0), (.int .u8 0), (.int .u64 0), (i 0), (i 0), (i 0), (i 0), (.int .u8 0), (.int .u8 0), (.int .u8 0), (.int .u8 0), (.int .u8 0), (.int .u8 0), (.int .u8 0), (.int .u8 0), (.int .u8 0), (.int .u8 0), (.int .u8 0), (.int .u8 0), (.int .u8 0), (.int .u8 0), (.int .u8 0), (.int .u8 0), (.int .u8 0), (.int .u8 0), (.int .u8 0), (.int .u8 0), (.int .u8 0), (.int .u8 0), (.int .u8 0), (.int .u8 0), (.int .u8 0), (.int .u8 0), (.int .u8 0), (.int .u8 0), (.int .u8 0), (.int .u8 0), (.int .u8 0), (.int .u8 0), (i 0), (i 0), (i 0), z, (i 0), (i 0), (i 0), (.int .u8 0), (.int .u8 0), (.int .u8 0), (.int .u8 0), (.int .u8 0), (.int .u8 0), (.int .u8 0), (.int .u8 0), (.int .u8 0), (.int .u8 0), (.int .u8 0), (.int .u8 0), (.int .u8 0), (.int .u8 0), (.int .u8 0), (.int .u8 0), (.int .u8 0), (.int .u8 0), (.int .u8 0), (.int .u8 0), (.int .u8 0), (.int .u8 0), (.int .u8 0), (.int .u8 0), (.int .u8 0), (.int .u8 0), (.int .u8 0), (.int .u8 0), (.int .u8 0), (.int .u8 0), (.int .u8 0), (.int .u8 0), (.int .u64 0), (i 0), (i 0), (i 0), (i 0), (.int .u64 1), (i 0), (i 0), (.int .u64 0), z, (i 0), (i 0), (i 0), (i 0), (i 0), (i 0), (i 0), (.int .u64 0), z, z, z, (i 0), (i 0), (i 0), (i 0), (i 0), (i 0), (.int .u8 0), (.int .u8 0), (.int .u8 0), (.int .u8 0), (.int .u8 0), (.int .u8 0), (.int .u8 0), (.int .u8 0), (.int .u8 0), (.int .u8 0), (.int .u8 0), (.int .u8 0), (.int .u8 0), (.int .u8 0), (.int .u8 0), (.int .u8 0), (.int .u8 0), (.int .u8 0), (.int .u8 0), (.int .u8 0), (.int .u8 0), (.int .u8 0), (.int .u8 0), (.int .u8 0), (.int .u8 0), (.int .u8 0), (.int .u8 0), (.int .u8 0), (.int .u8 0), (.int .u8 0), (.int .u8 0), (.int .u8 0), (i 0), (i 0), (i 0), (i 0), (i 0), (.int .u8 0), (.int .u8 0), (.int .u8 0), (.int .u8 0), (.int .u8 0), (.int .u8 0), (.int .u8 0), (.int .u8 0), (.int .u8 0), (.int .u8 0), (.int .u8 0), (.int .u8 0), (.int .u8 0), (.int .u8 0), (.int .u8 0), (.int .u8 0), (.int .u8 0), (.int .u8 0), (.int .u8 0), (.int .u8 0), (.int .u8 0), (.int .u8 0), (.int .u8 0), (.int .u8 0), (.int .u8 0), (.int .u8 0), (.int .u8 0), (.int .u8 0), (.int .u8 0), (.int .u8 0), (.int .u8 0), (.int .u8 0), (.int .u64 0), (i 0), z, (.int .u8 0), (.int .u8 0), (.int .u8 0), (.int .u8 0), (.int .u8 0), (.int .u8 0), (.int .u8 0), (.int .u8 0), (.int .u8 0), (.int .u8 0), (.int .u8 0), (.int .u8 0), (.int .u8 0), (.int .u8 0), (.int .u8 0), (.int .u8 0), (.int .u8 0), (.int .u8 0), (.int .u8 0), (.int .u8 0), (.int .u8 0), (.int .u8 0), (.int .u8 0), (.int .u8 0), (.int .u8 0), (.int .u8 0), (.int .u8 0), (.int .u8 0), (.int .u8 0), (.int .u8 0), (.int .u8 0), (.int .u8 0), (i 0), (i 0), (i 0), (i 0), (.string ⟨#[]⟩), (i 0), (i 0), (i 0), (.int .u64 0), z, z, z, z] (.grown 295))])) (.tip [])) (.tip [])))) (.bin (.tip []) (.bin (.bin (.bin (.bin (.tip [(5170, .map [] 0)]) (.tip [])) (.tip [])) (.bin (.tip []) (.bin (.tip []) (.tip [(5042, .map [] 0)])))) (.tip [])))) (.bin (.bin (.tip []) (.bin (.bin (.tip []) (.bin (.tip []) (.bin (.tip []) (.tip [(5034, .cells [(p 5039), (p 5044), (i 0)] .var)])))) (.bin (.tip []) (.bin (.bin (.tip [(234, .cells [(i 1), (i 2), (.map (some 48)), (p 239), (p 223), (.map (some 230)), (.map (some 231)), (.map (some 232)), (i 0), (.slice (some ⟨3043, 0, (some 296)⟩) 3 3)] .var)]) (.tip [])) (.tip []))))) (.bin (.bin (.bin (.tip []) (.bin (.bin (.tip []) (.tip [(666, .map [] 0)])) (.tip []))) (.tip [])) (.bin (.bin (.tip []) (.bin (.tip []) (.bin (.tip [(442, .cells [(i 1), (i 2), (i 0), (.map (some 440))] .var)]) (.tip [])))) (.bin (.tip []) (.bin (.tip []) (.bin (.tip [(506, .map [] 0)]) (.tip [])))))))) (.bin (.bin (.bin (.tip []) (.bin (.bin (.bin (.bin (.tip []) (.tip [(4646, .cells [(.int .u64 10), (i 1), (i 0)] (.grown 3))])) (.tip [])) (.bin (.bin (.tip []) (.tip [(678, .map [] 0)])) (.bin (.tip []) (.tip [(4006, .cells [(.map (some 4004))] .var)])))) (.bin (.tip []) (.bin (.bin (.tip [(230, .map [⟨(i 0), (p 267), 0⟩, ⟨(i 1), (p 3732), 1⟩, ⟨(i 2), (p 4770), 2⟩] 3)]) (.tip [])) (.tip []))))) (.bin (.bin (.bin (.bin (.bin (.tip []) (.tip [(534, .map [] 0)])) (.tip [])) (.bin (.tip []) (.bin (.tip []) (.tip [(3990, .cells [(i 0), (.int .u64 0), z, (.map (some 3988)), (i 0)] .var)])))) (.bin (.bin (.bin (.tip []) (.tip [(4694, .cells [(p 3985), (p 4181), (.bool false)] .var)])) (.tip [])) (.tip []))) (.bin (.bin (.bin (.bin (.tip [(4150, .map [] 0)]) (.tip [])) (.tip [])) (.tip [])) (.bin (.bin (.tip []) (.bin (.tip [(374, .cells [(i 1), (i 2), (i 0), (.int .u64 0), (.int .u64 1), (.int .u64 0), (.map (some 372))] .var)]) (.tip []))) (.tip []))))) (.bin (.bin (.tip []) (.bin (.bin (.tip []) (.bin (.bin (.tip []) (.tip [(686, .map [] 0)])) (.tip []))) (.tip []))) (.bin (.bin (.bin (.tip []) (.bin (.bin (.tip []) (.tip [(670, .cells [(i 1), (i 2), (.map (some 665)), (.map (some 666)), (.map (some 667)), (.map (some 668))] .var)])) (.tip []))) (.tip [])) (.bin (.bin (.bin (.tip []) (.bin (.tip [(2366, .cells [(i 0), (i 0), (.int .u64 1), z, (i 0), (i 1)] (.grown 6))]) (.tip []))) (.tip [])) (.tip []))))))) (.bin (.bin (.bin (.bin (.bin (.bin (.tip []) (.bin (.bin (.tip []) (.bin (.tip []) (.tip [(3905, .map [] 0)]))) (.tip []))) (.bin (.bin (.tip []) (.bin (.tip []) (.bin (.tip []) (.tip [(4001, .cells [(.map (some 3999))] .var)])))) (.tip []))) (.bin (.bin (.bin (.tip []) (.bin (.tip []) (.bin (.tip []) (.tip [(3985, .cells [(i 1), (i 2), (i 1), (p 239), (.bool true), (p 3839), (p 3907), (p 3990), (p 3973), (p 3996), (p 4153), z, z, z] .var), (5009, .map [] 0)])))) (.bin (.bin (.tip []) (.bin (.tip []) (.tip [(4945, .cells [(i 1), (i 2), (i 2), (.map (some 4943))] .var)]))) (.tip []))) (.bin (.bin (.bin (.bin (.tip [(4145, .cells [(i 1), (i 2), (i 0), (i 1), (i 0), (i 1), (i (-1)), (i (-1)), (.int .u8 0), (.int .u8 0), (.int .u8 0), (.int .u8 0), (.int .u8 0), (.int .u8 0), (.int .u8 0), (.int .u8 0), (.int .u8 0), (.int .u8 0), (.int .u8 0), (.int .u8 0), (.int .u8 0), (.int .u8 0), (.int .u8 0), (.int .u8 0), (.int .u8 0), (.int .u8 0), (.int .u8 0), (.int .u8 0), (.int .u8 0), (.int .u8 0), (.int .u8 0), (.int .u8 0), (.int .u8 0), (.int .u8 0), (.int .u8 0), (.int .u8 0), (.int .u8 0), (.int .u8 0), (.int .u8 0), (.int .u8 0), (.int .u8 0), (.int .u8 0), (.int .u8 0), (.int .u8 0), (.int .u8 0), (.int .u8 0), (.int .u8 0), (.int .u8 0), (.int .u8 0), (.int .u8 0), (.int .u8 0), (.int .u8 0), (.int .u8 0), (.int .u8 0), (.int .u8 0), (.int .u8 0), (.int .u8 0), (.int .u8 0), (.int .u8 0), (.int .u8 0), (.int .u8 0), (.int .u8 0), (.int .u8 0), (.int .u8 0), (.int .u8 0), (.int .u8 0), (.int .u8 0), (.int .u8 0), (.int .u8 0), (.int .u8 0), (.int .u8 0), (.int .u8 0), (.bool false), (.int .u8 0), (.int .u8 0), (.int .u8 0), (.int .u8 0), (.int .u8 0), (.int .u8 0), (.int .u8 0), (.int .u8 0), (.int .u8 0), (.int .u8 0), (.int .u8 0), (.int .u8 0), (.int .u8 0), (.int .u8 0), (.int .u8 0), (.int .u8 0), (.int .u8 0), (.int .u8 0), (.int .u8 0), (.int .u8 0), (.int .u8 0), (.int .u8 0), (.int .u8 0), (.int .u8 0), (.int .u8 0), (.int .u8 0), (.int .u8 0), (.int .u8 0), (.int .u8 0), (.int .u8 0), (.int .u8 0), (.int .u8 0), (p 4135), (.map (some 4143)), (.bool false), (.bool false), (.bool false)] .var), (5169, .map [] 0)]) (.tip [])) (.tip [])) (.tip [])) (.tip [])))) (.bin (.tip []) (.bin (.bin (.bin (.tip []) (.bin (.bin (.tip []) (.tip [(665, .map [] 0)])) (.tip []))) (.tip [])) (.bin (.bin (.bin (.bin (.tip [(4153, .cells [(p 4145), (.map (some 4150)), (.map (some 4151)), (.slice (some ⟨4646, 0, (some 4)⟩) 1 1), (.bool false), (i 0), (.int .u64 0), z, (.pointer none), (.pointer none), (.pointer none)] .var)]) (.tip [])) (.tip [])) (.tip [])) (.tip []))))) (.bin (.bin (.bin (.bin (.bin (.tip []) (.bin (.tip []) (.bin (.tip []) (.tip [(3973, .cells [(i 1), (i 2), (i 1), (.map (some 3971))] .var)])))) (.bin (.bin (.bin (.tip [(5189, .map [] 0)]) (.tip [])) (.tip [])) (.tip []))) (.bin (.bin (.bin (.bin (.tip [(4133, .map [] 0)]) (.tip [])) (.tip [])) (.tip [])) (.tip []))) (.bin (.bin (.tip []) (.bin (.bin (.bin (.tip [(4181, .cells [(p 3732), z] .var)]) (.tip [])) (.tip [])) (.tip []))) (.bin (.bin (.bin (.bin (.tip [(5173, .cells [(i 1), (i 2), (.map (some 5168)), (.map (some 5169)), (.map (some 5170)), (.map (some 5171))] .var)]) (.tip [])) (.tip [])) (.tip [])) (.tip [])))) (.bin (.bin (.bin (.bin (.bin (.bin (.tip []) (.tip [(525, .cells [(i 0), (.int .u64 0), z, (.map (some 523)), (i 0)] .var)])) (.bin (.tip []) (.tip [(4877, .cells [(i 1), (i 2), (i 2), (.int .u64 0), (.int .u64 0), (.int .u64 0), (.map (some 4875))] .var)]))) (.tip [])) (.tip [])) (.bin (.bin (.tip []) (.bin (.bin (.tip []) (.tip [(685, .map [] 0)])) (.bin (.tip []) (.tip [(5037, .map [] 0)])))) (.bin (.tip []) (.bin (.bin (.tip [(237, .map [⟨(.agg #[(i 0), (.string ⟨#[7, 112, 114, 111, 109, 105, 115, 101, 0, 0, 1, 0]⟩)]), (i 1), 0⟩] 1)]) (.tip [])) (.tip []))))) (.bin (.bin (.bin (.bin (.bin (.tip []) (.tip [(541, .cells [(.map (some 539))] .var)])) (.tip [])) (.tip [])) (.tip [])) (.bin (.bin (.bin (.bin (.tip [(5181, .map [] 0)]) (.tip [])) (.tip [])) (.tip [])) (.bin (.tip []) (.bin (.bin (.tip []) (.tip [(3837, .map [] 0)])) (.tip [])))))))) (.bin (.bin (.bin (.bin (.bin (.bin (.tip []) (.bin (.tip []) (.bin (.tip [(2435, .cells [(p 520), (p 716), (.bool false)] .var)]) (.tip [(3971, .map [] 0)])))) (.bin (.bin (.tip []) (.bin (.tip []) (.tip [(3907, .cells [(i 1), (i 2), (i 1), (.map (some 3905))] .var)]))) (.tip []))) (.bin (.bin (.bin (.bin (.tip [(4131, .map [] 0)]) (.tip [])) (.tip [])) (.tip [])) (.bin (.bin (.bin (.tip [(5219, .cells [(p 4770), z] .var)]) (.tip [])) (.tip [])) (.bin (.tip []) (.bin (.tip []) (.tip [(3043, .cells [(i 5), (i 0), (i 1), (i 0), (i 0), (.int .u8 0), (.int .u8 0), (.int .u8 0), (.int .u8 0), (.int .u8 0), (.int .u8 0), (.int .u8 0), (.int .u8 0), (.int .u8 0), (.int .u8 0), (.int .u8 0), (.int .u8 0), (.int .u8 0), (.int .u8 0), (.int .u8 0), (.int .u8 0), (.int .u8 0), (.int .u8 0), (.int .u8 0), (.int .u8 0), (.int .u8 0), (.int .u8 0), (.int .u8 0), (.int .u8 0), (.int .u8 0), (.int .u8 0), (.int .u8 0), (.int .u8 0), (.int .u8 0), (.int .u8 0), (.int .u8 0), (.int .u8 0), (i 0), (i 0), (i 0), (i 0), (i 0), (i 0), (.int .u8 0), (.int .u8 0), (.int .u8 0), (.int .u8 0), (.int .u8 0), (.int .u8 0), (.int .u8 0), (.int .u8 0), (.int .u8 0), (.int .u8 0), (.int .u8 0), (.int .u8 0), (.int .u8 0), (.int .u8 0), (.int .u8 0), (.int .u8 0), (.int .u8 0), (.int .u8 0), (.int .u8 0), (.int .u8 0), (.int .u8 0), (.int .u8 0), (.int .u8 0), (.int .u8 0), (.int .u8 0), (.int .u8 0), (.int .u8 0), (.int .u8 0), (.int .u8 0), (.int .u8 0), (.int .u8 0), (.int .u8 0), (.int .u64 0), (i 0), (i 0), (i 0), (i 0), (.int .u8 0), (.int .u8 0), (.int .u8 0), (.int .u8 0), (.int .u8 0), (.int .u8 0), (.int .u8 0), (.int .u8 0), (.int .u8 0), (.int .u8 0), (.int .u8 0), (.int .u8 0), (.int .u8 0), (.int .u8 0), (.int .u8 0), (.int .u8 0), (.int .u8 0), (.int .u8 0), (.int .u8 0), (.int .u8 0), (.int .u8 0), (.int .u8 0), (.int .u8 0), (.int .u8 0), (.int .u8 0), (.int .u8 0), (.int .u8 0), (.int .u8 0), (.int .u8 0), (.int .u8 0), (.int .u8 0), (.int .u8 0), (i 0), (i 0), (i 0), z, (i 0), (i 0), (i 0), (.int .u8 0), (.int .u8 0), (.int .u8 0), (.int .u8 0), (.int .u8 0), (.int .u8 0), (.int .u8 0), (.int .u8 0), (.int .u8 0), (.int .u8 0), (.int .u8 0), (.int .u8 0), (.int .u8 0), (.int .u8 0), (.int .u8 0), (.int .u8 0), (.int .u8 0), (.int .u8 0), (.int .u8 0), (.int .u8 0), (.int .u8 0), (.int .u8 0), (.int .u8 0), (.int .u8 0), (.int .u8 0), (.int .u8 0), (.int .u8 0), (.int .u8 0), (.int .u8 0), (.int .u8 0), (.int .u8 0), (.int .u8 0), (.int .u64 0), (i 0), (i 0), (i 0), (i 0), (.int .u64 1), (i 0), (i 0), (.int .u64 0), z, (i 0), (i 0), (i 0), (i 0), (i 0), (i 0), (i 0), (.int .u64 0), z, z, z, (i 0), (i 0), (i 0), (i 0), (i 0), (i 0), (.int .u8 0), (.int .u8 0), (.int .u8 0), (.int .u8 0), (.int .u8 0), (.int .u8 0), (.int .u8 0), (.int .u8 0), (.int .u8 0), (.int .u8 0), (.int .u8 0), (.int .u8 0), (.int .u8 0), (.int .u8 0), (.int .u8 0), (.int .u8 0), (.int .u8 0), (.int .u8 0), (.int .u8 0), (.int .u8 0), (.int .u8 0), (.int .u8 0), (.int .u8 0), (.int .u8 0), (.int .u8 0), (.int .u8 0), (.int .u8 0), (.int .u8 0), (.int .u8 0), (.int .u8 0), (.int .u8 0), (.int .u8 0), (i 0), (i 0), (i 0), (i 0), (i 0), (.int .u8 0), (.int .u8 0), (.int .u8 0), (.int .u8 0), (.int .u8 0), (.int .u8 0), (.int .u8 0), (.int .u8 0), (.int .u8 0), (.int .u8 0), (.int .u8 0), (.int .u8 0), (.int .u8 0), (.int .u8 0), (.int .u8 0), (.int .u8 0), (.int .u8 0), (.int .u8 0), (.int .u8 0), (.int .u8 0), (.int .u8 0), (.int .u8 0), (.int .u8 0), (.int .u8 0), (.int .u8 0), (.int .u8 0), (.int .u8 0), (.int .u8 0), (.int .u8 0), (.int .u8 0), (.int .u8 0), (.int .u8 0), (.int .u64 0), (i 0), z, (.int .u8 0), (.int .u8 0), (.int .u8 0), (.int .u8 0), (.int .u8 0), (.int .u8 0), (.int .u8 0), (.int .u8 0), (.int .u8 0), (.int .u8 0), (.int .u8 0), (.int .u8 0), (.int .u8 0), (.int .u8 0), (.int .u8 0), (.int .u8 0), (.int .u8 0), (.int .u8 0), (.int .u8 0), (.int .u8 0), (.int .u8 0), (.int .u8 0), (.int .u8 0), (.int .u8 0), (.int .u8 0), (.int .u8 0), (.int .u8 0), (.int .u8 0), (.int .u8 0), (.int .u8 0), (.int .u8 0), (.int .u8 0), (i 0), (i 0), (i 0), (i 0), (.string ⟨#[]⟩), (i 0), (i 0), (i 0), (.int .u64 0), z, z, z, z, (i 5), (i 0), (i 2), (i 0), (i 0), (.int .u8 0), (.int .u8 0), (.int .u8 0), (.int .u8 0), (.int .u8 0), (.int .u8 0), (.int .u8 0), (.int .u8 0), (.int .u8 0), (.int .u8 0), (.int .u8 0), (.int .u8 0), (.int .u8 0), (.int .u8 0), (.int .u8 0), (.int .u8 0), (.int .u8 0), (.int .u8 0), (.int .u8 0), (.int .u8 0), (.int .u8 0), (.int .u8 0), (.int .u8 0), (.int .u8 0), (.int .u8 0), (.int .u8 0), (.int .u8 0), (.int .u8 0), (.int .u8 0), (.int .u8 0), (.int .u8 0), (.int .u8 0), (i 0), (i 0), (i 0), (i 0), (i 0), (i 0), (.int .u8 0), (.int .u8 0), (.int .u8 0), (.int .u8 0), (.int .u8 0), (.int .u8 0), (.int .u8 0), (.int .u8 0), (.int .u8 0), (.int .u8 0), (.int .u8 0), (.int .u8 0), (.int .u8 0), (.int .u8 0), (.int .u8 0), (.int .u8 0), (.int .u8 0), (.int .u8 0), (.int .u8 0), (.int .u8 0), (.int .u8 0), (.int .u8 0), (.int .u8 0), (.int .u8 0), (.int .u8 0), (.int .u8 0), (.int .u8 0), (.int .u8 0), (.int .u8 0), (.int .u8 0), (.int .u8 0), (.int .u8 0), (.int .u64 0), (i 0), (i 0), (i 0), (i 0), (.int .u8 0), (.int .u8 0), (.int .u8 0), (.int .u8 0), (.int .u8 0), (.int .u8 0), (.int .u8 0), (.int .u8 0), (.int .u8 0), (.int .u8 0), (.int .u8 0), (.int .u8 0), (.int .u8 0), (.int .u8 0), (.int .u8 0), (.int .u8 0), (.int .u8 0), (.int .u8 0), (.int .u8 0), (.int .u8 0), (.int .u8 0), (.int .u8 0), (.int .u8 0), (.int .u8 0), (.int .u8 0), (.int .u8 0), (.int .u8 0), (.int .u8 0), (.int .u8 0), (.int .u8 0), (.int .u8 0), (.int .u8 0), (i 0), (i 0), (i 0), z, (i 0), (i 0), (i 0), (.int .u8 0), (.int .u8 0), (.int .u8 0), (.int .u8 0), (.int .u8 0), (.int .u8 0), (.int .u8 0), (.int .u8 0), (.int .u8 0), (.int .u8 0), (.int .u8 0), (.int .u8 0), (.int .u8 0), (.int .u8 0), (.int .u8 0), (.int .u8 0), (.int .u8 0), (.int .u8 0), (.int .u8 0), (.int .u8 0), (.int .u8 0), (.int .u8 0), (.int .u8 0), (.int .u8 0), (.int .u8 0), (.int .u8 0), (.int .u8 0), (.int .u8 0), (.int .u8 0), (.int .u8 0), (.int .u8 0), (.int .u8 0), (.int .u64 0), (i 0), (i 0), (i 0), (i 0), (.int .u64 1), (i 0), (i 0), (.int .u64 0), z, (i 0), (i 0), (i 0), (i 0), (i 0), (i 0), (i 0), (.int .u64 0), z, z, z, (i 0), (i 0), (i 0), (i 0), (i 0), (i 0), (.int .u8 0), (.int .u8 0), (.int .u8 0), (.int .u8 0), (.int .u8 0), (.int .u8 0), (.int .u8 0), (.int .u8 0), (.int .u8 0), (.int .u8 0), (.int .u8 0), (.int .u8 0), (.int .u8 0), (.int .u8 0), (.int .u8 0), (.int .u8 0), (.int .u8 0), (.int .u8 0), (.int .u8 0), (.int .u8 0), (.int .u8 0), (.int .u8 0), (.int .u8 0), (.int .u8 0), (.int .u8 0), (.int .u8 0), (.int .u8 0), (.int .u8 0), (.int .u8 0), (.int .u8 0), (.int .u8 0), (.int .u8 0), (i 0), (i 0), (i 0), (i 0), (i 0), (.int .u8 0), (.int .u8 0), (.int .u8 0), (.int .u8 0), (.int .u8 0), (.int .u8 0), (.int .u8 0), (.int .u8 0), (.int .u8 0), (.int .u8 0), (.int .u8 0), (.int .u8 0), (.int .u8 0), (.int .u8 0), (.int .u8 0), (.int .u8 0), (.int .u8 0), (.int .u8 0), (.int .u8 0), (.int .u8 0), (.int .u8 0), (.int .u8 0), (.int .u8 0), (.int .u8 0), (.int .u8 0), (.int .u8 0), (.int .u8 0), (.int .u8 0), (.int .u8 0), (.int .u8 0), (.int .u8 0), (.int .u8 0), (.int .u64 0), (i 0), z, (.int .u8 0), (.int .u8 0), (.int .u8 0), (.int .u8 0), (.int .u8 0), (.int .u8 0), (.int .u8 0), (.int .u8 0), (.int .u8 0), (.int .u8 0), (.int .u8 0), (.int .u8 0), (.int .u8 0), (.int .u8 0), (.int .u8 0), (.int .u8 0), (.int .u8 0), (.int .u8 0), (.int .u8 0), (.int .u8 0), (.int .u8 0), (.int .u8 0), (.int .u8 0), (.int .u8 0), (.int .u8 0), (.int .u8 0), (.int .u8 0), (.int .u8 0), (.int .u8 0), (.int .u8 0), (.int .u8 0), (.int .u8 0), (i 0), (i 0), (i 0), (i 0), (.string ⟨#[]⟩), (i 0), (i 0), (i 0), (.int .u64 0), z, z, z, z, (i 5), (i 0), (i 3), (i 0), (i 0), (.int .u8 0), (.int .u8 0), (.int .u8 0), (.int .u8 0), (.int .u8 0), (.int .u8 0), (.int .u8 0), (.int .u8 0), (.int .u8 0), (.int .u8 0), (.int .u8 0), (.int .u8 0), (.int .u8 0), (.int .u8 0), (.int .u8 0), (.int .u8 0), (.int .u8 0), (.int .u8 0), (.int .u8 0), (.int .u8 0), (.int .u8 0), (.int .u8 0), (.int .u8 0), (.int .u8 0), (.int .u8 0), (.int .u8 0), (.int .u8 0), (.int .u8 0), (.int .u8 0), (.int .u8 0), (.int .u8 0), (.int .u8 0), (i 0), (i 0), (i 0), (i 0), (i 0), (i 0), (.int .u8 0), (.int .u8 0), (.int .u8 0), (.int .u8 0), (.int .u8 0), (.int .u8 0), (.int .u8 0), (.int .u8 0), (.int .u8 0), (.int .u8 0), (.int .u8 0), (.int .u8 0), (.int .u8 0), (.int .u8 0), (.int .u8 0), (.int .u8 0), (.int .u8 0), (.int .u8 0), (.int .u8 0), (.int .u8 0), (.int .u8 0), (.int .u8 0), (.int .u8 0), (.int .u8 0), (.int .u8 0), (.int .u8 0), (.int .u8 0), (.int .u8 0), (.int .u8 0), (.int .u8 0), (.int .u8 0), (.int .u8 0), (.int .u64 0), (i 0), (i 0), (i 0), (i 0), (.int .u8 0), (.int .u8 0), (.int .u8 0), (.int .u8 0), (.int .u8 0), (.int .u8 0), (.int .u8 0), (.int .u8 0), (.int .u8 0), (.int .u8 0), (.int .u8 0), (.int .u8 0), (.int .u8 0), (.int .u8 0), (.int .u8 0), (.int .u8 0), (.int .u8 0), (.int .u8 0), (.int .u8 0), (.int .u8 0), (.int .u8 0), (.int .u8 0), (.int .u8 0), (.int .u8 0), (.int .u8 0), (.int .u8 0), (.int .u8 0), (.int .u8 0), (.int .u8 0), (.int .u8 0), (.int .u8 0), (.int .u8 0), (i 0), (i 0), (i 0), z, (i 0), (i 0), (i 0), (.int .u8 0), (.int .u8 0), (.int .u8 0), (.int .u8 0), (.int .u8 0), (.int .u8 0), (.int .u8 0), (.int .u8 0), (.int .u8 0), (.int .u8 0), (.int .u8 0), (.int .u8 0), (.int .u8 0), (.int .u8 0), (.int .u8 0), (.int .u8 0), (.int .u8 0), (.int .u8 0), (.int .u8 0), (.int .u8 0), (.int .u8 0), (.int .u8 0), (.int .u8 0), (.int .u8 0), (.int .u8 0), (.int .u8 0), (.int .u8 0), (.int .u8 0), (.int .u8 0), (.int .u8 0), (.int .u8 0), (.int .u8 0), (.int .u64 0), (i 0), (i 0), (i 0), (i 0), (.int .u64 1), (i 0), (i 0), (.int .u64 0), z, (i 0), (i 0), (i 0), (i 0), (i 0), (i 0), (i 0), (.int .u64 0), z, z, z, (i 0), (i 0), (i 0), (i 0), (i 0), (i 0), (.int .u8 0), (.int .u8 0), (.int .u8 0), (.int .u8 0), (.int .u8 0), (.int .u8 0), (.int .u8 0), (.int .u8 0), (.int .u8 0), (.int .u8 0), (.int .u8 0), (.int .u8 0), (.int .u8 0), (.int .u8 0), (.int .u8 0), (.int .u8 0), (.int .u8 0), (.int .u8 0), (.int .u8 0), (.int .u8 0), (.int .u8 0), (.int .u8 0), (.int .u8 0), (.int .u8 0), (.int .u8 0), (.int .u8 0), (.int .u8 0), (.int .u8 0), (.int .u8 0), (.int .u8 0), (.int .u8 0), (.int .u8 0), (i 0), (i 0), (i 0), (i 0), (i 0), (.int .u8 0), (.int .u8 0), (.int .u8 0), (.int .u8 0), (.int .u8 0), (.int .u8 0), (.int .u8 0), (.int .u8 0), (.int .u8 0), (.int .u8 0), (.int .u8 0), (.int .u8 0), (.int .u8 0), (.int .u8 0), (.int .u8 0), (.int .u8 0), (.int .u8 0), (.int .u8 0), (.int .u8 0), (.int .u8 0), (.int .u8 0), (.int .u8 0), (.int .u8 0), (.int .u8 0), (.int .u8 0), (.int .u8 0), (.int .u8 0), (.int .u8 0), (.int .u8 0), (.int .u8 0), (.int .u8 0), (.int .u8 0), (.int .u64 0), (i 0), z, (.int .u8 0), (.int .u8 0), (.int .u8 0), (.int .u8 0), (.int .u8 0), (.int .u8 0), (.int .u8 0), (.int .u8 0), (.int .u8 0), (.int .u8 0), (.int .u8 0), (.int .u8 0), (.int .u8 0), (.int .u8 0), (.int .u8 0), (.int .u8 0), (.int .u8 0), (.int .u8 0), (.int .u8 0), (.int .u8 0), (.int .u8 0), (.int .u8 0), (.int .u8 0), (.int .u8 0), (.int .u8 0), (.int .u8 0), (.int .u8 0), (.int .u8 0), (.int .u8 0), (.int .u8 0), (.int .u8 0), (.int .u8 0), (i 0), (i 0), (i 0), (i 0), (.string ⟨#[]⟩), (i 0), (i 0), (i 0), (.int .u64 0), z, z, z, z] (.grown 295))])))))) (.bin (.bin (.bin (.bin (.bin (.tip []) (.tip [(531, .cells [(p 536), (p 541), (i 0)] .var)])) (.tip [])) (.bin (.tip []) (.bin (.tip []) (.tip [(5011, .cells [(i 1), (i 2), (i 2), (.map (some 5009))] .var)])))) (.tip [])) (.bin (.bin (.bin (.bin (.tip [(5171, .map [] 0)]) (.tip [])) (.tip [])) (.tip [])) (.tip [])))) (.bin (.bin (.bin (.bin (.bin (.bin (.tip []) (.tip [(523, .map [] 0)])) (.bin (.tip [(267, .cells [z, (i 0), (i 0), (.bool false), (.bool false)] .var)]) (.tip [(4875, .map [] 0)]))) (.tip [])) (.tip [])) (.tip [])) (.bin (.bin (.bin (.bin (.bin (.tip []) (.tip [(539, .map [] 0)])) (.tip [])) (.bin (.bin (.tip []) (.tip [(667, .map [] 0)])) (.tip []))) (.tip [])) (.tip [])))) (.bin (.bin (.bin (.bin (.tip []) (.bin (.bin (.bin (.tip [(5191, .cells [(p 5183), (.map (some 5188)), (.map (some 5189)), (.slice (some ⟨5684, 0, (some 4)⟩) 1 1), (.bool false), (i 0), (.int .u64 0), z, (.pointer none), (.pointer none), (.pointer none)] .var)]) (.tip [])) (.tip [])) (.tip []))) (.bin (.bin (.bin (.bin (.tip [(4135, .cells [(i 1), (i 2), (.map (some 4130)), (.map (some 4131)), (.map (some 4132)), (.map (some 4133))] .var)]) (.tip [])) (.tip [])) (.tip [])) (.bin (.tip []) (.bin (.bin (.tip [(231, .map [⟨(i 0), (p 2435), 0⟩, ⟨(i 1), (p 4694), 1⟩, ⟨(i 2), (p 5732), 2⟩] 3)]) (.tip [])) (.tip []))))) (.bin (.tip []) (.bin (.bin (.bin (.bin (.tip [(4151, .map [] 0)]) (.tip [])) (.tip [])) (.tip [])) (.tip [])))) (.bin (.bin (.bin (.tip []) (.bin (.bin (.tip []) (.bin (.tip []) (.tip [(4943, .map [] 0)]))) (.tip []))) (.bin (.bin (.bin (.bin (.tip [(4143, .map [] 0)]) (.tip [])) (.tip [])) (.bin (.tip []) (.bin (.tip []) (.tip [(5039, .cells [(.map (some 5037))] .var)])))) (.bin (.tip []) (.bin (.bin (.tip [(239, .cells [(.map (some 237))] .var)]) (.tip [])) (.tip []))))) (.bin (.bin (.bin (.tip []) (.bin (.tip []) (.bin (.tip []) (.tip [(3999, .map [] 0), (5023, .cells [(i 1), (i 2), (i 2), (p 239), (.bool true), (p 4877), (p 4945), (p 5028), (p 5011), (p 5034), (p 5191), z, z, z] .var)])))) (.bin (.tip []) (.bin (.bin (.tip [(223, .cells [(i 4096), (.slice (some ⟨3682, 0, (some 296)⟩) 3 3), (i 3), (i 0)] .var)]) (.tip [])) (.tip [])))) (.bin (.bin (.bin (.bin (.tip [(5183, .cells [(i 1), (i 2), (i 0), (i 2), (i 0), (i 1), (i (-1)), (i (-1)), (.int .u8 0), (.int .u8 0), (.int .u8 0), (.int .u8 0), (.int .u8 0), (.int .u8 0), (.int .u8 0), (.int .u8 0), (.int .u8 0), (.int .u8 0), (.int .u8 0), (.int .u8 0), (.int .u8 0), (.int .u8 0), (.int .u8 0), (.int .u8 0), (.int .u8 0), (.int .u8 0), (.int .u8 0), (.int .u8 0), (.int .u8 0), (.int .u8 0), (.int .u8 0), (.int .u8 0), (.int .u8 0), (.int .u8 0), (.int .u8 0), (.int .u8 0), (.int .u8 0), (.int .u8 0), (.int .u8 0), (.int .u8 0), (.int .u8 0), (.int .u8 0), (.int .u8 0), (.int .u8 0), (.int .u8 0), (.int .u8 0), (.int .u8 0), (.int .u8 0), (.int .u8 0), (.int .u8 0), (.int .u8 0), (.int .u8 0), (.int .u8 0), (.int .u8 0), (.int .u8 0), (.int .u8 0), (.int .u8 0), (.int .u8 0), (.int .u8 0), (.int .u8 0), (.int .u8 0), (.int .u8 0), (.int .u8 0), (.int .u8 0), (.int .u8 0), (.int .u8 0), (.int .u8 0), (.int .u8 0), (.int .u8 0), (.int .u8 0), (.int .u8 0), (.int .u8 0), (.bool false), (.int .u8 0), (.int .u8 0), (.int .u8 0), (.int .u8 0), (.int .u8 0), (.int .u8 0), (.int .u8 0), (.int .u8 0), (.int .u8 0), (.int .u8 0), (.int .u8 0), (.int .u8 0), (.int .u8 0), (.int .u8 0), (.int .u8 0), (.int .u8 0), (.int .u8 0), (.int .u8 0), (.int .u8 0), (.int .u8 0), (.int .u8 0), (.int .u8 0), (.int .u8 0), (.int .u8 0), (.int .u8 0), (.int .u8 0), (.int .u8 0), (.int .u8 0), (.int .u8 0), (.int .u8 0), (.int .u8 0), (.int .u8 0), (p 5173), (.map (some 5181)), (.bool false), (.bool false), (.bool false)] .var)]) (.tip [])) (.tip [])) (.tip [])) (.bin (.tip []) (.bin (.bin (.tip []) (.tip [(3839, .cells [(i 1), (i 2), (i 1), (.int .u64 0), (.int .u64 0), (.int .u64 0), (.map (some 3837))] .var)])) (.tip [])))))))))) }
theorem nc_run : comesTo (callA mach 1000 100 19 [.agg #[i 1, i 2], .slice (some ⟨3, 0, none⟩) 2 2] { next := 10, tab := (Tr.tip []).set 3 (.cells [i 3, i 1000] .row) }) nc_v nc_h = true := by kernel_rfl
theorem nc_closed : closedH nc_h = true := by kernel_rfl
/-- the empty heap -/
def h0 : Heap := { next := 1, tab := .tip [] }
theorem sub0 {h : Heap} (hn : 1 ≤ h.next) : Sub h0 h := ⟨fun n o e => (by have e : lget [] n = some o := e; cases e), hn⟩
theorem wk_run : stays (callA mach 1000 100 25 [] h0) (.bool true) h0 = true := by kernel_rfl
theorem wk {h : Heap} (hn : 1 ≤ h.next) : CS Tryz.prog noX 25 [] h (fun v h' => v = .bool true ∧ h' = h) :=
  CS.stays noXl (cl 1000 100) (by kernel_rfl) rfl (sub0 hn) wk_run
end Go.Proofs.YtcnldppfncojkaaGreatDoor

/- gavelkeep.Within: a number from 0 on below a bound. -/
namespace Go.Proofs.YtcnldppfncojkaaGreatDoor
open Go Go.AM Go.AM.Sh
set_option maxRecDepth 100000
noncomputable abbrev wA (v : Int) (m : Nat) := argsT [.int .i64 v, .int .i64 (.ofNat (m + 1))] 0 (.tip [])
noncomputable abbrev w1 (v : Int) (m : Nat) := codeA (callA mach 1000 100) 50 (.reg 1 [o 0 4 (s (sMov (k 0)))]) (wA v m) h0
noncomputable abbrev w2 (v : Int) (m : Nat) := codeA (callA mach 1000 100) 50 (.seq (.reg 2 [o 0 6 (mv 1), o 1 7 (s (sBin .lss (t 6) (k 1)))]) (.cond (t 7) (.seq (.reg 1 [o 0 4 (s (sMov (k 0)))]) .ret) .skip)) (tOf (w1 v m)) (hOf (w1 v m))
noncomputable def tR : Option (Tr Value × Heap) → Tr Value
  | some (t, _) => t
  | none => .tip []
noncomputable def hR : Option (Tr Value × Heap) → Heap
  | some (_, h) => h
  | none => { next := 0, tab := .tip [] }
noncomputable def isR : Option (Tr Value × Heap) → Bool
  | some _ => true
  | none => false
theorem some_reg {r : Option (Tr Value × Heap)} (h : isR r = true) : r = some (tR r, hR r) := by
  cases r with
  | none => cases h
  | some p => rfl
noncomputable def bump (h : Heap) (n : Nat) : Heap := { next := Nat.add h.next n, tab := h.tab }
noncomputable abbrev w3 (v : Int) (m : Nat) := regA (callA mach 1000 100) (hOf (w2 v m)).next [o 0 8 (mv 0), o 1 9 (mv 1)] (tOf (w2 v m)) (bump (hOf (w2 v m)) 4)
noncomputable abbrev w4 (v : Int) (m : Nat) (r : Int) := regA (callA mach 1000 100) (hOf (w2 v m)).next [o 3 5 (mv 10)] (putA (tR (w3 v m)) (some 10) (.int .i64 r)) (hR (w3 v m))
noncomputable abbrev wEnd : BCode := .seq (.seq (.reg 2 [o 0 11 (mv 5), o 1 12 (s (sBin .lss (t 11) (k 0)))]) (.cond (t 12) (.reg 4 [o 0 13 (mv 5), o 1 14 (mv 1), o 2 15 (s (sBin .add (t 13) (t 14))), o 3 5 (mv 15)]) .skip)) (.seq (.reg 2 [o 0 16 (mv 5), o 1 4 (mv 16)]) .ret)
noncomputable abbrev w5 (v : Int) (m : Nat) (r : Int) := codeA (callA mach 1000 100) 50 wEnd (tR (w4 v m r)) (hR (w4 v m r))
noncomputable abbrev w6 (v : Int) (m : Nat) (r : Int) := codeA (callA mach 1000 100) 50 (.reg 2 [o 0 11 (mv 5), o 1 12 (s (sBin .lss (t 11) (k 0)))]) (tR (w4 v m r)) (hR (w4 v m r))
noncomputable abbrev w7 (v : Int) (m : Nat) (r : Int) := regA (callA mach 1000 100) (hOf (w6 v m r)).next [o 0 13 (mv 5), o 1 14 (mv 1)] (tOf (w6 v m r)) (bump (hOf (w6 v m r)) 4)
noncomputable abbrev w8 (v : Int) (m : Nat) (r q : Int) := regA (callA mach 1000 100) (hOf (w6 v m r)).next [o 3 5 (mv 15)] (putA (tR (w7 v m r)) (some 15) (.int .i64 q)) (hR (w7 v m r))
noncomputable abbrev w9 (v : Int) (m : Nat) (r q : Int) := codeA (callA mach 1000 100) 50 (.seq (.reg 2 [o 0 16 (mv 5), o 1 4 (mv 16)]) .ret) (tR (w8 v m r q)) (hR (w8 v m r q))
theorem wrap_small {m : Nat} (h : m < 9223372036854775808) : wrapF .i64 (.ofNat m) = .ofNat m := by
  show (match Nat.blt m 9223372036854775808 with | true => Int.ofNat m | false => _) = _
  rw [show Nat.blt m 9223372036854775808 = true from by rw [Nat.blt_eq]; exact h]
theorem within0 (v : Int) (m : Nat) (hm : m < 1000) : CS Tryz.prog noX 9 [.int .i64 v, .int .i64 (.ofNat (m + 1))] h0 (fun w h' => (∃ c, c ≤ m ∧ w = .int .i64 (.ofNat c)) ∧ True) := by
  have hb : b9.body = .seq (.reg 1 [o 0 4 (s (sMov (k 0)))]) (.seq (.seq (.reg 2 [o 0 6 (mv 1), o 1 7 (s (sBin .lss (t 6) (k 1)))]) (.cond (t 7) (.seq (.reg 1 [o 0 4 (s (sMov (k 0)))]) .ret) .skip))
    (.seq (.reg 4 ([o 0 8 (mv 0), o 1 9 (mv 1)] ++ o 2 10 (s (sBin .rem (t 8) (t 9))) :: ([o 3 5 (mv 10)] ++ []))) wEnd)) := rfl
  have hcl := cl 1000 100
  refine CS.body pf Tryz.func9 bok9 (by kernel_rfl) (fun nt => ?_)
  rw [hb]
  refine CodeS.seq ((CodeS.run pf deep noXl mixed hcl (fuel := 50) (some_normal (r := w1 v m) (by kernel_rfl))).mono ?_)
  rintro e T1 g1 ⟨rfl, rfl, rfl⟩
  refine CodeS.seq ((CodeS.run pf deep noXl mixed hcl (fuel := 50) (some_normal (r := w2 v m) (by kernel_rfl))).mono ?_)
  rintro e T2 g2 ⟨rfl, rfl, rfl⟩
  refine CodeS.seq (CodeS.reg (RegS.run pf deep noXl hcl _ (some_reg (r := w3 v m) (by kernel_rfl)) ?_))
  have go : ∀ r : Int, v.tmod (Int.ofNat (m + 1)) = r → (r = .ofNat r.toNat ∧ r.toNat ≤ m ∨ ∃ y, y < m ∧ r = .negSucc y) → RegS Tryz.prog noX ty nt (hOf (w2 v m)).next (o 2 10 (s (sBin .rem (t 8) (t 9))) :: ([o 3 5 (mv 10)] ++ [])) (tR (w3 v m)) (hR (w3 v m))
      fun T' h' => CodeS Tryz.prog noX ty nt wEnd T' h' fun e T' h' => (e = .normal ∨ e = .ret) ∧ ∃ vs, resL h' T' b9.res = some vs ∧ (∃ c, c ≤ m ∧ pack vs = .int .i64 (.ofNat c)) ∧ True := by
    intro r hr hcase
    refine RegS.simp (v := .int .i64 r) (ob := none) pf deep noXl rfl rfl ?_ ?_
    · have : sBin .rem (t 8) (t 9) ((hOf (w2 v m)).next + 2) (evA (tR (w3 v m))) (hR (w3 v m)).get = some (.int .i64 (v.tmod (Int.ofNat (m + 1))), none) := by kernel_rfl
      rw [hr] at this
      exact this
    refine RegS.run pf deep noXl hcl _ (some_reg (r := w4 v m r) (by kernel_rfl)) (RegS.nil ?_)
    rcases hcase with ⟨h1, h2⟩ | ⟨y, h1, rfl⟩
    · rw [h1]
      refine (CodeS.run pf deep noXl mixed hcl (fuel := 50) (some_ret (r := w5 v m (.ofNat r.toNat)) (by kernel_rfl))).mono ?_
      rintro e T3 g3 ⟨rfl, rfl, rfl⟩
      exact ⟨.inr rfl, [.int .i64 (.ofNat r.toNat)], by kernel_rfl, ⟨_, h2, rfl⟩, trivial⟩
    · refine CodeS.seq (CodeS.seq ((CodeS.run pf deep noXl mixed hcl (fuel := 50) (some_normal (r := w6 v m (.negSucc y)) (by kernel_rfl))).mono ?_))
      rintro e T3 g3 ⟨rfl, rfl, rfl⟩
      refine CodeS.cond (b := true) (by kernel_rfl) (CodeS.reg (RegS.run (l := o 2 15 (s (sBin .add (t 13) (t 14))) :: ([o 3 5 (mv 15)] ++ [])) pf deep noXl hcl [o 0 13 (mv 5), o 1 14 (mv 1)] (some_reg (r := w7 v m (.negSucc y)) (by kernel_rfl)) ?_))
      refine RegS.simp (v := .int .i64 (.ofNat (m - y))) (ob := none) pf deep noXl rfl rfl ?_ ?_
      · have h3 : sBin .add (t 13) (t 14) ((hOf (w6 v m (.negSucc y))).next + 2) (evA (tR (w7 v m (.negSucc y)))) (hR (w7 v m (.negSucc y))).get = some (.int .i64 (wrapF .i64 (Int.add (.negSucc y) (.ofNat (m + 1)))), none) := by kernel_rfl
        have h4 : Int.add (.negSucc y) (.ofNat (m + 1)) = .ofNat (m - y) := by
          show Int.negSucc y + Int.ofNat (m + 1) = Int.ofNat (m - y)
          simp only [Int.ofNat_eq_natCast, Int.negSucc_eq]
          omega
        rw [h4, wrap_small (by omega)] at h3
        exact h3
      refine RegS.run pf deep noXl hcl _ (some_reg (r := w8 v m (.negSucc y) (.ofNat (m - y))) (by kernel_rfl)) (RegS.nil ?_)
      refine (CodeS.run pf deep noXl mixed hcl (fuel := 50) (some_ret (r := w9 v m (.negSucc y) (.ofNat (m - y))) (by kernel_rfl))).mono ?_
      rintro e T4 g4 ⟨rfl, rfl, rfl⟩
      exact ⟨.inr rfl, [.int .i64 (.ofNat (m - y))], by kernel_rfl, ⟨_, Nat.sub_le _ _, rfl⟩, trivial⟩
  refine go _ rfl ?_
  cases v with
  | ofNat a =>
    left
    have h1 : (Int.ofNat a).tmod (Int.ofNat (m + 1)) = Int.ofNat (a % (m + 1)) := rfl
    rw [h1]
    exact ⟨rfl, by have := Nat.mod_lt a (show 0 < m + 1 by omega); show a % (m + 1) ≤ m; omega⟩
  | negSucc a =>
    have h1 : (Int.negSucc a).tmod (Int.ofNat (m + 1)) = -Int.ofNat ((a + 1) % (m + 1)) := rfl
    rw [h1]
    have h2 := Nat.mod_lt (a + 1) (show 0 < m + 1 by omega)
    cases h3 : (a + 1) % (m + 1) with
    | zero => exact .inl ⟨rfl, Nat.zero_le _⟩
    | succ y => exact .inr ⟨y, by omega, rfl⟩
theorem within (v : Int) (m : Nat) (hm : m < 1000) {h : Heap} (hn : 1 ≤ h.next) : CS Tryz.prog noX 9 [.int .i64 v, .int .i64 (.ofNat (m + 1))] h (fun w h' => (∃ c, c ≤ m ∧ w = .int .i64 (.ofNat c)) ∧ h' = h) := by
  refine CS.still noXl (within0 v m hm) rfl rfl (sub0 hn) ?_
  rintro w H' ⟨⟨c, hc, rfl⟩, _⟩
  exact ⟨⟨c, hc, rfl⟩, rfl, fun n o e => (by have e : lget [] n = some o := e; cases e)⟩
end Go.Proofs.YtcnldppfncojkaaGreatDoor

/- ClusterErrors: the walk. -/
namespace Go.Proofs.YtcnldppfncojkaaGreatDoor
open Go Go.AM Go.AM.Sh
set_option maxRecDepth 100000
noncomputable abbrev C := callA mach 1000 100
noncomputable abbrev l1a : List BOper := [o 0 15 (s (sBuild (vcells ty28.zero) [(0, 1, (k 1)), (1, 1, (k 2))])), o 1 16 (s (sBslice (rep (vcells ty3.zero) 2) 2 [(0, 1, (k 3)), (1, 1, (k 1000))]))]
noncomputable abbrev l1b : List BOper := [o 3 14 (mv 17), o 4 18 (ex 14 0), o 5 19 (ex 14 1), o 6 7 (mv 18), o 7 8 (mv 19)]
noncomputable abbrev l6a : List BOper := [o 0 37 (mv 0)]
noncomputable abbrev l6b : List BOper := [o 3 9 (mv 39)]
noncomputable abbrev l10a : List BOper := [o 0 49 (mv 10), o 1 50 (mv 1)]
noncomputable abbrev l10b : List BOper := [o 4 11 (mv 52)]
noncomputable abbrev l11 : List BOper := [o 0 53 (mv 7), o 1 54 (mv 2), o 2 55 (s (sBuild (vcells ty92.zero) [(0, 1, (t 54))])), o 3 56 (.call (.func 22) [(t 53), (t 55)]), o 4 57 (s (sBin .eql (t 56) (k 1))), o 5 58 (mv 57), g 6 59 58 true (mv 7), g 7 60 58 true (mv 0), g 8 61 58 true (s (sBuild (vcells ty92.zero) [(0, 1, (k 4)), (1, 1, (t 60)), (2, 1, (k 1))])), g 9 62 58 true (.call (.func 22) [(t 59), (t 61)]), g 10 63 58 true (s (sBin .eql (t 62) (k 1))), o 11 64 (s (sPick (t 58) (t 63) (kb false))), o 12 65 (mv 64), g 13 66 65 true (mv 7), g 14 67 65 true (s (sBuild (vcells ty92.zero) [(0, 1, (k 4)), (2, 1, (k 0))])), g 15 68 65 true (.call (.func 22) [(t 66), (t 67)]), g 16 69 65 true (s (sBin .eql (t 68) (k 1))), o 17 70 (s (sPick (t 65) (t 69) (kb false))), o 18 71 (mv 70), g 19 72 71 true (mv 7), g 20 73 71 true (s (sBuild (vcells ty92.zero) [(0, 1, (k 4)), (2, 1, (k 1001))])), g 21 74 71 true (.call (.func 22) [(t 72), (t 73)]), g 22 75 71 true (s (sBin .eql (t 74) (k 1))), o 23 76 (s (sPick (t 71) (t 75) (kb false))), o 24 77 (mv 76), g 25 78 77 true (mv 7), g 26 79 77 true (mv 0), g 27 80 77 true (s (sBuild (vcells ty92.zero) [(0, 1, (k 7)), (1, 1, (t 79))])), g 28 81 77 true (.call (.func 22) [(t 78), (t 80)]), g 29 82 77 true (s (sBin .eql (t 81) (k 1))), o 30 83 (s (sPick (t 77) (t 82) (kb false))), o 31 84 (mv 83), g 32 85 84 true (mv 7), g 33 86 84 true (mv 0), g 34 87 84 true (s (sBuild (vcells ty92.zero) [(0, 1, (k 8)), (1, 1, (t 86))])), g 35 88 84 true (.call (.func 22) [(t 85), (t 87)]), g 36 89 84 true (s (sBin .eql (t 88) (k 1))), o 37 90 (s (sPick (t 84) (t 89) (kb false))), o 38 91 (mv 90), g 39 92 91 true (mv 7), g 40 93 91 true (mv 9), g 41 94 91 true (s (sBuild (vcells ty92.zero) [(0, 1, (k 5)), (1, 1, (t 93))])), g 42 95 91 true (.call (.func 22) [(t 92), (t 94)]), g 43 96 91 true (s (sBin .eql (t 95) (k 1))), o 44 97 (s (sPick (t 91) (t 96) (kb false))), o 45 98 (mv 97), g 46 99 98 true (mv 7), g 47 100 98 true (s (sBuild (vcells ty92.zero) [(0, 1, (k 5))])), g 48 101 98 true (.call (.func 22) [(t 99), (t 100)]), g 49 102 98 true (s (sBin .eql (t 101) (k 1))), o 50 103 (s (sPick (t 98) (t 102) (kb false))), o 51 104 (mv 103), g 52 105 104 true (mv 7), g 53 106 104 true (mv 9), g 54 107 104 true (s (sBuild (vcells ty92.zero) [(0, 1, (k 6)), (1, 1, (t 106)), (2, 1, (k 1))])), g 55 108 104 true (.call (.func 22) [(t 105), (t 107)]), g 56 109 104 true (s (sBin .eql (t 108) (k 1))), o 57 110 (s (sPick (t 104) (t 109) (kb false))), o 58 12 (mv 110)]
noncomputable abbrev l12a : List BOper := [o 0 111 (mv 7), o 1 112 (mv 11), o 2 113 (s (sBuild (vcells ty92.zero) [(0, 1, (k 1)), (2, 1, (t 112))])), o 3 114 (.call (.func 22) [(t 111), (t 113)]), o 4 115 (s (sBin .eql (t 114) (k 6))), o 5 116 (mv 115), g 6 117 116 true (mv 7), g 7 118 116 true (mv 1)]
noncomputable abbrev l12b : List BOper := [g 10 121 116 true (s (sBuild (vcells ty92.zero) [(0, 1, (k 2)), (2, 1, (t 120))])), g 11 122 116 true (.call (.func 22) [(t 117), (t 121)]), g 12 123 116 true (s (sBin .eql (t 122) (k 6))), o 13 124 (s (sPick (t 116) (t 123) (kb false))), o 14 125 (mv 124), g 15 126 125 true (mv 7), g 16 127 125 true (mv 11), g 17 128 125 true (s (sBuild (vcells ty92.zero) [(0, 1, (k 3)), (2, 1, (t 127))])), g 18 129 125 true (.call (.func 22) [(t 126), (t 128)]), g 19 130 125 true (s (sBin .eql (t 129) (k 6))), o 20 131 (s (sPick (t 125) (t 130) (kb false))), o 21 132 (mv 131), g 22 133 132 true (mv 7), g 23 134 132 true (s (sMkslice (vcells ty5.zero) 1 (k 257) (k 257))), g 24 135 132 true (s (sBuild (vcells ty92.zero) [(0, 1, (k 5)), (1, 1, (k 1)), (3, 1, (t 134))])), g 25 136 132 true (.call (.func 22) [(t 133), (t 135)]), g 26 137 132 true (s (sBin .eql (t 136) (k 7))), o 27 138 (s (sPick (t 132) (t 137) (kb false))), o 28 13 (mv 138)]
noncomputable abbrev l13a : List BOper := [o 0 139 (mv 12), o 1 140 (mv 139), g 2 141 140 true (mv 13), o 3 142 (s (sPick (t 140) (t 141) (kb false))), o 4 143 (mv 142), g 5 144 143 true (mv 7), g 6 145 143 true (.call (.func 23) [(t 144)]), g 7 146 143 true (s (sBin .eql (t 145) (k 0))), o 8 147 (s (sPick (t 143) (t 146) (kb false))), o 9 148 (mv 147), g 10 149 148 true (mv 7), g 11 150 148 true (.call (.func 20) [(t 149)]), g 12 151 148 true (.call (.func 21) [(t 150)]), g 13 152 148 true (mv 10), g 14 153 148 true (s (sBin .eql (t 151) (t 152))), o 15 154 (s (sPick (t 148) (t 153) (kb false))), o 16 155 (mv 154), g 17 156 155 true (mv 7), g 18 157 155 true (.call (.func 24) [(t 156), (k 0)]), g 19 158 155 true (s (sBin .eql (t 157) (k 0))), o 20 159 (s (sPick (t 155) (t 158) (kb false))), o 21 160 (mv 159), g 22 161 160 true (mv 7), g 23 162 160 true (.call (.func 24) [(t 161), (k (-3))]), g 24 163 160 true (s (sBin .eql (t 162) (k 0))), o 25 164 (s (sPick (t 160) (t 163) (kb false))), o 26 165 (mv 164)]
noncomputable abbrev l13b : List BOper := [o 28 167 (s (sPick (t 165) (t 166) (kb false))), o 29 6 (mv 167)]
noncomputable abbrev cS2 : BCode := .seq (.reg 11 [o 0 20 (mv 8), o 1 21 (s (sBin .neq (t 20) (k 0))), o 2 22 (mv 21), g 3 23 22 false (mv 7), g 4 24 22 false (s (sEqn false .p (t 23))), o 5 25 (s (sPick (t 22) (kb true) (t 24))), o 6 26 (mv 25), g 7 27 26 false (mv 7), g 8 28 26 false (.call (.func 20) [(t 27)]), g 9 29 26 false (s (sEqn false .p (t 28))), o 10 30 (s (sPick (t 26) (kb true) (t 29)))]) (.cond (t 30) (.seq (.reg 1 [o 0 6 (s (sMov (kb false)))]) .ret) .skip)
noncomputable abbrev cS4 : BCode := .seq (.reg 6 [o 0 31 (mv 0), o 1 32 (s (sBin .geq (t 31) (k 0))), o 2 33 (mv 32), g 3 34 33 true (mv 0), g 4 35 33 true (s (sBin .lss (t 34) (k 3))), o 5 36 (s (sPick (t 33) (t 35) (kb false)))]) (.cond (t 36) (.reg 1 [o 0 0 (s (sMov (k 3)))]) .skip)
noncomputable abbrev cS7 : BCode := .seq (.reg 6 [o 0 40 (mv 2), o 1 41 (s (sBin .geq (t 40) (k 1))), o 2 42 (mv 41), g 3 43 42 true (mv 2), g 4 44 42 true (s (sBin .leq (t 43) (k 9))), o 5 45 (s (sPick (t 42) (t 44) (kb false)))]) (.cond (t 45) (.reg 1 [o 0 2 (s (sMov (k 0)))]) .skip)
noncomputable abbrev cR9 : BCode := .reg 4 [o 0 46 (mv 7), o 1 47 (.call (.func 20) [(t 46)]), o 2 48 (.call (.func 21) [(t 47)]), o 3 10 (mv 48)]
noncomputable abbrev cR0 : BCode := .reg 1 [o 0 6 (s (sMov (kb false)))]
theorem b4_body : b4.body = .seq cR0 (.seq (.reg 8 (l1a ++ o 2 17 (.call (.func 19) [(t 15), (t 16)]) :: (l1b ++ []))) (.seq cS2 (.seq cS4 (.seq (.reg 4 (l6a ++ o 1 38 (.call (.func 9) [(t 37), (k 9)]) :: o 2 39 (s (sBin .add (k 2) (t 38))) :: (l6b ++ []))) (.seq cS7 (.seq cR9
  (.seq (.reg 5 (l10a ++ o 2 51 (.call (.func 9) [(t 50), (k 50)]) :: o 3 52 (s (sBin .add (t 49) (t 51))) :: (l10b ++ []))) (.seq (.reg 59 (l11 ++ [])) (.seq (.reg 29 (l12a ++ g 8 119 116 true (.call (.func 9) [(t 118), (k 9)]) :: g 9 120 116 true (s (sBin .sub (k (-1)) (t 119))) :: (l12b ++ []))) (.seq (.reg 30 (l13a ++ g 27 166 165 true (.call (.func 25) []) :: (l13b ++ []))) .ret)))))))))) := rfl
theorem wanted_put {T : Tr Value} {d g : Nat} {w : Bool} {v : Value} (h : d ≠ g) : wantedA (putA T (some d) v) (some (g, w)) = wantedA T (some (g, w)) := by
  show wantedA (T.put d v) _ = _
  simp only [wantedA, Tr.get_put, if_neg h]
theorem walk_gen (who n kind : Int) {T1 T2 T3 T4 T5 T6 : Tr Value} {H1 H2 H3 H4 H5 H6 : Heap} {T7 T8 T9 T10 : Nat → Tr Value} {H7 H8 H9 H10 : Nat → Heap} {T11 T12 T13 : Nat → Nat → Tr Value} {H11 H12 H13 : Nat → Nat → Heap} {T14 T15 T16 : Nat → Nat → Nat → Tr Value} {H14 H15 H16 : Nat → Nat → Nat → Heap} {x : Int}
    (q1 : codeA C 50 cR0 (argsT [.int .i64 who, .int .i64 n, .int .i64 kind] 0 (.tip [])) h0 = some (.normal, T1, H1))
    (q2 : regA C H1.next l1a T1 { next := Nat.add H1.next 8, tab := H1.tab } = some (T2, H2))
    (q2c : comesTo (C 19 [evA T2 (t 15), evA T2 (t 16)] H2) nc_v nc_h = true)
    (q3 : regA C H1.next l1b (putA T2 (some 17) nc_v) nc_h = some (T3, H3))
    (q4 : codeA C 500 cS2 T3 H3 = some (.normal, T4, H4))
    (q5 : ∀ nt, CodeS Tryz.prog noX ty nt cS4 T4 H4 fun e T h => e = .normal ∧ T = T5 ∧ h = H5)
    (q6 : regA C H5.next l6a T5 { next := Nat.add H5.next 4, tab := H5.tab } = some (T6, H6))
    (q6b : 1 ≤ H6.next) (q6c : evA T6 (t 37) = .int .i64 x)
    (q7 : ∀ c1, regA C H5.next l6b (putA (putA T6 (some 38) (.int .i64 (.ofNat c1))) (some 39) (.int .i64 (.ofNat (c1 + 2)))) H6 = some (T7 c1, H7 c1))
    (q8 : ∀ nt c1, CodeS Tryz.prog noX ty nt cS7 (T7 c1) (H7 c1) fun e T h => e = .normal ∧ T = T8 c1 ∧ h = H8 c1)
    (q9 : ∀ c1, codeA C 500 cR9 (T8 c1) (H8 c1) = some (.normal, T9 c1, H9 c1))
    (q10 : ∀ c1, regA C (H9 c1).next l10a (T9 c1) { next := Nat.add (H9 c1).next 5, tab := (H9 c1).tab } = some (T10 c1, H10 c1))
    (q10b : ∀ c1, 1 ≤ (H10 c1).next) (q10c : ∀ c1, evA (T10 c1) (t 50) = .int .i64 n) (q10d : ∀ c1, evA (T10 c1) (t 49) = .int .i64 (.ofNat 3))
    (q11 : ∀ c1 c2, regA C (H9 c1).next l10b (putA (putA (T10 c1) (some 51) (.int .i64 (.ofNat c2))) (some 52) (.int .i64 (.ofNat (c2 + 3)))) (H10 c1) = some (T11 c1 c2, H11 c1 c2))
    (q12 : ∀ c1 c2, regA C (H11 c1 c2).next l11 (T11 c1 c2) { next := Nat.add (H11 c1 c2).next 59, tab := (H11 c1 c2).tab } = some (T12 c1 c2, H12 c1 c2))
    (q13 : ∀ c1 c2, regA C (H12 c1 c2).next l12a (T12 c1 c2) { next := Nat.add (H12 c1 c2).next 29, tab := (H12 c1 c2).tab } = some (T13 c1 c2, H13 c1 c2))
    (q13a : ∀ c1 c2, wantedA (T13 c1 c2) (some (116, true)) = true) (q13b : ∀ c1 c2, 1 ≤ (H13 c1 c2).next) (q13c : ∀ c1 c2, evA (T13 c1 c2) (t 118) = .int .i64 n)
    (q14 : ∀ c1 c2 c3, regA C (H12 c1 c2).next l12b (putA (putA (T13 c1 c2) (some 119) (.int .i64 (.ofNat c3))) (some 120) (.int .i64 (.negSucc c3))) (H13 c1 c2) = some (T14 c1 c2 c3, H14 c1 c2 c3))
    (q15 : ∀ c1 c2 c3, regA C (H14 c1 c2 c3).next l13a (T14 c1 c2 c3) { next := Nat.add (H14 c1 c2 c3).next 30, tab := (H14 c1 c2 c3).tab } = some (T15 c1 c2 c3, H15 c1 c2 c3))
    (q15a : ∀ c1 c2 c3, wantedA (T15 c1 c2 c3) (some (165, true)) = true) (q15b : ∀ c1 c2 c3, 1 ≤ (H15 c1 c2 c3).next)
    (q16 : ∀ c1 c2 c3, regA C (H14 c1 c2 c3).next l13b (putA (T15 c1 c2 c3) (some 166) (.bool true)) (H15 c1 c2 c3) = some (T16 c1 c2 c3, H16 c1 c2 c3))
    (q17 : ∀ c1 c2 c3, resL (H16 c1 c2 c3) (T16 c1 c2 c3) b4.res = some [.bool true]) : CS Tryz.prog noX 4 [.int .i64 who, .int .i64 n, .int .i64 kind] h0 (fun v _ => v = .bool true) := by
  have hcl : CallOk Tryz.prog noX C := cl 1000 100
  refine CS.body pf Tryz.func4 bok4 (by kernel_rfl) (fun nt => ?_)
  rw [b4_body]
  refine CodeS.seq ((CodeS.run pf deep noXl mixed hcl q1).mono ?_)
  rintro e T g ⟨rfl, rfl, rfl⟩
  refine CodeS.seq (CodeS.reg (RegS.run pf deep noXl hcl _ q2 ?_))
  refine RegS.callF (g := 19) (argv := [evA T2 (t 15), evA T2 (t 16)]) pf deep noXl rfl rfl rfl (CS.comes hcl q2c) ?_
  rintro v h ⟨rfl, rfl⟩
  refine RegS.run pf deep noXl hcl _ q3 (RegS.nil ?_)
  refine CodeS.seq ((CodeS.run pf deep noXl mixed hcl q4).mono ?_)
  rintro e T g ⟨rfl, rfl, rfl⟩
  refine CodeS.seq ((q5 nt).mono ?_)
  rintro e T g ⟨rfl, rfl, rfl⟩
  refine CodeS.seq (CodeS.reg (RegS.run pf deep noXl hcl _ q6 ?_))
  refine RegS.callF (g := 9) (argv := [.int .i64 x, .int .i64 (.ofNat (8 + 1))]) pf deep noXl rfl rfl (congrArg (fun y => [y, Value.int .i64 9]) q6c) (within x 8 (by omega) q6b) ?_
  rintro v h ⟨⟨c1, hc1, rfl⟩, rfl⟩
  refine RegS.simp (v := .int .i64 (.ofNat (c1 + 2))) (ob := none) pf deep noXl rfl rfl ?_ ?_
  · have h3 : ∀ T : Tr Value, ∀ nm lk, evA T (t 38) = .int .i64 (.ofNat c1) → sBin .add (k 2) (t 38) nm (evA T) lk = some (.int .i64 (wrapF .i64 (Int.add 2 (.ofNat c1))), none) := fun T nm lk h => by
      show val (binV .add (.int .i64 2) (evA T (t 38))) = _
      rw [h]; rfl
    have h4 : Int.add 2 (.ofNat c1) = .ofNat (c1 + 2) := by
      show (2 : Int) + Int.ofNat c1 = Int.ofNat (c1 + 2)
      simp only [Int.ofNat_eq_natCast]; omega
    have h5 := fun nm lk => h3 (putA T6 (some 38) (.int .i64 (.ofNat c1))) nm lk (by
      show evA (putA _ (some 38) _) (.tmp 38) = _
      rw [evA_putA, if_pos rfl])
    rw [h4, wrap_small (by omega)] at h5
    exact h5 _ _
  refine RegS.run pf deep noXl hcl _ (q7 c1) (RegS.nil ?_)
  refine CodeS.seq ((q8 nt c1).mono ?_)
  rintro e T g ⟨rfl, rfl, rfl⟩
  refine CodeS.seq ((CodeS.run pf deep noXl mixed hcl (q9 c1)).mono ?_)
  rintro e T g ⟨rfl, rfl, rfl⟩
  refine CodeS.seq (CodeS.reg (RegS.run pf deep noXl hcl _ (q10 c1) ?_))
  refine RegS.callF (g := 9) (argv := [.int .i64 n, .int .i64 (.ofNat (49 + 1))]) pf deep noXl rfl rfl (congrArg (fun y => [y, Value.int .i64 50]) (q10c c1)) (within n 49 (by omega) (q10b c1)) ?_
  rintro v h ⟨⟨c2, hc2, rfl⟩, rfl⟩
  refine RegS.simp (v := .int .i64 (.ofNat (c2 + 3))) (ob := none) pf deep noXl rfl rfl ?_ ?_
  · have h3 : ∀ T : Tr Value, ∀ nm lk, evA T (t 49) = .int .i64 (.ofNat 3) → evA T (t 51) = .int .i64 (.ofNat c2) → sBin .add (t 49) (t 51) nm (evA T) lk = some (.int .i64 (wrapF .i64 (Int.add (.ofNat 3) (.ofNat c2))), none) := fun T nm lk h h' => by
      show val (binV .add (evA T (t 49)) (evA T (t 51))) = _
      rw [h, h']; rfl
    have h4 : Int.add (.ofNat 3) (.ofNat c2) = .ofNat (c2 + 3) := by
      show Int.ofNat 3 + Int.ofNat c2 = Int.ofNat (c2 + 3)
      simp only [Int.ofNat_eq_natCast]; omega
    have h5 := fun nm lk => h3 (putA (T10 c1) (some 51) (.int .i64 (.ofNat c2))) nm lk (by
      show evA (putA _ (some 51) _) (.tmp 49) = _
      rw [evA_putA, if_neg (by simp)]; exact q10d c1) (by
      show evA (putA _ (some 51) _) (.tmp 51) = _
      rw [evA_putA, if_pos rfl])
    rw [h4, wrap_small (by omega)] at h5
    exact h5 _ _
  refine RegS.run pf deep noXl hcl _ (q11 c1 c2) (RegS.nil ?_)
  refine CodeS.seq (CodeS.reg (RegS.run pf deep noXl hcl _ (q12 c1 c2) (RegS.nil ?_)))
  refine CodeS.seq (CodeS.reg (RegS.run pf deep noXl hcl _ (q13 c1 c2) ?_))
  refine RegS.callF (g := 9) (argv := [.int .i64 n, .int .i64 (.ofNat (8 + 1))]) pf deep noXl (q13a c1 c2) rfl (congrArg (fun y => [y, Value.int .i64 9]) (q13c c1 c2)) (within n 8 (by omega) (q13b c1 c2)) ?_
  rintro v h ⟨⟨c3, hc3, rfl⟩, rfl⟩
  refine RegS.simp (v := .int .i64 (.negSucc c3)) (ob := none) pf deep noXl ((wanted_put (by decide)).trans (q13a c1 c2)) rfl ?_ ?_
  · have h3 : ∀ T : Tr Value, ∀ nm lk, evA T (t 119) = .int .i64 (.ofNat c3) → sBin .sub (k (-1)) (t 119) nm (evA T) lk = some (.int .i64 (wrapF .i64 (Int.sub (-1) (.ofNat c3))), none) := fun T nm lk h => by
      show val (binV .sub (.int .i64 (-1)) (evA T (t 119))) = _
      rw [h]; rfl
    have h4 : Int.sub (-1) (.ofNat c3) = .negSucc c3 := by
      show (-1 : Int) - Int.ofNat c3 = Int.negSucc c3
      simp only [Int.ofNat_eq_natCast, Int.negSucc_eq]; omega
    have h6 : wrapF .i64 (.negSucc c3) = .negSucc c3 := by
      show (match IntKind.signed .i64 && Nat.blt c3 9223372036854775808 with | true => Int.negSucc c3 | false => _) = _
      rw [show Nat.blt c3 9223372036854775808 = true from by rw [Nat.blt_eq]; omega]
      rfl
    have h5 := fun nm lk => h3 (putA (T13 c1 c2) (some 119) (.int .i64 (.ofNat c3))) nm lk (by
      show evA (putA _ (some 119) _) (.tmp 119) = _
      rw [evA_putA, if_pos rfl])
    rw [h4, h6] at h5
    exact h5 _ _
  refine RegS.run pf deep noXl hcl _ (q14 c1 c2 c3) (RegS.nil ?_)
  refine CodeS.seq (CodeS.reg (RegS.run pf deep noXl hcl _ (q15 c1 c2 c3) ?_))
  refine RegS.callF (g := 25) (argv := []) pf deep noXl (q15a c1 c2 c3) rfl rfl (wk (q15b c1 c2 c3)) ?_
  rintro v h ⟨rfl, rfl⟩
  refine RegS.run pf deep noXl hcl _ (q16 c1 c2 c3) (RegS.nil ?_)
  exact CodeS.ret ⟨.inr rfl, _, q17 c1 c2 c3, rfl⟩
end Go.Proofs.YtcnldppfncojkaaGreatDoor

/- ClusterErrors: the classes of inputs. -/
namespace Go.Proofs.YtcnldppfncojkaaGreatDoor
open Go Go.AM Go.AM.Sh
set_option maxRecDepth 100000
abbrev S1 := Option (Ex × Tr Value × Heap)
abbrev S2 := Option (Tr Value × Heap)
noncomputable def e1 (who n kind : Int) : S1 := codeA C 50 cR0 (argsT [.int .i64 who, .int .i64 n, .int .i64 kind] 0 (.tip [])) h0
noncomputable def e2 (r : S1) : S2 := regA C (hOf r).next l1a (tOf r) { next := Nat.add (hOf r).next 8, tab := (hOf r).tab }
noncomputable def e3 (r : S1) (r2 : S2) : S2 := regA C (hOf r).next l1b (putA (tR r2) (some 17) nc_v) nc_h
noncomputable def e4 (r : S2) : S1 := codeA C 500 cS2 (tR r) (hR r)
/-- the state ahead of region 4 -/
noncomputable def s4 (who n kind : Int) : S1 := e4 (e3 (e1 who n kind) (e2 (e1 who n kind)))
noncomputable def e5 (r : S1) : S1 := codeA C 500 cS4 (tOf r) (hOf r)
/-- region 4, where who is 0, 1 or 2 -/
noncomputable def m1 (r : S1) : S2 := regA C (hOf r).next [o 0 31 (mv 0)] (tOf r) { next := Nat.add (hOf r).next 6, tab := (hOf r).tab }
noncomputable def m2 (r : S1) : S2 := regA C (hOf r).next [o 2 33 (mv 32), g 3 34 33 true (mv 0)] (putA (tR (m1 r)) (some 32) (.bool true)) (hR (m1 r))
noncomputable def m3 (r : S1) : S2 := regA C (hOf r).next [o 5 36 (s (sPick (t 33) (t 35) (kb false)))] (putA (tR (m2 r)) (some 35) (.bool true)) (hR (m2 r))
noncomputable def m4 (r : S1) : S1 := codeA C 500 (.reg 1 [o 0 0 (s (sMov (k 3)))]) (tR (m3 r)) (hR (m3 r))
noncomputable def e6 (r : S1) : S2 := regA C (hOf r).next l6a (tOf r) { next := Nat.add (hOf r).next 4, tab := (hOf r).tab }
noncomputable def e7 (r : S1) (c1 : Nat) : S2 := regA C (hOf r).next l6b (putA (putA (tR (e6 r)) (some 38) (.int .i64 (.ofNat c1))) (some 39) (.int .i64 (.ofNat (c1 + 2)))) (hR (e6 r))
noncomputable def e8 (r : S2) : S1 := codeA C 500 cS7 (tR r) (hR r)
/-- region 7, where kind is one of 1 .. 9 -/
noncomputable def n1 (r : S2) : S2 := regA C (hR r).next [o 0 40 (mv 2)] (tR r) { next := Nat.add (hR r).next 6, tab := (hR r).tab }
noncomputable def n2 (r : S2) : S2 := regA C (hR r).next [o 2 42 (mv 41), g 3 43 42 true (mv 2)] (putA (tR (n1 r)) (some 41) (.bool true)) (hR (n1 r))
noncomputable def n3 (r : S2) : S2 := regA C (hR r).next [o 5 45 (s (sPick (t 42) (t 44) (kb false)))] (putA (tR (n2 r)) (some 44) (.bool true)) (hR (n2 r))
noncomputable def n4 (r : S2) : S1 := codeA C 500 (.reg 1 [o 0 2 (s (sMov (k 0)))]) (tR (n3 r)) (hR (n3 r))
/-- region 7, where kind is more than 9 -/
noncomputable def e9 (r : S1) : S1 := codeA C 500 cR9 (tOf r) (hOf r)
noncomputable def e10 (r : S1) : S2 := regA C (hOf r).next l10a (tOf r) { next := Nat.add (hOf r).next 5, tab := (hOf r).tab }
noncomputable def e11 (r : S1) (c2 : Nat) : S2 := regA C (hOf r).next l10b (putA (putA (tR (e10 r)) (some 51) (.int .i64 (.ofNat c2))) (some 52) (.int .i64 (.ofNat (c2 + 3)))) (hR (e10 r))
noncomputable def e12 (r : S2) : S2 := regA C (hR r).next l11 (tR r) { next := Nat.add (hR r).next 59, tab := (hR r).tab }
noncomputable def e13 (r : S2) : S2 := regA C (hR r).next l12a (tR r) { next := Nat.add (hR r).next 29, tab := (hR r).tab }
noncomputable def e14 (r : S2) (c3 : Nat) : S2 := regA C (hR r).next l12b (putA (putA (tR (e13 r)) (some 119) (.int .i64 (.ofNat c3))) (some 120) (.int .i64 (.negSucc c3))) (hR (e13 r))
noncomputable def e15 (r : S2) : S2 := regA C (hR r).next l13a (tR r) { next := Nat.add (hR r).next 30, tab := (hR r).tab }
noncomputable def e16 (r : S2) : S2 := regA C (hR r).next l13b (putA (tR (e15 r)) (some 166) (.bool true)) (hR (e15 r))
noncomputable def isT (l : Option (List Value)) : Bool := match l with
  | some [.bool true] => true
  | _ => false
theorem isT_eq {l : Option (List Value)} (h : isT l = true) : l = some [.bool true] := by
  unfold isT at h
  split at h
  · rfl
  · cases h
/-- all looks behind region 7 but three -/
noncomputable def tailOk (r8 : S1) (c2 c3 : Nat) : Bool :=
  isNormal (e9 r8) && isR (e10 (e9 r8)) && Nat.ble 1 (hR (e10 (e9 r8))).next && isR (e11 (e9 r8) c2) && isR (e12 (e11 (e9 r8) c2)) && isR (e13 (e12 (e11 (e9 r8) c2))) &&
  wantedA (tR (e13 (e12 (e11 (e9 r8) c2)))) (some (116, true)) && Nat.ble 1 (hR (e13 (e12 (e11 (e9 r8) c2)))).next && isR (e14 (e12 (e11 (e9 r8) c2)) c3) &&
  isR (e15 (e14 (e12 (e11 (e9 r8) c2)) c3)) && wantedA (tR (e15 (e14 (e12 (e11 (e9 r8) c2)) c3))) (some (165, true)) && Nat.ble 1 (hR (e15 (e14 (e12 (e11 (e9 r8) c2)) c3))).next &&
  isR (e16 (e14 (e12 (e11 (e9 r8) c2)) c3)) && isT (resL (hR (e16 (e14 (e12 (e11 (e9 r8) c2)) c3))) (tR (e16 (e14 (e12 (e11 (e9 r8) c2)) c3))) b4.res)
theorem new_c {who n kind : Int} (h1 : evA (tR (e2 (e1 who n kind))) (t 15) = .agg #[i 1, i 2]) (h2 : evA (tR (e2 (e1 who n kind))) (t 16) = .slice (some ⟨3, 0, none⟩) 2 2) (h3 : hR (e2 (e1 who n kind)) = { next := 10, tab := (Tr.tip []).set 3 (.cells [i 3, i 1000] .row) }) :
    comesTo (C 19 [evA (tR (e2 (e1 who n kind))) (t 15), evA (tR (e2 (e1 who n kind))) (t 16)] (hR (e2 (e1 who n kind)))) nc_v nc_h = true := by
  rw [h1, h2, h3]
  exact nc_run
theorem all (who n kind : Int) (r5 : S1) (r8 : Nat → S1) (x : Int) (p1 : isNormal (e1 who n kind) = true) (p2 : isR (e2 (e1 who n kind)) = true)
    (p2c : comesTo (C 19 [evA (tR (e2 (e1 who n kind))) (t 15), evA (tR (e2 (e1 who n kind))) (t 16)] (hR (e2 (e1 who n kind)))) nc_v nc_h = true)
    (p3 : isR (e3 (e1 who n kind) (e2 (e1 who n kind))) = true) (p4 : isNormal (s4 who n kind) = true)
    (p5 : ∀ nt, CodeS Tryz.prog noX ty nt cS4 (tOf (s4 who n kind)) (hOf (s4 who n kind)) fun e T h => e = .normal ∧ T = tOf r5 ∧ h = hOf r5)
    (p6 : isR (e6 r5) = true) (p6b : 1 ≤ (hR (e6 r5)).next) (p6c : evA (tR (e6 r5)) (t 37) = .int .i64 x) (p7 : ∀ c1, isR (e7 r5 c1) = true)
    (p8 : ∀ nt c1, CodeS Tryz.prog noX ty nt cS7 (tR (e7 r5 c1)) (hR (e7 r5 c1)) fun e T h => e = .normal ∧ T = tOf (r8 c1) ∧ h = hOf (r8 c1))
    (p9 : ∀ c1 c2 c3, tailOk (r8 c1) c2 c3 = true) (p10c : ∀ c1, evA (tR (e10 (e9 (r8 c1)))) (t 50) = .int .i64 n) (p10d : ∀ c1, evA (tR (e10 (e9 (r8 c1)))) (t 49) = .int .i64 (.ofNat 3))
    (p13c : ∀ c1 c2, evA (tR (e13 (e12 (e11 (e9 (r8 c1)) c2)))) (t 118) = .int .i64 n) : CS Tryz.prog noX 4 [.int .i64 who, .int .i64 n, .int .i64 kind] h0 (fun v _ => v = .bool true) := by
  have p9' := p9
  simp only [tailOk, Bool.and_eq_true] at p9'
  exact walk_gen who n kind (T1 := tOf (e1 who n kind)) (H1 := hOf (e1 who n kind)) (T2 := tR (e2 (e1 who n kind))) (H2 := hR (e2 (e1 who n kind))) (T3 := tR (e3 (e1 who n kind) (e2 (e1 who n kind)))) (H3 := hR (e3 (e1 who n kind) (e2 (e1 who n kind))))
    (T4 := tOf (s4 who n kind)) (H4 := hOf (s4 who n kind)) (T5 := tOf r5) (H5 := hOf r5) (T6 := tR (e6 r5)) (H6 := hR (e6 r5)) (T7 := fun c => tR (e7 r5 c)) (H7 := fun c => hR (e7 r5 c)) (T8 := fun c => tOf (r8 c)) (H8 := fun c => hOf (r8 c))
    (T9 := fun c => tOf (e9 (r8 c))) (H9 := fun c => hOf (e9 (r8 c))) (T10 := fun c => tR (e10 (e9 (r8 c)))) (H10 := fun c => hR (e10 (e9 (r8 c)))) (T11 := fun c d => tR (e11 (e9 (r8 c)) d)) (H11 := fun c d => hR (e11 (e9 (r8 c)) d))
    (T12 := fun c d => tR (e12 (e11 (e9 (r8 c)) d))) (H12 := fun c d => hR (e12 (e11 (e9 (r8 c)) d))) (T13 := fun c d => tR (e13 (e12 (e11 (e9 (r8 c)) d)))) (H13 := fun c d => hR (e13 (e12 (e11 (e9 (r8 c)) d))))
    (T14 := fun c d f => tR (e14 (e12 (e11 (e9 (r8 c)) d)) f)) (H14 := fun c d f => hR (e14 (e12 (e11 (e9 (r8 c)) d)) f)) (T15 := fun c d f => tR (e15 (e14 (e12 (e11 (e9 (r8 c)) d)) f))) (H15 := fun c d f => hR (e15 (e14 (e12 (e11 (e9 (r8 c)) d)) f)))
    (T16 := fun c d f => tR (e16 (e14 (e12 (e11 (e9 (r8 c)) d)) f))) (H16 := fun c d f => hR (e16 (e14 (e12 (e11 (e9 (r8 c)) d)) f)))
    (some_normal p1) (some_reg p2) p2c (some_reg p3) (some_normal p4) p5 (some_reg p6) p6b p6c (fun c => some_reg (p7 c)) p8 (fun c => some_normal (p9' c 0 0).1.1.1.1.1.1.1.1.1.1.1.1.1) (fun c => some_reg (p9' c 0 0).1.1.1.1.1.1.1.1.1.1.1.1.2) (fun c => Nat.le_of_ble_eq_true (p9' c 0 0).1.1.1.1.1.1.1.1.1.1.1.2) p10c p10d
    (fun c d => some_reg (p9' c d 0).1.1.1.1.1.1.1.1.1.1.2) (fun c d => some_reg (p9' c d 0).1.1.1.1.1.1.1.1.1.2) (fun c d => some_reg (p9' c d 0).1.1.1.1.1.1.1.1.2) (fun c d => (p9' c d 0).1.1.1.1.1.1.1.2) (fun c d => Nat.le_of_ble_eq_true (p9' c d 0).1.1.1.1.1.1.2) p13c
    (fun c d f => some_reg (p9' c d f).1.1.1.1.1.2) (fun c d f => some_reg (p9' c d f).1.1.1.1.2) (fun c d f => (p9' c d f).1.1.1.2) (fun c d f => Nat.le_of_ble_eq_true (p9' c d f).1.1.2) (fun c d f => some_reg (p9' c d f).1.2) (fun c d f => isT_eq (p9' c d f).2)
end Go.Proofs.YtcnldppfncojkaaGreatDoor

/- ClusterErrors: all inputs. -/
namespace Go.Proofs.YtcnldppfncojkaaGreatDoor
open Go Go.AM Go.AM.Sh
set_option maxRecDepth 100000
theorem run5 {r : S1} (h : isNormal (e5 r) = true) : ∀ nt, CodeS Tryz.prog noX ty nt cS4 (tOf r) (hOf r) fun e T h => e = .normal ∧ T = tOf (e5 r) ∧ h = hOf (e5 r) :=
  fun _ => CodeS.run pf deep noXl mixed (cl 1000 100) (some_normal h)
theorem run8 {r : S2} (h : isNormal (e8 r) = true) : ∀ nt, CodeS Tryz.prog noX ty nt cS7 (tR r) (hR r) fun e T h => e = .normal ∧ T = tOf (e8 r) ∧ h = hOf (e8 r) :=
  fun _ => CodeS.run pf deep noXl mixed (cl 1000 100) (some_normal h)
theorem geq_val {x : Opd} {a b : Int} {T : Tr Value} {nm : Nat} {lk : Look} (h : evA T x = .int .i64 a) (hab : b ≤ a) : sBin .geq x (k b) nm (evA T) lk = some (.bool true, none) := by
  show val (binV .geq (evA T x) (.int .i64 b)) = _
  rw [h]
  show val (some (.bool (!ltI a b))) = _
  rw [ltI_eq, decide_eq_false (by omega)]
  rfl
theorem lss_val {x : Opd} {a b : Int} {T : Tr Value} {nm : Nat} {lk : Look} (h : evA T x = .int .i64 a) (hab : a < b) : sBin .lss x (k b) nm (evA T) lk = some (.bool true, none) := by
  show val (binV .lss (evA T x) (.int .i64 b)) = _
  rw [h]
  show val (some (.bool (ltI a b))) = _
  rw [ltI_eq, decide_eq_true hab]
  rfl
theorem leq_val {x : Opd} {a b : Int} {T : Tr Value} {nm : Nat} {lk : Look} (h : evA T x = .int .i64 a) (hab : a ≤ b) : sBin .leq x (k b) nm (evA T) lk = some (.bool true, none) := by
  show val (binV .leq (evA T x) (.int .i64 b)) = _
  rw [h]
  show val (some (.bool (!ltI b a))) = _
  rw [ltI_eq, decide_eq_false (by omega)]
  rfl
theorem mid5 {who : Int} (hw : 0 ≤ who ∧ who < 3) {r : S1} (p1 : isR (m1 r) = true) (v1 : evA (tR (m1 r)) (t 31) = .int .i64 who) (p2 : isR (m2 r) = true) (v2 : evA (tR (m2 r)) (t 34) = .int .i64 who) (g2 : wantedA (tR (m2 r)) (some (33, true)) = true)
    (p3 : isR (m3 r) = true) (v3 : evA (tR (m3 r)) (t 36) = .bool true) (p4 : isNormal (m4 r) = true) : ∀ nt, CodeS Tryz.prog noX ty nt cS4 (tOf r) (hOf r) fun e T h => e = .normal ∧ T = tOf (m4 r) ∧ h = hOf (m4 r) := by
  intro nt
  have hcl := cl 1000 100
  have hc : cS4 = .seq (.reg 6 ([o 0 31 (mv 0)] ++ o 1 32 (s (sBin .geq (t 31) (k 0))) :: ([o 2 33 (mv 32), g 3 34 33 true (mv 0)] ++ g 4 35 33 true (s (sBin .lss (t 34) (k 3))) :: ([o 5 36 (s (sPick (t 33) (t 35) (kb false)))] ++ [])))) (.cond (t 36) (.reg 1 [o 0 0 (s (sMov (k 3)))]) .skip) := rfl
  rw [hc]
  refine CodeS.seq (CodeS.reg (RegS.run pf deep noXl hcl _ (some_reg p1) ?_))
  refine RegS.simp (v := .bool true) (ob := none) pf deep noXl rfl rfl (geq_val v1 hw.1) ?_
  refine RegS.run pf deep noXl hcl _ (some_reg p2) ?_
  refine RegS.simp (v := .bool true) (ob := none) pf deep noXl g2 rfl (lss_val v2 hw.2) ?_
  refine RegS.run pf deep noXl hcl _ (some_reg p3) (RegS.nil ?_)
  exact CodeS.cond (b := true) v3 (CodeS.run pf deep noXl mixed hcl (some_normal p4))
theorem mid8 {kind : Int} (hk : 1 ≤ kind ∧ kind ≤ 9) {r : S2} (p1 : isR (n1 r) = true) (v1 : evA (tR (n1 r)) (t 40) = .int .i64 kind) (p2 : isR (n2 r) = true) (v2 : evA (tR (n2 r)) (t 43) = .int .i64 kind) (g2 : wantedA (tR (n2 r)) (some (42, true)) = true)
    (p3 : isR (n3 r) = true) (v3 : evA (tR (n3 r)) (t 45) = .bool true) (p4 : isNormal (n4 r) = true) : ∀ nt, CodeS Tryz.prog noX ty nt cS7 (tR r) (hR r) fun e T h => e = .normal ∧ T = tOf (n4 r) ∧ h = hOf (n4 r) := by
  intro nt
  have hcl := cl 1000 100
  have hc : cS7 = .seq (.reg 6 ([o 0 40 (mv 2)] ++ o 1 41 (s (sBin .geq (t 40) (k 1))) :: ([o 2 42 (mv 41), g 3 43 42 true (mv 2)] ++ g 4 44 42 true (s (sBin .leq (t 43) (k 9))) :: ([o 5 45 (s (sPick (t 42) (t 44) (kb false)))] ++ [])))) (.cond (t 45) (.reg 1 [o 0 2 (s (sMov (k 0)))]) .skip) := rfl
  rw [hc]
  refine CodeS.seq (CodeS.reg (RegS.run pf deep noXl hcl _ (some_reg p1) ?_))
  refine RegS.simp (v := .bool true) (ob := none) pf deep noXl rfl rfl (geq_val v1 hk.1) ?_
  refine RegS.run pf deep noXl hcl _ (some_reg p2) ?_
  refine RegS.simp (v := .bool true) (ob := none) pf deep noXl g2 rfl (leq_val v2 hk.2) ?_
  refine RegS.run pf deep noXl hcl _ (some_reg p3) (RegS.nil ?_)
  exact CodeS.cond (b := true) v3 (CodeS.run pf deep noXl mixed hcl (some_normal p4))
theorem caa (m : Nat) (j : Nat) (n : Int) : CS Tryz.prog noX 4 [.int .i64 (.negSucc m), .int .i64 n, .int .i64 (.negSucc j)] h0 (fun v _ => v = .bool true) :=
  all (.negSucc m) n (.negSucc j) (e5 (s4 (.negSucc m) n (.negSucc j))) (fun c => e8 (e7 (e5 (s4 (.negSucc m) n (.negSucc j))) c)) (.negSucc m) (by kernel_rfl) (by kernel_rfl) (new_c (by kernel_rfl) (by kernel_rfl) (by kernel_rfl)) (by kernel_rfl) (by kernel_rfl) (run5 (by kernel_rfl)) (by kernel_rfl) (Nat.le_of_ble_eq_true (by kernel_rfl)) (by kernel_rfl) (fun _ => by kernel_rfl) (fun nt _ => run8 (by kernel_rfl) nt) (fun _ _ _ => by kernel_rfl) (fun _ => by kernel_rfl) (fun _ => by kernel_rfl) (fun _ _ => by kernel_rfl)
theorem cab (m : Nat)  (n : Int) : CS Tryz.prog noX 4 [.int .i64 (.negSucc m), .int .i64 n, .int .i64 (.ofNat 0)] h0 (fun v _ => v = .bool true) :=
  all (.negSucc m) n (.ofNat 0) (e5 (s4 (.negSucc m) n (.ofNat 0))) (fun c => e8 (e7 (e5 (s4 (.negSucc m) n (.ofNat 0))) c)) (.negSucc m) (by kernel_rfl) (by kernel_rfl) (new_c (by kernel_rfl) (by kernel_rfl) (by kernel_rfl)) (by kernel_rfl) (by kernel_rfl) (run5 (by kernel_rfl)) (by kernel_rfl) (Nat.le_of_ble_eq_true (by kernel_rfl)) (by kernel_rfl) (fun _ => by kernel_rfl) (fun nt _ => run8 (by kernel_rfl) nt) (fun _ _ _ => by kernel_rfl) (fun _ => by kernel_rfl) (fun _ => by kernel_rfl) (fun _ _ => by kernel_rfl)
theorem cac (m : Nat) (j : Int) (hj : 1 ≤ j ∧ j ≤ 9) (n : Int) : CS Tryz.prog noX 4 [.int .i64 (.negSucc m), .int .i64 n, .int .i64 j] h0 (fun v _ => v = .bool true) :=
  all (.negSucc m) n j (e5 (s4 (.negSucc m) n j)) (fun c => n4 (e7 (e5 (s4 (.negSucc m) n j)) c)) (.negSucc m) (by kernel_rfl) (by kernel_rfl) (new_c (by kernel_rfl) (by kernel_rfl) (by kernel_rfl)) (by kernel_rfl) (by kernel_rfl) (run5 (by kernel_rfl)) (by kernel_rfl) (Nat.le_of_ble_eq_true (by kernel_rfl)) (by kernel_rfl) (fun _ => by kernel_rfl) (fun nt _ => mid8 hj (by kernel_rfl) (by kernel_rfl) (by kernel_rfl) (by kernel_rfl) (by kernel_rfl) (by kernel_rfl) (by kernel_rfl) (by kernel_rfl) nt) (fun _ _ _ => by kernel_rfl) (fun _ => by kernel_rfl) (fun _ => by kernel_rfl) (fun _ _ => by kernel_rfl)
theorem cad (m : Nat) (j : Nat) (n : Int) : CS Tryz.prog noX 4 [.int .i64 (.negSucc m), .int .i64 n, .int .i64 (.ofNat (j + 10))] h0 (fun v _ => v = .bool true) :=
  all (.negSucc m) n (.ofNat (j + 10)) (e5 (s4 (.negSucc m) n (.ofNat (j + 10)))) (fun c => e8 (e7 (e5 (s4 (.negSucc m) n (.ofNat (j + 10)))) c)) (.negSucc m) (by kernel_rfl) (by kernel_rfl) (new_c (by kernel_rfl) (by kernel_rfl) (by kernel_rfl)) (by kernel_rfl) (by kernel_rfl) (run5 (by kernel_rfl)) (by kernel_rfl) (Nat.le_of_ble_eq_true (by kernel_rfl)) (by kernel_rfl) (fun _ => by kernel_rfl) (fun nt _ => run8 (by kernel_rfl) nt) (fun _ _ _ => by kernel_rfl) (fun _ => by kernel_rfl) (fun _ => by kernel_rfl) (fun _ _ => by kernel_rfl)
theorem cba (m : Int) (hm : 0 ≤ m ∧ m < 3) (j : Nat) (n : Int) : CS Tryz.prog noX 4 [.int .i64 m, .int .i64 n, .int .i64 (.negSucc j)] h0 (fun v _ => v = .bool true) :=
  all m n (.negSucc j) (m4 (s4 m n (.negSucc j))) (fun c => e8 (e7 (m4 (s4 m n (.negSucc j))) c)) 3 (by kernel_rfl) (by kernel_rfl) (new_c (by kernel_rfl) (by kernel_rfl) (by kernel_rfl)) (by kernel_rfl) (by kernel_rfl) (mid5 hm (by kernel_rfl) (by kernel_rfl) (by kernel_rfl) (by kernel_rfl) (by kernel_rfl) (by kernel_rfl) (by kernel_rfl) (by kernel_rfl)) (by kernel_rfl) (Nat.le_of_ble_eq_true (by kernel_rfl)) (by kernel_rfl) (fun _ => by kernel_rfl) (fun nt _ => run8 (by kernel_rfl) nt) (fun _ _ _ => by kernel_rfl) (fun _ => by kernel_rfl) (fun _ => by kernel_rfl) (fun _ _ => by kernel_rfl)
theorem cbb (m : Int) (hm : 0 ≤ m ∧ m < 3)  (n : Int) : CS Tryz.prog noX 4 [.int .i64 m, .int .i64 n, .int .i64 (.ofNat 0)] h0 (fun v _ => v = .bool true) :=
  all m n (.ofNat 0) (m4 (s4 m n (.ofNat 0))) (fun c => e8 (e7 (m4 (s4 m n (.ofNat 0))) c)) 3 (by kernel_rfl) (by kernel_rfl) (new_c (by kernel_rfl) (by kernel_rfl) (by kernel_rfl)) (by kernel_rfl) (by kernel_rfl) (mid5 hm (by kernel_rfl) (by kernel_rfl) (by kernel_rfl) (by kernel_rfl) (by kernel_rfl) (by kernel_rfl) (by kernel_rfl) (by kernel_rfl)) (by kernel_rfl) (Nat.le_of_ble_eq_true (by kernel_rfl)) (by kernel_rfl) (fun _ => by kernel_rfl) (fun nt _ => run8 (by kernel_rfl) nt) (fun _ _ _ => by kernel_rfl) (fun _ => by kernel_rfl) (fun _ => by kernel_rfl) (fun _ _ => by kernel_rfl)
theorem cbc (m : Int) (hm : 0 ≤ m ∧ m < 3) (j : Int) (hj : 1 ≤ j ∧ j ≤ 9) (n : Int) : CS Tryz.prog noX 4 [.int .i64 m, .int .i64 n, .int .i64 j] h0 (fun v _ => v = .bool true) :=
  all m n j (m4 (s4 m n j)) (fun c => n4 (e7 (m4 (s4 m n j)) c)) 3 (by kernel_rfl) (by kernel_rfl) (new_c (by kernel_rfl) (by kernel_rfl) (by kernel_rfl)) (by kernel_rfl) (by kernel_rfl) (mid5 hm (by kernel_rfl) (by kernel_rfl) (by kernel_rfl) (by kernel_rfl) (by kernel_rfl) (by kernel_rfl) (by kernel_rfl) (by kernel_rfl)) (by kernel_rfl) (Nat.le_of_ble_eq_true (by kernel_rfl)) (by kernel_rfl) (fun _ => by kernel_rfl) (fun nt _ => mid8 hj (by kernel_rfl) (by kernel_rfl) (by kernel_rfl) (by kernel_rfl) (by kernel_rfl) (by kernel_rfl) (by kernel_rfl) (by kernel_rfl) nt) (fun _ _ _ => by kernel_rfl) (fun _ => by kernel_rfl) (fun _ => by kernel_rfl) (fun _ _ => by kernel_rfl)
theorem cbd (m : Int) (hm : 0 ≤ m ∧ m < 3) (j : Nat) (n : Int) : CS Tryz.prog noX 4 [.int .i64 m, .int .i64 n, .int .i64 (.ofNat (j + 10))] h0 (fun v _ => v = .bool true) :=
  all m n (.ofNat (j + 10)) (m4 (s4 m n (.ofNat (j + 10)))) (fun c => e8 (e7 (m4 (s4 m n (.ofNat (j + 10)))) c)) 3 (by kernel_rfl) (by kernel_rfl) (new_c (by kernel_rfl) (by kernel_rfl) (by kernel_rfl)) (by kernel_rfl) (by kernel_rfl) (mid5 hm (by kernel_rfl) (by kernel_rfl) (by kernel_rfl) (by kernel_rfl) (by kernel_rfl) (by kernel_rfl) (by kernel_rfl) (by kernel_rfl)) (by kernel_rfl) (Nat.le_of_ble_eq_true (by kernel_rfl)) (by kernel_rfl) (fun _ => by kernel_rfl) (fun nt _ => run8 (by kernel_rfl) nt) (fun _ _ _ => by kernel_rfl) (fun _ => by kernel_rfl) (fun _ => by kernel_rfl) (fun _ _ => by kernel_rfl)
theorem cca (m : Nat) (j : Nat) (n : Int) : CS Tryz.prog noX 4 [.int .i64 (.ofNat (m + 3)), .int .i64 n, .int .i64 (.negSucc j)] h0 (fun v _ => v = .bool true) :=
  all (.ofNat (m + 3)) n (.negSucc j) (e5 (s4 (.ofNat (m + 3)) n (.negSucc j))) (fun c => e8 (e7 (e5 (s4 (.ofNat (m + 3)) n (.negSucc j))) c)) (.ofNat (m + 3)) (by kernel_rfl) (by kernel_rfl) (new_c (by kernel_rfl) (by kernel_rfl) (by kernel_rfl)) (by kernel_rfl) (by kernel_rfl) (run5 (by kernel_rfl)) (by kernel_rfl) (Nat.le_of_ble_eq_true (by kernel_rfl)) (by kernel_rfl) (fun _ => by kernel_rfl) (fun nt _ => run8 (by kernel_rfl) nt) (fun _ _ _ => by kernel_rfl) (fun _ => by kernel_rfl) (fun _ => by kernel_rfl) (fun _ _ => by kernel_rfl)
theorem ccb (m : Nat)  (n : Int) : CS Tryz.prog noX 4 [.int .i64 (.ofNat (m + 3)), .int .i64 n, .int .i64 (.ofNat 0)] h0 (fun v _ => v = .bool true) :=
  all (.ofNat (m + 3)) n (.ofNat 0) (e5 (s4 (.ofNat (m + 3)) n (.ofNat 0))) (fun c => e8 (e7 (e5 (s4 (.ofNat (m + 3)) n (.ofNat 0))) c)) (.ofNat (m + 3)) (by kernel_rfl) (by kernel_rfl) (new_c (by kernel_rfl) (by kernel_rfl) (by kernel_rfl)) (by kernel_rfl) (by kernel_rfl) (run5 (by kernel_rfl)) (by kernel_rfl) (Nat.le_of_ble_eq_true (by kernel_rfl)) (by kernel_rfl) (fun _ => by kernel_rfl) (fun nt _ => run8 (by kernel_rfl) nt) (fun _ _ _ => by kernel_rfl) (fun _ => by kernel_rfl) (fun _ => by kernel_rfl) (fun _ _ => by kernel_rfl)
theorem ccc (m : Nat) (j : Int) (hj : 1 ≤ j ∧ j ≤ 9) (n : Int) : CS Tryz.prog noX 4 [.int .i64 (.ofNat (m + 3)), .int .i64 n, .int .i64 j] h0 (fun v _ => v = .bool true) :=
  all (.ofNat (m + 3)) n j (e5 (s4 (.ofNat (m + 3)) n j)) (fun c => n4 (e7 (e5 (s4 (.ofNat (m + 3)) n j)) c)) (.ofNat (m + 3)) (by kernel_rfl) (by kernel_rfl) (new_c (by kernel_rfl) (by kernel_rfl) (by kernel_rfl)) (by kernel_rfl) (by kernel_rfl) (run5 (by kernel_rfl)) (by kernel_rfl) (Nat.le_of_ble_eq_true (by kernel_rfl)) (by kernel_rfl) (fun _ => by kernel_rfl) (fun nt _ => mid8 hj (by kernel_rfl) (by kernel_rfl) (by kernel_rfl) (by kernel_rfl) (by kernel_rfl) (by kernel_rfl) (by kernel_rfl) (by kernel_rfl) nt) (fun _ _ _ => by kernel_rfl) (fun _ => by kernel_rfl) (fun _ => by kernel_rfl) (fun _ _ => by kernel_rfl)
theorem ccd (m : Nat) (j : Nat) (n : Int) : CS Tryz.prog noX 4 [.int .i64 (.ofNat (m + 3)), .int .i64 n, .int .i64 (.ofNat (j + 10))] h0 (fun v _ => v = .bool true) :=
  all (.ofNat (m + 3)) n (.ofNat (j + 10)) (e5 (s4 (.ofNat (m + 3)) n (.ofNat (j + 10)))) (fun c => e8 (e7 (e5 (s4 (.ofNat (m + 3)) n (.ofNat (j + 10)))) c)) (.ofNat (m + 3)) (by kernel_rfl) (by kernel_rfl) (new_c (by kernel_rfl) (by kernel_rfl) (by kernel_rfl)) (by kernel_rfl) (by kernel_rfl) (run5 (by kernel_rfl)) (by kernel_rfl) (Nat.le_of_ble_eq_true (by kernel_rfl)) (by kernel_rfl) (fun _ => by kernel_rfl) (fun nt _ => run8 (by kernel_rfl) nt) (fun _ _ _ => by kernel_rfl) (fun _ => by kernel_rfl) (fun _ => by kernel_rfl) (fun _ _ => by kernel_rfl)
theorem ce (who n kind : Int) : CS Tryz.prog noX 4 [.int .i64 who, .int .i64 n, .int .i64 kind] h0 (fun v _ => v = .bool true) := by
  have hw : (∃ m : Nat, who = .negSucc m) ∨ (0 ≤ who ∧ who < 3) ∨ (∃ m : Nat, who = .ofNat (m + 3)) := by
    cases who with
    | negSucc m => exact .inl ⟨m, rfl⟩
    | ofNat m =>
      by_cases h : m < 3
      · exact .inr (.inl ⟨Int.natCast_nonneg m, by simp only [Int.ofNat_eq_natCast]; omega⟩)
      · exact .inr (.inr ⟨m - 3, by congr 1; omega⟩)
  have hk : (∃ j : Nat, kind = .negSucc j) ∨ kind = .ofNat 0 ∨ (1 ≤ kind ∧ kind ≤ 9) ∨ (∃ j : Nat, kind = .ofNat (j + 10)) := by
    cases kind with
    | negSucc j => exact .inl ⟨j, rfl⟩
    | ofNat j =>
      by_cases h : j = 0
      · exact .inr (.inl (by rw [h]))
      · by_cases h2 : j < 10
        · exact .inr (.inr (.inl ⟨by simp only [Int.ofNat_eq_natCast]; omega, by simp only [Int.ofNat_eq_natCast]; omega⟩))
        · exact .inr (.inr (.inr ⟨j - 10, by congr 1; omega⟩))
  rcases hw with ⟨m, rfl⟩ | hm | ⟨m, rfl⟩ <;> rcases hk with ⟨j, rfl⟩ | rfl | hj | ⟨j, rfl⟩
  · exact caa m j n
  · exact cab m n
  · exact cac m kind hj n
  · exact cad m j n
  · exact cba who hm j n
  · exact cbb who hm n
  · exact cbc who hm kind hj n
  · exact cbd who hm j n
  · exact cca m j n
  · exact ccb m n
  · exact ccc m kind hj n
  · exact ccd m j n
end Go.Proofs.YtcnldppfncojkaaGreatDoor

