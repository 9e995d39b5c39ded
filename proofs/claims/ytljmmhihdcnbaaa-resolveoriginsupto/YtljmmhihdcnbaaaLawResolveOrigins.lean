/- ResolveOrigins: the law holds where what is read is of bulk at most 1048576. -/
import Derived.Test.YtljmmhihdcnbaaaRows
import Derived.Test.YtljmmhihdcnbaaaRd
import Derived.Test.YtljmmhihdcnbaaaPureResolveOrigins
import Derived.WalkKit
import Derived.ProofKit
import Derived.OpenShut
import Derived.ShutString
import Derived.ChangeOld
import Derived.Below
import Derived.JoinedCond
import Derived.Carry
namespace Go.Proofs.Ytljmmhihdcnbaaa.resolveOrigins
open Go.ChangeShapes Go.WideShapes Go.ChangeAt Go.RowKit
open Go.ChangeMaps (open_string shut_string)
set_option linter.unusedVariables false
theorem own : ownKnob Try.prog.godebug = none := by kernel_rfl
theorem laidOut : laidOutB Try.prog = true := by kernel_rfl
set_option maxRecDepth 100000 in
theorem contract (H : Type) (enc : TypeId × Value → H) (W : World) (base : Nat) (args : Array Value) (ds gs : List (DataW H)) (before : List MemPlace)
    (hval : ∀ (j : Nat) t v, Try.f20.params[j]? = some t → args[j]? = some v → Value.okWide Try.prog W .any base t v)
    (hW : DataW.Whole enc Try.prog Try.f20.params.toList Rows.resolveOriginsSpec.vars false W args.toList ds gs before) (hk : Rows.uptoSmall H (ds ++ gs) = true) :
    Calls Try.prog 20 args W fun e W' => ∃ v, e = .returned v ∧ Rows.resolveOriginsSpec.post enc Try.prog Try.f20 false true false false W args v W' := by
  have hW' := hW
  obtain ⟨p, q, hA0, hV, rfl, hfz, hnd⟩ := hW
  have hA : DataW.TrodAll enc Try.prog W 0 (fun _ => true) true Try.f20.params.toList args.toList ds p := hA0
  rw [Try.params20] at hA hval
  obtain ⟨v0, vs0, d0, ds0, p0, q0, hargs, rfl, rfl, h0, r0⟩ := trodAll_cons hA
  obtain ⟨v1, vs1, d1, ds1, p1, q1, rfl, rfl, rfl, h1, r1⟩ := trodAll_cons r0
  obtain ⟨rfl, rfl, rfl⟩ := trodAll_nil r1
  obtain rfl : args = #[v0, v1] := by cases args; simp_all
  obtain ⟨rfl, rfl⟩ := trodVars_none hV
  have hk' : Rows.uptoBulkAll [d0, d1] ≤ 1048576 := of_decide_eq_true hk
  simp only [Rows.uptoBulkAll] at hk'
  have k0 := h0
  have lt0 : ∀ x ∈ p0, x.block < W.heap.size := by obtain ⟨m, hm⟩ := k0; exact DataW.trod_lt m _ _ _ hm
  obtain ⟨s0, A0, c0, rfl, hl0, hC0, hb0⟩ := G.open24 (hval 0 24 v0 rfl rfl) h0
  have hs0 := G.wt24_le s0
  have k1 := h1
  have lt1 : ∀ x ∈ p1, x.block < W.heap.size := by obtain ⟨m, hm⟩ := k1; exact DataW.trod_lt m _ _ _ hm
  obtain ⟨s1, A1, c1, rfl, hl1, hC1, hb1⟩ := G.open24 (hval 1 24 v1 rfl rfl) h1
  have hs1 := G.wt24_le s1
  clear hA0 hval
  obtain ⟨k, h⟩ := G.ResolveOrigins_pure s0.f0 s0.f1 s1.f0 s1.f1 (by omega) (by omega) (by omega) (by omega)
  refine (G.glazierlaw40_ResolveOrigins.calls k s0.f0 _ _ s0.f1 s1.f0 _ _ s1.f1 true W hC0 hl0 hC1 hl1 h).mono fun e W' ⟨he, bel⟩ => ?_
  subst he
  exact ⟨_, rfl, _, _, _, [], _, [], hW', trodAll_mk1 (shut_bool Try.underlying4 _), (trodAll_cons_mk (Below.trod laidOut (by kernel_rfl) (of_decide_eq_true (by kernel_rfl)) k0 bel lt0) (trodAll_cons_mk (Below.trod laidOut (by kernel_rfl) (of_decide_eq_true (by kernel_rfl)) k1 bel lt1) trodAll_mk0)), rfl, bel.frame _, fun h => by cases h⟩
set_option maxRecDepth 100000 in
theorem lifted (os : Os) (started : os.Started) (H : Type) (enc : TypeId × Value → H) (F : Stop.Interp) :
    ReturnsInHanded {} Try.checked os 20 .any ((Rows.OpenSpec.upto Rows.resolveOriginsSpec).pre6 enc Try.prog Try.f20 Rows.resolveOriginsUptoRow.domain false) (((Rows.OpenSpec.upto Rows.resolveOriginsSpec).at F).post enc Try.prog Try.f20 false true false false) := by
  refine returnsInHanded_of_cond (C := Try.checked) (s := Rows.OpenSpec.upto Rows.resolveOriginsSpec) (k := Rows.uptoSmall) rfl own started (by kernel_rfl) Try.func20
    (OpenSpec.witness (enc := enc) (C := Try.checked) (s := Rows.OpenSpec.upto Rows.resolveOriginsSpec) (k := Rows.uptoSmall) rfl false ⟨#[], #[.agg #[.string .empty, .slice none 0 0], .agg #[.string .empty, .slice none 0 0]], []⟩ 8 (by kernel_rfl) (by kernel_rfl) (by kernel_rfl)
      (x := ([.agg [.lit (.string []), .nil], .agg [.lit (.string []), .nil]], [], [])) (by kernel_rfl) rfl (by kernel_rfl)) ?_
  intro W base args ds gs before hval hW _ hk _
  exact contract H enc W base args ds gs before hval hW hk
set_option maxRecDepth 100000 in
theorem fact_named : Try.pinned.checked.prog.funcNamed Rows.resolveOriginsUptoRow.func = some 20 := by kernel_rfl
set_option maxRecDepth 100000 in
theorem fact_closed : joinedFacts Try.pinned.checked.prog 20 Try.f20 (Rows.OpenSpec.upto Rows.resolveOriginsSpec).bare Rows.resolveOriginsUptoRow = true := by kernel_rfl
theorem fact_inst : Try.f20.isInstance Try.pinned.checked.prog Rows.resolveOriginsUptoRow.origin Rows.resolveOriginsUptoRow.targs := of_decide_eq_true (by kernel_rfl)
theorem fact_wrap : Try.f20.isWrapper Try.pinned.checked.prog Rows.resolveOriginsUptoRow.wrapper Rows.resolveOriginsUptoRow.mainSum := by unfold Func.isWrapper; first | (rw [if_pos (by decide +kernel)]; kernel_rfl) | (rw [if_neg (by decide +kernel)]; exact ⟨rfl, rfl⟩)
theorem proved : Rows.ResolveOriginsUptoSaid :=
  OpenClaim.holds_of_cond 20 Try.f20 rfl rfl rfl rfl rfl rfl rfl ⟨rfl, rfl, rfl, rfl, rfl⟩ rfl rfl rfl rfl rfl fact_named Try.func20 fact_closed fact_inst fact_wrap
    (fun os started H enc _ F => lifted os started H enc F)
end Go.Proofs.Ytljmmhihdcnbaaa.resolveOrigins
namespace Go.Proofs.Ytljmmhihdcnbaaa
theorem resolveOrigins_holds : Rows.ResolveOriginsUptoSaid := resolveOrigins.proved
#print axioms resolveOrigins_holds
end Go.Proofs.Ytljmmhihdcnbaaa

