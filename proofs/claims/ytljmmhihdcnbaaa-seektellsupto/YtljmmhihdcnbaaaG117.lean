-- Written for this claim by hybrid.py's copy of the print program (a program of this session); not trusted: Lean checks it.
import Derived.Test.YtljmmhihdcnbaaaG0
import Derived.Test.YtljmmhihdcnbaaaG25
namespace Go.Proofs.Ytljmmhihdcnbaaa.G
open Go.RowKit Go.Proofs.YtljmmhihdcnbaaaW.PrintWords Go.Proofs.YtljmmhihdcnbaaaW.PrintLast Go.Proofs.YtljmmhihdcnbaaaW.PrintMore
attribute [local go_sem] max2_int min2_int max_two min_two max_three min_three max_four min_four   -- for this text's walks alone
set_option linter.unusedVariables false
set_option linter.unusedSimpArgs false

/-! ### seek_lower: function 116 -/
def seek_lower.f (k : Nat) (a0 : ByteArray) : Option (ByteArray) := (fold_Lower.f k a0 ([] : List (S85))).bind fun bt1294 => (some bt1294.1)
theorem seek_lower.mono : ∀ a0 k, LeO (seek_lower.f k a0) (seek_lower.f (k + 1) a0) := by
 intro a0 k
 unfold seek_lower.f
 repeat' first
   | (with_reducible exact fold_Lower.mono _ _ _)
   | (with_reducible exact LeO.refl _)
   | (with_reducible exact LeO.none _)
   | (with_reducible refine LeO.ite ?_ ?_)
   | (with_reducible refine LeO.bind ?_ (fun _ => ?_))
   | exact fold_Lower.mono _ _ _
   | exact LeO.none _
   | refine LeO.ite ?_ ?_
   | refine LeO.bind ?_ (fun _ => ?_)
set_option maxHeartbeats 8000000 in
set_option maxRecDepth 100000 in
theorem seek_lower.calls (k : Nat) (a0 : ByteArray) (r : ByteArray) (w : World) (h : seek_lower.f k a0 = some r) :
  Calls Try.prog 116 #[.string a0] w fun e w' => e = .returned (.string r) ∧ Below w.heap.size w w' := by
 have hu24 := Try.underlying24
 have hfd24_0 : ∀ (s0 : ByteArray) (v1 : Value) (w : World), (Instr.field 24 (.agg #[.string s0, v1]) 0).run Try.prog w = .ok (.string s0) w := fun _ _ _ => by kernel_rfl
 have HB := Aside0.mk (Below.refl w.heap.size w)
 have H : ((fold_Lower.f k a0 ([] : List (S85))).bind fun bt1294 => (some bt1294.1)) = some r := h
 clear h
 replace H := Option.bind_eq_some_iff.mp H
 obtain ⟨⟨t1294, t1295⟩, A20, H⟩ := H
 replace H : (some t1294) = some r := H
 have A2 := Aside0.mk A20
 clear A20
 obtain rfl := Option.some.inj H
 go_enter Try.func116, Try.ntmps116
 go_wp2_with (first | ((with_reducible refine gate_callee (f := 54) rfl ?_); refine goesL_ (some 5) rfl rfl Try.func54 (by kernel_rfl) rfl #[.agg #[.string a0, .slice none 0 0]] rfl (by (try simp only [List.map_toArray, List.map_cons, List.map_nil]); first | done | rfl | (simp only [List.length_drop, List.length_take]; rfl)) ?_; (refine (fold_Lower.calls k a0 _ _ ([] : List (S85)) t1294 t1295 _ ?side1 ?side2 A2.out).mono ?_); (case side1 => exact Kd.C_nil _ _); (case side2 => exact Nat.le_refl _); rintro e w3 ⟨v1296, rfl, ho0, hb⟩; refine ⟨_, rfl, ?_⟩; have n0_ := Aside0.mk (Kd.R_lower ho0 (below_size (by repeat (first | (with_reducible first | exact HB.out | apply below_alloc | apply pw_below_drewN | apply below_drew1) | exact HB.out)))); have n1_ := Aside0.mk (below_step (by repeat (first | (with_reducible first | exact HB.out | apply below_alloc | apply pw_below_drewN | apply below_drew1) | exact HB.out)) hb); clear HB; have HO1297 := n0_; have HB := n1_; clear n0_ n1_; (try clear hb); (try clear hb2); (try clear hk); (try clear hi); (try clear ho0)))
 go_ret
 exact ⟨by first | rfl | (simp [errW_none, errW_some] <;> rfl) | (simp [*, errW_none, errW_some] <;> rfl), by repeat (first | (with_reducible first | exact HB.out | apply below_alloc | apply pw_below_drewN | apply below_drew1) | exact HB.out)⟩

end Go.Proofs.Ytljmmhihdcnbaaa.G
