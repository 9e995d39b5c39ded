-- Written for this claim by hybrid.py's copy of the print program (a program of this session); not trusted: Lean checks it.
import Derived.Test.YtljmmhihdcnbaaaDoorG0
import Derived.Test.YtljmmhihdcnbaaaDoorVMore1
import Derived.Test.YtljmmhihdcnbaaaDoorG26
import Derived.Test.YtljmmhihdcnbaaaDoorGC
namespace Go.Proofs.YtljmmhihdcnbaaaDoor.G
open Go.RowKit Go.Proofs.YtljmmhihdcnbaaaDoorW.PrintWords Go.Proofs.YtljmmhihdcnbaaaDoorW.PrintLast Go.Proofs.YtljmmhihdcnbaaaDoorW.PrintMore
attribute [local go_sem] max2_int min2_int max_two min_two max_three min_three max_four min_four   -- for this text's walks alone
set_option linter.unusedVariables false
set_option linter.unusedSimpArgs false

/-! ### glazierlaw44_alive: function 7 -/
def glazierlaw44_alive.f (k : Nat)  : Option (Bool) := (mark_Of.f (⟨#[99, 111, 108, 111, 114, 32, 58, 32, 114, 101, 100, 59, 32, 120, 58, 32, 117, 114, 108, 40, 121, 41]⟩ : ByteArray) 0).bind fun bt311 => ((style_Clean.f k bt311.1 bt311.2).bind fun bt315 => (some (bt315.1.toList == ([99, 111, 108, 111, 114, 58, 114, 101, 100] : List UInt8))))
theorem glazierlaw44_alive.mono : ∀ k, LeO (glazierlaw44_alive.f k ) (glazierlaw44_alive.f (k + 1) ) := by
 intro  k
 unfold glazierlaw44_alive.f
 repeat' first
   | (with_reducible exact style_Clean.mono _ _ _)
   | (with_reducible exact LeO.refl _)
   | (with_reducible exact LeO.none _)
   | (with_reducible refine LeO.ite ?_ ?_)
   | (with_reducible refine LeO.bind ?_ (fun _ => ?_))
   | exact style_Clean.mono _ _ _
   | exact LeO.none _
   | refine LeO.ite ?_ ?_
   | refine LeO.bind ?_ (fun _ => ?_)
set_option maxHeartbeats 8000000 in
set_option maxRecDepth 100000 in
theorem glazierlaw44_alive.calls (k : Nat)  (r : Bool) (w : World) (h : glazierlaw44_alive.f k  = some r) :
  Calls Tryd.prog 7 #[] w fun e w' => e = .returned (.bool r) ∧ Below w.heap.size w w' := by
 have hfd24_0 : ∀ (s0 : ByteArray) (v1 : Value) (w : World), (Instr.field 24 (.agg #[.string s0, v1]) 0).run Tryd.prog w = .ok (.string s0) w := fun _ _ _ => by kernel_rfl
 have HB := Aside0.mk (Below.refl w.heap.size w)
 have H : ((mark_Of.f (⟨#[99, 111, 108, 111, 114, 32, 58, 32, 114, 101, 100, 59, 32, 120, 58, 32, 117, 114, 108, 40, 121, 41]⟩ : ByteArray) 0).bind fun bt311 => ((style_Clean.f k bt311.1 bt311.2).bind fun bt315 => (some (bt315.1.toList == ([99, 111, 108, 111, 114, 58, 114, 101, 100] : List UInt8))))) = some r := h
 clear h
 replace H := Option.bind_eq_some_iff.mp H
 obtain ⟨⟨t311, t312⟩, A10, H⟩ := H
 replace H : ((style_Clean.f k t311 t312).bind fun bt315 => (some (bt315.1.toList == ([99, 111, 108, 111, 114, 58, 114, 101, 100] : List UInt8)))) = some r := H
 have A1 := Aside0.mk A10
 clear A10
 replace H := Option.bind_eq_some_iff.mp H
 obtain ⟨⟨t315, t316⟩, A20, H⟩ := H
 replace H : (some (t315.toList == ([99, 111, 108, 111, 114, 58, 114, 101, 100] : List UInt8))) = some r := H
 have A2 := Aside0.mk A20
 clear A20
 obtain rfl := Option.some.inj H
 go_enter Tryd.func7, Tryd.ntmps7
 go_wp2_with (first | ((with_reducible refine gate_callee (f := 19) rfl ?_); refine goesL_ (some 1) rfl rfl Tryd.func19 (by kernel_rfl) rfl #[.string (⟨#[99, 111, 108, 111, 114, 32, 58, 32, 114, 101, 100, 59, 32, 120, 58, 32, 117, 114, 108, 40, 121, 41]⟩ : ByteArray), .int .i64 0] rfl (by (try simp only [List.map_toArray, List.map_cons, List.map_nil]); first | done | rfl | (simp only [List.length_drop, List.length_take]; rfl)) ?_; (with_reducible refine (mark_Of.calls (⟨#[99, 111, 108, 111, 114, 32, 58, 32, 114, 101, 100, 59, 32, 120, 58, 32, 117, 114, 108, 40, 121, 41]⟩ : ByteArray) 0 t311 t312 _ A1.out).mono ?_); rintro e w3 ⟨v313, rfl, ho0, hb⟩; refine ⟨_, rfl, ?_⟩; have n0_ := Aside0.mk (Kd.R_lower ho0 (below_size (below_go HB.out))); have n1_ := Aside0.mk (below_step (below_go HB.out) hb); clear HB; have HO314 := n0_; have HB := n1_; clear n0_ n1_; (try clear hb); (try clear hb2); (try clear hk); (try clear hi); (try clear ho0); obtain ⟨Ao4, co4, eo4⟩ := Kd.R_slice HO314.out; subst eo4) | ((with_reducible refine gate_callee (f := 8) rfl ?_); refine goesL_ (some 2) rfl rfl Tryd.func8 (by kernel_rfl) rfl #[.agg #[.string t311, .slice Ao4 t312.length co4]] rfl (by (try simp only [List.map_toArray, List.map_cons, List.map_nil]); first | done | rfl | (simp only [List.length_drop, List.length_take]; rfl)) ?_; (with_reducible refine (style_Clean.calls k t311 _ _ t312 t315 t316 _ ?side1 ?side2 A2.out).mono ?_); (case side1 => repeat (first | exact (Kd.R_reads' HO314.out).2.2 | (with_reducible refine Kd.C_alloc ?_ _) | (with_reducible refine Kd.C_drewN ?_ _) | (with_reducible refine Kd.C_drew ?_))); (case side2 => exact (Kd.R_reads' HO314.out).2.1); rintro e w5 ⟨v317, rfl, ho0, hb⟩; refine ⟨_, rfl, ?_⟩; have n0_ := Aside0.mk (Kd.R_elder' (Kd.R_go HO314.out) (Kd.R_base ho0) hb); have n1_ := Aside0.mk (Kd.R_lower (Kd.R_new' ho0 (Kd.R_lt (Kd.R_go HO314.out))) (below_size (below_go HB.out))); have n2_ := Aside0.mk (below_step (below_go HB.out) hb); clear HO314; clear HB; have HO314 := n0_; have HO318 := n1_; have HB := n2_; clear n0_ n1_ n2_; (try clear hb); (try clear hb2); (try clear hk); (try clear hi); (try clear ho0)))
 go_ret
 exact ⟨by first | rfl | (simp [errW_none, errW_some] <;> rfl) | (simp [*, errW_none, errW_some] <;> rfl), by repeat (first | (with_reducible first | exact HB.out | apply below_alloc | apply pw_below_drewN | apply below_drew1) | exact HB.out)⟩

end Go.Proofs.YtljmmhihdcnbaaaDoor.G
