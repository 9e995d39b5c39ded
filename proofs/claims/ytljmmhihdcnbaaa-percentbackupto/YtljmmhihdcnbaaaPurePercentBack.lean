/- PercentBack: what is encoded is plain bytes and percent signs; decoded it is what it was. -/
import Derived.Test.YtljmmhihdcnbaaaPh
import Derived.Test.YtljmmhihdcnbaaaG66
namespace Go.Proofs.Ytljmmhihdcnbaaa.G
open Go.RowKit Go.Proofs.YtljmmhihdcnbaaaW.PrintWords Go.Proofs.YtljmmhihdcnbaaaW.PrintLast Go.Proofs.YtljmmhihdcnbaaaW.PrintMore
set_option linter.unusedVariables false
set_option linter.unusedSimpArgs false
theorem enc_bytes (c : UInt8) : (enc3 c).all (fun b => plainB b || b == 37) = true := by
  have := byte_all' (fun c => (enc3 c).all (fun b => plainB b || b == 37)) (by decide +kernel) c
  exact this
theorem encL_bytes (l : List Lc) (x : Lc) (hx : x ∈ encL l) : (plainB x.1 || x.1 == 37) = true := by
  obtain ⟨c, _, hx⟩ := List.mem_flatMap.1 hx
  unfold encC at hx
  split at hx
  · rename_i hp
    rw [List.mem_singleton] at hx
    subst hx
    rw [hp]
    rfl
  · obtain ⟨b, hb, rfl⟩ := List.mem_map.1 hx
    exact List.all_eq_true.1 (enc_bytes c.1) b hb
theorem PercentBack_loop (t : ByteArray) (rs : List S85) (l : List Lc) (hl : l.length ≤ 1099511627776) (hb : ∀ x ∈ l, (plainB x.1 || x.1 == 37) = true) (r : Bool) (h : Ev (fun k => (percent_Decode.f k (canon l).1 (canon l).2).bind fun b => (mark_Same.f k b.1 b.2 t rs).bind fun t696 => some t696) r) : ∀ (d i : Nat), i + d = l.length →
    Ev (fun k => glazierlaw05_PercentBack.l0 k (i : Int) t rs (canon l).1 (canon l).2) r := by
  intro d
  induction d with
  | zero =>
    intro i hi
    refine Ev.step1 h (fun k => ?_)
    simp only [glazierlaw05_PercentBack.l0]
    rw [canon_size, if_neg (by omega)]
  | succ d ih =>
    intro i hi
    have hlt : i < l.length := by omega
    have hlb : i < (canon l).1.data.toList.length := by rw [size_list, canon_size]; exact hlt
    have e : (canon l).1.data.toList[i] = l[i].1 := by
      have : (canon l).1.data.toList = l.map (·.1) := rfl
      simp [this, List.getElem_map]
    have ih' := ih (i + 1) (by omega)
    refine Ev.step1 (f := fun k => (glazierlaw05_plain.f k (l[i].1.toNat : Int)).bind fun t691 => if t691 = true then glazierlaw05_PercentBack.l0 k ((i : Int) + 1) t rs (canon l).1 (canon l).2 else if (l[i].1.toNat : Int) = 37 then glazierlaw05_PercentBack.l0 k ((i : Int) + 1) t rs (canon l).1 (canon l).2 else none) ?_ (fun k => by
      simp only [glazierlaw05_PercentBack.l0]
      rw [canon_size, if_pos (by omega), if_pos (by omega), bt_nat hlb, e, w64 (by omega) (by omega)])
    refine Ev.bind (plain_ev _) ?_
    have := hb l[i] (List.getElem_mem hlt)
    cases hp : plainB l[i].1 with
    | true => simp only [if_true]; exact ih'
    | false =>
      rw [hp, Bool.false_or] at this
      have e37 : (l[i].1.toNat : Int) = 37 := by rw [beq_iff_eq.1 this]; rfl
      simp only [Bool.false_eq_true, if_false, if_pos e37]
      exact ih'
theorem PercentBack_pure (t : ByteArray) (rs : List S85) (ht : t.size ≤ 274877906944) (hr : rs.length ≤ 1099511627776) : ∃ k, glazierlaw05_PercentBack.f k t rs = some true := by
  refine Ev.rounds ?_
  unfold glazierlaw05_PercentBack.f
  refine Ev.bind Percent_alive ?_
  simp only [if_true]
  have hO := La_ok t rs
  have hn := La_length t rs
  have h3 := encL_length (La t rs)
  refine Ev.bind (Encode_spec t rs ht hr) ?_
  refine PercentBack_loop t rs (encL (La t rs)) (by omega) (encL_bytes _) true ?_ (encL (La t rs)).length 0 (by omega)
  refine Ev.bind (Decode_canon (encL_ok hO) (by omega)) ?_
  rw [decL_encL]
  have hc := canon_runs (La t rs)
  exact Ev.bind (Same_spec _ _ _ _ (La_canon hO) (by rw [canon_size]; omega) (by omega) hr) (Ev.now _)
end Go.Proofs.Ytljmmhihdcnbaaa.G
