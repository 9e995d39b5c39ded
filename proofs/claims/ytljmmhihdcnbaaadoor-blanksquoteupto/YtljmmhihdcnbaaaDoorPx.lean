/- What mark's Same and At compute. -/
import Derived.Test.YtljmmhihdcnbaaaDoorPc
import Derived.Test.YtljmmhihdcnbaaaDoorG62
import Derived.Test.YtljmmhihdcnbaaaDoorG73
namespace Go.Proofs.YtljmmhihdcnbaaaDoor.G
open Go.RowKit Go.Proofs.YtljmmhihdcnbaaaDoorW.PrintWords Go.Proofs.YtljmmhihdcnbaaaDoorW.PrintLast Go.Proofs.YtljmmhihdcnbaaaDoorW.PrintMore
set_option linter.unusedVariables false
set_option linter.unusedSimpArgs false

theorem At_loop (fr : List S56) (hf : Full fr) (hl : fr.length ≤ 1099511627776) : ∀ (d j x : Nat) (h : x < (dec (fr.drop j)).length), x ≤ 1099511627776 → j + d = fr.length → (∀ r ∈ fr, r.f0 ≤ 1099511627776) →
    Ev (fun k => mark_At.l0 k (x : Int) fr (fr.length : Int) (j : Int)) (dec (fr.drop j))[x] := by
  intro d
  induction d with
  | zero =>
    intro j x h hx hj _
    exact absurd h (by rw [List.drop_eq_nil_of_le (by omega)]; simp [dec])
  | succ d ih =>
    intro j x h hx hj hb
    have hlt : j < fr.length := by omega
    have e : dec (fr.drop j) = List.replicate fr[j].f0.toNat fr[j].f1 ++ dec (fr.drop (j + 1)) := by rw [List.drop_eq_getElem_cons hlt, dec_cons]
    have hp := hf fr[j] (List.getElem_mem hlt)
    have hb' := hb fr[j] (List.getElem_mem hlt)
    by_cases hx2 : x < fr[j].f0.toNat
    · have e3 : (dec (fr.drop j))[x] = fr[j].f1 := by
        simp only [e]
        rw [List.getElem_append_left (by simpa using hx2)]
        simp
      rw [e3]
      refine Ev.step1 (Ev.now _) (fun k => ?_)
      simp only [mark_At.l0]
      rw [if_pos (by omega), if_pos (by omega), if_pos (by omega), rdT56 hlt, if_pos (by omega)]
    · have h4 : x - fr[j].f0.toNat < (dec (fr.drop (j + 1))).length := by rw [e, List.length_append, List.length_replicate] at h; omega
      have e3 : (dec (fr.drop j))[x] = (dec (fr.drop (j + 1)))[x - fr[j].f0.toNat] := by
        simp only [e]
        rw [List.getElem_append_right (by simp; omega)]
        simp
      rw [e3]
      refine Ev.step1 (ih (j + 1) (x - fr[j].f0.toNat) h4 (by omega) (by omega) hb) (fun k => ?_)
      simp only [mark_At.l0]
      rw [if_pos (by omega), if_pos (by omega), if_pos (by omega), rdT56 hlt, if_neg (by omega), w64 (by omega) (by omega), w64 (by omega) (by omega)]
      congr 1
      omega
theorem At_spec (t : ByteArray) (rs : List S56) (i : Nat) (hi : i < (La t rs).length) (ht : t.size ≤ 1099511627776) (hr : rs.length ≤ 1099511627776) : Ev (fun k => mark_At.f k t rs (i : Int)) ((La t rs)[i]).2 := by
  have hlen := La_length t rs
  have e : ∀ k, mark_At.f k t rs (i : Int) = mark_At.j0 k (i : Int) false t rs := by
    intro k
    unfold mark_At.f
    rw [if_neg (by omega), show decide ((i : Int) ≥ (t.size : Int)) = false from decide_eq_false (by omega)]
  refine Ev.eq ?_ e
  refine Ev.step1 (f := fun k => (mark_Fix.f k t rs).bind fun b => mark_At.l0 k (i : Int) b.2 (b.2.length : Int) 0) ?_ (fun k => by simp only [mark_At.j0]; rw [if_neg (by simp)])
  refine Ev.bind (Fix_spec t rs ht hr) ?_
  have hd : dec ((canon (La t rs)).2.drop 0) = labO t.size rs := by rw [List.drop_zero, canon_La]; exact dec_rle _
  have hdl : (dec ((canon (La t rs)).2.drop 0)).length = t.size := by rw [hd, labO_length]
  have hcr := canon_runs (La t rs)
  have h := At_loop (canon (La t rs)).2 (rle_full _) (by omega) (canon (La t rs)).2.length 0 i (by omega) (by omega) (by omega) (fun r hr => by
    have := (rle_mem (os := (La t rs).map (·.2)) hr).2.1
    rw [List.length_map] at this
    omega)
  have e4 : (dec ((canon (La t rs)).2.drop 0))[i]'(by omega) = ((La t rs)[i]).2 := by
    simp only [hd, ← La_snd]
    simp
  rw [e4] at h
  exact h

/-! ### Same -/
theorem eqRuns_loop (l : List S56) (hl : l.length ≤ 1099511627776) : ∀ (d j : Nat), j + d = l.length → Ev (fun k => api_Run.l0 k l l (l.length : Int) (j : Int)) true := by
  intro d
  induction d with
  | zero =>
    intro j hj
    refine Ev.step1 (Ev.now _) (fun k => ?_)
    simp only [api_Run.l0]
    rw [if_neg (by omega)]
  | succ d ih =>
    intro j hj
    refine Ev.step1 (ih (j + 1) (by omega)) (fun k => ?_)
    simp only [api_Run.l0]
    rw [if_pos (by omega), if_pos (by omega), if_pos (by omega), if_pos (by omega), if_neg (by simp), w64 (by omega) (by omega)]
    rfl
theorem Same_spec (t : ByteArray) (rs : List S56) (u : ByteArray) (ss : List S56) (h : La t rs = La u ss) (ht : t.size ≤ 1099511627776) (hr : rs.length ≤ 1099511627776) (hs : ss.length ≤ 1099511627776) : Ev (fun k => mark_Same.f k t rs u ss) true := by
  have e1 : t.data.toList = u.data.toList := by rw [← La_fst t rs, ← La_fst u ss, h]
  have hu : u.size ≤ 1099511627776 := by rw [← size_list, ← e1, size_list]; exact ht
  have e2 : t.toList = u.toList := by
    have : t = u := by rw [← bytesA_list t, ← bytesA_list u, e1]
    rw [this]
  unfold mark_Same.f
  simp only [if_pos e2]
  refine Ev.bind (Fix_spec t rs ht hr) (Ev.bind (Fix_spec u ss hu hs) ?_)
  rw [h]
  have hc := canon_runs (La u ss)
  rw [La_length] at hc
  refine Ev.bind (a := true) ?_ (Ev.now _)
  unfold api_Run.f
  simp only [if_pos]
  exact eqRuns_loop _ (by omega) (canon (La u ss)).2.length 0 (by omega)
end Go.Proofs.YtljmmhihdcnbaaaDoor.G
