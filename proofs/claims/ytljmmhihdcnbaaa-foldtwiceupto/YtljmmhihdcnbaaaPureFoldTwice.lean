/- FoldTwice answers true: each of fold's functions done twice is done once. -/
import Derived.Test.YtljmmhihdcnbaaaPf
import Derived.Test.YtljmmhihdcnbaaaPv
import Derived.Test.YtljmmhihdcnbaaaTF
namespace Go.Proofs.Ytljmmhihdcnbaaa.G
open Go.RowKit Go.Proofs.YtljmmhihdcnbaaaW.PrintWords Go.Proofs.YtljmmhihdcnbaaaW.PrintLast Go.Proofs.YtljmmhihdcnbaaaW.PrintMore
set_option linter.unusedVariables false
set_option linter.unusedSimpArgs false
theorem Twice_alive : Ev (fun k => glazierlaw03_alive.f k) true := Ev.of (fun k => glazierlaw03_alive.mono k) (k := 60) (by decide +kernel)
theorem lowB_twice (c : UInt8) : lowB (lowB c) = lowB c := by
  have := byte_all (fun c => lowB (lowB c) == lowB c) (by decide +kernel) c
  exact beq_iff_eq.1 this
theorem lowL_twice (l : List Lc) : lowL (lowL l) = lowL l := by
  unfold lowL
  rw [List.map_map]
  exact List.map_congr_left fun c _ => by simp only [Function.comp, lowB_twice]
theorem trimL_twice (p : UInt8 → Bool) (l : List Lc) : trimL p (trimL p l) = trimL p l := trimL_none p _ (trimL_ends p l).1 (trimL_ends p l).2
theorem withoutL_twice (bs : ByteArray) (l : List Lc) : withoutL bs (withoutL bs l) = withoutL bs l := by
  unfold withoutL
  rw [List.filter_filter]
  congr 1
  funext c
  exact Bool.and_self _
theorem linesL_free : ∀ (l : List Lc), ∀ c ∈ linesL l, c.1 ≠ 13
  | [], c, h => by simp [linesL] at h
  | [x], c, h => by
    unfold linesL at h
    split at h
    · rw [List.mem_singleton] at h; subst h; exact (by decide : (10 : UInt8) ≠ 13)
    · rename_i hx
      rw [List.mem_singleton] at h; subst h; exact hx
  | x :: e :: l, c, h => by
    have ih1 := linesL_free l
    have ih2 := linesL_free (e :: l)
    unfold linesL at h
    split at h
    · split at h
      · rcases List.mem_cons.1 h with rfl | h
        · exact (by decide : (10 : UInt8) ≠ 13)
        · exact ih1 c h
      · rcases List.mem_cons.1 h with rfl | h
        · exact (by decide : (10 : UInt8) ≠ 13)
        · exact ih2 c h
    · rename_i hx
      rcases List.mem_cons.1 h with rfl | h
      · exact hx
      · exact ih2 c h
theorem linesL_self : ∀ (l : List Lc), (∀ c ∈ l, c.1 ≠ 13) → linesL l = l
  | [], _ => rfl
  | [x], h => by unfold linesL; rw [if_neg (h x List.mem_cons_self)]
  | x :: e :: l, h => by
    unfold linesL
    rw [if_neg (h x List.mem_cons_self), linesL_self (e :: l) fun c hc => h c (List.mem_cons_of_mem _ hc)]
theorem Ends_canon {l : List Lc} (h : Okl l) (hl : l.length ≤ 1099511627776) : Ev (fun k => fold_Ends.f k (canon l).1 (canon l).2) (canon (trimL endP l)) := by
  have hc := canon_runs l
  have := Ends_spec (canon l).1 (canon l).2 (by rw [canon_size]; omega) (by omega)
  rwa [La_canon h] at this
theorem Trim_canon2 {l : List Lc} (h : Okl l) (hl : l.length ≤ 1099511627776) : Ev (fun k => fold_Trim.f k (canon l).1 (canon l).2) (canon (trimL (inB ws) l)) := by
  have hc := canon_runs l
  have := Trim_spec (canon l).1 (canon l).2 (by rw [canon_size]; omega) (by omega)
  rwa [La_canon h] at this
theorem Without_canon {l : List Lc} (bs : ByteArray) (h : Okl l) (hl : l.length ≤ 1099511627776) : Ev (fun k => fold_Without.f k (canon l).1 (canon l).2 bs) (canon (withoutL bs l)) := by
  have hc := canon_runs l
  have := Without_spec (canon l).1 (canon l).2 bs (by rw [canon_size]; omega) (by omega)
  rwa [La_canon h] at this
theorem Lines_canon {l : List Lc} (h : Okl l) (hl : l.length ≤ 1099511627776) : Ev (fun k => fold_Lines.f k (canon l).1 (canon l).2) (canon (linesL l)) := by
  have hc := canon_runs l
  have := Lines_spec (canon l).1 (canon l).2 (by rw [canon_size]; omega) (by omega)
  rwa [La_canon h] at this
theorem Same_canon {l : List Lc} (hl : l.length ≤ 1099511627776) : Ev (fun k => mark_Same.f k (canon l).1 (canon l).2 (canon l).1 (canon l).2) true := by
  have hc := canon_runs l
  exact Same_spec _ _ _ _ rfl (by rw [canon_size]; omega) (by omega) (by omega)
theorem FoldTwice_spec (t : ByteArray) (rs : List S85) (bs : ByteArray) (ht : t.size ≤ 1048576) (hr : rs.length ≤ 1048576) (hb : bs.size ≤ 1048576) : Ev (fun k => glazierlaw03_FoldTwice.f k t rs bs) true := by
  have hn := La_length t rs
  have hO := La_ok t rs
  generalize hL : La t rs = L at hn hO
  have l1 : (lowL L).length = L.length := List.length_map _
  have l2 := trimL_length endP L
  have l3 := trimL_length (inB ws) L
  have l4 := withoutL_length bs L
  have l5 := linesL_length L
  have e1 := Lower_spec t rs (by omega) (by omega)
  have e2 := Ends_spec t rs (by omega) (by omega)
  have e3 := Trim_spec t rs (by omega) (by omega)
  have e4 := Without_spec t rs bs (by omega) (by omega)
  have e5 := Lines_spec t rs (by omega) (by omega)
  rw [hL] at e1 e2 e3 e4 e5
  unfold glazierlaw03_FoldTwice.f
  refine Ev.bind Twice_alive ?_
  simp only [if_true]
  refine Ev.bind e1 (Ev.bind e2 (Ev.bind e3 (Ev.bind e4 (Ev.bind e5 ?_))))
  refine Ev.bind (Lower_canon (lowL_ok hO) (by omega)) ?_
  rw [lowL_twice]
  refine Ev.bind (Same_canon (by omega)) ?_
  simp only [if_true]
  refine Ev.bind (Ends_canon (trimL_ok hO) (by omega)) ?_
  rw [trimL_twice]
  refine Ev.bind (Same_canon (by omega)) ?_
  simp only [if_true]
  refine Ev.bind (Trim_canon2 (trimL_ok hO) (by omega)) ?_
  rw [trimL_twice]
  refine Ev.bind (Same_canon (by omega)) ?_
  simp only [if_true]
  refine Ev.bind (Without_canon bs (withoutL_ok hO) (by omega)) ?_
  rw [withoutL_twice]
  refine Ev.bind (Same_canon (by omega)) ?_
  simp only [if_true]
  refine Ev.bind (Lines_canon (linesL_ok L hO) (by omega)) ?_
  rw [linesL_self _ (linesL_free L)]
  refine Ev.bind (Same_canon (by omega)) ?_
  simp only [if_true]
  have hlow : fold_IsLower.f (canon (lowL L)).1 = some true := by
    unfold fold_IsLower.f
    rw [if_pos (by rw [canon_size]; omega)]
    congr 1
    rw [List.all_eq_true]
    intro c hc
    have : (canon (lowL L)).1.data.toList = (lowL L).map (·.1) := by simp [canon, bytesA]
    rw [this] at hc
    obtain ⟨x, hx, rfl⟩ := List.mem_map.1 hc
    obtain ⟨y, _, rfl⟩ := List.mem_map.1 hx
    simp only [lowB_twice, beq_self_eq_true]
  simp only [hlow, Option.bind_some]
  exact Ev.now _
theorem FoldTwice_pure (t : ByteArray) (rs : List S85) (bs : ByteArray) (ht : t.size ≤ 1048576) (hr : rs.length ≤ 1048576) (hb : bs.size ≤ 1048576) : ∃ k, glazierlaw03_FoldTwice.f k t rs bs = some true := (FoldTwice_spec t rs bs ht hr hb).rounds
end Go.Proofs.Ytljmmhihdcnbaaa.G
