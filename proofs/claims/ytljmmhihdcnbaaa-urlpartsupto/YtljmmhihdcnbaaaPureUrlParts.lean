/- UrlParts: path, query and fragment are what is ahead of, between, and behind the first signs. -/
import Derived.Test.YtljmmhihdcnbaaaPg
import Derived.Test.YtljmmhihdcnbaaaPp
import Derived.Test.YtljmmhihdcnbaaaGU
namespace Go.Proofs.Ytljmmhihdcnbaaa.G
open Go.RowKit Go.Proofs.YtljmmhihdcnbaaaW.PrintWords Go.Proofs.YtljmmhihdcnbaaaW.PrintLast Go.Proofs.YtljmmhihdcnbaaaW.PrintMore
set_option linter.unusedVariables false
set_option linter.unusedSimpArgs false
theorem UrlP_alive : Ev (fun k => glazierlaw06_alive.f k) true := Ev.of (fun k => glazierlaw06_alive.mono k) (k := 60) (by decide +kernel)
/-- The first place of a byte; all: there is none. -/
def atL (c : UInt8) (R : List Lc) : Nat := R.findIdx fun x => x.1 == c
theorem atL_le (c : UInt8) (R : List Lc) : atL c R ≤ R.length := List.findIdx_le_length
theorem indexByte_at (c : UInt8) : ∀ R : List Lc, Go.Lib.indexByte (R.map (·.1)) c = if atL c R < R.length then (atL c R : Int) else -1
  | [] => rfl
  | x :: R => by
    have ih := indexByte_at c R
    have hle := atL_le c R
    unfold atL at ih hle ⊢
    rw [List.map_cons, List.findIdx_cons]
    unfold Go.Lib.indexByte
    by_cases h : x.1 = c
    · have h1 : (x.1 == c) = true := beq_iff_eq.2 h
      rw [h1]
      simp
    · have h1 : (x.1 == c) = false := beq_eq_false_iff_ne.2 h
      rw [h1, ih]
      simp only [Bool.false_eq_true, if_false, cond_false, List.length_cons]
      by_cases h2 : R.findIdx (fun x => x.1 == c) < R.length
      · have h3 : (((R.findIdx (fun x => x.1 == c) : Nat) : Int) == -1) = false := beq_eq_false_iff_ne.2 (by omega)
        rw [if_pos h2, h3, if_neg (by simp), if_pos (by omega)]
        omega
      · rw [if_neg h2, if_pos (show ((-1 : Int) == -1) = true from rfl), if_neg (by omega)]
def aheadL (c : UInt8) (R : List Lc) : List Lc := R.take (atL c R)
def behindL (c : UInt8) (R : List Lc) : List Lc := if atL c R < R.length then R.drop (atL c R + 1) else []
theorem halves_spec (c : UInt8) {R : List Lc} (h : Okl R) (hl : R.length ≤ 1099511627776) : Ev (fun k => url_halves.f k (canon R).1 (canon R).2 (bytesA [c])) ((canon (aheadL c R)).1, (canon (aheadL c R)).2, (canon (behindL c R)).1, (canon (behindL c R)).2) := by
  have hc := canon_runs R
  have hsz := canon_size R
  have hi := indexByte_at c R
  have htx : (canon R).1.data.toList = R.map (·.1) := by
    show (bytesA (R.map (·.1))).data.toList = _
    simp [bytesA]
  unfold url_halves.f
  rw [Index0 _ _ _ (by omega), htx, hi]
  simp only [Option.bind_some]
  by_cases h2 : atL c R < R.length
  · simp only [if_pos h2, if_neg (show ¬ (atL c R : Int) < 0 by omega)]
    have e1 : cutL R 0 (atL c R : Int) = aheadL c R := by
      have := cutL_nat R 0 (atL c R) (by omega) (by omega)
      rw [show ((0 : Nat) : Int) = 0 from rfl, List.drop_zero] at this
      exact this
    have e2 : cutL R (wrap64 ((atL c R : Int) + 1)) (((canon R).1.size : Nat) : Int) = behindL c R := by
      rw [w64 (by omega) (by omega), hsz, show ((atL c R : Int) + 1) = ((atL c R + 1 : Nat) : Int) from by omega, cutL_nat R _ _ (Nat.le_refl _) (by omega), List.take_of_length_le (Nat.le_refl _)]
      unfold behindL
      rw [if_pos h2]
    refine Ev.bind (Cut_canon h hl 0 (atL c R : Int)) (Ev.bind (Cut_canon h hl _ _) ?_)
    rw [e1, e2]
    exact Ev.now _
  · simp only [if_neg h2, if_pos (show (-1 : Int) < 0 by decide)]
    have e1 : aheadL c R = R := by unfold aheadL; exact List.take_of_length_le (by omega)
    have e2 : behindL c R = [] := by unfold behindL; rw [if_neg h2]
    rw [e1, e2]
    have hF := Fix_spec (canon R).1 (canon R).2 (by omega) (by omega)
    rw [La_canon h] at hF
    exact Ev.bind hF (Ev.now _)
theorem aheadL_ok {c : UInt8} {R : List Lc} (h : Okl R) : Okl (aheadL c R) := h.sub fun _ hc => List.mem_of_mem_take hc
theorem behindL_ok {c : UInt8} {R : List Lc} (h : Okl R) : Okl (behindL c R) := by
  unfold behindL
  split
  · exact h.sub fun _ hc => List.mem_of_mem_drop hc
  · exact Okl.nil
theorem aheadL_length (c : UInt8) (R : List Lc) : (aheadL c R).length = atL c R := by
  have := atL_le c R
  unfold aheadL
  rw [List.length_take]
  omega
theorem behindL_length (c : UInt8) (R : List Lc) : (behindL c R).length ≤ R.length := by
  unfold behindL
  split
  · rw [List.length_drop]; omega
  · simp
theorem Parts_spec (t : ByteArray) (rs : List S85) (ht : t.size ≤ 1099511627776) (hr : rs.length ≤ 1099511627776) (R : List Lc) (hR : R = restL (readyL (La t rs))) :
    Ev (fun k => url_Parts.f k t rs) ((canon (aheadL 63 (aheadL 35 R))).1, (canon (aheadL 63 (aheadL 35 R))).2, (canon (behindL 63 (aheadL 35 R))).1, (canon (behindL 63 (aheadL 35 R))).2, (canon (behindL 35 R)).1, (canon (behindL 35 R)).2) := by
  have hO : Okl R := hR ▸ restL_ok (readyL_ok (La_ok t rs))
  have hl : R.length ≤ 1099511627776 := by
    have h1 := restL_length (readyL (La t rs))
    have h2 := readyL_length (La t rs)
    have h3 := La_length t rs
    rw [hR]
    omega
  have ha := atL_le 35 R
  have hA := Rest_spec t rs ht hr
  rw [← hR] at hA
  unfold url_Parts.f
  refine Ev.bind hA ?_
  refine Ev.bind (halves_spec 35 hO hl) ?_
  refine Ev.bind (halves_spec 63 (aheadL_ok hO) (by rw [aheadL_length]; omega)) ?_
  exact Ev.now _
theorem findIdx_toC (v : UInt8) (n : Int) (hn : n = (v.toNat : Int)) (R : List Lc) : (R.map toC).findIdx (fun x => x.f0 == n) = atL v R := by
  unfold atL
  rw [List.findIdx_map]
  congr 1
  funext x
  show (((x.1.toNat : Int)) == n) = _
  rw [hn]
  by_cases h : x.1 = v
  · subst h; simp
  · rw [beq_eq_false_iff_ne.2 h]
    exact beq_eq_false_iff_ne.2 (fun h' => h (UInt8.toNat_inj.1 (by omega)))
theorem UrlParts_pure (t : ByteArray) (rs : List S85) (ht : t.size ≤ 1048576) (hr : rs.length ≤ 1048576) : ∃ k, UrlPartsOk k t rs true := by
  obtain ⟨R, hR⟩ : ∃ R, R = restL (readyL (La t rs)) := ⟨_, rfl⟩
  have hO : Okl R := hR ▸ restL_ok (readyL_ok (La_ok t rs))
  have hl : R.length ≤ 1048576 := by
    have h1 := restL_length (readyL (La t rs))
    have h2 := readyL_length (La t rs)
    have h3 := La_length t rs
    rw [hR]
    omega
  have hA := Rest_spec t rs (by omega) (by omega)
  rw [← hR] at hA
  have hcr := canon_runs R
  have hOf := RefOf_spec (canon R).1 (canon R).2 (by rw [canon_size]; omega) (by omega)
  rw [La_canon hO] at hOf
  have hP := Parts_spec t rs (by omega) (by omega) R hR
  have hal1 := atL_le 35 R
  have hal2 := atL_le 63 (aheadL 35 R)
  have hll := aheadL_length 35 R
  have hbl := behindL_length 63 (aheadL 35 R)
  have hbl2 := behindL_length 35 R
  have hh : hashI (R.map toC) = atL 35 R := findIdx_toC 35 35 rfl R
  have hq : questI (R.map toC) = atL 63 (aheadL 35 R) := by
    unfold questI
    rw [hh, ← List.map_take]
    exact findIdx_toC 63 63 rfl _
  have e1 : (R.map toC).take (questI (R.map toC)) = (aheadL 63 (aheadL 35 R)).map toC := by
    rw [hq, ← List.map_take]
    congr 1
    rw [show aheadL 63 (aheadL 35 R) = (R.take (atL 35 R)).take (atL 63 (aheadL 35 R)) from rfl, List.take_take, Nat.min_eq_left (by omega)]
  have e2 : queryP (R.map toC) = (behindL 63 (aheadL 35 R)).map toC := by
    unfold queryP
    rw [hq, hh]
    unfold behindL
    rw [hll]
    split
    · rw [← List.map_take, ← List.map_drop]
      rfl
    · rfl
  have e3 : fragP (R.map toC) = (behindL 35 R).map toC := by
    unfold fragP
    rw [hh, List.length_map]
    unfold behindL
    split
    · rw [← List.map_drop]
    · rfl
  have hI1 := Is_spec (aheadL 63 (aheadL 35 R)) (by rw [aheadL_length]; omega)
  have hI2 := Is_spec (behindL 63 (aheadL 35 R)) (by omega)
  have hI3 := Is_spec (behindL 35 R) (by omega)
  obtain ⟨k0, h0⟩ := UrlP_alive
  obtain ⟨k1, h1⟩ := hA
  obtain ⟨k2, h2⟩ := hOf
  obtain ⟨k3, h3⟩ := hP
  obtain ⟨k4, h4⟩ := hI1
  obtain ⟨k5, h5⟩ := hI2
  obtain ⟨k6, h6⟩ := hI3
  refine ⟨k0 + k1 + k2 + k3 + k4 + k5 + k6, rfl, h0 _ (by omega), _, _, _, _, _, _, _, _, _, h1 _ (by omega), h2 _ (by omega), by rw [List.length_map]; omega, h3 _ (by omega), ?_, ?_, ?_⟩
  · rw [e1]; exact h4 _ (by omega)
  · rw [e2]; exact h5 _ (by omega)
  · rw [e3]; exact h6 _ (by omega)
end Go.Proofs.Ytljmmhihdcnbaaa.G
