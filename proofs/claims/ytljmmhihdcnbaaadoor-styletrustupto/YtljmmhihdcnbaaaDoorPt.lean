/- style's Clean as plain lists. -/
import Derived.Test.YtljmmhihdcnbaaaDoorPs
import Derived.Test.YtljmmhihdcnbaaaDoorG54
namespace Go.Proofs.YtljmmhihdcnbaaaDoor.G
open Go.RowKit Go.Proofs.YtljmmhihdcnbaaaDoorW.PrintWords Go.Proofs.YtljmmhihdcnbaaaDoorW.PrintLast Go.Proofs.YtljmmhihdcnbaaaDoorW.PrintMore
set_option linter.unusedVariables false
set_option linter.unusedSimpArgs false
def knownV (l : List UInt8) : Bool := ([[99, 111, 108, 111, 114], [109, 97, 114, 103, 105, 110], [112, 97, 100, 100, 105, 110, 103], [119, 105, 100, 116, 104], [104, 101, 105, 103, 104, 116], [100, 105, 115, 112, 108, 97, 121]] : List (List UInt8)).contains l
theorem Known_spec (a : ByteArray) : style_Known.f a = some (knownV a.data.toList) := by
  unfold style_Known.f
  simp only [ByteArray.toList_eq]
  generalize a.data.toList = l
  unfold knownV
  repeat' split
  all_goals simp_all
def pureV (l : List Lc) : Bool := worst (l.map (·.2)) == 0
theorem Pure_canon {l : List Lc} (h : Okl l) (hl : l.length ≤ 1099511627776) : Ev (fun k => mark_Pure.f k (canon l).1 (canon l).2) (pureV l) := by
  unfold mark_Pure.f
  exact Ev.bind (Worst_canon h hl) (Ev.now _)
def okD (d : Dc) : Bool := knownV (bsL d.1) && (pureV d.1 && plainV (bsL d.2))
def dropD (acc : List Dc) (n : List Lc) : List Dc := acc.filter fun x => !(bsL x.1 == bsL n)
def keepD (acc : List Dc) (d : Dc) : List Dc := if okD d = true then dropD acc d.1 ++ [d] else acc
def cleanD (ds : List Dc) : List Dc := ds.foldl keepD []
def lineL (d : Dc) : List Lc := [d.1, [(58, 0)], d.2].flatten
def cleanL (l : List Lc) : List Lc := joinA [(59, 0)] ((cleanD (parseL l)).map lineL)
theorem mkS_bsL (X : List Lc) : (mkS X).f0.data.toList = bsL X := mkS_bytes X
theorem Fix_canon {l : List Lc} (h : Okl l) (hl : l.length ≤ 1099511627776) : Ev (fun k => mark_Fix.f k (canon l).1 (canon l).2) (canon l) := by
  have hc := canon_runs l
  have := Fix_spec (canon l).1 (canon l).2 (by rw [canon_size]; omega) (by omega)
  rwa [La_canon h] at this
/-! ### Drop -/
theorem all_loop (ds : List Dc) (hd : ∀ d ∈ ds, Okd d ∧ d.1.length ≤ 1099511627776 ∧ d.2.length ≤ 1099511627776) (hl : ds.length ≤ 1099511627777) : ∀ (d i : Nat), i + d = ds.length → Ev (fun k => attrs_all.l0 k ((ds.take i).map mkD) (ds.map mkD) ((ds.map mkD).length : Int) (i : Int)) (ds.map mkD) := by
  intro d
  have hm : (ds.map mkD).length = ds.length := List.length_map _
  induction d with
  | zero =>
    intro i hi
    rw [List.take_of_length_le (by omega)]
    refine Ev.step1 (Ev.now _) (fun k => ?_)
    simp only [attrs_all.l0]
    rw [if_neg (by omega)]
  | succ d ih =>
    intro i hi
    have hlt : i < ds.length := by omega
    obtain ⟨⟨h1, h2⟩, h3, h4⟩ := hd ds[i] (List.getElem_mem hlt)
    have e : rd_T32 (ds.map mkD) (i : Int) = mkD ds[i] := by rw [rdT32 (by omega)]; simp
    have hi2 := ih (i + 1) (by omega)
    rw [take_snoc' hlt, mkD_snoc] at hi2
    refine Ev.step (f := ?ff) ?hh ?kk
    case hh =>
      intro k
      simp only [attrs_all.l0]
      rw [if_pos (by omega), if_pos (by omega), if_pos (by omega), e, w64 (by omega) (by omega)]
    case kk =>
      unfold attrs_own.f
      refine Ev.bind (a := ((canon ds[i].1).1, (canon ds[i].1).2, (canon ds[i].2).1, (canon ds[i].2).2)) ?_ ?_
      · exact Ev.bind (Fix_canon h1 h3) (Ev.bind (Fix_canon h2 h4) (Ev.now _))
      · refine Ev.eq hi2 (fun k => ?_)
        rw [if_pos (by rw [List.length_map, List.length_take]; omega)]
        rfl
theorem Drop_spec (ds : List Dc) (hd : ∀ d ∈ ds, Okd d ∧ d.1.length ≤ 1099511627776 ∧ d.2.length ≤ 1099511627776) (hl : ds.length ≤ 1099511627777) (n : List Lc) : Ev (fun k => attrs_Drop.f k (ds.map mkD) (mkS n).f0) ((dropD ds n).map mkD) := by
  unfold attrs_Drop.f attrs_all.f
  refine Ev.bind (all_loop ds hd hl ds.length 0 (by omega)) ?_
  rw [List.length_map, if_pos (by omega)]
  have e : (ds.map mkD).filter (fun x => !(x.f0.f0.toList == (mkS n).f0.toList)) = (dropD ds n).map mkD := by
    rw [List.filter_map]
    unfold dropD
    congr 1
    apply List.filter_congr
    intro x _
    simp only [Function.comp, ByteArray.toList_eq, mkS_bsL]
    rw [show (mkD x).f0 = mkS x.1 from rfl, mkS_bsL]
  rw [e]
  exact Ev.now _
/-! ### sizes -/
def szD (d : Dc) : Nat := d.1.length + d.2.length
def sumD (ds : List Dc) : Nat := (ds.map szD).sum
theorem sumD_app (a b : List Dc) : sumD (a ++ b) = sumD a + sumD b := by simp [sumD]
theorem sumD_one (d : Dc) : sumD [d] = szD d := by simp [sumD]
theorem sumD_filter (q : Dc → Bool) (a : List Dc) : sumD (a.filter q) ≤ sumD a := by
  induction a with
  | nil => exact Nat.le_refl _
  | cons x a ih =>
    rw [List.filter_cons]
    split
    · simp only [sumD, List.map_cons, List.sum_cons] at ih ⊢; omega
    · simp only [sumD, List.map_cons, List.sum_cons] at ih ⊢; omega
theorem keepD_sum (acc : List Dc) (d : Dc) : sumD (keepD acc d) ≤ sumD acc + szD d ∧ (keepD acc d).length ≤ acc.length + 1 := by
  unfold keepD
  split
  · have := sumD_filter (fun x => !(bsL x.1 == bsL d.1)) acc
    have h2 := List.length_filter_le (fun x => !(bsL x.1 == bsL d.1)) acc
    rw [sumD_app, sumD_one, List.length_append, List.length_singleton]
    unfold dropD
    omega
  · omega
theorem foldD_sum : ∀ (ds acc : List Dc), sumD (ds.foldl keepD acc) ≤ sumD acc + sumD ds ∧ (ds.foldl keepD acc).length ≤ acc.length + ds.length
  | [], acc => by simp [sumD]
  | d :: ds, acc => by
    have h1 := keepD_sum acc d
    have h2 := foldD_sum ds (keepD acc d)
    rw [List.foldl_cons, show d :: ds = [d] ++ ds from rfl, sumD_app, sumD_one, List.length_append, List.length_singleton]
    omega
theorem keepD_mem {acc : List Dc} {d x : Dc} (h : x ∈ keepD acc d) : x ∈ acc ∨ (x = d ∧ okD d = true) := by
  unfold keepD at h
  split at h
  · rename_i hk
    rcases List.mem_append.1 h with h | h
    · exact Or.inl (List.mem_filter.1 h).1
    · exact Or.inr ⟨List.mem_singleton.1 h, hk⟩
  · exact Or.inl h
theorem foldD_mem : ∀ (ds acc : List Dc) (x : Dc), x ∈ ds.foldl keepD acc → x ∈ acc ∨ (x ∈ ds ∧ okD x = true)
  | [], acc, x, h => Or.inl h
  | d :: ds, acc, x, h => by
    rw [List.foldl_cons] at h
    rcases foldD_mem ds _ x h with h | h
    · rcases keepD_mem h with h | ⟨rfl, h⟩
      · exact Or.inl h
      · exact Or.inr ⟨List.mem_cons_self, h⟩
    · exact Or.inr ⟨List.mem_cons_of_mem _ h.1, h.2⟩
theorem cleanD_mem {ds : List Dc} {x : Dc} (h : x ∈ cleanD ds) : x ∈ ds ∧ okD x = true := by
  rcases foldD_mem ds [] x h with h | h
  · cases h
  · exact h
theorem declL_sz {X : List Lc} {d : Dc} (h : declL X = some d) : szD d ≤ X.length := by
  unfold declL at h
  split at h
  · rename_i hlt
    obtain rfl := Option.some.inj h
    have h1 := trimL_length (inB ws) (aheadL 58 X)
    have h2 := trimL_length (inB ws) (behindL 58 X)
    have h3 : (behindL 58 X).length = X.length - (atL 58 X + 1) := by unfold behindL; rw [if_pos hlt, List.length_drop]
    rw [aheadL_length] at h1
    have h4 : (lowL (trimL (inB ws) (aheadL 58 X))).length = (trimL (inB ws) (aheadL 58 X)).length := List.length_map _
    unfold szD
    simp only [h4]
    omega
  · cases h
theorem declL_ok {X : List Lc} {d : Dc} (hX : Okl X) (h : declL X = some d) : Okd d := by
  unfold declL at h
  split at h
  · obtain rfl := Option.some.inj h
    exact ⟨lowL_ok (trimL_ok (aheadL_ok hX)), trimL_ok (behindL_ok hX)⟩
  · cases h
theorem decl_sum : ∀ (Cs : List (List Lc)), sumD (Cs.filterMap declL) ≤ Cs.flatten.length
  | [] => Nat.le_refl _
  | X :: Cs => by
    have := decl_sum Cs
    rw [List.flatten_cons, List.length_append]
    cases h : declL X with
    | none => rw [List.filterMap_cons_none h]; omega
    | some d =>
      have h2 := declL_sz h
      rw [List.filterMap_cons_some h, show d :: Cs.filterMap declL = [d] ++ Cs.filterMap declL from rfl, sumD_app, sumD_one]
      omega
theorem parseL_sum (l : List Lc) : sumD (parseL l) ≤ l.length := by
  have h1 := decl_sum (cutsA (qB (bytesA [59])) [] l)
  have h2 := cutsA_flat (qB (bytesA [59])) l []
  rw [List.length_nil] at h2
  unfold parseL
  omega
theorem parseL_num (l : List Lc) : (parseL l).length ≤ l.length + 1 := by
  have h1 := cutsA_length (qB (bytesA [59])) l []
  have h2 : l.countP (qB (bytesA [59])) ≤ l.length := List.countP_le_length
  have h3 := List.length_filterMap_le declL (cutsA (qB (bytesA [59])) [] l)
  unfold parseL
  omega
theorem szD_sum {ds : List Dc} {d : Dc} (h : d ∈ ds) : szD d ≤ sumD ds := by
  induction ds with
  | nil => cases h
  | cons x ds ih =>
    rw [show x :: ds = [x] ++ ds from rfl, sumD_app, sumD_one]
    rcases List.mem_cons.1 h with rfl | h
    · omega
    · have := ih h; omega
theorem parseL_ok {l : List Lc} (h : Okl l) {d : Dc} (hd : d ∈ parseL l) : Okd d := by
  obtain ⟨X, hX, he⟩ := List.mem_filterMap.1 hd
  exact declL_ok (cutsA_ok h X hX) he
theorem lineL_length (d : Dc) : (lineL d).length = szD d + 1 := by simp [lineL, szD]; omega
theorem lineL_ok {d : Dc} (h : Okd d) : Okl (lineL d) := fun c hc => by
  unfold lineL at hc
  simp only [List.flatten_cons, List.flatten_nil, List.append_nil, List.mem_append, List.mem_singleton] at hc
  rcases hc with hc | hc | hc
  · exact h.1 c hc
  · subst hc; exact ⟨by decide, by decide⟩
  · exact h.2 c hc
theorem lines_flat : ∀ (ds : List Dc), ((ds.map lineL).flatten).length = sumD ds + ds.length
  | [] => rfl
  | d :: ds => by
    have := lines_flat ds
    rw [List.map_cons, List.flatten_cons, List.length_append, this, lineL_length, show d :: ds = [d] ++ ds from rfl, sumD_app, sumD_one, List.length_append, List.length_singleton]
    omega
theorem lines_length (ds : List Dc) : (joinA [(59, 0)] (ds.map lineL)).length ≤ sumD ds + 2 * ds.length := by
  have h := joinA_length [((59, 0) : Lc)] (ds.map lineL)
  rw [lines_flat, List.length_map, List.length_singleton] at h
  omega
/-! ### Clean -/
theorem Clean_join (ds : List Dc) (hd : ∀ d ∈ ds, Okd d) (hs : sumD ds ≤ 1000000000) (hl : ds.length ≤ 1000000000) : ∀ (d i : Nat), i + d = ds.length → Ev (fun k => style_Clean.l1 k (((ds.take i).map lineL).map mkS) (ds.map mkD) ((ds.map mkD).length : Int) (i : Int)) (canon (joinA [(59, 0)] (ds.map lineL))) := by
  intro d
  have hm : (ds.map mkD).length = ds.length := List.length_map _
  have hj := lines_length ds
  induction d with
  | zero =>
    intro i hi
    rw [List.take_of_length_le (by omega)]
    refine Ev.step (f := ?ff) ?hh ?kk
    case hh =>
      intro k
      simp only [style_Clean.l1]
      rw [if_neg (by omega), show mark_Of.f (⟨#[59]⟩ : ByteArray) 0 = some (canon [(59, 0)]) from of_one 59 0 (by decide), Option.bind_some]
    case kk =>
      refine Ev.bind (JoinA_spec (ds.map lineL) [(59, 0)] (by rw [List.length_map]; omega) (Okl.one (by decide)) (fun X hX => ?_) (by omega)) (Ev.now _)
      obtain ⟨d, hd2, rfl⟩ := List.mem_map.1 hX
      exact lineL_ok (hd d hd2)
  | succ d ih =>
    intro i hi
    have hlt : i < ds.length := by omega
    have hok := hd ds[i] (List.getElem_mem hlt)
    have hz := szD_sum (List.getElem_mem hlt)
    have e : rd_T32 (ds.map mkD) (i : Int) = mkD ds[i] := by rw [rdT32 (by omega)]; simp
    have hi2 := ih (i + 1) (by omega)
    rw [take_snoc' hlt, List.map_append, List.map_append] at hi2
    refine Ev.step (f := ?ff2) ?hh2 ?kk2
    case hh2 =>
      intro k
      simp only [style_Clean.l1]
      rw [if_pos (by omega), if_pos (by omega), if_pos (by omega), e, w64 (by omega) (by omega), show mark_Of.f (⟨#[58]⟩ : ByteArray) 0 = some (canon [(58, 0)]) from of_one 58 0 (by decide), Option.bind_some]
    case kk2 =>
      have hc := Cat_mk [ds[i].1, [(58, 0)], ds[i].2] (fun X hX => by
        simp only [List.mem_cons, List.not_mem_nil, or_false] at hX
        rcases hX with rfl | rfl | rfl
        · exact hok.1
        · exact Okl.one (by decide)
        · exact hok.2) (by simp) (by have := lineL_length ds[i]; unfold lineL at this; omega)
      refine Ev.bind hc ?_
      refine Ev.eq hi2 (fun k => ?_)
      rw [Option.bind_some, if_pos (by rw [List.length_map, List.length_map, List.length_take]; simp only [List.length_cons, List.length_nil]; omega)]
      rfl
theorem Clean_loop (ds : List Dc) (hd : ∀ d ∈ ds, Okd d) (hs : sumD ds ≤ 1000000000) (hl : ds.length ≤ 1000000000) : ∀ (d i : Nat), i + d = ds.length → Ev (fun k => style_Clean.l0 k (((ds.take i).foldl keepD []).map mkD) (ds.map mkD) ((ds.map mkD).length : Int) (i : Int)) (canon (joinA [(59, 0)] ((cleanD ds).map lineL))) := by
  intro d
  have hm : (ds.map mkD).length = ds.length := List.length_map _
  induction d with
  | zero =>
    intro i hi
    rw [List.take_of_length_le (by omega)]
    have h1 := foldD_sum ds []
    rw [show sumD [] = 0 from rfl, List.length_nil] at h1
    have h := Clean_join (cleanD ds) (fun x hx => hd x (cleanD_mem hx).1) (by unfold cleanD; omega) (by unfold cleanD; omega) (cleanD ds).length 0 (Nat.zero_add _)
    refine Ev.step1 h (fun k => ?_)
    simp only [style_Clean.l0]
    rw [if_neg (by omega)]
    rfl
  | succ d ih =>
    intro i hi
    have hlt : i < ds.length := by omega
    have hok := hd ds[i] (List.getElem_mem hlt)
    have hz := szD_sum (List.getElem_mem hlt)
    unfold szD at hz
    have e : rd_T32 (ds.map mkD) (i : Int) = mkD ds[i] := by rw [rdT32 (by omega)]; simp
    have hi2 := ih (i + 1) (by omega)
    rw [take_snoc' hlt, List.foldl_append, List.foldl_cons, List.foldl_nil] at hi2
    have hacc : ∀ x ∈ (ds.take i).foldl keepD [], Okd x ∧ x.1.length ≤ 1099511627776 ∧ x.2.length ≤ 1099511627776 := by
      intro x hx
      have h1 : x ∈ ds.take i := (cleanD_mem hx).1
      have h2 : x ∈ ds := List.mem_of_mem_take h1
      have h3 := szD_sum h2
      unfold szD at h3
      exact ⟨hd x h2, by omega, by omega⟩
    have hal : ((ds.take i).foldl keepD []).length ≤ 1000000000 := by
      have h1 := (foldD_sum (ds.take i) []).2
      rw [List.length_nil, List.length_take] at h1
      omega
    generalize hA : (ds.take i).foldl keepD [] = acc at hi2 hacc hal ⊢
    refine Ev.step (f := ?ff) ?hh ?kk
    case hh =>
      intro k
      simp only [style_Clean.l0]
      rw [if_pos (by omega), if_pos (by omega), if_pos (by omega), e, w64 (by omega) (by omega), Known_spec, Option.bind_some, show (mkD ds[i]).f0.f0.data.toList = bsL ds[i].1 from mkS_bsL _]
    case kk =>
      by_cases hk : knownV (bsL ds[i].1) = true
      · simp only [if_pos hk]
        refine Ev.bind (Pure_canon hok.1 (by omega)) ?_
        by_cases hp : pureV ds[i].1 = true
        · simp only [if_pos hp]
          have epl : style_Plain.f (mkD ds[i]).f1.f0 = some (plainV (bsL ds[i].2)) := by
            unfold style_Plain.f
            rw [show (mkD ds[i]).f1.f0.data.toList = bsL ds[i].2 from mkS_bsL _, if_pos (by rw [show (mkD ds[i]).f1.f0 = (canon ds[i].2).1 from rfl, canon_size]; omega)]
          simp only [epl, Option.bind_some]
          by_cases hv : plainV (bsL ds[i].2) = true
          · simp only [if_pos hv]
            refine Ev.bind (Drop_spec acc hacc (by omega) ds[i].1) ?_
            refine Ev.eq hi2 (fun k => ?_)
            have hdl : (dropD acc ds[i].1).length ≤ acc.length := List.length_filter_le _ _
            rw [if_pos (by rw [List.length_map]; simp only [List.length_cons, List.length_nil]; omega)]
            have hkd : keepD acc ds[i] = dropD acc ds[i].1 ++ [ds[i]] := if_pos (by unfold okD; rw [hk, hp, hv]; rfl)
            rw [hkd, mkD_snoc]
            rfl
          · simp only [if_neg hv]
            have hkd : keepD acc ds[i] = acc := if_neg (by unfold okD; simp [hv])
            rw [hkd] at hi2
            exact hi2
        · simp only [if_neg hp]
          have hkd : keepD acc ds[i] = acc := if_neg (by unfold okD; simp [hp])
          rw [hkd] at hi2
          exact hi2
      · simp only [if_neg hk]
        have hkd : keepD acc ds[i] = acc := if_neg (by unfold okD; simp [hk])
        rw [hkd] at hi2
        exact hi2
theorem Clean_spec (t : ByteArray) (rs : List S56) (ht : t.size ≤ 100000000) (hr : rs.length ≤ 1099511627776) : Ev (fun k => style_Clean.f k t rs) (canon (cleanL (La t rs))) := by
  have hn := La_length t rs
  have h1 := parseL_sum (La t rs)
  have h2 := parseL_num (La t rs)
  unfold style_Clean.f
  refine Ev.bind (Parse_spec t rs (by omega) hr) ?_
  exact Clean_loop (parseL (La t rs)) (fun d hd => parseL_ok (La_ok t rs) hd) (by omega) (by omega) _ 0 (Nat.zero_add _)
theorem Clean_canon {l : List Lc} (h : Okl l) (hl : l.length ≤ 100000000) : Ev (fun k => style_Clean.f k (canon l).1 (canon l).2) (canon (cleanL l)) := by
  have hc := canon_runs l
  have := Clean_spec (canon l).1 (canon l).2 (by rw [canon_size]; omega) (by omega)
  rwa [La_canon h] at this
theorem cleanL_length (l : List Lc) : (cleanL l).length ≤ 3 * l.length + 2 := by
  have h1 := parseL_sum l
  have h2 := parseL_num l
  have h3 := foldD_sum (parseL l) []
  rw [show sumD [] = 0 from rfl, List.length_nil] at h3
  have h4 := lines_length (cleanD (parseL l))
  unfold cleanL
  unfold cleanD at h4 ⊢
  omega
theorem cleanL_ok {l : List Lc} (h : Okl l) : Okl (cleanL l) := joinA_ok (Okl.one (by decide)) fun X hX => by
  obtain ⟨d, hd, rfl⟩ := List.mem_map.1 hX
  exact lineL_ok (parseL_ok h (cleanD_mem hd).1)
end Go.Proofs.YtljmmhihdcnbaaaDoor.G
