/- The words of a value: each once; with one more, without one, turned. -/
import Derived.Test.YtljmmhihdcnbaaaPn
import Derived.Test.YtljmmhihdcnbaaaG85
import Derived.Test.YtljmmhihdcnbaaaG90
import Derived.Test.YtljmmhihdcnbaaaG86
import Derived.Test.YtljmmhihdcnbaaaG94
namespace Go.Proofs.Ytljmmhihdcnbaaa.G
open Go.RowKit Go.Proofs.YtljmmhihdcnbaaaW.PrintWords Go.Proofs.YtljmmhihdcnbaaaW.PrintLast Go.Proofs.YtljmmhihdcnbaaaW.PrintMore
set_option linter.unusedVariables false
set_option linter.unusedSimpArgs false
theorem mkS_text (X : List Lc) : (mkS X).f0.toList = bsL X := by
  rw [ByteArray.toList_eq]
  show (bytesA (X.map (·.1))).data.toList = _
  simp [bytesA, bsL]
def hasT (Cs : List (List Lc)) (a : List UInt8) : Bool := Cs.any fun X => bsL X == a
theorem mkS_is (X : List Lc) (a : ByteArray) : ((mkS X).f0.toList == a.toList) = (bsL X == a.data.toList) := by rw [mkS_text, ByteArray.toList_eq]
theorem wordAt_any (a : ByteArray) (Cs : List (List Lc)) : (0 ≤ wordAt a (Cs.map mkS)) ↔ hasT Cs a.data.toList = true := by
  unfold wordAt hasT
  cases h : (Cs.map mkS).findIdx? (fun x => x.f0.toList == a.toList) with
  | none =>
    have h2 := List.findIdx?_eq_none_iff.1 h
    constructor
    · intro h3
      exact absurd h3 (by decide)
    · intro h3
      obtain ⟨X, hX, he⟩ := List.any_eq_true.1 h3
      have := h2 (mkS X) (List.mem_map_of_mem hX)
      rw [mkS_is, he] at this
      cases this
  | some i =>
    obtain ⟨h2, h3, _⟩ := List.findIdx?_eq_some_iff_getElem.1 h
    constructor
    · intro _
      have hi : i < Cs.length := by simpa using h2
      refine List.any_eq_true.2 ⟨Cs[i], List.getElem_mem hi, ?_⟩
      rw [List.getElem_map, mkS_is] at h3
      exact h3
    · intro _
      show (0 : Int) ≤ (i : Int)
      omega
theorem place_spec (a : ByteArray) (Cs : List (List Lc)) (hl : Cs.length ≤ 140737488355328) : classes_place.f (Cs.map mkS) a = some (wordAt a (Cs.map mkS)) := by
  unfold classes_place.f
  rw [if_pos (by rw [List.length_map]; exact hl)]
def wordsL (l : List Lc) : List (List Lc) := onceA bsL [] (fieldsL l)
theorem Words_loop (Cs : List (List Lc)) (hl : Cs.length ≤ 1099511627777) : ∀ (d i : Nat) (acc : List (List Lc)), i + d = Cs.length → acc.length ≤ i → Ev (fun k => classes_Words.l0 k (acc.map mkS) (Cs.map mkS) ((Cs.map mkS).length : Int) (i : Int)) ((onceA bsL acc (Cs.drop i)).map mkS) := by
  intro d
  have hm : (Cs.map mkS).length = Cs.length := List.length_map _
  induction d with
  | zero =>
    intro i acc hi ha
    rw [List.drop_eq_nil_of_le (by omega), onceA]
    refine Ev.step1 (Ev.now _) (fun k => ?_)
    simp only [classes_Words.l0]
    rw [if_neg (by omega)]
  | succ d ih =>
    intro i acc hi ha
    have hlt : i < Cs.length := by omega
    have e : rd_T24 (Cs.map mkS) (i : Int) = mkS Cs[i] := by rw [rdT24 (by omega)]; simp
    have e2 : ((mkS Cs[i]).f0).data.toList = bsL Cs[i] := by rw [← ByteArray.toList_eq]; exact mkS_text _
    have hp := wordAt_any (mkS Cs[i]).f0 acc
    rw [e2] at hp
    rw [List.drop_eq_getElem_cons hlt, onceA]
    by_cases h : hasT acc (bsL Cs[i]) = true
    · have h2 := ih (i + 1) acc (by omega) (by omega)
      rw [if_pos (show acc.any (fun y => bsL y == bsL Cs[i]) = true from h)]
      refine Ev.step1 h2 (fun k => ?_)
      have := hp.2 h
      simp only [classes_Words.l0]
      rw [if_pos (by omega), if_pos (by omega), if_pos (by omega), e, place_spec _ _ (by omega), Option.bind_some, if_neg (by omega), w64 (by omega) (by omega)]
      rfl
    · have h2 := ih (i + 1) (acc ++ [Cs[i]]) (by omega) (by simp; omega)
      rw [mkS_snoc] at h2
      rw [if_neg (show ¬ acc.any (fun y => bsL y == bsL Cs[i]) = true from h)]
      refine Ev.step1 h2 (fun k => ?_)
      have h3 : ¬ 0 ≤ wordAt (mkS Cs[i]).f0 (acc.map mkS) := fun h' => h (hp.1 h')
      simp only [classes_Words.l0]
      rw [if_pos (by omega), if_pos (by omega), if_pos (by omega), e, place_spec _ _ (by omega), Option.bind_some, if_pos (by omega), if_pos (by rw [List.length_map]; omega), w64 (by omega) (by omega)]
      rfl
theorem Words_spec (t : ByteArray) (rs : List S85) (ht : t.size ≤ 1099511627776) (hr : rs.length ≤ 1099511627776) : Ev (fun k => classes_Words.f k t rs) ((wordsL (La t rs)).map mkS) := by
  have hn := La_length t rs
  have h1 := fieldsL_num (La t rs)
  unfold classes_Words.f
  refine Ev.bind (Fields_spec t rs ht hr) ?_
  have h := Words_loop (fieldsL (La t rs)) (by omega) (fieldsL (La t rs)).length 0 [] (by omega) (by simp)
  rw [List.drop_zero] at h
  exact h
theorem Words_canon {l : List Lc} (h : Okl l) (hl : l.length ≤ 1099511627776) : Ev (fun k => classes_Words.f k (canon l).1 (canon l).2) ((wordsL l).map mkS) := by
  have hc := canon_runs l
  have := Words_spec (canon l).1 (canon l).2 (by rw [canon_size]; omega) (by omega)
  rwa [La_canon h] at this
theorem wordsL_num (l : List Lc) : (wordsL l).length ≤ l.length + 1 := by
  have h1 := fieldsL_num l
  have h2 : (wordsL l).length ≤ 0 + (fieldsL l).length := onceA_length bsL (fieldsL l) []
  omega
theorem Has_spec (t : ByteArray) (rs : List S85) (a : ByteArray) (ht : t.size ≤ 1099511627776) (hr : rs.length ≤ 1099511627776) : Ev (fun k => classes_Has.f k t rs a) (hasT (wordsL (La t rs)) a.data.toList) := by
  have hn := La_length t rs
  have h1 := wordsL_num (La t rs)
  have hp := wordAt_any a (wordsL (La t rs))
  unfold classes_Has.f
  refine Ev.bind (Words_spec t rs ht hr) ?_
  rw [place_spec _ _ (by omega)]
  simp only [Option.bind_some]
  have e : decide (wordAt a ((wordsL (La t rs)).map mkS) ≥ 0) = hasT (wordsL (La t rs)) a.data.toList := by
    by_cases h : hasT (wordsL (La t rs)) a.data.toList = true
    · rw [h]; exact decide_eq_true (hp.2 h)
    · rw [Bool.eq_false_iff.2 h]; exact decide_eq_false (fun h' => h (hp.1 h'))
  rw [e]
  exact Ev.now _
theorem Has_canon {l : List Lc} (h : Okl l) (hl : l.length ≤ 1099511627776) (a : ByteArray) : Ev (fun k => classes_Has.f k (canon l).1 (canon l).2 a) (hasT (wordsL l) a.data.toList) := by
  have hc := canon_runs l
  have := Has_spec (canon l).1 (canon l).2 a (by rw [canon_size]; omega) (by omega)
  rwa [La_canon h] at this
/-- Is it just a word? -/
def oneL (l : List Lc) : Bool := match fieldsL l with
  | [x] => bsL x == bsL l
  | _ => false
theorem one_spec (t : ByteArray) (rs : List S85) (ht : t.size ≤ 1099511627776) (hr : rs.length ≤ 1099511627776) : Ev (fun k => classes_one.f k t rs) (oneL (La t rs)) := by
  unfold classes_one.f
  refine Ev.bind (Fields_spec t rs ht hr) ?_
  have e0 : t.toList = bsL (La t rs) := by rw [ByteArray.toList_eq]; exact (La_fst t rs).symm
  unfold oneL
  match fieldsL (La t rs) with
  | [] => simp only [List.map_nil, List.length_nil]; exact Ev.now _
  | [x] =>
    have e : rd_T24 [mkS x] 0 = mkS x := rfl
    simp only [List.map_cons, List.map_nil, List.length_cons, List.length_nil, e, mkS_text, e0]
    exact Ev.now _
  | x :: y :: r =>
    have e : ¬ ((List.map mkS (x :: y :: r)).length : Int) = 1 := by simp; omega
    simp only [if_neg e]
    exact Ev.now _
theorem one_canon {l : List Lc} (h : Okl l) (hl : l.length ≤ 1099511627776) : Ev (fun k => classes_one.f k (canon l).1 (canon l).2) (oneL l) := by
  have hc := canon_runs l
  have := one_spec (canon l).1 (canon l).2 (by rw [canon_size]; omega) (by omega)
  rwa [La_canon h] at this
/-- A trusted blank. -/
def sp : List Lc := [(32, 0)]
theorem sp_ok : Okl sp := Okl.one ⟨by decide, by decide⟩
theorem joined_spec (Cs : List (List Lc)) (hn : Cs.length ≤ 1099511627776) (hC : ∀ X ∈ Cs, Okl X) (hl : (joinA sp Cs).length ≤ 1099511627776) : Ev (fun k => classes_joined.f k (Cs.map mkS)) (canon (joinA sp Cs)) := by
  unfold classes_joined.f
  rw [show mark_Of.f (⟨#[32]⟩ : ByteArray) 0 = some (canon sp) from of_one 32 0 ⟨by decide, by decide⟩]
  simp only [Option.bind_some]
  exact Ev.bind (JoinA_spec Cs sp hn sp_ok hC hl) (Ev.now _)
/-- Words as they are: none empty, no spaces, no two alike. -/
structure Gd (ws : List (List Lc)) : Prop where
  sep : ∀ X ∈ ws, X ≠ [] ∧ ∀ c ∈ X, qB sps c = false
  apart : Apart bsL ws
  ok : ∀ X ∈ ws, Okl X
theorem words_gd {l : List Lc} (h : Okl l) : Gd (wordsL l) := by
  have hm : ∀ X ∈ wordsL l, X ∈ fieldsL l := fun X hX => by
    rcases onceA_mem bsL (fieldsL l) [] X hX with h | h
    · cases h
    · exact h
  exact ⟨fun X hX => ⟨(fieldsA_mem (hm X hX)).1, fun c hc => ((fieldsA_mem (hm X hX)).2 c hc).1⟩, onceA_apart bsL _ _ List.Pairwise.nil, fun X hX => fieldsL_ok h X (hm X hX)⟩
theorem words_join {ws : List (List Lc)} (h : Gd ws) : wordsL (joinA sp ws) = ws := by
  unfold wordsL fieldsL
  rw [show sp = [((32, 0) : Lc)] from rfl, fieldsA_join (qB sps) (32, 0) (by decide) ws h.sep, onceA_self bsL ws [] (by simpa using h.apart), List.nil_append]
def dropT (ws : List (List Lc)) (a : List UInt8) : List (List Lc) := ws.filter fun X => !(bsL X == a)
theorem Gd.drop {ws : List (List Lc)} (h : Gd ws) (a : List UInt8) : Gd (dropT ws a) :=
  ⟨fun X hX => h.sep X (List.mem_filter.1 hX).1, apart_filter bsL h.apart _, fun X hX => h.ok X (List.mem_filter.1 hX).1⟩
theorem Gd.snoc {ws : List (List Lc)} (h : Gd ws) {W : List Lc} (hW : W ≠ [] ∧ ∀ c ∈ W, qB sps c = false) (hO : Okl W) (hn : hasT ws (bsL W) = false) : Gd (ws ++ [W]) := by
  refine ⟨fun X hX => ?_, apart_snoc bsL h.apart W (fun y hy e => ?_), fun X hX => ?_⟩
  · rcases List.mem_append.1 hX with h1 | h1
    · exact h.sep X h1
    · rw [List.mem_singleton] at h1; subst h1; exact hW
  · have : hasT ws (bsL W) = true := List.any_eq_true.2 ⟨y, hy, by simp [e]⟩
    rw [hn] at this
    cases this
  · rcases List.mem_append.1 hX with h1 | h1
    · exact h.ok X h1
    · rw [List.mem_singleton] at h1; subst h1; exact hO
theorem has_drop (ws : List (List Lc)) (a : List UInt8) : hasT (dropT ws a) a = false := by
  unfold hasT dropT
  rw [List.any_eq_false]
  intro X hX h
  have := (List.mem_filter.1 hX).2
  rw [h] at this
  cases this
theorem drop_none {ws : List (List Lc)} {a : List UInt8} (h : hasT ws a = false) : dropT ws a = ws := by
  refine List.filter_eq_self.2 (fun X hX => ?_)
  have := List.any_eq_false.1 h X hX
  simpa using this
theorem has_snoc (ws : List (List Lc)) (W : List Lc) : hasT (ws ++ [W]) (bsL W) = true := by simp [hasT]
theorem flat_filter (q : List Lc → Bool) : ∀ ws : List (List Lc), (ws.filter q).flatten.length ≤ ws.flatten.length
  | [] => by simp
  | x :: ws => by
    have := flat_filter q ws
    rw [List.filter_cons]
    split
    · simp only [List.flatten_cons, List.length_append]; omega
    · simp only [List.flatten_cons, List.length_append]; omega
theorem onceA_flat (f : List Lc → List UInt8) : ∀ (l acc : List (List Lc)), (onceA f acc l).flatten.length ≤ acc.flatten.length + l.flatten.length
  | [], acc => by simp [onceA]
  | x :: l, acc => by
    rw [onceA]
    split
    · have := onceA_flat f l acc
      simp only [List.flatten_cons, List.length_append]; omega
    · have h1 := onceA_flat f l (acc ++ [x])
      have h2 : (acc ++ [x]).flatten.length = acc.flatten.length + x.length := by rw [flat_snoc, List.length_append]
      have h3 : (x :: l).flatten.length = x.length + l.flatten.length := by rw [List.flatten_cons, List.length_append]
      omega
theorem wordsL_flat (l : List Lc) : (wordsL l).flatten.length ≤ l.length := by
  have h1 : (wordsL l).flatten.length ≤ 0 + (fieldsL l).flatten.length := onceA_flat bsL (fieldsL l) []
  have h2 : (fieldsL l).flatten.length ≤ (cutsA (qB sps) [] l).flatten.length := flat_filter _ _
  have h3 : (cutsA (qB sps) [] l).flatten.length ≤ 0 + l.length := cutsA_flat (qB sps) l []
  omega
theorem join_len (ws : List (List Lc)) : (joinA sp ws).length ≤ ws.flatten.length + ws.length := by
  have := joinA_length sp ws
  have e : sp.length = 1 := rfl
  rw [e, Nat.mul_one] at this
  exact this
/-- With one more: what Add makes of the words. -/
def addT (ws : List (List Lc)) (W : List Lc) : List (List Lc) := if hasT ws (bsL W) = true then ws else ws ++ [W]
def turnT (ws : List (List Lc)) (W : List Lc) : List (List Lc) := if hasT ws (bsL W) = true then dropT ws (bsL W) else ws ++ [W]
theorem canon_text (W : List Lc) : (canon W).1.data.toList = bsL W := by
  show (bytesA (W.map (·.1))).data.toList = _
  simp [bytesA, bsL]
theorem Fix_canon {l : List Lc} (h : Okl l) (hl : l.length ≤ 1099511627776) : Ev (fun k => mark_Fix.f k (canon l).1 (canon l).2) (canon l) := by
  have hc := canon_runs l
  have := Fix_spec (canon l).1 (canon l).2 (by rw [canon_size]; omega) (by omega)
  rwa [La_canon h] at this
theorem Add_spec (t : ByteArray) (rs : List S85) (W : List Lc) (hW : Okl W) (ht : t.size ≤ 268435456) (hr : rs.length ≤ 1099511627776) (hw : W.length ≤ 268435456) :
    Ev (fun k => classes_Add.f k t rs (canon W).1 (canon W).2) (if oneL W = true then ((canon (joinA sp (addT (wordsL (La t rs)) W))).1, (canon (joinA sp (addT (wordsL (La t rs)) W))).2, 0) else (⟨#[]⟩, [], 16)) := by
  have hn := La_length t rs
  have h1 := wordsL_num (La t rs)
  have h2 := wordsL_flat (La t rs)
  have hp := wordAt_any (canon W).1 (wordsL (La t rs))
  rw [canon_text] at hp
  have hg := words_gd (La_ok t rs)
  unfold classes_Add.f
  refine Ev.bind (one_canon hW (by omega)) ?_
  by_cases ho : oneL W = true
  · simp only [if_pos ho]
    refine Ev.bind (Words_spec t rs (by omega) hr) ?_
    rw [place_spec _ _ (by omega)]
    simp only [Option.bind_some]
    unfold addT
    by_cases h : hasT (wordsL (La t rs)) (bsL W) = true
    · have h3 := hp.2 h
      simp only [if_neg (show ¬ wordAt (canon W).1 ((wordsL (La t rs)).map mkS) < 0 by omega), if_pos h]
      have hj := join_len (wordsL (La t rs))
      exact Ev.bind (joined_spec _ (by omega) hg.ok (by omega)) (Ev.now _)
    · have h3 : wordAt (canon W).1 ((wordsL (La t rs)).map mkS) < 0 := by
        rcases Int.lt_or_le (wordAt (canon W).1 ((wordsL (La t rs)).map mkS)) 0 with h4 | h4
        · exact h4
        · exact absurd (hp.1 h4) h
      simp only [if_pos h3, if_neg h]
      refine Ev.bind (Fix_canon hW (by omega)) ?_
      simp only [if_pos (show ((wordsL (La t rs)).map mkS).length < 3518437208883 by rw [List.length_map]; omega)]
      have hj := join_len (wordsL (La t rs) ++ [W])
      rw [flat_snoc, List.length_append, List.length_append, List.length_singleton] at hj
      have h5 := joined_spec (wordsL (La t rs) ++ [W]) (by simp; omega) (fun X hX => by
        rcases List.mem_append.1 hX with hX | hX
        · exact hg.ok X hX
        · rw [List.mem_singleton] at hX; subst hX; exact hW) (by omega)
      rw [mkS_snoc] at h5
      exact Ev.bind h5 (Ev.now _)
  · simp only [if_neg ho]
    exact Ev.now _
theorem filter_mkS (a : ByteArray) (Cs : List (List Lc)) : (Cs.map mkS).filter (fun x => !(x.f0.toList == a.toList)) = (dropT Cs a.data.toList).map mkS := by
  unfold dropT
  rw [List.filter_map]
  congr 1
  refine List.filter_congr (fun X _ => ?_)
  show (!((mkS X).f0.toList == a.toList)) = _
  rw [mkS_is]
theorem Drop_spec (t : ByteArray) (rs : List S85) (a : ByteArray) (ht : t.size ≤ 268435456) (hr : rs.length ≤ 1099511627776) :
    Ev (fun k => classes_Drop.f k t rs a) (canon (joinA sp (dropT (wordsL (La t rs)) a.data.toList))) := by
  have hn := La_length t rs
  have h1 := wordsL_num (La t rs)
  have h2 := wordsL_flat (La t rs)
  have hg := words_gd (La_ok t rs)
  unfold classes_Drop.f
  refine Ev.bind (Words_spec t rs (by omega) hr) ?_
  simp only [if_pos (show ((wordsL (La t rs)).map mkS).length ≤ 140737488355328 by rw [List.length_map]; omega), filter_mkS]
  have h3 : (dropT (wordsL (La t rs)) a.data.toList).length ≤ (wordsL (La t rs)).length := List.length_filter_le _ _
  have h4 : (dropT (wordsL (La t rs)) a.data.toList).flatten.length ≤ (wordsL (La t rs)).flatten.length := flat_filter _ _
  have h5 := join_len (dropT (wordsL (La t rs)) a.data.toList)
  exact joined_spec _ (by omega) (hg.drop _).ok (by omega)
theorem Turn_spec (t : ByteArray) (rs : List S85) (W : List Lc) (hW : Okl W) (ht : t.size ≤ 268435456) (hr : rs.length ≤ 1099511627776) (hw : W.length ≤ 268435456) :
    Ev (fun k => classes_Turn.f k t rs (canon W).1 (canon W).2) (if oneL W = true then ((canon (joinA sp (turnT (wordsL (La t rs)) W))).1, (canon (joinA sp (turnT (wordsL (La t rs)) W))).2, 0) else (⟨#[]⟩, [], 16)) := by
  have hA := Add_spec t rs W hW ht hr hw
  have hH := Has_spec t rs (canon W).1 (by omega) hr
  have hD := Drop_spec t rs (canon W).1 ht hr
  rw [canon_text] at hH hD
  unfold classes_Turn.f
  refine Ev.bind (one_canon hW (by omega)) ?_
  have hadd : hasT (wordsL (La t rs)) (bsL W) = false ∨ oneL W = false → Ev (fun k => classes_Turn.j0 k false t rs (canon W).1 (canon W).2) (if oneL W = true then ((canon (joinA sp (turnT (wordsL (La t rs)) W))).1, (canon (joinA sp (turnT (wordsL (La t rs)) W))).2, 0) else (⟨#[]⟩, [], 16)) := by
    intro h
    have e : (if oneL W = true then ((canon (joinA sp (addT (wordsL (La t rs)) W))).1, (canon (joinA sp (addT (wordsL (La t rs)) W))).2, (0 : Int)) else (⟨#[]⟩, [], 16)) = (if oneL W = true then ((canon (joinA sp (turnT (wordsL (La t rs)) W))).1, (canon (joinA sp (turnT (wordsL (La t rs)) W))).2, 0) else (⟨#[]⟩, [], 16)) := by
      rcases h with h | h
      · have e2 : addT (wordsL (La t rs)) W = turnT (wordsL (La t rs)) W := by
          unfold addT turnT
          rw [if_neg (by rw [h]; simp), if_neg (by rw [h]; simp)]
        rw [e2]
      · rw [if_neg (by rw [h]; simp), if_neg (by rw [h]; simp)]
    rw [← e]
    refine Ev.step1 (f := fun k => (classes_Add.f k t rs (canon W).1 (canon W).2).bind fun b => some (b.1, b.2.1, b.2.2)) (Ev.bind hA (Ev.now _)) (fun k => ?_)
    simp only [classes_Turn.j0]
    rw [if_neg (by simp)]
  by_cases ho : oneL W = true
  · simp only [if_pos ho]
    refine Ev.bind hH ?_
    by_cases h : hasT (wordsL (La t rs)) (bsL W) = true
    · rw [h]
      have e : turnT (wordsL (La t rs)) W = dropT (wordsL (La t rs)) (bsL W) := by unfold turnT; rw [if_pos h]
      rw [e]
      refine Ev.step1 (f := fun k => (classes_Drop.f k t rs (canon W).1).bind fun b => some (b.1, b.2, 0)) (Ev.bind hD (Ev.now _)) (fun k => ?_)
      simp only [classes_Turn.j0]
      rw [if_pos trivial]
    · rw [Bool.eq_false_iff.2 h]
      have := hadd (.inl (Bool.eq_false_iff.2 h))
      rwa [if_pos ho] at this
  · simp only [if_neg ho]
    have := hadd (.inr (Bool.eq_false_iff.2 ho))
    rwa [if_neg ho] at this
theorem Add_canon {l : List Lc} (h : Okl l) (W : List Lc) (hW : Okl W) (hl : l.length ≤ 268435456) (hw : W.length ≤ 268435456) :
    Ev (fun k => classes_Add.f k (canon l).1 (canon l).2 (canon W).1 (canon W).2) (if oneL W = true then ((canon (joinA sp (addT (wordsL l) W))).1, (canon (joinA sp (addT (wordsL l) W))).2, 0) else (⟨#[]⟩, [], 16)) := by
  have hc := canon_runs l
  have := Add_spec (canon l).1 (canon l).2 W hW (by rw [canon_size]; omega) (by omega) hw
  rwa [La_canon h] at this
theorem Turn_canon {l : List Lc} (h : Okl l) (W : List Lc) (hW : Okl W) (hl : l.length ≤ 268435456) (hw : W.length ≤ 268435456) :
    Ev (fun k => classes_Turn.f k (canon l).1 (canon l).2 (canon W).1 (canon W).2) (if oneL W = true then ((canon (joinA sp (turnT (wordsL l) W))).1, (canon (joinA sp (turnT (wordsL l) W))).2, 0) else (⟨#[]⟩, [], 16)) := by
  have hc := canon_runs l
  have := Turn_spec (canon l).1 (canon l).2 W hW (by rw [canon_size]; omega) (by omega) hw
  rwa [La_canon h] at this
theorem Drop_canon {l : List Lc} (h : Okl l) (a : ByteArray) (hl : l.length ≤ 268435456) : Ev (fun k => classes_Drop.f k (canon l).1 (canon l).2 a) (canon (joinA sp (dropT (wordsL l) a.data.toList))) := by
  have hc := canon_runs l
  have := Drop_spec (canon l).1 (canon l).2 a (by rw [canon_size]; omega) (by omega)
  rwa [La_canon h] at this
end Go.Proofs.Ytljmmhihdcnbaaa.G
