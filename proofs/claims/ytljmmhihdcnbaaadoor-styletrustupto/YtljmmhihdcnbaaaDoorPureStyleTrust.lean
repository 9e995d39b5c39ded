/- StyleTrust answers true. -/
import Derived.Test.YtljmmhihdcnbaaaDoorPu
import Derived.Test.YtljmmhihdcnbaaaDoorG60
namespace Go.Proofs.YtljmmhihdcnbaaaDoor.G
open Go.RowKit Go.Proofs.YtljmmhihdcnbaaaDoorW.PrintWords Go.Proofs.YtljmmhihdcnbaaaDoorW.PrintLast Go.Proofs.YtljmmhihdcnbaaaDoorW.PrintMore
set_option linter.unusedVariables false
set_option linter.unusedSimpArgs false
theorem Trust_alive : Ev (fun k => glazierlaw44_alive.f k) true := Ev.of (fun k => glazierlaw44_alive.mono k) (k := 40) (by decide +kernel)
theorem lawKnown_spec (a : ByteArray) : glazierlaw44_known.f a = some (knownV a.data.toList) := by
  unfold glazierlaw44_known.f
  simp only [ByteArray.toList_eq]
  generalize a.data.toList = l
  unfold knownV
  repeat' split
  all_goals first | (simp_all; done) | (simp_all; rw [Bool.eq_iff_iff]; simp)
/-! ### dyed -/
theorem foldl_max_ge : ∀ (os : List Int) (a : Int), a ≤ os.foldl max a ∧ ∀ o ∈ os, o ≤ os.foldl max a
  | [], a => ⟨Int.le_refl _, fun _ h => by cases h⟩
  | x :: os, a => by
    obtain ⟨h1, h2⟩ := foldl_max_ge os (max a x)
    rw [List.foldl_cons]
    refine ⟨by omega, fun o ho => ?_⟩
    rcases List.mem_cons.1 ho with rfl | ho
    · omega
    · exact h2 o ho
theorem dec_take {fr : List S56} {i : Nat} (h : i < fr.length) : dec (fr.take (i + 1)) = dec (fr.take i) ++ List.replicate fr[i].f0.toNat fr[i].f1 := by rw [take_snoc' h, dec_snoc]
theorem Dye_loop (t : ByteArray) (fr : List S56) (o : Int) (hl : fr.length ≤ 1099511627776) (hd : (dec fr).length ≤ 1099511627776) (hf : Full fr) : ∀ (d i : Nat), i + d = fr.length → Ev (fun k => mark_Dye.l0 k o fr (fr.length : Int) (i : Int) t (rle ((dec (fr.take i)).map fun x => max x (nr o)))) (t, rle ((dec fr).map fun x => max x (nr o))) := by
  intro d
  induction d with
  | zero =>
    intro i hi
    rw [List.take_of_length_le (by omega)]
    refine Ev.step1 (Ev.now _) (fun k => ?_)
    simp only [mark_Dye.l0]
    rw [if_neg (by omega)]
  | succ d ih =>
    intro i hi
    have hlt : i < fr.length := by omega
    have hi2 := ih (i + 1) (by omega)
    have h1 := hf fr[i] (List.getElem_mem hlt)
    have hn : (dec (fr.take i)).length + fr[i].f0.toNat ≤ (dec fr).length := by
      have e : dec fr = dec (fr.take (i + 1)) ++ dec (fr.drop (i + 1)) := by rw [← dec_append, List.take_append_drop]
      rw [e, dec_take hlt]
      simp only [List.length_append, List.length_replicate]
      omega
    rw [dec_take hlt, List.map_append, List.map_replicate] at hi2
    refine Ev.step1 hi2 (fun k => ?_)
    simp only [mark_Dye.l0]
    rw [if_pos (by omega), if_pos (by omega), if_pos (by omega), near_eq, Option.bind_some, rdT56 hlt, mx_eq, put_rle _ _ _ (by rw [List.length_map]; omega) (by rw [List.length_map]; omega), Option.bind_some, w64 (by omega) (by omega)]
    rfl
theorem Dye_spec (t : ByteArray) (rs : List S56) (o : Int) (ht : t.size ≤ 1099511627776) (hr : rs.length ≤ 1099511627776) : Ev (fun k => mark_Dye.f k t rs o) (t, rle ((labO t.size rs).map fun x => max x (nr o))) := by
  unfold mark_Dye.f
  refine Ev.bind (Fix_spec t rs ht hr) ?_
  have hn := La_length t rs
  have hs : (canon (La t rs)).2 = rle (labO t.size rs) := by rw [canon_La]
  have h1 := rle_length (labO t.size rs)
  rw [labO_length] at h1
  have h := Dye_loop t (rle (labO t.size rs)) o (by omega) (by rw [dec_rle, labO_length]; omega) (rle_full _) _ 0 (Nat.zero_add _)
  rw [dec_rle] at h
  rw [hs]
  exact h
theorem lowL_snd {l : List Lc} {c : Lc} (h : c ∈ lowL l) : ∃ x ∈ l, x.2 = c.2 := by
  obtain ⟨x, hx, rfl⟩ := List.mem_map.1 h
  exact ⟨x, hx, rfl⟩
theorem parseL_name {l : List Lc} {d : Dc} (h : d ∈ parseL l) {c : Lc} (hc : c ∈ d.1) : ∃ x ∈ l, x.2 = c.2 := by
  obtain ⟨X, hX, he⟩ := List.mem_filterMap.1 h
  unfold declL at he
  split at he
  · obtain rfl := Option.some.inj he
    obtain ⟨x, hx, e⟩ := lowL_snd hc
    have h1 := mem_trimL hx
    have h2 : x ∈ X := List.mem_of_mem_take h1
    have h3 := (cutsA_mem (qB (bytesA [59])) l [] (fun _ h => by cases h) X hX x h2).2
    rcases h3 with h3 | h3
    · cases h3
    · exact ⟨x, h3, e⟩
  · cases he
theorem clean_dyed {l : List Lc} (h : ∀ c ∈ l, 1 ≤ c.2) : cleanL l = [] := by
  have : cleanD (parseL l) = [] := by
    rw [List.eq_nil_iff_forall_not_mem]
    intro d hd
    obtain ⟨h1, h2⟩ := cleanD_mem hd
    obtain ⟨hk, hp, _⟩ := okD_parts h2
    have hne := (known_bytes hk).1
    obtain ⟨c, hc⟩ : ∃ c, c ∈ d.1 := by
      cases hd1 : d.1 with
      | nil => rw [hd1] at hne; exact absurd rfl hne
      | cons c _ => exact ⟨c, List.mem_cons_self⟩
    obtain ⟨x, hx, e⟩ := parseL_name h1 hc
    have h3 := h x hx
    have h4 := (foldl_max_ge (d.1.map (·.2)) 0).2 c.2 (List.mem_map_of_mem hc)
    have h5 : worst (d.1.map (·.2)) = 0 := by unfold pureV at hp; exact beq_iff_eq.1 hp
    unfold worst at h5
    omega
  unfold cleanL
  rw [this]
  rfl
/-! ### plain -/
def restB : ByteArray := ⟨#[32, 46, 35, 37, 45]⟩
def alnum (c : UInt8) : Bool := decide ((97 ≤ c.toNat ∧ c.toNat ≤ 122) ∨ (65 ≤ c.toNat ∧ c.toNat ≤ 90) ∨ (48 ≤ c.toNat ∧ c.toNat ≤ 57))
theorem odd_rest {c : UInt8} (h : oddC c = false) (ha : alnum c = false) : inB restB c = true := by
  have := byte_all (fun c => oddC c || (alnum c || inB restB c)) (by decide +kernel) c
  simp only [h, ha, Bool.false_or] at this
  exact this
theorem next_eq (k : Nat) (a : ByteArray) (x n : Bool) (j : Int) : (if x = true then glazierlaw44_plain.l0 k a true j else glazierlaw44_plain.l0 k a n j) = glazierlaw44_plain.l0 k a (x || n) j := by cases x <;> rfl
theorem plain_loop (a : ByteArray) (ha : a.size ≤ 1099511627776) (ho : ∀ c ∈ a.data.toList, oddC c = false) : ∀ (d i : Nat) (x : Bool), i + d = a.size → Ev (fun k => glazierlaw44_plain.l0 k a x (i : Int)) (x || (a.data.toList.drop i).any fun c => c != 32) := by
  intro d
  have hsl := size_list a
  induction d with
  | zero =>
    intro i x hi
    rw [List.drop_eq_nil_of_le (by omega), List.any_nil, Bool.or_false]
    refine Ev.step1 (Ev.now _) (fun k => ?_)
    simp only [glazierlaw44_plain.l0]
    rw [if_neg (by omega)]
  | succ d ih =>
    intro i x hi
    have hlt : i < a.data.toList.length := by omega
    have hi2 := ih (i + 1) (x || (a.data.toList[i] != 32)) (by omega)
    have hc := ho _ (List.getElem_mem hlt)
    rw [List.drop_eq_getElem_cons hlt, List.any_cons, ← Bool.or_assoc]
    have hbt := bt_nat hlt
    generalize a.data.toList[i] = c at hbt hc hi2 ⊢
    have hne : ((bt a (i : Int)) != 32) = (c != 32) := by
      rw [hbt, bne, bne]
      congr 1
      rw [Bool.eq_iff_iff, beq_iff_eq, beq_iff_eq]
      exact u8_eq (n := 32) (by decide)
    have hu : (c.toNat : Int) = bt a (i : Int) := hbt.symm
    by_cases hal : alnum c = true
    · have hal2 := of_decide_eq_true hal
      refine Ev.step1 hi2 (fun k => ?_)
      simp only [glazierlaw44_plain.l0]
      rw [if_pos (by omega), if_pos (by omega)]
      simp only [next_eq, w64 (show (-9223372036854775808 : Int) ≤ (i : Int) + 1 by omega) (show (i : Int) + 1 ≤ 9223372036854775807 by omega), hne]
      repeat' split
      all_goals first | rfl | (exfalso; omega)
    · have hal2 : ¬ ((97 ≤ c.toNat ∧ c.toNat ≤ 122) ∨ (65 ≤ c.toNat ∧ c.toNat ≤ 90) ∨ (48 ≤ c.toNat ∧ c.toNat ≤ 57)) := fun h => hal (decide_eq_true h)
      refine Ev.step (f := fun k => (glazierref01_In.f k (c.toNat : Int) restB).bind fun t => if t = true then glazierlaw44_plain.l0 k a (x || (c != 32)) ((i : Int) + 1) else some false) ?_ ?_
      · intro k
        simp only [glazierlaw44_plain.l0]
        rw [if_pos (by omega), if_pos (by omega)]
        simp only [next_eq, w64 (show (-9223372036854775808 : Int) ≤ (i : Int) + 1 by omega) (show (i : Int) + 1 ≤ 9223372036854775807 by omega), hne]
        rw [hu]
        repeat' split
        all_goals first | rfl | (exfalso; omega)
      · refine Ev.bind (In_spec restB (by decide) c) ?_
        rw [odd_rest hc (by simpa using hal)]
        simp only [if_true]
        exact hi2
theorem trimB_any {l : List UInt8} (h : (Go.Lib.trimB l 32).isEmpty = false) : (l.any fun c => c != 32) = true := by
  cases ha : l.any (fun c => c != 32) with
  | true => rfl
  | false =>
    have hall : ∀ c ∈ l, c = 32 := fun c hc => by
      have := List.any_eq_false.1 ha c hc
      simpa using this
    have hd : ∀ (m : List UInt8), (∀ c ∈ m, c = 32) → m.dropWhile (· == 32) = [] := by
      intro m
      induction m with
      | nil => intro _; rfl
      | cons x m ih =>
        intro hm
        rw [List.dropWhile_cons, if_pos (by rw [hm x List.mem_cons_self]; rfl)]
        exact ih fun c hc => hm c (List.mem_cons_of_mem _ hc)
    have : Go.Lib.trimB l 32 = [] := by
      unfold Go.Lib.trimB Go.Lib.trimRightB Go.Lib.trimLeftB
      rw [hd l.reverse (fun c hc => hall c (List.mem_reverse.1 hc))]
      rfl
    rw [this] at h
    cases h
theorem lawPlain_spec (a : ByteArray) (ha : a.size ≤ 1099511627776) (h : plainV a.data.toList = true) : Ev (fun k => glazierlaw44_plain.f k a) true := by
  have hl := plain_loop a ha (plain_bytes h) a.size 0 false (by omega)
  have h2 : (Go.Lib.trimB a.data.toList 32).isEmpty = false := by
    unfold plainV at h
    rw [Bool.and_eq_true] at h
    simpa using h.2
  rw [List.drop_zero, trimB_any h2, Bool.false_or] at hl
  exact hl
theorem Trust_loop (C : List Dc) (hC : ∀ d ∈ C, okD d = true ∧ Okd d ∧ d.1.length ≤ 1099511627776 ∧ d.2.length ≤ 1099511627776) (hl : C.length ≤ 1099511627776) : ∀ (d i : Nat), i + d = C.length → Ev (fun k => glazierlaw44_StyleTrust.l0 k (C.map mkD) (i : Int)) true := by
  intro d
  have hm : (C.map mkD).length = C.length := List.length_map _
  induction d with
  | zero =>
    intro i hi
    refine Ev.step1 (Ev.now _) (fun k => ?_)
    simp only [glazierlaw44_StyleTrust.l0]
    rw [if_neg (by omega)]
  | succ d ih =>
    intro i hi
    have hlt : i < C.length := by omega
    obtain ⟨hk, hO, h1, h2⟩ := hC C[i] (List.getElem_mem hlt)
    obtain ⟨p1, p2, p3⟩ := okD_parts hk
    have e : rd_T32 (C.map mkD) (i : Int) = mkD C[i] := by rw [rdT32 (by omega)]; simp
    refine Ev.step (f := ?ff) ?hh ?kk
    case hh =>
      intro k
      simp only [glazierlaw44_StyleTrust.l0]
      rw [if_pos (by omega), if_pos (by omega), e, lawKnown_spec, Option.bind_some, show (mkD C[i]).f0.f0.data.toList = bsL C[i].1 from mkS_bsL _, if_pos p1, w64 (by omega) (by omega)]
    case kk =>
      refine Ev.bind (Pure_canon hO.1 h1) ?_
      simp only [if_pos p2]
      refine Ev.bind (lawPlain_spec (mkD C[i]).f1.f0 (by rw [show (mkD C[i]).f1.f0 = (canon C[i].2).1 from rfl, canon_size]; omega) (by rw [show (mkD C[i]).f1.f0.data.toList = bsL C[i].2 from mkS_bsL _]; exact p3)) ?_
      simp only [if_true]
      exact ih (i + 1) (by omega)
theorem StyleTrust_spec (t : ByteArray) (rs : List S56) (ht : t.size ≤ 1048576) (hr : rs.length ≤ 1048576) : Ev (fun k => glazierlaw44_StyleTrust.f k t rs) true := by
  have hn := La_length t rs
  have hl := cleanL_length (La t rs)
  have hlab := labO_length rs t.size
  unfold glazierlaw44_StyleTrust.f
  refine Ev.bind Trust_alive ?_
  simp only [if_true]
  refine Ev.bind (Dye_spec t rs 1 (by omega) (by omega)) ?_
  have hrl := rle_length ((labO t.size rs).map fun x => max x (nr 1))
  rw [List.length_map, hlab] at hrl
  refine Ev.bind (Clean_spec t (rle ((labO t.size rs).map fun x => max x (nr 1))) (by omega) (by omega)) ?_
  have hdy : cleanL (La t (rle ((labO t.size rs).map fun x => max x (nr 1)))) = [] := by
    refine clean_dyed fun c hc => ?_
    have h1 : c.2 ∈ (La t (rle ((labO t.size rs).map fun x => max x (nr 1)))).map (·.2) := List.mem_map_of_mem hc
    rw [La_snd] at h1
    have h2 : labO t.size (rle ((labO t.size rs).map fun x => max x (nr 1))) = (labO t.size rs).map fun x => max x (nr 1) := by
      have := labO_rle (os := (labO t.size rs).map fun x => max x (nr 1)) (fun o ho => by
        obtain ⟨x, hx, rfl⟩ := List.mem_map.1 ho
        have := labO_range rs t.size x hx
        have e : nr 1 = 1 := by decide
        rw [e]
        omega)
      rw [List.length_map, hlab] at this
      exact this
    rw [h2] at h1
    obtain ⟨x, _, hx⟩ := List.mem_map.1 h1
    have e : nr 1 = 1 := by decide
    rw [e] at hx
    omega
  rw [hdy]
  have hE : (canon []).1.toList = ([] : List UInt8) := by rw [ByteArray.toList_eq]; rfl
  simp only [hE, if_true]
  refine Ev.bind (Clean_spec t rs (by omega) (by omega)) ?_
  refine Ev.bind (Parse_canon (cleanL_ok (La_ok t rs)) (by omega)) ?_
  rw [parse_clean]
  have h1 := parseL_sum (La t rs)
  have h2 := parseL_num (La t rs)
  have h3 := (foldD_sum (parseL (La t rs)) []).2
  rw [List.length_nil] at h3
  refine Trust_loop _ (fun d hd => ?_) (by unfold cleanD; omega) _ 0 (Nat.zero_add _)
  have hm := (cleanD_mem hd).1
  have hz := szD_sum hm
  unfold szD at hz
  exact ⟨(cleanD_mem hd).2, parseL_ok (La_ok t rs) hm, by omega, by omega⟩
theorem StyleTrust_pure (t : ByteArray) (rs : List S56) (ht : t.size ≤ 1048576) (hr : rs.length ≤ 1048576) : ∃ k, glazierlaw44_StyleTrust.f k t rs = some true := (StyleTrust_spec t rs ht hr).rounds
end Go.Proofs.YtljmmhihdcnbaaaDoor.G
