/- ResolveOrigins: no origin of what is got is worse than those of both; the scheme stays trusted. -/
import Derived.Test.YtljmmhihdcnbaaaPg
import Derived.Test.YtljmmhihdcnbaaaPp
import Derived.Test.YtljmmhihdcnbaaaG33
import Derived.Test.YtljmmhihdcnbaaaG34
import Derived.Test.YtljmmhihdcnbaaaG35
namespace Go.Proofs.Ytljmmhihdcnbaaa.G
open Go.RowKit Go.Proofs.YtljmmhihdcnbaaaW.PrintWords Go.Proofs.YtljmmhihdcnbaaaW.PrintLast Go.Proofs.YtljmmhihdcnbaaaW.PrintMore
set_option linter.unusedVariables false
set_option linter.unusedSimpArgs false
theorem Resolve_alive : Ev (fun k => glazierlaw40_alive.f k) true := Ev.of (fun k => glazierlaw40_alive.mono k) (k := 60) (by decide +kernel)
/-! ### origins -/
theorem foldl_max_le (m : Int) : ∀ (os : List Int) (a : Int), a ≤ m → (∀ o ∈ os, o ≤ m) → os.foldl max a ≤ m
  | [], a, ha, _ => ha
  | o :: os, a, ha, h => by
    rw [List.foldl_cons]
    exact foldl_max_le m os _ (by have := h o (by simp); omega) (fun x hx => h x (by simp [hx]))
theorem le_foldl_max : ∀ (os : List Int) (a : Int), a ≤ os.foldl max a ∧ ∀ o ∈ os, o ≤ os.foldl max a
  | [], a => ⟨Int.le_refl _, fun _ h => by cases h⟩
  | o :: os, a => by
    rw [List.foldl_cons]
    obtain ⟨h1, h2⟩ := le_foldl_max os (max a o)
    refine ⟨by omega, fun x hx => ?_⟩
    rcases List.mem_cons.1 hx with rfl | hx
    · omega
    · exact h2 x hx
theorem worst_le {os : List Int} {m : Int} (h0 : 0 ≤ m) (h : ∀ o ∈ os, o ≤ m) : worst os ≤ m := foldl_max_le m os 0 h0 h
theorem worst_pos (os : List Int) : 0 ≤ worst os := (le_foldl_max os 0).1
theorem le_worst {os : List Int} {o : Int} (h : o ∈ os) : o ≤ worst os := (le_foldl_max os 0).2 o h
/-- Every origin of G is 0, or one of B's or S's. -/
def Org (B S G : List Lc) : Prop := ∀ c ∈ G, c.2 = 0 ∨ (∃ b ∈ B, b.2 = c.2) ∨ ∃ b ∈ S, b.2 = c.2
theorem Org.app {B S G H : List Lc} (h : Org B S G) (k : Org B S H) : Org B S (G ++ H) := fun c hc => (List.mem_append.1 hc).elim (h c) (k c)
theorem Org.sub {B S G H : List Lc} (h : Org B S G) (k : ∀ c ∈ H, c = (47, 0) ∨ c ∈ G) : Org B S H := fun c hc => by
  rcases k c hc with rfl | hc
  · exact .inl rfl
  · exact h c hc
theorem Org.nil {B S : List Lc} : Org B S [] := fun _ h => by cases h
theorem Org.worst {B S G : List Lc} (h : Org B S G) : worst (G.map (·.2)) ≤ max (worst (B.map (·.2))) (worst (S.map (·.2))) := by
  have h1 := worst_pos (B.map (·.2))
  refine worst_le (by omega) (fun o ho => ?_)
  obtain ⟨c, hc, rfl⟩ := List.mem_map.1 ho
  rcases h c hc with h | ⟨b, hb, e⟩ | ⟨b, hb, e⟩
  · show c.2 ≤ _
    omega
  · have := le_worst (List.mem_map.2 ⟨b, hb, rfl⟩ : b.2 ∈ B.map (·.2))
    show c.2 ≤ _
    omega
  · have := le_worst (List.mem_map.2 ⟨b, hb, rfl⟩ : b.2 ∈ S.map (·.2))
    show c.2 ≤ _
    omega
theorem mem_cutL {l : List Lc} {a b : Int} {c : Lc} (h : c ∈ cutL l a b) : c ∈ l := List.mem_of_mem_take (List.mem_of_mem_drop h)
/-! ### Dots -/
theorem mem_joinA {b : List Lc} {Cs : List (List Lc)} {c : Lc} (h : c ∈ joinA b Cs) : c ∈ b ∨ ∃ X ∈ Cs, c ∈ X := by
  rw [← jnL_flat] at h
  obtain ⟨X, hX, hc⟩ := List.mem_flatten.1 h
  rcases jnL_mem b Cs 0 X hX with rfl | h
  · exact .inl hc
  · exact .inr ⟨X, h, hc⟩
theorem mkS_empty : mkS [] = (⟨(⟨#[]⟩ : ByteArray), ([] : List S85)⟩ : S24) := rfl
section
variable (Cs : List (List Lc)) (hC : ∀ X ∈ Cs, Okl X) (hn : Cs.length ≤ 1000000000) (hf : Cs.flatten.length ≤ 1000000000)
def DotsTo (g : Nat → Option (ByteArray × List S85)) : Prop := ∃ R, Ev g (canon R) ∧ (∀ c ∈ R, c = (47, 0) ∨ c ∈ Cs.flatten) ∧ R.length ≤ Cs.flatten.length + Cs.length
theorem DotsTo.step {g f : Nat → Option (ByteArray × List S85)} (h : DotsTo Cs f) (e : ∀ k, g (k + 1) = f k) : DotsTo Cs g := by
  obtain ⟨R, h1, h2⟩ := h
  exact ⟨R, Ev.step1 h1 e, h2⟩
theorem DotsTo.eq {g f : Nat → Option (ByteArray × List S85)} (h : DotsTo Cs f) (e : ∀ k, g k = f k) : DotsTo Cs g := by
  obtain ⟨R, h1, h2⟩ := h
  exact ⟨R, Ev.eq h1 e, h2⟩
include hC hn hf
theorem Dots_loop : ∀ (d i : Nat) (acc : List (List Lc)), i + d = Cs.length → acc.length ≤ i → (∀ X ∈ acc, X = [] ∨ X ∈ Cs) → acc.flatten.length ≤ (Cs.take i).flatten.length →
    DotsTo Cs (fun k => resolve_Dots.l0 k (Cs.map mkS) (acc.map mkS) (Cs.map mkS) ((Cs.map mkS).length : Int) (i : Int)) := by
  have hm : (Cs.map mkS).length = Cs.length := List.length_map _
  have hjl : ((([(47, 0)] : List Lc)).length) = 1 := rfl
  intro d
  induction d with
  | zero =>
    intro i acc hi ha hX hl
    have hti : (Cs.take i).flatten.length = Cs.flatten.length := by rw [List.take_of_length_le (by omega)]
    have hlen := joinA_length [(47, 0)] acc
    rw [hjl, Nat.mul_one] at hlen
    have hok : ∀ X ∈ acc, Okl X := fun X hx => by
      rcases hX X hx with rfl | h
      · exact Okl.nil
      · exact hC X h
    have hJ := JoinA_spec acc [(47, 0)] (by omega) (Okl.one ⟨by decide, by decide⟩) hok (by omega)
    refine ⟨joinA [(47, 0)] acc, ?_, fun c hc => ?_, by omega⟩
    · refine Ev.step1 (f := fun k => (seek_Join.f k (acc.map mkS) (canon [(47, 0)]).1 (canon [(47, 0)]).2).bind fun b => some (b.1, b.2)) (Ev.bind hJ (Ev.now _)) (fun k => ?_)
      simp only [resolve_Dots.l0]
      rw [if_neg (by omega), of_one 47 0 (by decide), Option.bind_some]
    · rcases mem_joinA hc with h | ⟨X, hx, h⟩
      · exact .inl (List.mem_singleton.1 h)
      · rcases hX X hx with rfl | hx
        · cases h
        · exact .inr (List.mem_flatten.2 ⟨X, hx, h⟩)
  | succ d ih =>
    intro i acc hi ha hX hl
    have hlt : i < Cs.length := by omega
    have er : rd_T24 (Cs.map mkS) (i : Int) = mkS Cs[i] := by rw [rdT24 (by omega)]; simp
    have hts : (Cs.take (i + 1)).flatten.length = (Cs.take i).flatten.length + Cs[i].length := by rw [take_snoc' hlt, flat_snoc, List.length_append]
    have p1 : (i : Int) < ((Cs.map mkS).length : Int) := by omega
    have p2 : (0 : Int) ≤ (i : Int) := by omega
    have p3 : ∀ acc2 : List (List Lc), acc2.length ≤ i + 1 → (acc2.map mkS).length < 3518437208883 := fun acc2 h => by rw [List.length_map]; omega
    obtain ⟨N, hN⟩ : ∃ N : Int, N = ((Cs.map mkS).length : Int) := ⟨_, rfl⟩
    obtain ⟨Z, hZ⟩ : ∃ Z : Int, Z = wrap64 (N - 1) := ⟨_, rfl⟩
    have hk : ∀ (acc2 : List (List Lc)), acc2.length ≤ i + 1 → (∀ X ∈ acc2, X = [] ∨ X ∈ Cs) → acc2.flatten.length ≤ (Cs.take (i + 1)).flatten.length → DotsTo Cs (fun k => resolve_Dots.l0 k (Cs.map mkS) (acc2.map mkS) (Cs.map mkS) N (wrap64 ((i : Int) + 1))) := by
      intro acc2 h1 h2 h3
      rw [hN, show wrap64 ((i : Int) + 1) = ((i + 1 : Nat) : Int) from by rw [w64 (by omega) (by omega)]; rfl]
      exact ih (i + 1) acc2 (by omega) h1 h2 h3
    -- behind a dot
    have ht : ∀ (acc2 : List (List Lc)), acc2.length ≤ i → (∀ X ∈ acc2, X = [] ∨ X ∈ Cs) → acc2.flatten.length ≤ (Cs.take i).flatten.length →
        DotsTo Cs (fun k => if (i : Int) = Z then (if (acc2.map mkS).length < 3518437208883 then resolve_Dots.l0 k (Cs.map mkS) (acc2.map mkS ++ [(⟨(⟨#[]⟩ : ByteArray), ([] : List (S85))⟩ : S24)]) (Cs.map mkS) N (wrap64 ((i : Int) + 1)) else none) else resolve_Dots.l0 k (Cs.map mkS) (acc2.map mkS) (Cs.map mkS) N (wrap64 ((i : Int) + 1))) := by
      intro acc2 h1 h2 h3
      have h4 : (acc2 ++ [[]]).length ≤ i + 1 := by rw [List.length_append, List.length_singleton]; omega
      have h5 : (acc2 ++ [[]]).flatten.length ≤ (Cs.take (i + 1)).flatten.length := by rw [flat_snoc, List.append_nil]; omega
      have h6 := p3 acc2 (by omega)
      have h7 := hk acc2 (by omega) h2 (by omega)
      have h8 := hk (acc2 ++ [[]]) h4 (fun X hx => by
          rcases List.mem_append.1 hx with hx | hx
          · exact h2 X hx
          · exact .inl (List.mem_singleton.1 hx)) h5
      rw [List.map_append, List.map_singleton, mkS_empty] at h8
      by_cases hq : (i : Int) = Z
      · simp only [if_pos hq, if_pos h6]
        exact h8
      · simp only [if_neg hq]
        exact h7
    have hsnoc := hk (acc ++ [Cs[i]]) (by rw [List.length_append, List.length_singleton]; omega) (fun X hx => by
        rcases List.mem_append.1 hx with hx | hx
        · exact hX X hx
        · exact .inr (by rw [List.mem_singleton.1 hx]; exact List.getElem_mem hlt)) (by rw [flat_snoc, List.length_append]; omega)
    rw [List.map_append, List.map_singleton] at hsnoc
    have p4 := p3 acc (by omega)
    have hwl : wrap64 (((acc.map mkS).length : Int) - 1) = (acc.length : Int) - 1 := by rw [List.length_map, w64 (by omega) (by omega)]
    obtain ⟨L1, hL1⟩ : ∃ L1 : Int, L1 = wrap64 (((acc.map mkS).length : Int) - 1) := ⟨_, rfl⟩
    have hL2 : L1 = (acc.length : Int) - 1 := hL1.trans hwl
    clear hwl
    have hacc : (acc.map mkS).length = acc.length := List.length_map _
    rw [← hN] at p1
    have hunf : ∀ k, resolve_Dots.l0 (k + 1) (Cs.map mkS) (acc.map mkS) (Cs.map mkS) N (i : Int) = (if ((mkS Cs[i]).f0).toList = ([46] : List UInt8) then (if (i : Int) = Z then (if (acc.map mkS).length < 3518437208883 then (resolve_Dots.l0 k (Cs.map mkS) (acc.map mkS ++ [(⟨(⟨#[]⟩ : ByteArray), ([] : List (S85))⟩ : S24)]) (Cs.map mkS) N (wrap64 ((i : Int) + 1))) else (none)) else (resolve_Dots.l0 k (Cs.map mkS) (acc.map mkS) (Cs.map mkS) N (wrap64 ((i : Int) + 1)))) else (if ((mkS Cs[i]).f0).toList = ([46, 46] : List UInt8) then (if L1 > 0 then (resolve_Dots.j1 k (Cs.map mkS) (acc.map mkS) (i : Int) L1 (Cs.map mkS) N (i : Int) true) else (if L1 = 0 then (if 0 < ((acc.map mkS).length : Int) then (resolve_Dots.j1 k (Cs.map mkS) (acc.map mkS) (i : Int) L1 (Cs.map mkS) N (i : Int) (((rd_T24 (acc.map mkS) 0).f0).toList != ([] : List UInt8))) else (none)) else (resolve_Dots.j1 k (Cs.map mkS) (acc.map mkS) (i : Int) L1 (Cs.map mkS) N (i : Int) false))) else (if (acc.map mkS).length < 3518437208883 then (resolve_Dots.l0 k (Cs.map mkS) (acc.map mkS ++ [mkS Cs[i]]) (Cs.map mkS) N (wrap64 ((i : Int) + 1))) else (none)))) := by
      intro k
      simp only [resolve_Dots.l0]
      rw [if_pos p1, if_pos p2, if_pos (hN ▸ p1), er, ← hN, ← hZ, ← hL1]
    rw [← hN]
    by_cases h1 : (mkS Cs[i]).f0.toList = ([46] : List UInt8)
    · refine DotsTo.step Cs (ht acc ha hX hl) (fun k => ?_)
      rw [hunf, if_pos h1]
    · by_cases h2 : (mkS Cs[i]).f0.toList = ([46, 46] : List UInt8)
      · have hj : ∀ b : Bool, (b = true → 0 < acc.length) → DotsTo Cs (fun k => resolve_Dots.j1 k (Cs.map mkS) (acc.map mkS) (i : Int) L1 (Cs.map mkS) N (i : Int) b) := by
          intro b hb
          cases b with
          | false =>
            refine DotsTo.step Cs (ht acc ha hX hl) (fun k => ?_)
            simp only [resolve_Dots.j1, Bool.false_eq_true, if_false]
            rw [← hN, ← hZ]
          | true =>
            have hpos := hb rfl
            have hsub : ∀ X ∈ acc.take (acc.length - 1), X ∈ acc := fun X hx => List.mem_of_mem_take hx
            have hfl : (acc.take (acc.length - 1)).flatten.length ≤ acc.flatten.length := by
              have e := List.take_append_drop (acc.length - 1) acc
              have := congrArg (fun l => (List.flatten l).length) e
              simp only [List.flatten_append, List.length_append] at this
              omega
            have q1 : 0 ≤ L1 := by omega
            have q2 : L1 ≤ ((acc.map mkS).length : Int) := by omega
            have q3 : L1.toNat = acc.length - 1 := by omega
            refine DotsTo.step Cs (ht (acc.take (acc.length - 1)) (by rw [List.length_take]; omega) (fun X hx => hX X (hsub X hx)) (by omega)) (fun k => ?_)
            simp only [resolve_Dots.j1, if_true]
            rw [if_pos q1, if_pos q2, Option.bind_some, q3, ← List.map_take, ← hN, ← hZ]
        have hpick : ∃ b : Bool, (b = true → 0 < acc.length) ∧ ∀ k, resolve_Dots.l0 (k + 1) (Cs.map mkS) (acc.map mkS) (Cs.map mkS) N (i : Int) = resolve_Dots.j1 k (Cs.map mkS) (acc.map mkS) (i : Int) L1 (Cs.map mkS) N (i : Int) b := by
          by_cases g1 : L1 > 0
          · exact ⟨true, fun _ => by omega, fun k => by rw [hunf, if_neg h1, if_pos h2, if_pos g1]⟩
          · by_cases g2 : L1 = 0
            · exact ⟨((rd_T24 (acc.map mkS) 0).f0).toList != ([] : List UInt8), fun _ => by omega, fun k => by rw [hunf, if_neg h1, if_pos h2, if_neg g1, if_pos g2, if_pos (by omega)]⟩
            · exact ⟨false, fun h => absurd h (by decide), fun k => by rw [hunf, if_neg h1, if_pos h2, if_neg g1, if_neg g2]⟩
        obtain ⟨b, hb, he⟩ := hpick
        exact DotsTo.step Cs (hj b hb) he
      · refine DotsTo.step Cs hsnoc (fun k => ?_)
        rw [hunf, if_neg h1, if_neg h2, if_pos p4]
end
theorem Dots_spec (t : ByteArray) (rs : List S85) (ht : t.size ≤ 100000000) (hr : rs.length ≤ 1099511627776) : ∃ R, Ev (fun k => resolve_Dots.f k t rs) (canon R) ∧ Okl R ∧ (∀ c ∈ R, c = (47, 0) ∨ c ∈ La t rs) ∧ R.length ≤ 2 * t.size + 1 := by
  have hS := Split_spec t rs 47 (by omega) hr
  have hn := La_length t rs
  have h1 := cutsA_length (qB (bytesA [47])) (La t rs) []
  have h2 : (La t rs).countP (qB (bytesA [47])) ≤ (La t rs).length := List.countP_le_length
  have h3 : (cutsA (qB (bytesA [47])) [] (La t rs)).flatten.length ≤ 0 + (La t rs).length := cutsA_flat (qB (bytesA [47])) (La t rs) []
  obtain ⟨R, e, hm, hl⟩ := Dots_loop (cutsA (qB (bytesA [47])) [] (La t rs)) (cutsA_ok (La_ok t rs)) (by omega) (by omega) (cutsA (qB (bytesA [47])) [] (La t rs)).length 0 [] (by omega) (by simp) (fun X h => by cases h) (by simp)
  have hmem : ∀ c ∈ R, c = (47, 0) ∨ c ∈ La t rs := fun c hc => by
    rcases hm c hc with h | h
    · exact .inl h
    · obtain ⟨X, hX, hcX⟩ := List.mem_flatten.1 h
      rcases (cutsA_mem (qB (bytesA [47])) (La t rs) [] (fun _ h => by cases h) X hX c hcX).2 with h | h
      · cases h
      · exact .inr h
  refine ⟨R, ?_, fun c hc => ?_, hmem, by omega⟩
  · unfold resolve_Dots.f
    exact Ev.bind hS e
  · rcases hmem c hc with rfl | h
    · exact ⟨by decide, by decide⟩
    · exact La_ok t rs c h
theorem Dots_canon {l : List Lc} (h : Okl l) (hl : l.length ≤ 100000000) : ∃ R, Ev (fun k => resolve_Dots.f k (canon l).1 (canon l).2) (canon R) ∧ Okl R ∧ (∀ c ∈ R, c = (47, 0) ∨ c ∈ l) ∧ R.length ≤ 2 * l.length + 1 := by
  have hc := canon_runs l
  have := Dots_spec (canon l).1 (canon l).2 (by rw [canon_size]; exact hl) (by omega)
  rwa [La_canon h, canon_size] at this
/-! ### tail, halves, query, folder -/
def outT (L : List Lc) (a : Int) (n : Nat) : ByteArray × List S85 × ByteArray × List S85 := ((canon (cutL L 0 a)).1, (canon (cutL L 0 a)).2, (canon (cutL L a (n : Int))).1, (canon (cutL L a (n : Int))).2)
theorem tail_loop (t : ByteArray) (rs : List S85) (ht : t.size ≤ 1099511627776) (hr : rs.length ≤ 1099511627776) : ∀ (d i : Nat), i + d = t.size → ∃ a : Int, Ev (fun k => resolve_tail.l0 k (i : Int) t rs) (outT (La t rs) a t.size) := by
  have hcut : ∀ a : Int, Ev (fun k => (mark_Cut.f k t rs 0 a).bind fun x => (mark_Cut.f k t rs a (t.size : Int)).bind fun y => (some (x.1, x.2, y.1, y.2) : Option (ByteArray × List S85 × ByteArray × List S85))) (outT (La t rs) a t.size) := fun a =>
    Ev.bind (Cut_spec t rs _ _ ht hr) (Ev.bind (Cut_spec t rs _ _ ht hr) (Ev.now _))
  intro d
  induction d with
  | zero =>
    intro i hi
    refine ⟨(i : Int), Ev.step1 (hcut (i : Int)) (fun k => ?_)⟩
    simp only [resolve_tail.l0]
    rw [if_neg (by omega)]
  | succ d ih =>
    intro i hi
    by_cases h1 : bt t (i : Int) = 63
    · refine ⟨(i : Int), Ev.step1 (hcut (i : Int)) (fun k => ?_)⟩
      simp only [resolve_tail.l0]
      rw [if_pos (by omega), if_pos (by omega), if_pos h1]
    · by_cases h2 : bt t (i : Int) = 35
      · refine ⟨(i : Int), Ev.step1 (hcut (i : Int)) (fun k => ?_)⟩
        simp only [resolve_tail.l0]
        rw [if_pos (by omega), if_pos (by omega), if_neg h1, if_pos h2]
      · obtain ⟨a, h⟩ := ih (i + 1) (by omega)
        refine ⟨a, Ev.step1 h (fun k => ?_)⟩
        simp only [resolve_tail.l0]
        rw [if_pos (by omega), if_pos (by omega), if_neg h1, if_neg h2, w64 (by omega) (by omega)]
        rfl
theorem tail_canon {l : List Lc} (h : Okl l) (hl : l.length ≤ 1099511627776) : ∃ a : Int, Ev (fun k => resolve_tail.f k (canon l).1 (canon l).2) (outT l a l.length) := by
  have hc := canon_runs l
  obtain ⟨a, e⟩ := tail_loop (canon l).1 (canon l).2 (by rw [canon_size]; exact hl) (by omega) (canon l).1.size 0 (by omega)
  rw [La_canon h, canon_size] at e
  exact ⟨a, e⟩
theorem halves_canon {l : List Lc} (h : Okl l) (hl : l.length ≤ 1099511627776) : ∃ a : Int, Ev (fun k => resolve_halves.f k (canon l).1 (canon l).2) (outT l a l.length) := by
  have hcut : ∀ a : Int, Ev (fun k => (mark_Cut.f k (canon l).1 (canon l).2 0 a).bind fun x => (mark_Cut.f k (canon l).1 (canon l).2 a ((canon l).1.size : Int)).bind fun y => (some (x.1, x.2, y.1, y.2) : Option (ByteArray × List S85 × ByteArray × List S85))) (outT l a l.length) := fun a => by
    rw [canon_size]
    exact Ev.bind (Cut_canon h hl _ _) (Ev.bind (Cut_canon h hl _ _) (Ev.now _))
  unfold resolve_halves.f strings_IndexByte.f
  simp only [Option.bind_some]
  by_cases g : Go.Lib.indexByte (canon l).1.data.toList (35 : Int).toNat.toUInt8 ≥ 0
  · simp only [if_pos g]
    exact ⟨_, hcut _⟩
  · simp only [if_neg g]
    exact ⟨_, hcut _⟩
theorem query_spec (t : ByteArray) (rs : List S85) (ht : t.size ≤ 1099511627776) (hr : rs.length ≤ 1099511627776) : ∃ R, Ev (fun k => resolve_query.f k t rs) (canon R) ∧ (∀ c ∈ R, c ∈ La t rs) ∧ R.length ≤ t.size := by
  have hO := restL_ok (readyL_ok (La_ok t rs))
  have h1 := restL_length (readyL (La t rs))
  have h2 := readyL_length (La t rs)
  have h3 := La_length t rs
  obtain ⟨a, ha⟩ := tail_canon hO (by omega)
  have hl := cutL_length (restL (readyL (La t rs))) a ((restL (readyL (La t rs))).length : Int)
  obtain ⟨b, hb⟩ := halves_canon (hO.cut a ((restL (readyL (La t rs))).length : Int)) (by omega)
  have hl2 := cutL_length (cutL (restL (readyL (La t rs))) a ((restL (readyL (La t rs))).length : Int)) 0 b
  refine ⟨cutL (cutL (restL (readyL (La t rs))) a ((restL (readyL (La t rs))).length : Int)) 0 b, ?_, fun c hc => ?_, by omega⟩
  · unfold resolve_query.f
    exact Ev.bind (Rest_spec t rs ht hr) (Ev.bind ha (Ev.bind hb (Ev.now _)))
  · have h := mem_cutL (mem_cutL hc)
    have h := List.mem_of_mem_drop h
    exact mem_trimL (List.mem_filter.1 h).1
theorem last_loop (t : ByteArray) (c : Int) (ht : t.size ≤ 1099511627776) : ∀ (d : Nat), d ≤ t.size → ∃ v : Int, Ev (fun k => bytealg_LastIndexByteString.l0 k t c ((d : Int) - 1)) v := by
  intro d
  induction d with
  | zero =>
    intro _
    refine ⟨-1, Ev.step1 (Ev.now _) (fun k => ?_)⟩
    simp only [bytealg_LastIndexByteString.l0]
    rw [if_neg (by omega)]
  | succ d ih =>
    intro hd
    by_cases h : bt t (((d + 1 : Nat) : Int) - 1) = c
    · refine ⟨((d + 1 : Nat) : Int) - 1, Ev.step1 (Ev.now _) (fun k => ?_)⟩
      simp only [bytealg_LastIndexByteString.l0]
      rw [if_pos (by omega), if_pos (by omega), if_pos (by omega), if_pos h]
    · obtain ⟨v, hv⟩ := ih (by omega)
      refine ⟨v, Ev.step1 hv (fun k => ?_)⟩
      simp only [bytealg_LastIndexByteString.l0]
      rw [if_pos (by omega), if_pos (by omega), if_pos (by omega), if_neg h, w64 (by omega) (by omega), show (((d + 1 : Nat) : Int) - 1 - 1) = (d : Int) - 1 from by omega]
theorem folder_canon {l : List Lc} (h : Okl l) (hl : l.length ≤ 1099511627776) : ∃ a : Int, Ev (fun k => resolve_folder.f k (canon l).1 (canon l).2) (canon (cutL l 0 a)) := by
  obtain ⟨v, hv⟩ := last_loop (canon l).1 47 (by rw [canon_size]; exact hl) (canon l).1.size (Nat.le_refl _)
  refine ⟨wrap64 (v + 1), ?_⟩
  unfold resolve_folder.f strings_LastIndexByte.f bytealg_LastIndexByteString.f
  rw [w64 (by rw [canon_size]; omega) (by rw [canon_size]; omega)]
  exact Ev.bind (Ev.bind hv (Ev.now _)) (Ev.bind (Cut_canon h hl _ _) (Ev.now _))
/-! ### Join -/
theorem Cat_two {a b : List Lc} (ha : Okl a) (hb : Okl b) (hl : a.length + b.length ≤ 1099511627776) : Ev (fun k => mark_Cat.f k [⟨(canon a).1, (canon a).2⟩, ⟨(canon b).1, (canon b).2⟩]) (canon (a ++ b)) := by
  have h := Cat_mk [a, b] (fun X hX => by simp at hX; rcases hX with rfl | rfl <;> assumption) (by simp) (by simp; omega)
  simpa [mkS] using h
theorem Cat_three {a b c : List Lc} (ha : Okl a) (hb : Okl b) (hc : Okl c) (hl : a.length + b.length + c.length ≤ 1099511627776) : Ev (fun k => mark_Cat.f k [⟨(canon a).1, (canon a).2⟩, ⟨(canon b).1, (canon b).2⟩, ⟨(canon c).1, (canon c).2⟩]) (canon (a ++ (b ++ c))) := by
  have h := Cat_mk [a, b, c] (fun X hX => by simp at hX; rcases hX with rfl | rfl | rfl <;> assumption) (by simp) (by simp; omega)
  simpa [mkS] using h
theorem Cat_four {a b c d : List Lc} (ha : Okl a) (hb : Okl b) (hc : Okl c) (hd : Okl d) (hl : a.length + b.length + c.length + d.length ≤ 1099511627776) : Ev (fun k => mark_Cat.f k [⟨(canon a).1, (canon a).2⟩, ⟨(canon b).1, (canon b).2⟩, ⟨(canon c).1, (canon c).2⟩, ⟨(canon d).1, (canon d).2⟩]) (canon (a ++ (b ++ (c ++ d)))) := by
  have h := Cat_mk [a, b, c, d] (fun X hX => by simp at hX; rcases hX with rfl | rfl | rfl | rfl <;> assumption) (by simp) (by simp; omega)
  simpa [mkS] using h
/-- What a way of Join comes to: the scheme with its colon, and something behind it. -/
def JoinTo (B S n : List Lc) (g : Nat → Option (ByteArray × List S85)) : Prop := ∃ T, Ev g (canon ((n ++ [(58, 0)]) ++ T)) ∧ Okl T ∧ Org B S T ∧ T.length ≤ 100000000
section
variable (B S n : List Lc) (hn : Okl n) (hnl : n.length ≤ 10000000)
include hn hnl
omit hnl in
theorem lead_ok : Okl (n ++ [(58, 0)]) := hn.app (Okl.one ⟨by decide, by decide⟩)
theorem Join_a13 (t : ByteArray) (rs : List S85) (hB : B = La t rs) (ht : t.size ≤ 1048576) (hr : rs.length ≤ 1048576) {P R : List Lc} (hP : Okl P) (hR : Okl R) (oP : Org B S P) (oR : Org B S R) (lP : P.length ≤ 10000000) (lR : R.length ≤ 10000000) :
    JoinTo B S n (fun k => resolve_Join.a13 k t rs (canon (n ++ [(58, 0)])).1 (canon (n ++ [(58, 0)])).2 (canon P).1 (canon P).2 (canon R).1 (canon R).2) := by
  obtain ⟨D, hD, oD, mD, lD⟩ := Dots_canon hP (by omega)
  obtain ⟨Q, hQ, mQ, lQ⟩ := query_spec t rs (by omega) (by omega)
  have okQ : Okl Q := (La_ok t rs).sub mQ
  refine ⟨D ++ (Q ++ R), ?_, oD.app (okQ.app hR), (oP.sub mD).app (Org.app (fun c hc => .inr (.inl ⟨c, hB ▸ mQ c hc, rfl⟩)) oR), by simp only [List.length_append]; omega⟩
  unfold resolve_Join.a13
  exact Ev.bind hD (Ev.bind hQ (Cat_four (lead_ok n hn) oD okQ hR (by simp only [List.length_append, List.length_singleton]; omega)))
theorem Join_a15 {P R : List Lc} (hP : Okl P) (hR : Okl R) (oP : Org B S P) (oR : Org B S R) (lP : P.length ≤ 10000000) (lR : R.length ≤ 10000000) :
    JoinTo B S n (fun k => resolve_Join.a15 k (canon (n ++ [(58, 0)])).1 (canon (n ++ [(58, 0)])).2 (canon P).1 (canon P).2 (canon R).1 (canon R).2) := by
  obtain ⟨D, hD, oD, mD, lD⟩ := Dots_canon hP (by omega)
  refine ⟨D ++ R, ?_, oD.app hR, (oP.sub mD).app oR, by simp only [List.length_append]; omega⟩
  unfold resolve_Join.a15
  exact Ev.bind hD (Cat_three (lead_ok n hn) oD hR (by simp only [List.length_append, List.length_singleton]; omega))
theorem Join_a18 {P O M : List Lc} (hP : Okl P) (hO : Okl O) (hM : Okl M) (oP : Org B S P) (oO : Org B S O) (oM : Org B S M) (lP : P.length ≤ 10000000) (lO : O.length ≤ 10000000) (lM : M.length ≤ 10000000) :
    JoinTo B S n (fun k => resolve_Join.a18 k (canon (n ++ [(58, 0)])).1 (canon (n ++ [(58, 0)])).2 (canon P).1 (canon P).2 (canon O).1 (canon O).2 (canon M).1 (canon M).2) := by
  obtain ⟨a, hF⟩ := folder_canon hP (by omega)
  have lF := cutL_length P 0 a
  have okF := hP.cut 0 a
  obtain ⟨D, hD, oD, mD, lD⟩ := Dots_canon (okF.app hO) (by rw [List.length_append]; omega)
  rw [List.length_append] at lD
  have oF : Org B S (cutL P 0 a) := fun c hc => oP c (mem_cutL hc)
  refine ⟨D ++ M, ?_, oD.app hM, ((oF.app oO).sub mD).app oM, by simp only [List.length_append]; omega⟩
  unfold resolve_Join.a18
  exact Ev.bind hF (Ev.bind (Cat_two okF hO (by omega)) (Ev.bind hD (Cat_three (lead_ok n hn) oD hM (by simp only [List.length_append, List.length_singleton]; omega))))
theorem Join_g (t : ByteArray) (rs : List S85) (hB : B = La t rs) (ht : t.size ≤ 1048576) (hr : rs.length ≤ 1048576) {P R O M : List Lc} (hP : Okl P) (hR : Okl R) (hO : Okl O) (hM : Okl M) (oP : Org B S P) (oR : Org B S R) (oO : Org B S O) (oM : Org B S M)
    (lP : P.length ≤ 10000000) (lR : R.length ≤ 10000000) (lO : O.length ≤ 10000000) (lM : M.length ≤ 10000000) :
    JoinTo B S n (fun k => resolve_Join.g k t rs (canon (n ++ [(58, 0)])).1 (canon (n ++ [(58, 0)])).2 (canon P).1 (canon P).2 (canon R).1 (canon R).2 (canon O).1 (canon O).2 (canon M).1 (canon M).2) := by
  have h13 := Join_a13 B S n hn hnl t rs hB ht hr hP hR oP oR lP lR
  unfold resolve_Join.g
  by_cases c0 : (canon R).1.toList = ([] : List UInt8)
  · simp only [if_pos c0]; exact h13
  · simp only [if_neg c0]
    by_cases c1 : bt (canon R).1 0 = 35
    · simp only [if_pos c1]; exact h13
    · simp only [if_neg c1]
      by_cases c2 : bt (canon R).1 0 = 63
      · simp only [if_pos c2]; exact Join_a15 B S n hn hnl hP hR oP oR lP lR
      · simp only [if_neg c2]
        by_cases c3 : bt (canon R).1 0 = 47
        · simp only [if_pos c3]; exact Join_a15 B S n hn hnl hO hM oO oM lO lM
        · simp only [if_neg c3]; exact Join_a18 B S n hn hnl hP hO hM oP oO oM lP lO lM
theorem Join_f2 (t : ByteArray) (rs : List S85) (hB : B = La t rs) (ht : t.size ≤ 1048576) (hr : rs.length ≤ 1048576) {Q R : List Lc} (hQ : Okl Q) (hR : Okl R) (oQ : Org B S Q) (oR : Org B S R) (lQ : Q.length ≤ 10000000) (lR : R.length ≤ 10000000) :
    JoinTo B S n (fun k => resolve_Join.f2 k t rs (canon n).1 (canon n).2 (canon Q).1 (canon Q).2 (canon R).1 (canon R).2) := by
  obtain ⟨a, hA⟩ := tail_canon hQ (by omega)
  obtain ⟨b, hb⟩ := tail_canon hR (by omega)
  have l1 := cutL_length Q 0 a
  have l2 := cutL_length R 0 b
  have l3 := cutL_length R b (R.length : Int)
  obtain ⟨T, e, h⟩ := Join_g B S n hn hnl t rs hB ht hr (hQ.cut 0 a) hR (hR.cut 0 b) (hR.cut b (R.length : Int)) (fun c hc => oQ c (mem_cutL hc)) oR (fun c hc => oR c (mem_cutL hc)) (fun c hc => oR c (mem_cutL hc)) (by omega) lR (by omega) (by omega)
  refine ⟨T, ?_, h⟩
  unfold resolve_Join.f2 resolve_Join.lead
  refine Ev.bind hA (Ev.bind hb (Ev.bind (a := canon (n ++ [(58, 0)])) ?_ e))
  simp only [of_one 58 0 (by decide), Option.bind_some]
  exact Cat_two hn (Okl.one ⟨by decide, by decide⟩) (by simp only [List.length_singleton]; omega)
end
theorem readyL_org {B S : List Lc} {l : List Lc} (h : Org B S l) : Org B S (readyL l) := fun c hc => h c (mem_trimL (List.mem_filter.1 hc).1)
theorem Join_spec40 (t : ByteArray) (rs : List S85) (u : ByteArray) (ss : List S85) (ht : t.size ≤ 1048576) (hr : rs.length ≤ 1048576) (hu : u.size ≤ 1048576) (hs : ss.length ≤ 1048576) :
    Ev (fun k => resolve_Join.f k t rs u ss) ((⟨#[]⟩ : ByteArray), [], false) ∨
    (0 ≤ colonOf (readyL (La u ss)) ∧ Ev (fun k => resolve_Join.f k t rs u ss) ((canon (readyL (La u ss))).1, (canon (readyL (La u ss))).2, true)) ∨
    (0 ≤ colonOf (readyL (La t rs)) ∧ ∃ T, Ev (fun k => resolve_Join.f k t rs u ss) ((canon ((schemeL (readyL (La t rs)) ++ [(58, 0)]) ++ T)).1, (canon ((schemeL (readyL (La t rs)) ++ [(58, 0)]) ++ T)).2, true) ∧ Okl T ∧ Org (La t rs) (La u ss) T ∧ T.length ≤ 100000000) := by
  have hO := readyL_ok (La_ok t rs)
  have hO2 := readyL_ok (La_ok u ss)
  have l1 := restL_length (readyL (La t rs))
  have l2 := readyL_length (La t rs)
  have l3 := La_length t rs
  have l4 := readyL_length (La u ss)
  have l5 := La_length u ss
  have l6 := schemeL_length (readyL (La t rs))
  have hN := Scheme_spec t rs (by omega) (by omega)
  have hQ := Rest_spec t rs (by omega) (by omega)
  have hR := Ready_spec u ss (by omega) (by omega)
  have hU := Scheme_canon hO2 (by omega)
  rw [readyL_idem] at hU
  have oB : Org (La t rs) (La u ss) (restL (readyL (La t rs))) := fun c hc => .inr (.inl ⟨c, mem_trimL (List.mem_filter.1 (List.mem_of_mem_drop hc)).1, rfl⟩)
  have oS : Org (La t rs) (La u ss) (readyL (La u ss)) := fun c hc => .inr (.inr ⟨c, mem_trimL (List.mem_filter.1 hc).1, rfl⟩)
  unfold resolve_Join.f
  by_cases hc : 0 ≤ colonOf (readyL (La t rs))
  · rw [decide_eq_true hc] at hN
    cases hp : strings_HasPrefix.f (canon (restL (readyL (La t rs)))).1 (⟨#[47]⟩ : ByteArray) with
    | none =>
      exfalso
      unfold strings_HasPrefix.f stringslite_HasPrefix.f at hp
      split at hp
      · rename_i h
        first | (rw [if_pos (by omega), if_pos (by omega)] at hp; cases hp) | (rw [if_pos (by omega)] at hp; cases hp)
      · cases hp
    | some b =>
      cases b with
      | false =>
        left
        refine Ev.bind hN (Ev.bind hQ ?_)
        simp only [if_true, hp, Option.bind_some, Bool.false_eq_true, if_false]
        exact Ev.now _
      | true =>
        right
        by_cases hc2 : 0 ≤ colonOf (readyL (La u ss))
        · left
          rw [decide_eq_true hc2] at hU
          refine ⟨hc2, Ev.bind hN (Ev.bind hQ ?_)⟩
          simp only [if_true, hp, Option.bind_some]
          unfold resolve_Join.f1
          refine Ev.bind hR (Ev.bind hU ?_)
          simp only [if_true]
          exact Ev.now _
        · right
          rw [decide_eq_false hc2] at hU
          obtain ⟨T, e, h⟩ := Join_f2 (La t rs) (La u ss) (schemeL (readyL (La t rs))) (schemeL_ok hO) (by omega) t rs rfl ht hr (restL_ok hO) hO2 oB oS (by omega) (by omega)
          refine ⟨hc, T, Ev.bind hN (Ev.bind hQ ?_), h⟩
          simp only [if_true, hp, Option.bind_some]
          unfold resolve_Join.f1
          refine Ev.bind hR (Ev.bind hU ?_)
          simp only [Bool.false_eq_true, if_false]
          exact Ev.bind e (Ev.now _)
  · left
    rw [decide_eq_false hc] at hN
    refine Ev.bind hN (Ev.bind hQ ?_)
    simp only [Bool.false_eq_true, if_false]
    exact Ev.now _
/-! ### the scheme of what is got -/
def okB (b : UInt8) : Bool := letters.contains b || others.contains b
theorem okB_facts (b : UInt8) (h : okB b = true) : endP (lowB b) = false ∧ inB tnr (lowB b) = false ∧ lowB b ≠ 58 := by
  have := byte_all (fun b => !okB b || (!endP (lowB b) && !inB tnr (lowB b) && (lowB b != 58))) (by decide +kernel) b
  simp only [h, Bool.not_true, Bool.false_or, Bool.and_eq_true, Bool.not_eq_true', bne_iff_ne, ne_eq] at this
  exact ⟨this.1.1, this.1.2, this.2⟩
theorem lowB_letters (b : UInt8) (h : letters.contains b = true) : letters.contains (lowB b) = true := by
  have := byte_all (fun b => !letters.contains b || letters.contains (lowB b)) (by decide +kernel) b
  simpa only [h, Bool.not_true, Bool.false_or] using this
theorem lowB_others (b : UInt8) (h : others.contains b = true) : others.contains (lowB b) = true := by
  have := byte_all (fun b => !others.contains b || others.contains (lowB b)) (by decide +kernel) b
  simpa only [h, Bool.not_true, Bool.false_or] using this
theorem schemeB_ok {i : Nat} {b : UInt8} (h : schemeB i b = true) : okB b = true := by
  unfold schemeB at h
  unfold okB
  rw [Bool.or_eq_true] at h ⊢
  rcases h with h | h
  · exact .inl h
  · exact .inr (Bool.and_eq_true_iff.1 h).2
theorem schemeB_low {i : Nat} {b : UInt8} (h : schemeB i b = true) : schemeB i (lowB b) = true := by
  unfold schemeB at h ⊢
  rw [Bool.or_eq_true] at h ⊢
  rcases h with h | h
  · exact .inl (lowB_letters b h)
  · rw [Bool.and_eq_true] at h
    exact .inr (by rw [Bool.and_eq_true]; exact ⟨h.1, lowB_others b h.2⟩)
theorem colonL_low : ∀ (l : List UInt8) (i : Nat) (T : List UInt8), 0 ≤ colonL i l → (i : Int) ≤ colonL i l ∧ colonL i ((l.take ((colonL i l).toNat - i)).map lowB ++ 58 :: T) = colonL i l ∧ ∀ b ∈ l.take ((colonL i l).toNat - i), okB b = true
  | [], i, T, h => absurd h (by simp [colonL])
  | c :: l, i, T, h => by
    unfold colonL at h
    by_cases g : c = 58 ∧ 0 < i
    · rw [if_pos g] at h
      have e : colonL i (c :: l) = (i : Int) := by rw [colonL, if_pos g]
      rw [e, show ((i : Int)).toNat - i = 0 from by omega, List.take_zero, List.map_nil, List.nil_append]
      exact ⟨Int.le_refl _, by rw [colonL, if_pos ⟨rfl, g.2⟩], fun b hb => by cases hb⟩
    · rw [if_neg g] at h
      by_cases g2 : schemeB i c = true
      · rw [if_pos g2] at h
        have e : colonL i (c :: l) = colonL (i + 1) l := by rw [colonL, if_neg g, if_pos g2]
        obtain ⟨h1, h2, h3⟩ := colonL_low l (i + 1) T h
        rw [e, show (colonL (i + 1) l).toNat - i = ((colonL (i + 1) l).toNat - (i + 1)) + 1 from by omega, List.take_succ_cons, List.map_cons, List.cons_append]
        refine ⟨by omega, ?_, fun b hb => ?_⟩
        · rw [colonL, if_neg (fun h => (okB_facts c (schemeB_ok g2)).2.2 h.1), if_pos (schemeB_low g2)]
          exact h2
        · rcases List.mem_cons.1 hb with rfl | hb
          · exact schemeB_ok g2
          · exact h3 b hb
      · rw [if_neg g2] at h
        exact absurd h (by decide)
theorem trimL_front (p : UInt8 → Bool) (A T : List Lc) (hA : A ≠ []) (h : ∀ c ∈ A, p c.1 = false) : ∃ T', trimL p (A ++ T) = A ++ T' := by
  refine ⟨(T.reverse.dropWhile fun c => p c.1).reverse, ?_⟩
  unfold trimL
  rw [dropWhile_none _ (A ++ T) (fun x hx => by
    cases A with
    | nil => exact absurd rfl hA
    | cons a A =>
      rw [List.cons_append, List.head?_cons] at hx
      obtain rfl := Option.some.inj hx
      exact h a (by simp)), List.reverse_append, List.dropWhile_append]
  split
  · rename_i hE
    rw [List.isEmpty_iff] at hE
    rw [hE, List.reverse_nil, List.append_nil, dropWhile_none _ A.reverse (fun x hx => h x (by
      have := List.mem_of_mem_head? hx
      exact List.mem_reverse.1 this)), List.reverse_reverse]
  · rw [List.reverse_append, List.reverse_reverse]
theorem readyL_front (A T : List Lc) (hA : A ≠ []) (h : ∀ c ∈ A, endP c.1 = false ∧ inB tnr c.1 = false) : ∃ T', readyL (A ++ T) = A ++ T' := by
  obtain ⟨T', e⟩ := trimL_front endP A T hA (fun c hc => (h c hc).1)
  refine ⟨withoutL tnr T', ?_⟩
  unfold readyL
  rw [e]
  unfold withoutL
  rw [List.filter_append, List.filter_eq_self.2 (fun c hc => by rw [(h c hc).2]; rfl)]
theorem scheme_kept (r T : List Lc) (h : 0 ≤ colonOf r) : ∃ n : List Lc, 0 ≤ colonOf (readyL ((schemeL r ++ [(58, 0)]) ++ T)) ∧ schemeL (readyL ((schemeL r ++ [(58, 0)]) ++ T)) = n ∧ n.map (·.2) = (r.take (colonOf r).toNat).map (·.2) := by
  have hrange := colonOf_range r
  have hs : schemeL r = lowL (r.take (colonOf r).toNat) := by unfold schemeL; rw [if_neg (by omega)]
  obtain ⟨h1, h2, h3⟩ := colonL_low (r.map fun c : Lc => c.1) 0 [] (show 0 ≤ colonL 0 (r.map fun c : Lc => c.1) from h)
  have hfst : (lowL (r.take (colonOf r).toNat)).map (·.1) = ((r.map (·.1)).take (colonOf r).toNat).map lowB := by
    unfold lowL
    rw [← List.map_take, List.map_map, List.map_map]
    rfl
  have hsnd : (lowL (r.take (colonOf r).toNat)).map (·.2) = (r.take (colonOf r).toNat).map (·.2) := by
    unfold lowL
    rw [List.map_map]
    rfl
  have hmem : ∀ c ∈ schemeL r ++ [(58, 0)], endP c.1 = false ∧ inB tnr c.1 = false := fun c hc => by
    rcases List.mem_append.1 hc with hc | hc
    · rw [hs] at hc
      have hm : c.1 ∈ (lowL (r.take (colonOf r).toNat)).map (·.1) := List.mem_map.2 ⟨c, hc, rfl⟩
      rw [hfst] at hm
      obtain ⟨b, hb, e⟩ := List.mem_map.1 hm
      have := okB_facts b (h3 b hb)
      rw [e] at this
      exact ⟨this.1, this.2.1⟩
    · rw [List.mem_singleton.1 hc]
      exact ⟨by decide, by decide⟩
  obtain ⟨T', e⟩ := readyL_front (schemeL r ++ [(58, 0)]) T (by simp) hmem
  rw [e]
  have hcol : colonOf ((schemeL r ++ [(58, 0)]) ++ T') = colonOf r := by
    have h4 := (colonL_low (r.map fun c : Lc => c.1) 0 (T'.map fun c : Lc => c.1) (show 0 ≤ colonL 0 (r.map fun c : Lc => c.1) from h)).2.1
    unfold colonOf
    rw [hs, List.map_append, List.map_append, hfst, List.append_assoc]
    exact h4
  have hlen : (lowL (r.take (colonOf r).toNat)).length = (colonOf r).toNat := by
    unfold lowL
    rw [List.length_map, List.length_take]
    omega
  refine ⟨_, by rw [hcol]; exact h, rfl, ?_⟩
  have e2 : schemeL ((schemeL r ++ [(58, 0)]) ++ T') = lowL (schemeL r) := by
    have gen : ∀ X : List Lc, ¬ colonOf X < 0 → schemeL X = lowL (X.take (colonOf X).toNat) := fun X hX => by unfold schemeL; rw [if_neg hX]
    rw [gen _ (by rw [hcol]; omega), hcol, hs, List.append_assoc, List.take_append_of_le_length (by omega), List.take_of_length_le (by omega)]
  rw [e2, hs]
  unfold lowL
  rw [List.map_map, List.map_map]
  rfl
/-! ### the law -/
theorem worst_La (t : ByteArray) (rs : List S85) : worst (labO t.size rs) = worst ((La t rs).map (·.2)) := by rw [La_snd]
theorem ResolveOrigins_spec (t : ByteArray) (rs : List S85) (u : ByteArray) (ss : List S85) (ht : t.size ≤ 1048576) (hr : rs.length ≤ 1048576) (hu : u.size ≤ 1048576) (hs : ss.length ≤ 1048576) : Ev (fun k => glazierlaw40_ResolveOrigins.f k t rs u ss) true := by
  have hO := readyL_ok (La_ok t rs)
  have hO2 := readyL_ok (La_ok u ss)
  have l2 := readyL_length (La t rs)
  have l3 := La_length t rs
  have l4 := readyL_length (La u ss)
  have l5 := La_length u ss
  have l6 := schemeL_length (readyL (La t rs))
  have hWB := Worst_spec t rs (by omega) (by omega)
  have hWS := Worst_spec u ss (by omega) (by omega)
  rw [worst_La] at hWB hWS
  have hU := Scheme_spec u ss (by omega) (by omega)
  unfold glazierlaw40_ResolveOrigins.f
  refine Ev.bind Resolve_alive ?_
  simp only [if_true]
  have hmain : ∀ G : List Lc, Okl G → G.length ≤ 1099511627776 → Org (La t rs) (La u ss) G → Ev (fun k => resolve_Join.f k t rs u ss) ((canon G).1, (canon G).2, true) →
      (¬ 0 ≤ colonOf (readyL (La u ss)) → worst ((La t rs).map (·.2)) ≤ 0 → Ev (fun k => (url_Scheme.f k (canon G).1 (canon G).2).bind fun b => (if b.2.2 = true then (mark_Pure.f k b.1 b.2.1).bind fun x => some x else none)) true) →
      Ev (fun k => (resolve_Join.f k t rs u ss).bind fun bt404 => (if bt404.2.2 = true then ((mark_Worst.f k bt404.1 bt404.2.1).bind fun t410 => ((mark_Worst.f k t rs).bind fun t411 => ((mark_Worst.f k u ss).bind fun t412 => (if t410 > (mx t411 t412) then (none) else ((url_Scheme.f k u ss).bind fun bt413 => (if bt413.2.2 = true then (glazierlaw40_ResolveOrigins.j0 k true bt404.1 bt404.2.1) else ((mark_Worst.f k t rs).bind fun t419 => (glazierlaw40_ResolveOrigins.j0 k (decide (t419 > 0)) bt404.1 bt404.2.1)))))))) else (some (bt404.1.toList == ([] : List UInt8))))) true := by
    intro G hG hGl oG hJ hS
    refine Ev.bind hJ ?_
    simp only [if_true]
    refine Ev.bind (Worst_canon hG hGl) (Ev.bind hWB (Ev.bind hWS ?_))
    have hw := oG.worst
    simp only [mx_eq, if_neg (show ¬ worst (G.map (·.2)) > max (worst ((La t rs).map (·.2))) (worst ((La u ss).map (·.2))) by omega)]
    refine Ev.bind hU ?_
    have hyes : Ev (fun k => glazierlaw40_ResolveOrigins.j0 k true (canon G).1 (canon G).2) true := Ev.step1 (Ev.now _) (fun k => by simp only [glazierlaw40_ResolveOrigins.j0, if_true])
    by_cases hc : 0 ≤ colonOf (readyL (La u ss))
    · simp only [decide_eq_true hc, if_true]
      exact hyes
    · simp only [decide_eq_false hc, Bool.false_eq_true, if_false]
      refine Ev.bind hWB ?_
      by_cases hb : worst ((La t rs).map (·.2)) > 0
      · rw [decide_eq_true hb]
        exact hyes
      · rw [decide_eq_false hb]
        refine Ev.step1 (hS hc (by omega)) (fun k => ?_)
        simp only [glazierlaw40_ResolveOrigins.j0, Bool.false_eq_true, if_false]
  rcases Join_spec40 t rs u ss ht hr hu hs with h | ⟨hc, h⟩ | ⟨hc, T, h, okT, oT, lT⟩
  · refine Ev.bind h ?_
    simp only [Bool.false_eq_true, if_false, show ((⟨#[]⟩ : ByteArray).toList == ([] : List UInt8)) = true from by rw [ByteArray.toList_eq]; rfl]
    exact Ev.now _
  · exact hmain _ hO2 (by omega) (fun c hc => .inr (.inr ⟨c, mem_trimL (List.mem_filter.1 hc).1, rfl⟩)) h (fun hn => absurd hc hn)
  · have okN := schemeL_ok hO
    have hs : schemeL (readyL (La t rs)) = lowL ((readyL (La t rs)).take (colonOf (readyL (La t rs))).toNat) := by unfold schemeL; rw [if_neg (by omega)]
    have oN : Org (La t rs) (La u ss) (schemeL (readyL (La t rs)) ++ [(58, 0)]) := fun c hc => by
      rcases List.mem_append.1 hc with hc | hc
      · rw [hs] at hc
        obtain ⟨b, hb, rfl⟩ := List.mem_map.1 hc
        exact .inr (.inl ⟨b, mem_trimL (List.mem_filter.1 (List.mem_of_mem_take hb)).1, rfl⟩)
      · rw [List.mem_singleton.1 hc]
        exact .inl rfl
    have okG := (okN.app (Okl.one (c := (58, 0)) ⟨by decide, by decide⟩)).app okT
    have lG : ((schemeL (readyL (La t rs)) ++ [(58, 0)]) ++ T).length ≤ 1099511627776 := by
      simp only [List.length_append, List.length_singleton]
      omega
    refine hmain _ okG lG (oN.app oT) h (fun _ hw => ?_)
    obtain ⟨n, hn1, hn2, hn3⟩ := scheme_kept (readyL (La t rs)) T hc
    have hSc := Scheme_canon okG lG
    have hcol := hn1
    rw [decide_eq_true hcol] at hSc
    refine Ev.bind hSc ?_
    simp only [if_true]
    have okS := schemeL_ok (readyL_ok okG)
    have lS := schemeL_length (readyL ((schemeL (readyL (La t rs)) ++ [(58, 0)]) ++ T))
    have lS2 := readyL_length ((schemeL (readyL (La t rs)) ++ [(58, 0)]) ++ T)
    have hz : worst ((schemeL (readyL ((schemeL (readyL (La t rs)) ++ [(58, 0)]) ++ T))).map (·.2)) = 0 := by
      have h1 := worst_pos ((schemeL (readyL ((schemeL (readyL (La t rs)) ++ [(58, 0)]) ++ T))).map (·.2))
      have h2 : worst ((schemeL (readyL ((schemeL (readyL (La t rs)) ++ [(58, 0)]) ++ T))).map (·.2)) ≤ 0 := by
        rw [hn2, hn3]
        refine worst_le (Int.le_refl _) (fun o ho => ?_)
        obtain ⟨b, hb, rfl⟩ := List.mem_map.1 ho
        have := le_worst (List.mem_map.2 ⟨b, mem_trimL (List.mem_filter.1 (List.mem_of_mem_take hb)).1, rfl⟩ : b.2 ∈ (La t rs).map (·.2))
        show b.2 ≤ 0
        omega
      omega
    refine Ev.bind (a := true) ?_ (Ev.now _)
    unfold mark_Pure.f
    refine Ev.bind (Worst_canon okS (by omega)) ?_
    rw [hz]
    exact Ev.now _
theorem ResolveOrigins_pure (t : ByteArray) (rs : List S85) (u : ByteArray) (ss : List S85) (ht : t.size ≤ 1048576) (hr : rs.length ≤ 1048576) (hu : u.size ≤ 1048576) (hs : ss.length ≤ 1048576) : ∃ k, glazierlaw40_ResolveOrigins.f k t rs u ss = some true := (ResolveOrigins_spec t rs u ss ht hr hu hs).rounds
end Go.Proofs.Ytljmmhihdcnbaaa.G
