/- Where a byte stands; what is split at a byte. -/
import Derived.Test.YtljmmhihdcnbaaaPn
import Derived.Test.YtljmmhihdcnbaaaG24
namespace Go.Proofs.Ytljmmhihdcnbaaa.G
open Go.RowKit Go.Proofs.YtljmmhihdcnbaaaW.PrintWords Go.Proofs.YtljmmhihdcnbaaaW.PrintLast Go.Proofs.YtljmmhihdcnbaaaW.PrintMore
set_option linter.unusedVariables false
set_option linter.unusedSimpArgs false
theorem byte_wf {a : Int} (h : (Lit.int .u8 a).wf = true) : ∃ c : UInt8, a = (c.toNat : Int) := by
  have h2 : 0 ≤ a ∧ a < 256 := by
    simp [Lit.wf, IntKind.min, IntKind.max, IntKind.signed, IntKind.bits] at h
    omega
  exact ⟨UInt8.ofNat a.toNat, by simp; omega⟩
theorem str_byte (c : UInt8) : strOfNums [(c.toNat : Int)] = bytesA [c] := strOfNums_map [c]
theorem qB_byte (c : UInt8) (x : Lc) : qB (bytesA [c]) x = (x.1 == c) := by
  unfold qB inB
  rw [show (bytesA [c]).data.toList = [c] from by simp [bytesA], List.contains_cons, List.contains_nil, Bool.or_false]
theorem Split_spec (t : ByteArray) (rs : List S85) (c : UInt8) (ht : t.size ≤ 1099511627776) (hr : rs.length ≤ 1099511627776) : Ev (fun k => seek_Split.f k t rs (c.toNat : Int)) ((cutsA (qB (bytesA [c])) [] (La t rs)).map mkS) := by
  unfold seek_Split.f
  rw [str_byte]
  exact Ev.bind (cuts_spec t rs (bytesA [c]) ht hr) (Ev.now _)
theorem count_La (t : ByteArray) (rs : List S85) (c : UInt8) : (La t rs).countP (qB (bytesA [c])) = t.data.toList.countP (· == c) := by
  rw [← La_fst t rs, List.countP_map]
  congr 1
  funext x
  exact qB_byte c x
/-- What is split at a byte has none of them. -/
theorem split_none (c : UInt8) (l X : List Lc) (h : X ∈ cutsA (qB (bytesA [c])) [] l) : Go.Lib.indexByte ((mkS X).f0.data.toList) c = -1 := by
  have h1 := indexByte_in ((mkS X).f0.data.toList) c
  have h2 := Go.Lib.indexByte_ge ((mkS X).f0.data.toList) c
  have e : (mkS X).f0.data.toList = X.map (·.1) := by
    show (bytesA (X.map (·.1))).data.toList = _
    simp [bytesA]
  have h3 : ((mkS X).f0.data.toList).contains c = false := by
    rw [e, Bool.eq_false_iff]
    intro h4
    have h5 := List.contains_iff_mem.1 h4
    obtain ⟨x, hx, e5⟩ := List.mem_map.1 h5
    have h6 := (cutsA_mem (qB (bytesA [c])) l [] (fun _ h => by cases h) X h x hx).1
    rw [qB_byte, e5] at h6
    simp at h6
  rw [h3] at h1
  have := of_decide_eq_false h1
  omega
end Go.Proofs.Ytljmmhihdcnbaaa.G
