/- The walks of the laws ChecksumValues, ChecksumAppendVerify, ChecksumRoundTrip and ChecksumFNVStep. -/
import Derived.Test.YtppkjnfgbofjaaaCrcWalk4
namespace Go.Proofs.Ytppkjnfgbofjaaa
open Go.RowKit
variable {α : Type}

set_option maxHeartbeats 800000 in
theorem values_walk (v1 : Value) (ls : List (List UInt8)) (s : UInt32) (v3 : Value) (l : List UInt8) (w : World) (h1 : IsParts w v1 ls) (h3 : IsBytes w v3 l) :
    Calls Try.prog 3 #[v1, u32v s, v3] w fun e w' => e = .returned (.bool true) ∧ Below w.heap.size w w' := by
  obtain ⟨a3, cap3, rfl⟩ : ∃ a cap, v3 = .slice a l.length cap := by obtain ⟨a, cap, h, _⟩ := h3; exact ⟨a, cap, h⟩
  have hlen := h3.len
  unfold maxLen at hlen
  have h1 := Lib.hid h1
  have h3 := Lib.hid h3
  by_cases hf : fewB ls = true
  · by_cases hl : 5000 < l.length
    · go_enter Try.func3, Try.ntmps3
      go_wp2_with fail
      refine (few_any _ _ _ h1.out).mono ?_
      rintro e w' ⟨rfl, rfl⟩
      rw [hf]
      go_wp2_with fail
      refine (example_holds _).mono ?_
      rintro e w' ⟨rfl, hb⟩
      go_wp2_with fail
      go_ret
      exact ⟨rfl, hb⟩
    · go_enter Try.func3, Try.ntmps3
      go_wp2_with fail
      refine (few_any _ _ _ h1.out).mono ?_
      rintro e w' ⟨rfl, rfl⟩
      rw [hf]
      go_wp2_with fail
      refine (crc32 _ _ _ h1.out).mono ?_
      rintro e w' ⟨rfl, rfl⟩
      go_wp2_with fail
      refine (refCRC32 _ _ _ h1.out).mono ?_
      rintro e w' ⟨rfl, rfl⟩
      go_wp2_with fail
      refine (updateCRC32 _ _ _ _ h3.out).mono ?_
      rintro e w' ⟨rfl, rfl⟩
      go_wp2_with fail
      refine (refUpdate _ _ _ _ h3.out).mono ?_
      rintro e w' ⟨rfl, rfl⟩
      go_wp2_with fail
      refine (fnv64 _ _ _ h3.out).mono ?_
      rintro e w' ⟨rfl, rfl⟩
      go_wp2_with fail
      refine (refFnv _ _ _ h3.out).mono ?_
      rintro e w' ⟨rfl, rfl⟩
      go_wp2_with fail
      refine (example_holds _).mono ?_
      rintro e w' ⟨rfl, hb⟩
      go_wp2_with fail
      go_ret
      exact ⟨rfl, hb⟩
  · have hf : fewB ls = false := by simpa using hf
    go_enter Try.func3, Try.ntmps3
    go_wp2_with fail
    refine (few_any _ _ _ h1.out).mono ?_
    rintro e w' ⟨rfl, rfl⟩
    rw [hf]
    go_wp2_with fail
    refine (example_holds _).mono ?_
    rintro e w' ⟨rfl, hb⟩
    go_wp2_with fail
    go_ret
    exact ⟨rfl, hb⟩
end Go.Proofs.Ytppkjnfgbofjaaa
