/- Digests of one block, of two. -/
import Derived.Test.YtbdnebedmdoehaaHB
namespace Go.Proofs.Ytbdnebedmdoehaa
open Go.PK
/-- A digest of one block and some bytes. -/
theorem sha_two {m l : List B8} {T U : S8} {M2 : List B8} (hm : m.length = 64) (hl : l.length < 55) (h1 : comp iv m = T) (h2 : l ++ padding l.length (64 + l.length) = M2) (h3 : comp T M2 = U) (hM : M2.length = 64) : sha (m ++ l) = dig U := by
  have ha : after (m ++ l) = (T, l) := by
    rw [after, absorb_ge (by rw [List.length_append]; omega), List.take_append_of_le_length (by omega), List.drop_append_of_le_length (by omega), List.take_of_length_le (by omega), List.drop_of_length_le (by omega), List.nil_append, h1, absorb_lt (by omega)]
  rw [sha, ha, fin]
  dsimp only
  rw [List.length_append, hm, h2, absorb_ge (by omega), List.take_of_length_le (by omega), List.drop_of_length_le (by omega), h3, absorb_lt (by simp)]
theorem sha_one {l : List B8} {U : S8} {M2 : List B8} (hl : l.length < 55) (h2 : l ++ padding l.length l.length = M2) (h3 : comp iv M2 = U) (hM : M2.length = 64) : sha l = dig U := by
  have ha : after l = (iv, l) := by rw [after, absorb_lt (by omega)]
  rw [sha, ha, fin]
  dsimp only
  rw [h2, absorb_ge (by omega), List.take_of_length_le (by omega), List.drop_of_length_le (by omega), h3, absorb_lt (by simp)]

end Go.Proofs.Ytbdnebedmdoehaa
