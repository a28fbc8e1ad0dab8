/- The digests of the examples. -/
import Derived.Test.YtpokocnnaendaaaMacFacts
import Derived.Test.YtpokocnnaendaaaMac3
namespace Go.Proofs.Ytpokocnnaendaaa
open Go.PK
def key1 : List B8 := 1#8 :: List.replicate 31 0#8
def key3 : List B8 := 3#8 :: List.replicate 31 0#8
def label : List B8 := [112#8, 101#8, 108#8, 111#8, 114#8, 117#8, 115#8, 46#8, 99#8, 104#8, 97#8, 105#8, 110#8]

/-- A digest of one block and some bytes. -/
theorem sha_two {m l : List B8} {T U : S8} {M2 : List B8} (hm : m.length = 64) (hl : l.length < 55) (h1 : comp iv m = T) (h2 : l ++ padding l.length (64 + l.length) = M2) (h3 : comp T M2 = U) (hM : M2.length = 64) : sha (m ++ l) = dig U := by
  have ha : after (m ++ l) = (T, l) := by
    rw [after, absorb_ge (by rw [List.length_append]; omega), List.take_append_of_le_length (by omega), List.drop_append_of_le_length (by omega), List.take_of_length_le (by omega), List.drop_of_length_le (by omega), List.nil_append, h1, absorb_lt (by omega)]
  rw [sha, ha, fin]
  dsimp only
  rw [List.length_append, hm, h2, absorb_ge (by omega), List.take_of_length_le (by omega), List.drop_of_length_le (by omega), h3, absorb_lt (by simp)]
theorem sha_one {l : List B8} {U : S8} {M2 : List B8} (hl : l.length < 55) (h2 : l ++ padding l.length l.length = M2) (h3 : comp iv M2 = U) (hM : M2.length = 64) : sha l = dig U := by
  have ha : after l = (iv, l) := by rw [after, absorb_lt (by omega)]
  rw [sha, ha, fin]
  dsimp only
  rw [h2, absorb_ge (by omega), List.take_of_length_le (by omega), List.drop_of_length_le (by omega), h3, absorb_lt (by simp)]

theorem mk_inner : sha (padB key1 54#8 ++ [5#8]) = mkIn := by
  rw [show padB key1 54#8 = mk1_M by decide +kernel, sha_two (T := mk1_T) (U := mk2_T) (M2 := mk2_M) (by decide) (by decide) mk1_ok (by decide +kernel) mk2_ok (by decide)]
  decide +kernel
theorem mk_outer : macCode key1 [5#8] = mkOut := by
  rw [macCode, mk_inner, show padB key1 92#8 = mk3_M by decide +kernel, sha_two (T := mk3_T) (U := mk4_T) (M2 := mk4_M) (by decide) (by decide) mk3_ok (by decide +kernel) mk4_ok (by decide)]
  decide +kernel
theorem mk_tag : macTag key1 [5#8] = mkOut.take 16 := by rw [macTag, mk_outer]
theorem next_three : sha (label ++ key3) = nxOut := by
  rw [sha_one (U := nx_T) (M2 := nx_M) (by decide) (by decide +kernel) nx_ok (by decide)]
  decide +kernel
end Go.Proofs.Ytpokocnnaendaaa
