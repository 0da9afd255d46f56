/- YtpgilgnkiceggaaDoorWd: part of the proof that gone gently, all stays, and is old; else nothing stays, for every input that the row speaks of (no condition of ours). -/
import Derived.Test.YtpgilgnkiceggaaDoorWc
import Derived.Test.YtpgilgnkiceggaaDoorWa
set_option linter.unusedVariables false
set_option linter.unusedSimpArgs false
section
namespace Go.Proofs.W
open Go Go.Eng Go.RowKit
set_option linter.unusedSimpArgs false
set_option maxRecDepth 100000

/-! lists of nodes, as boxes -/
def hdB : List Gt → Nat → AV
  | [], _ => .v (.pointer none)
  | _ :: _, k => .loc k 0
def ndB : List Gt → Nat → List (Nat × List AV)
  | [], _ => []
  | g :: l, k => (k, gcs g ++ [hdB l (k + 1)]) :: ndB l (k + 1)
def sesB (h : Int) (up : Bool) (l : List Gt) : List (Nat × List AV) := (600, [iv h, bv up, hdB l 601, iv l.length]) :: ndB l 601
attribute [go_sem] hdB ndB sesB gcs
def cOpen : ConM := {
  pre := fun args m1 => ∃ (h : Int) (up : Bool) (l : List Gt), args = [.agg [iv h, bv up, .sl none (grows l)]] ∧ m1 = [] ∧ l.length ≤ 6 ∧ lensG l
  post := fun args _ r m2 => ∀ (h : Int) (up : Bool) (l : List Gt), args = [.agg [iv h, bv up, .sl none (grows l)]] → ∀ K : AV → List (Nat × List AV) → Prop, K (.loc 600 0) (sesB h up l) → K r m2 }
theorem open_pre (h : Int) (up : Bool) (l : List Gt) : cOpen.pre [.agg [iv h, bv up, .sl none (grows l)]] [] = (l.length ≤ 6 ∧ lensG l) := by
  apply propext
  constructor
  · rintro ⟨h', up', l', e, _, h2⟩
    obtain ⟨rfl, rfl, rfl⟩ := rbav_inj e
    exact h2
  · exact fun hh => ⟨h, up, l, rfl, rfl, hh⟩
theorem open_post (h : Int) (up : Bool) (l : List Gt) (m1 : List (Nat × List AV)) (K : AV → List (Nat × List AV) → Prop) : (∀ r m2, cOpen.post [.agg [iv h, bv up, .sl none (grows l)]] m1 r m2 → K r m2) = K (.loc 600 0) (sesB h up l) := by
  apply propext
  constructor
  · intro hh
    refine hh _ _ fun h' up' l' e K' hK' => ?_
    obtain ⟨rfl, rfl, rfl⟩ := rbav_inj e
    exact hK'
  · exact fun hh r m2 hp => hp h up l rfl K hh
attribute [go_sem] open_pre
theorem six {l : List Gt} (h : l.length ≤ 6) : l = [] ∨ (∃ g1, l = [g1]) ∨ (∃ g1 g2, l = [g1, g2]) ∨ (∃ g1 g2 g3, l = [g1, g2, g3]) ∨ (∃ g1 g2 g3 g4, l = [g1, g2, g3, g4]) ∨ (∃ g1 g2 g3 g4 g5, l = [g1, g2, g3, g4, g5]) ∨ (∃ g1 g2 g3 g4 g5 g6, l = [g1, g2, g3, g4, g5, g6]) := by
  match l, h with
  | [], _ => exact .inl rfl
  | [a], _ => exact .inr (.inl ⟨_, rfl⟩)
  | [a, b], _ => exact .inr (.inr (.inl ⟨_, _, rfl⟩))
  | [a, b, c], _ => exact .inr (.inr (.inr (.inl ⟨_, _, _, rfl⟩)))
  | [a, b, c, d], _ => exact .inr (.inr (.inr (.inr (.inl ⟨_, _, _, _, rfl⟩))))
  | [a, b, c, d, e], _ => exact .inr (.inr (.inr (.inr (.inr (.inl ⟨_, _, _, _, _, rfl⟩)))))
  | [a, b, c, d, e, f], _ => exact .inr (.inr (.inr (.inr (.inr (.inr ⟨_, _, _, _, _, _, rfl⟩)))))
  | _ :: _ :: _ :: _ :: _ :: _ :: _ :: _, h => simp at h
set_option maxHeartbeats 8000000 in
theorem open_ok : FineM Tryd.prog 40 cOpen := by
  refine fineM_of [] ms_nil [] mm_nil [] [] ex_nil (T := TT) Tryd.func40 rfl Tryd.ntmps40 (by rw [Tryd.results40]) rfl rfl tt gs_nil (ds_cons copyGot_ok ds_nil) ?_
  rintro args m1 ⟨h0, up, l, rfl, rfl, hl6, hlg⟩
  refine ⟨by simp, fun E hE Q hQ => ?_⟩
  have hpost : ∀ m2, m2 = sesB h0 up l → cOpen.post [.agg [iv h0, bv up, .sl none (grows l)]] [] (.loc 600 0) m2 := by
    intro m2 hm h' up' l' e K' hK'
    obtain ⟨rfl, rfl, rfl⟩ := rbav_inj e
    rw [hm]; exact hK'
  refine Aw_st hE [1] [1, 2, 3, 4, 5, 6, 15, 30, 400, 401, 402, 403, 404, 405, 406, 407, 408, 409, 410, 411, 412, 413, 414, 415, 416, 417, 418, 419, 420, 421, 422, 423, 424, 425, 426, 427, 428, 429, 430, 431, 432, 433, 434, 435, 436, 437, 438, 439, 600, 601, 602, 603, 604, 605, 606] fun K hK => ?_
  simp only [go_sem, reduceIte, Nat.reduceLT, Nat.reduceLeDiff, Nat.reduceEqDiff, Nat.reduceAdd, Nat.reduceMul, Nat.reduceSub, Nat.reduceBEq, Int.reduceToNat, List.reduceReplicate, reduceCtorEq]
  refine hK _ ?_; clear hK K
  refine Aw_st hE [1, 3] [1, 2, 3, 4, 5, 6, 15, 30, 400, 401, 402, 403, 404, 405, 406, 407, 408, 409, 410, 411, 412, 413, 414, 415, 416, 417, 418, 419, 420, 421, 422, 423, 424, 425, 426, 427, 428, 429, 430, 431, 432, 433, 434, 435, 436, 437, 438, 439, 600, 601, 602, 603, 604, 605, 606] fun K hK => ?_
  simp only [go_sem, reduceIte, Nat.reduceLT, Nat.reduceLeDiff, Nat.reduceEqDiff, Nat.reduceAdd, Nat.reduceMul, Nat.reduceSub, Nat.reduceBEq, Int.reduceToNat, List.reduceReplicate, reduceCtorEq]
  refine hK _ ?_; clear hK K
  refine Aw.leE (Le_E (Le_swb _ 15 600 (by decide) (by decide))) ?_
  simp only [St.swb, swbσ, swbm, AV.swb, AV.swbAll, swp, Nat.reduceEqDiff, if_true, if_false, reduceIte, gcs, List.cons_append, List.nil_append]
  refine Aw_st hE [1, 3, 4] [1, 2, 3, 4, 5, 6, 15, 30, 400, 401, 402, 403, 404, 405, 406, 407, 408, 409, 410, 411, 412, 413, 414, 415, 416, 417, 418, 419, 420, 421, 422, 423, 424, 425, 426, 427, 428, 429, 430, 431, 432, 433, 434, 435, 436, 437, 438, 439, 600, 601, 602, 603, 604, 605, 606] fun K hK => ?_
  simp only [go_sem, reduceIte, Nat.reduceLT, Nat.reduceLeDiff, Nat.reduceEqDiff, Nat.reduceAdd, Nat.reduceMul, Nat.reduceSub, Nat.reduceBEq, Int.reduceToNat, List.reduceReplicate, reduceCtorEq]
  refine hK _ ?_; clear hK K
  refine Aw_sq fun B1 hB1 hR1 hX1 => ?_
  rcases six hl6 with rfl | ⟨g1, rfl⟩ | ⟨g1, g2, rfl⟩ | ⟨g1, g2, g3, rfl⟩ | ⟨g1, g2, g3, g4, rfl⟩ | ⟨g1, g2, g3, g4, g5, rfl⟩ | ⟨g1, g2, g3, g4, g5, g6, rfl⟩
  · refine Aw_st hE [3, 4, 20, 21, 22] [1, 2, 3, 4, 5, 6, 15, 30, 400, 401, 402, 403, 404, 405, 406, 407, 408, 409, 410, 411, 412, 413, 414, 415, 416, 417, 418, 419, 420, 421, 422, 423, 424, 425, 426, 427, 428, 429, 430, 431, 432, 433, 434, 435, 436, 437, 438, 439, 600, 601, 602, 603, 604, 605, 606] fun K hK => ?_
    simp only [go_sem, reduceIte, Nat.reduceLT, Nat.reduceLeDiff, Nat.reduceEqDiff, Nat.reduceAdd, Nat.reduceMul, Nat.reduceSub, Nat.reduceBEq, Int.reduceToNat, List.reduceReplicate, reduceCtorEq]
    refine hK _ ?_; clear hK K
    refine Aw_bk fun B2 hN2 hE2 hR2 hX2 => ?_
    refine Aw_unr 1 ?_
    refine Aw_rd fun B3_0 hN3_0 hR3_0 hX3_0 => ?_
    refine Aw_st hE [3, 4, 20, 21, 22, 23] [1, 2, 3, 4, 5, 6, 15, 30, 400, 401, 402, 403, 404, 405, 406, 407, 408, 409, 410, 411, 412, 413, 414, 415, 416, 417, 418, 419, 420, 421, 422, 423, 424, 425, 426, 427, 428, 429, 430, 431, 432, 433, 434, 435, 436, 437, 438, 439, 600, 601, 602, 603, 604, 605, 606] fun K hK => ?_
    simp only [go_sem, reduceIte, Nat.reduceLT, Nat.reduceLeDiff, Nat.reduceEqDiff, Nat.reduceAdd, Nat.reduceMul, Nat.reduceSub, Nat.reduceBEq, Int.reduceToNat, List.reduceReplicate, reduceCtorEq]
    refine hK _ ?_; clear hK K
    refine Aw_sq fun B4_0 hB4_0 hR4_0 hX4_0 => ?_
    refine Aw_no rfl ?_
    refine Aw_exit (hX4_0 _ _ (hX3_0 _ _ (hE2 _ (hB1 _ ?_))))
    refine Aw_st hE [2] [1, 2, 3, 4, 5, 6, 15, 30, 400, 401, 402, 403, 404, 405, 406, 407, 408, 409, 410, 411, 412, 413, 414, 415, 416, 417, 418, 419, 420, 421, 422, 423, 424, 425, 426, 427, 428, 429, 430, 431, 432, 433, 434, 435, 436, 437, 438, 439, 600, 601, 602, 603, 604, 605, 606] fun K hK => ?_
    simp only [go_sem, reduceIte, Nat.reduceLT, Nat.reduceLeDiff, Nat.reduceEqDiff, Nat.reduceAdd, Nat.reduceMul, Nat.reduceSub, Nat.reduceBEq, Int.reduceToNat, List.reduceReplicate, reduceCtorEq]
    refine hK _ ?_
    refine Aw.leE (Le_E (Le_ks [2] [600])) ?_
    refine Aw_ret (hQ _ ?_)
    simp only [go_sem, reduceIte, Nat.reduceLT, Nat.reduceLeDiff, Nat.reduceEqDiff, Nat.reduceAdd, Nat.reduceMul, Nat.reduceSub, Nat.reduceBEq, Int.reduceToNat, List.reduceReplicate, reduceCtorEq]
    exact hpost _ rfl
  · refine Aw_st hE [3, 4, 20, 21, 22] [1, 2, 3, 4, 5, 6, 15, 30, 400, 401, 402, 403, 404, 405, 406, 407, 408, 409, 410, 411, 412, 413, 414, 415, 416, 417, 418, 419, 420, 421, 422, 423, 424, 425, 426, 427, 428, 429, 430, 431, 432, 433, 434, 435, 436, 437, 438, 439, 600, 601, 602, 603, 604, 605, 606] fun K hK => ?_
    simp only [go_sem, reduceIte, Nat.reduceLT, Nat.reduceLeDiff, Nat.reduceEqDiff, Nat.reduceAdd, Nat.reduceMul, Nat.reduceSub, Nat.reduceBEq, Int.reduceToNat, List.reduceReplicate, reduceCtorEq]
    refine hK _ ?_; clear hK K
    refine Aw_bk fun B2 hN2 hE2 hR2 hX2 => ?_
    refine Aw_unr 2 ?_
    refine Aw_rd fun B3_0 hN3_0 hR3_0 hX3_0 => ?_
    refine Aw_st hE [3, 4, 20, 21, 22, 23] [1, 2, 3, 4, 5, 6, 15, 30, 400, 401, 402, 403, 404, 405, 406, 407, 408, 409, 410, 411, 412, 413, 414, 415, 416, 417, 418, 419, 420, 421, 422, 423, 424, 425, 426, 427, 428, 429, 430, 431, 432, 433, 434, 435, 436, 437, 438, 439, 600, 601, 602, 603, 604, 605, 606] fun K hK => ?_
    simp only [go_sem, reduceIte, Nat.reduceLT, Nat.reduceLeDiff, Nat.reduceEqDiff, Nat.reduceAdd, Nat.reduceMul, Nat.reduceSub, Nat.reduceBEq, Int.reduceToNat, List.reduceReplicate, reduceCtorEq]
    refine hK _ ?_; clear hK K
    refine Aw_sq fun B4_0 hB4_0 hR4_0 hX4_0 => ?_
    refine Aw_yes rfl ?_
    refine Aw_skip (hB4_0 _ ?_)
    refine Aw_sq fun B6_0 hB6_0 hR6_0 hX6_0 => ?_
    refine Aw_bk fun B7_0 hN7_0 hE7_0 hR7_0 hX7_0 => ?_
    have hg_0 : (grows [g1])[0]? = some g1.row := rfl
    have hln_0 := hlg g1 (by simp)
    refine Aw_st hE [3, 4, 6, 20, 21, 22] [1, 2, 3, 4, 5, 6, 15, 30, 400, 401, 402, 403, 404, 405, 406, 407, 408, 409, 410, 411, 412, 413, 414, 415, 416, 417, 418, 419, 420, 421, 422, 423, 424, 425, 426, 427, 428, 429, 430, 431, 432, 433, 434, 435, 436, 437, 438, 439, 600, 601, 602, 603, 604, 605, 606] fun K hK => ?_
    simp only [go_sem, reduceIte, Nat.reduceLT, Nat.reduceLeDiff, Nat.reduceEqDiff, Nat.reduceAdd, Nat.reduceMul, Nat.reduceSub, Nat.reduceBEq, Int.reduceToNat, List.reduceReplicate, reduceCtorEq, hg_0, Int.reduceAdd]
    repeat (refine And.intro (by first | omega | (and_intros <;> first | omega | exact rows_row _ | decide | (simp; done) | (simp; omega)) | fail) ?_)
    refine hK _ ?_; clear hK K
    refine Aw_st hE [3, 4, 20, 21, 22] [1, 2, 3, 4, 5, 6, 15, 30, 400, 401, 402, 403, 404, 405, 406, 407, 408, 409, 410, 411, 412, 413, 414, 415, 416, 417, 418, 419, 420, 421, 422, 423, 424, 425, 426, 427, 428, 429, 430, 431, 432, 433, 434, 435, 436, 437, 438, 439, 600, 601, 602, 603, 604, 605, 606] fun K hK => ?_
    simp only [go_sem, reduceIte, Nat.reduceLT, Nat.reduceLeDiff, Nat.reduceEqDiff, Nat.reduceAdd, Nat.reduceMul, Nat.reduceSub, Nat.reduceBEq, Int.reduceToNat, List.reduceReplicate, reduceCtorEq]
    refine ⟨⟨by omega, by omega⟩, ?_⟩
    refine hK _ ?_; clear hK K
    refine Aw_tx hE [3, 4, 20, 21, 22] [1, 2, 3, 4, 5, 6, 15, 30, 400, 401, 402, 403, 404, 405, 406, 407, 408, 409, 410, 411, 412, 413, 414, 415, 416, 417, 418, 419, 420, 421, 422, 423, 424, 425, 426, 427, 428, 429, 430, 431, 432, 433, 434, 435, 436, 437, 438, 439, 600, 601, 602, 603, 604, 605, 606] fun K hK => ?_
    simp only [go_sem, reduceIte, Nat.reduceLT, Nat.reduceLeDiff, Nat.reduceEqDiff, Nat.reduceAdd, Nat.reduceMul, Nat.reduceSub, Nat.reduceBEq, Int.reduceToNat, List.reduceReplicate, reduceCtorEq]
    refine hK _ (hN7_0 _ (hB6_0 _ ?_))
    refine Aw.leE (Le_E (Le_swb _ 30 601 (by decide) (by decide))) ?_
    simp only [St.swb, swbσ, swbm, AV.swb, AV.swbAll, swp, Nat.reduceEqDiff, if_true, if_false, reduceIte, gcs, List.cons_append, List.nil_append]
    refine Aw_tx hE [3, 4, 20, 21, 22] [1, 2, 3, 4, 5, 6, 15, 30, 400, 401, 402, 403, 404, 405, 406, 407, 408, 409, 410, 411, 412, 413, 414, 415, 416, 417, 418, 419, 420, 421, 422, 423, 424, 425, 426, 427, 428, 429, 430, 431, 432, 433, 434, 435, 436, 437, 438, 439, 600, 601, 602, 603, 604, 605, 606] fun K hK => ?_
    simp only [go_sem, reduceIte, Nat.reduceLT, Nat.reduceLeDiff, Nat.reduceEqDiff, Nat.reduceAdd, Nat.reduceMul, Nat.reduceSub, Nat.reduceBEq, Int.reduceToNat, List.reduceReplicate, reduceCtorEq, Int.reduceAdd]
    repeat (refine And.intro (by first | omega | (and_intros <;> first | omega | exact rows_row _ | decide | (simp; done) | (simp; omega)) | fail) ?_)
    refine hK _ (hN3_0 _ ?_)
    refine Aw_rd fun B3_1 hN3_1 hR3_1 hX3_1 => ?_
    refine Aw_st hE [3, 4, 20, 21, 22, 23] [1, 2, 3, 4, 5, 6, 15, 30, 400, 401, 402, 403, 404, 405, 406, 407, 408, 409, 410, 411, 412, 413, 414, 415, 416, 417, 418, 419, 420, 421, 422, 423, 424, 425, 426, 427, 428, 429, 430, 431, 432, 433, 434, 435, 436, 437, 438, 439, 600, 601, 602, 603, 604, 605, 606] fun K hK => ?_
    simp only [go_sem, reduceIte, Nat.reduceLT, Nat.reduceLeDiff, Nat.reduceEqDiff, Nat.reduceAdd, Nat.reduceMul, Nat.reduceSub, Nat.reduceBEq, Int.reduceToNat, List.reduceReplicate, reduceCtorEq]
    refine hK _ ?_; clear hK K
    refine Aw_sq fun B4_1 hB4_1 hR4_1 hX4_1 => ?_
    refine Aw_no rfl ?_
    refine Aw_exit (hX4_1 _ _ (hX3_1 _ _ (hE2 _ (hB1 _ ?_))))
    refine Aw_st hE [2] [1, 2, 3, 4, 5, 6, 15, 30, 400, 401, 402, 403, 404, 405, 406, 407, 408, 409, 410, 411, 412, 413, 414, 415, 416, 417, 418, 419, 420, 421, 422, 423, 424, 425, 426, 427, 428, 429, 430, 431, 432, 433, 434, 435, 436, 437, 438, 439, 600, 601, 602, 603, 604, 605, 606] fun K hK => ?_
    simp only [go_sem, reduceIte, Nat.reduceLT, Nat.reduceLeDiff, Nat.reduceEqDiff, Nat.reduceAdd, Nat.reduceMul, Nat.reduceSub, Nat.reduceBEq, Int.reduceToNat, List.reduceReplicate, reduceCtorEq]
    refine hK _ ?_
    refine Aw.leE (Le_E (Le_ks [2] [600, 601])) ?_
    refine Aw_ret (hQ _ ?_)
    simp only [go_sem, reduceIte, Nat.reduceLT, Nat.reduceLeDiff, Nat.reduceEqDiff, Nat.reduceAdd, Nat.reduceMul, Nat.reduceSub, Nat.reduceBEq, Int.reduceToNat, List.reduceReplicate, reduceCtorEq]
    exact hpost _ rfl
  · refine Aw_st hE [3, 4, 20, 21, 22] [1, 2, 3, 4, 5, 6, 15, 30, 400, 401, 402, 403, 404, 405, 406, 407, 408, 409, 410, 411, 412, 413, 414, 415, 416, 417, 418, 419, 420, 421, 422, 423, 424, 425, 426, 427, 428, 429, 430, 431, 432, 433, 434, 435, 436, 437, 438, 439, 600, 601, 602, 603, 604, 605, 606] fun K hK => ?_
    simp only [go_sem, reduceIte, Nat.reduceLT, Nat.reduceLeDiff, Nat.reduceEqDiff, Nat.reduceAdd, Nat.reduceMul, Nat.reduceSub, Nat.reduceBEq, Int.reduceToNat, List.reduceReplicate, reduceCtorEq]
    refine hK _ ?_; clear hK K
    refine Aw_bk fun B2 hN2 hE2 hR2 hX2 => ?_
    refine Aw_unr 3 ?_
    refine Aw_rd fun B3_0 hN3_0 hR3_0 hX3_0 => ?_
    refine Aw_st hE [3, 4, 20, 21, 22, 23] [1, 2, 3, 4, 5, 6, 15, 30, 400, 401, 402, 403, 404, 405, 406, 407, 408, 409, 410, 411, 412, 413, 414, 415, 416, 417, 418, 419, 420, 421, 422, 423, 424, 425, 426, 427, 428, 429, 430, 431, 432, 433, 434, 435, 436, 437, 438, 439, 600, 601, 602, 603, 604, 605, 606] fun K hK => ?_
    simp only [go_sem, reduceIte, Nat.reduceLT, Nat.reduceLeDiff, Nat.reduceEqDiff, Nat.reduceAdd, Nat.reduceMul, Nat.reduceSub, Nat.reduceBEq, Int.reduceToNat, List.reduceReplicate, reduceCtorEq]
    refine hK _ ?_; clear hK K
    refine Aw_sq fun B4_0 hB4_0 hR4_0 hX4_0 => ?_
    refine Aw_yes rfl ?_
    refine Aw_skip (hB4_0 _ ?_)
    refine Aw_sq fun B6_0 hB6_0 hR6_0 hX6_0 => ?_
    refine Aw_bk fun B7_0 hN7_0 hE7_0 hR7_0 hX7_0 => ?_
    have hg_0 : (grows [g1, g2])[0]? = some g1.row := rfl
    have hln_0 := hlg g1 (by simp)
    refine Aw_st hE [3, 4, 6, 20, 21, 22] [1, 2, 3, 4, 5, 6, 15, 30, 400, 401, 402, 403, 404, 405, 406, 407, 408, 409, 410, 411, 412, 413, 414, 415, 416, 417, 418, 419, 420, 421, 422, 423, 424, 425, 426, 427, 428, 429, 430, 431, 432, 433, 434, 435, 436, 437, 438, 439, 600, 601, 602, 603, 604, 605, 606] fun K hK => ?_
    simp only [go_sem, reduceIte, Nat.reduceLT, Nat.reduceLeDiff, Nat.reduceEqDiff, Nat.reduceAdd, Nat.reduceMul, Nat.reduceSub, Nat.reduceBEq, Int.reduceToNat, List.reduceReplicate, reduceCtorEq, hg_0, Int.reduceAdd]
    repeat (refine And.intro (by first | omega | (and_intros <;> first | omega | exact rows_row _ | decide | (simp; done) | (simp; omega)) | fail) ?_)
    refine hK _ ?_; clear hK K
    refine Aw_st hE [3, 4, 20, 21, 22] [1, 2, 3, 4, 5, 6, 15, 30, 400, 401, 402, 403, 404, 405, 406, 407, 408, 409, 410, 411, 412, 413, 414, 415, 416, 417, 418, 419, 420, 421, 422, 423, 424, 425, 426, 427, 428, 429, 430, 431, 432, 433, 434, 435, 436, 437, 438, 439, 600, 601, 602, 603, 604, 605, 606] fun K hK => ?_
    simp only [go_sem, reduceIte, Nat.reduceLT, Nat.reduceLeDiff, Nat.reduceEqDiff, Nat.reduceAdd, Nat.reduceMul, Nat.reduceSub, Nat.reduceBEq, Int.reduceToNat, List.reduceReplicate, reduceCtorEq]
    refine ⟨⟨by omega, by omega⟩, ?_⟩
    refine hK _ ?_; clear hK K
    refine Aw_tx hE [3, 4, 20, 21, 22] [1, 2, 3, 4, 5, 6, 15, 30, 400, 401, 402, 403, 404, 405, 406, 407, 408, 409, 410, 411, 412, 413, 414, 415, 416, 417, 418, 419, 420, 421, 422, 423, 424, 425, 426, 427, 428, 429, 430, 431, 432, 433, 434, 435, 436, 437, 438, 439, 600, 601, 602, 603, 604, 605, 606] fun K hK => ?_
    simp only [go_sem, reduceIte, Nat.reduceLT, Nat.reduceLeDiff, Nat.reduceEqDiff, Nat.reduceAdd, Nat.reduceMul, Nat.reduceSub, Nat.reduceBEq, Int.reduceToNat, List.reduceReplicate, reduceCtorEq]
    refine hK _ (hN7_0 _ (hB6_0 _ ?_))
    refine Aw.leE (Le_E (Le_swb _ 30 601 (by decide) (by decide))) ?_
    simp only [St.swb, swbσ, swbm, AV.swb, AV.swbAll, swp, Nat.reduceEqDiff, if_true, if_false, reduceIte, gcs, List.cons_append, List.nil_append]
    refine Aw_tx hE [3, 4, 20, 21, 22] [1, 2, 3, 4, 5, 6, 15, 30, 400, 401, 402, 403, 404, 405, 406, 407, 408, 409, 410, 411, 412, 413, 414, 415, 416, 417, 418, 419, 420, 421, 422, 423, 424, 425, 426, 427, 428, 429, 430, 431, 432, 433, 434, 435, 436, 437, 438, 439, 600, 601, 602, 603, 604, 605, 606] fun K hK => ?_
    simp only [go_sem, reduceIte, Nat.reduceLT, Nat.reduceLeDiff, Nat.reduceEqDiff, Nat.reduceAdd, Nat.reduceMul, Nat.reduceSub, Nat.reduceBEq, Int.reduceToNat, List.reduceReplicate, reduceCtorEq, Int.reduceAdd]
    repeat (refine And.intro (by first | omega | (and_intros <;> first | omega | exact rows_row _ | decide | (simp; done) | (simp; omega)) | fail) ?_)
    refine hK _ (hN3_0 _ ?_)
    refine Aw_rd fun B3_1 hN3_1 hR3_1 hX3_1 => ?_
    refine Aw_st hE [3, 4, 20, 21, 22, 23] [1, 2, 3, 4, 5, 6, 15, 30, 400, 401, 402, 403, 404, 405, 406, 407, 408, 409, 410, 411, 412, 413, 414, 415, 416, 417, 418, 419, 420, 421, 422, 423, 424, 425, 426, 427, 428, 429, 430, 431, 432, 433, 434, 435, 436, 437, 438, 439, 600, 601, 602, 603, 604, 605, 606] fun K hK => ?_
    simp only [go_sem, reduceIte, Nat.reduceLT, Nat.reduceLeDiff, Nat.reduceEqDiff, Nat.reduceAdd, Nat.reduceMul, Nat.reduceSub, Nat.reduceBEq, Int.reduceToNat, List.reduceReplicate, reduceCtorEq]
    refine hK _ ?_; clear hK K
    refine Aw_sq fun B4_1 hB4_1 hR4_1 hX4_1 => ?_
    refine Aw_yes rfl ?_
    refine Aw_skip (hB4_1 _ ?_)
    refine Aw_sq fun B6_1 hB6_1 hR6_1 hX6_1 => ?_
    refine Aw_bk fun B7_1 hN7_1 hE7_1 hR7_1 hX7_1 => ?_
    have hg_1 : (grows [g1, g2])[1]? = some g2.row := rfl
    have hln_1 := hlg g2 (by simp)
    refine Aw_st hE [3, 4, 6, 20, 21, 22] [1, 2, 3, 4, 5, 6, 15, 30, 400, 401, 402, 403, 404, 405, 406, 407, 408, 409, 410, 411, 412, 413, 414, 415, 416, 417, 418, 419, 420, 421, 422, 423, 424, 425, 426, 427, 428, 429, 430, 431, 432, 433, 434, 435, 436, 437, 438, 439, 600, 601, 602, 603, 604, 605, 606] fun K hK => ?_
    simp only [go_sem, reduceIte, Nat.reduceLT, Nat.reduceLeDiff, Nat.reduceEqDiff, Nat.reduceAdd, Nat.reduceMul, Nat.reduceSub, Nat.reduceBEq, Int.reduceToNat, List.reduceReplicate, reduceCtorEq, hg_1, Int.reduceAdd]
    repeat (refine And.intro (by first | omega | (and_intros <;> first | omega | exact rows_row _ | decide | (simp; done) | (simp; omega)) | fail) ?_)
    refine hK _ ?_; clear hK K
    refine Aw_st hE [3, 4, 20, 21, 22] [1, 2, 3, 4, 5, 6, 15, 30, 400, 401, 402, 403, 404, 405, 406, 407, 408, 409, 410, 411, 412, 413, 414, 415, 416, 417, 418, 419, 420, 421, 422, 423, 424, 425, 426, 427, 428, 429, 430, 431, 432, 433, 434, 435, 436, 437, 438, 439, 600, 601, 602, 603, 604, 605, 606] fun K hK => ?_
    simp only [go_sem, reduceIte, Nat.reduceLT, Nat.reduceLeDiff, Nat.reduceEqDiff, Nat.reduceAdd, Nat.reduceMul, Nat.reduceSub, Nat.reduceBEq, Int.reduceToNat, List.reduceReplicate, reduceCtorEq]
    refine ⟨⟨by omega, by omega⟩, ?_⟩
    refine hK _ ?_; clear hK K
    refine Aw_tx hE [3, 4, 20, 21, 22] [1, 2, 3, 4, 5, 6, 15, 30, 400, 401, 402, 403, 404, 405, 406, 407, 408, 409, 410, 411, 412, 413, 414, 415, 416, 417, 418, 419, 420, 421, 422, 423, 424, 425, 426, 427, 428, 429, 430, 431, 432, 433, 434, 435, 436, 437, 438, 439, 600, 601, 602, 603, 604, 605, 606] fun K hK => ?_
    simp only [go_sem, reduceIte, Nat.reduceLT, Nat.reduceLeDiff, Nat.reduceEqDiff, Nat.reduceAdd, Nat.reduceMul, Nat.reduceSub, Nat.reduceBEq, Int.reduceToNat, List.reduceReplicate, reduceCtorEq]
    refine hK _ (hN7_1 _ (hB6_1 _ ?_))
    refine Aw.leE (Le_E (Le_swb _ 30 602 (by decide) (by decide))) ?_
    simp only [St.swb, swbσ, swbm, AV.swb, AV.swbAll, swp, Nat.reduceEqDiff, if_true, if_false, reduceIte, gcs, List.cons_append, List.nil_append]
    refine Aw_tx hE [3, 4, 20, 21, 22] [1, 2, 3, 4, 5, 6, 15, 30, 400, 401, 402, 403, 404, 405, 406, 407, 408, 409, 410, 411, 412, 413, 414, 415, 416, 417, 418, 419, 420, 421, 422, 423, 424, 425, 426, 427, 428, 429, 430, 431, 432, 433, 434, 435, 436, 437, 438, 439, 600, 601, 602, 603, 604, 605, 606] fun K hK => ?_
    simp only [go_sem, reduceIte, Nat.reduceLT, Nat.reduceLeDiff, Nat.reduceEqDiff, Nat.reduceAdd, Nat.reduceMul, Nat.reduceSub, Nat.reduceBEq, Int.reduceToNat, List.reduceReplicate, reduceCtorEq, Int.reduceAdd]
    repeat (refine And.intro (by first | omega | (and_intros <;> first | omega | exact rows_row _ | decide | (simp; done) | (simp; omega)) | fail) ?_)
    refine hK _ (hN3_1 _ ?_)
    refine Aw_rd fun B3_2 hN3_2 hR3_2 hX3_2 => ?_
    refine Aw_st hE [3, 4, 20, 21, 22, 23] [1, 2, 3, 4, 5, 6, 15, 30, 400, 401, 402, 403, 404, 405, 406, 407, 408, 409, 410, 411, 412, 413, 414, 415, 416, 417, 418, 419, 420, 421, 422, 423, 424, 425, 426, 427, 428, 429, 430, 431, 432, 433, 434, 435, 436, 437, 438, 439, 600, 601, 602, 603, 604, 605, 606] fun K hK => ?_
    simp only [go_sem, reduceIte, Nat.reduceLT, Nat.reduceLeDiff, Nat.reduceEqDiff, Nat.reduceAdd, Nat.reduceMul, Nat.reduceSub, Nat.reduceBEq, Int.reduceToNat, List.reduceReplicate, reduceCtorEq]
    refine hK _ ?_; clear hK K
    refine Aw_sq fun B4_2 hB4_2 hR4_2 hX4_2 => ?_
    refine Aw_no rfl ?_
    refine Aw_exit (hX4_2 _ _ (hX3_2 _ _ (hE2 _ (hB1 _ ?_))))
    refine Aw_st hE [2] [1, 2, 3, 4, 5, 6, 15, 30, 400, 401, 402, 403, 404, 405, 406, 407, 408, 409, 410, 411, 412, 413, 414, 415, 416, 417, 418, 419, 420, 421, 422, 423, 424, 425, 426, 427, 428, 429, 430, 431, 432, 433, 434, 435, 436, 437, 438, 439, 600, 601, 602, 603, 604, 605, 606] fun K hK => ?_
    simp only [go_sem, reduceIte, Nat.reduceLT, Nat.reduceLeDiff, Nat.reduceEqDiff, Nat.reduceAdd, Nat.reduceMul, Nat.reduceSub, Nat.reduceBEq, Int.reduceToNat, List.reduceReplicate, reduceCtorEq]
    refine hK _ ?_
    refine Aw.leE (Le_E (Le_ks [2] [600, 601, 602])) ?_
    refine Aw_ret (hQ _ ?_)
    simp only [go_sem, reduceIte, Nat.reduceLT, Nat.reduceLeDiff, Nat.reduceEqDiff, Nat.reduceAdd, Nat.reduceMul, Nat.reduceSub, Nat.reduceBEq, Int.reduceToNat, List.reduceReplicate, reduceCtorEq]
    exact hpost _ rfl
  · refine Aw_st hE [3, 4, 20, 21, 22] [1, 2, 3, 4, 5, 6, 15, 30, 400, 401, 402, 403, 404, 405, 406, 407, 408, 409, 410, 411, 412, 413, 414, 415, 416, 417, 418, 419, 420, 421, 422, 423, 424, 425, 426, 427, 428, 429, 430, 431, 432, 433, 434, 435, 436, 437, 438, 439, 600, 601, 602, 603, 604, 605, 606] fun K hK => ?_
    simp only [go_sem, reduceIte, Nat.reduceLT, Nat.reduceLeDiff, Nat.reduceEqDiff, Nat.reduceAdd, Nat.reduceMul, Nat.reduceSub, Nat.reduceBEq, Int.reduceToNat, List.reduceReplicate, reduceCtorEq]
    refine hK _ ?_; clear hK K
    refine Aw_bk fun B2 hN2 hE2 hR2 hX2 => ?_
    refine Aw_unr 4 ?_
    refine Aw_rd fun B3_0 hN3_0 hR3_0 hX3_0 => ?_
    refine Aw_st hE [3, 4, 20, 21, 22, 23] [1, 2, 3, 4, 5, 6, 15, 30, 400, 401, 402, 403, 404, 405, 406, 407, 408, 409, 410, 411, 412, 413, 414, 415, 416, 417, 418, 419, 420, 421, 422, 423, 424, 425, 426, 427, 428, 429, 430, 431, 432, 433, 434, 435, 436, 437, 438, 439, 600, 601, 602, 603, 604, 605, 606] fun K hK => ?_
    simp only [go_sem, reduceIte, Nat.reduceLT, Nat.reduceLeDiff, Nat.reduceEqDiff, Nat.reduceAdd, Nat.reduceMul, Nat.reduceSub, Nat.reduceBEq, Int.reduceToNat, List.reduceReplicate, reduceCtorEq]
    refine hK _ ?_; clear hK K
    refine Aw_sq fun B4_0 hB4_0 hR4_0 hX4_0 => ?_
    refine Aw_yes rfl ?_
    refine Aw_skip (hB4_0 _ ?_)
    refine Aw_sq fun B6_0 hB6_0 hR6_0 hX6_0 => ?_
    refine Aw_bk fun B7_0 hN7_0 hE7_0 hR7_0 hX7_0 => ?_
    have hg_0 : (grows [g1, g2, g3])[0]? = some g1.row := rfl
    have hln_0 := hlg g1 (by simp)
    refine Aw_st hE [3, 4, 6, 20, 21, 22] [1, 2, 3, 4, 5, 6, 15, 30, 400, 401, 402, 403, 404, 405, 406, 407, 408, 409, 410, 411, 412, 413, 414, 415, 416, 417, 418, 419, 420, 421, 422, 423, 424, 425, 426, 427, 428, 429, 430, 431, 432, 433, 434, 435, 436, 437, 438, 439, 600, 601, 602, 603, 604, 605, 606] fun K hK => ?_
    simp only [go_sem, reduceIte, Nat.reduceLT, Nat.reduceLeDiff, Nat.reduceEqDiff, Nat.reduceAdd, Nat.reduceMul, Nat.reduceSub, Nat.reduceBEq, Int.reduceToNat, List.reduceReplicate, reduceCtorEq, hg_0, Int.reduceAdd]
    repeat (refine And.intro (by first | omega | (and_intros <;> first | omega | exact rows_row _ | decide | (simp; done) | (simp; omega)) | fail) ?_)
    refine hK _ ?_; clear hK K
    refine Aw_st hE [3, 4, 20, 21, 22] [1, 2, 3, 4, 5, 6, 15, 30, 400, 401, 402, 403, 404, 405, 406, 407, 408, 409, 410, 411, 412, 413, 414, 415, 416, 417, 418, 419, 420, 421, 422, 423, 424, 425, 426, 427, 428, 429, 430, 431, 432, 433, 434, 435, 436, 437, 438, 439, 600, 601, 602, 603, 604, 605, 606] fun K hK => ?_
    simp only [go_sem, reduceIte, Nat.reduceLT, Nat.reduceLeDiff, Nat.reduceEqDiff, Nat.reduceAdd, Nat.reduceMul, Nat.reduceSub, Nat.reduceBEq, Int.reduceToNat, List.reduceReplicate, reduceCtorEq]
    refine ⟨⟨by omega, by omega⟩, ?_⟩
    refine hK _ ?_; clear hK K
    refine Aw_tx hE [3, 4, 20, 21, 22] [1, 2, 3, 4, 5, 6, 15, 30, 400, 401, 402, 403, 404, 405, 406, 407, 408, 409, 410, 411, 412, 413, 414, 415, 416, 417, 418, 419, 420, 421, 422, 423, 424, 425, 426, 427, 428, 429, 430, 431, 432, 433, 434, 435, 436, 437, 438, 439, 600, 601, 602, 603, 604, 605, 606] fun K hK => ?_
    simp only [go_sem, reduceIte, Nat.reduceLT, Nat.reduceLeDiff, Nat.reduceEqDiff, Nat.reduceAdd, Nat.reduceMul, Nat.reduceSub, Nat.reduceBEq, Int.reduceToNat, List.reduceReplicate, reduceCtorEq]
    refine hK _ (hN7_0 _ (hB6_0 _ ?_))
    refine Aw.leE (Le_E (Le_swb _ 30 601 (by decide) (by decide))) ?_
    simp only [St.swb, swbσ, swbm, AV.swb, AV.swbAll, swp, Nat.reduceEqDiff, if_true, if_false, reduceIte, gcs, List.cons_append, List.nil_append]
    refine Aw_tx hE [3, 4, 20, 21, 22] [1, 2, 3, 4, 5, 6, 15, 30, 400, 401, 402, 403, 404, 405, 406, 407, 408, 409, 410, 411, 412, 413, 414, 415, 416, 417, 418, 419, 420, 421, 422, 423, 424, 425, 426, 427, 428, 429, 430, 431, 432, 433, 434, 435, 436, 437, 438, 439, 600, 601, 602, 603, 604, 605, 606] fun K hK => ?_
    simp only [go_sem, reduceIte, Nat.reduceLT, Nat.reduceLeDiff, Nat.reduceEqDiff, Nat.reduceAdd, Nat.reduceMul, Nat.reduceSub, Nat.reduceBEq, Int.reduceToNat, List.reduceReplicate, reduceCtorEq, Int.reduceAdd]
    repeat (refine And.intro (by first | omega | (and_intros <;> first | omega | exact rows_row _ | decide | (simp; done) | (simp; omega)) | fail) ?_)
    refine hK _ (hN3_0 _ ?_)
    refine Aw_rd fun B3_1 hN3_1 hR3_1 hX3_1 => ?_
    refine Aw_st hE [3, 4, 20, 21, 22, 23] [1, 2, 3, 4, 5, 6, 15, 30, 400, 401, 402, 403, 404, 405, 406, 407, 408, 409, 410, 411, 412, 413, 414, 415, 416, 417, 418, 419, 420, 421, 422, 423, 424, 425, 426, 427, 428, 429, 430, 431, 432, 433, 434, 435, 436, 437, 438, 439, 600, 601, 602, 603, 604, 605, 606] fun K hK => ?_
    simp only [go_sem, reduceIte, Nat.reduceLT, Nat.reduceLeDiff, Nat.reduceEqDiff, Nat.reduceAdd, Nat.reduceMul, Nat.reduceSub, Nat.reduceBEq, Int.reduceToNat, List.reduceReplicate, reduceCtorEq]
    refine hK _ ?_; clear hK K
    refine Aw_sq fun B4_1 hB4_1 hR4_1 hX4_1 => ?_
    refine Aw_yes rfl ?_
    refine Aw_skip (hB4_1 _ ?_)
    refine Aw_sq fun B6_1 hB6_1 hR6_1 hX6_1 => ?_
    refine Aw_bk fun B7_1 hN7_1 hE7_1 hR7_1 hX7_1 => ?_
    have hg_1 : (grows [g1, g2, g3])[1]? = some g2.row := rfl
    have hln_1 := hlg g2 (by simp)
    refine Aw_st hE [3, 4, 6, 20, 21, 22] [1, 2, 3, 4, 5, 6, 15, 30, 400, 401, 402, 403, 404, 405, 406, 407, 408, 409, 410, 411, 412, 413, 414, 415, 416, 417, 418, 419, 420, 421, 422, 423, 424, 425, 426, 427, 428, 429, 430, 431, 432, 433, 434, 435, 436, 437, 438, 439, 600, 601, 602, 603, 604, 605, 606] fun K hK => ?_
    simp only [go_sem, reduceIte, Nat.reduceLT, Nat.reduceLeDiff, Nat.reduceEqDiff, Nat.reduceAdd, Nat.reduceMul, Nat.reduceSub, Nat.reduceBEq, Int.reduceToNat, List.reduceReplicate, reduceCtorEq, hg_1, Int.reduceAdd]
    repeat (refine And.intro (by first | omega | (and_intros <;> first | omega | exact rows_row _ | decide | (simp; done) | (simp; omega)) | fail) ?_)
    refine hK _ ?_; clear hK K
    refine Aw_st hE [3, 4, 20, 21, 22] [1, 2, 3, 4, 5, 6, 15, 30, 400, 401, 402, 403, 404, 405, 406, 407, 408, 409, 410, 411, 412, 413, 414, 415, 416, 417, 418, 419, 420, 421, 422, 423, 424, 425, 426, 427, 428, 429, 430, 431, 432, 433, 434, 435, 436, 437, 438, 439, 600, 601, 602, 603, 604, 605, 606] fun K hK => ?_
    simp only [go_sem, reduceIte, Nat.reduceLT, Nat.reduceLeDiff, Nat.reduceEqDiff, Nat.reduceAdd, Nat.reduceMul, Nat.reduceSub, Nat.reduceBEq, Int.reduceToNat, List.reduceReplicate, reduceCtorEq]
    refine ⟨⟨by omega, by omega⟩, ?_⟩
    refine hK _ ?_; clear hK K
    refine Aw_tx hE [3, 4, 20, 21, 22] [1, 2, 3, 4, 5, 6, 15, 30, 400, 401, 402, 403, 404, 405, 406, 407, 408, 409, 410, 411, 412, 413, 414, 415, 416, 417, 418, 419, 420, 421, 422, 423, 424, 425, 426, 427, 428, 429, 430, 431, 432, 433, 434, 435, 436, 437, 438, 439, 600, 601, 602, 603, 604, 605, 606] fun K hK => ?_
    simp only [go_sem, reduceIte, Nat.reduceLT, Nat.reduceLeDiff, Nat.reduceEqDiff, Nat.reduceAdd, Nat.reduceMul, Nat.reduceSub, Nat.reduceBEq, Int.reduceToNat, List.reduceReplicate, reduceCtorEq]
    refine hK _ (hN7_1 _ (hB6_1 _ ?_))
    refine Aw.leE (Le_E (Le_swb _ 30 602 (by decide) (by decide))) ?_
    simp only [St.swb, swbσ, swbm, AV.swb, AV.swbAll, swp, Nat.reduceEqDiff, if_true, if_false, reduceIte, gcs, List.cons_append, List.nil_append]
    refine Aw_tx hE [3, 4, 20, 21, 22] [1, 2, 3, 4, 5, 6, 15, 30, 400, 401, 402, 403, 404, 405, 406, 407, 408, 409, 410, 411, 412, 413, 414, 415, 416, 417, 418, 419, 420, 421, 422, 423, 424, 425, 426, 427, 428, 429, 430, 431, 432, 433, 434, 435, 436, 437, 438, 439, 600, 601, 602, 603, 604, 605, 606] fun K hK => ?_
    simp only [go_sem, reduceIte, Nat.reduceLT, Nat.reduceLeDiff, Nat.reduceEqDiff, Nat.reduceAdd, Nat.reduceMul, Nat.reduceSub, Nat.reduceBEq, Int.reduceToNat, List.reduceReplicate, reduceCtorEq, Int.reduceAdd]
    repeat (refine And.intro (by first | omega | (and_intros <;> first | omega | exact rows_row _ | decide | (simp; done) | (simp; omega)) | fail) ?_)
    refine hK _ (hN3_1 _ ?_)
    refine Aw_rd fun B3_2 hN3_2 hR3_2 hX3_2 => ?_
    refine Aw_st hE [3, 4, 20, 21, 22, 23] [1, 2, 3, 4, 5, 6, 15, 30, 400, 401, 402, 403, 404, 405, 406, 407, 408, 409, 410, 411, 412, 413, 414, 415, 416, 417, 418, 419, 420, 421, 422, 423, 424, 425, 426, 427, 428, 429, 430, 431, 432, 433, 434, 435, 436, 437, 438, 439, 600, 601, 602, 603, 604, 605, 606] fun K hK => ?_
    simp only [go_sem, reduceIte, Nat.reduceLT, Nat.reduceLeDiff, Nat.reduceEqDiff, Nat.reduceAdd, Nat.reduceMul, Nat.reduceSub, Nat.reduceBEq, Int.reduceToNat, List.reduceReplicate, reduceCtorEq]
    refine hK _ ?_; clear hK K
    refine Aw_sq fun B4_2 hB4_2 hR4_2 hX4_2 => ?_
    refine Aw_yes rfl ?_
    refine Aw_skip (hB4_2 _ ?_)
    refine Aw_sq fun B6_2 hB6_2 hR6_2 hX6_2 => ?_
    refine Aw_bk fun B7_2 hN7_2 hE7_2 hR7_2 hX7_2 => ?_
    have hg_2 : (grows [g1, g2, g3])[2]? = some g3.row := rfl
    have hln_2 := hlg g3 (by simp)
    refine Aw_st hE [3, 4, 6, 20, 21, 22] [1, 2, 3, 4, 5, 6, 15, 30, 400, 401, 402, 403, 404, 405, 406, 407, 408, 409, 410, 411, 412, 413, 414, 415, 416, 417, 418, 419, 420, 421, 422, 423, 424, 425, 426, 427, 428, 429, 430, 431, 432, 433, 434, 435, 436, 437, 438, 439, 600, 601, 602, 603, 604, 605, 606] fun K hK => ?_
    simp only [go_sem, reduceIte, Nat.reduceLT, Nat.reduceLeDiff, Nat.reduceEqDiff, Nat.reduceAdd, Nat.reduceMul, Nat.reduceSub, Nat.reduceBEq, Int.reduceToNat, List.reduceReplicate, reduceCtorEq, hg_2, Int.reduceAdd]
    repeat (refine And.intro (by first | omega | (and_intros <;> first | omega | exact rows_row _ | decide | (simp; done) | (simp; omega)) | fail) ?_)
    refine hK _ ?_; clear hK K
    refine Aw_st hE [3, 4, 20, 21, 22] [1, 2, 3, 4, 5, 6, 15, 30, 400, 401, 402, 403, 404, 405, 406, 407, 408, 409, 410, 411, 412, 413, 414, 415, 416, 417, 418, 419, 420, 421, 422, 423, 424, 425, 426, 427, 428, 429, 430, 431, 432, 433, 434, 435, 436, 437, 438, 439, 600, 601, 602, 603, 604, 605, 606] fun K hK => ?_
    simp only [go_sem, reduceIte, Nat.reduceLT, Nat.reduceLeDiff, Nat.reduceEqDiff, Nat.reduceAdd, Nat.reduceMul, Nat.reduceSub, Nat.reduceBEq, Int.reduceToNat, List.reduceReplicate, reduceCtorEq]
    refine ⟨⟨by omega, by omega⟩, ?_⟩
    refine hK _ ?_; clear hK K
    refine Aw_tx hE [3, 4, 20, 21, 22] [1, 2, 3, 4, 5, 6, 15, 30, 400, 401, 402, 403, 404, 405, 406, 407, 408, 409, 410, 411, 412, 413, 414, 415, 416, 417, 418, 419, 420, 421, 422, 423, 424, 425, 426, 427, 428, 429, 430, 431, 432, 433, 434, 435, 436, 437, 438, 439, 600, 601, 602, 603, 604, 605, 606] fun K hK => ?_
    simp only [go_sem, reduceIte, Nat.reduceLT, Nat.reduceLeDiff, Nat.reduceEqDiff, Nat.reduceAdd, Nat.reduceMul, Nat.reduceSub, Nat.reduceBEq, Int.reduceToNat, List.reduceReplicate, reduceCtorEq]
    refine hK _ (hN7_2 _ (hB6_2 _ ?_))
    refine Aw.leE (Le_E (Le_swb _ 30 603 (by decide) (by decide))) ?_
    simp only [St.swb, swbσ, swbm, AV.swb, AV.swbAll, swp, Nat.reduceEqDiff, if_true, if_false, reduceIte, gcs, List.cons_append, List.nil_append]
    refine Aw_tx hE [3, 4, 20, 21, 22] [1, 2, 3, 4, 5, 6, 15, 30, 400, 401, 402, 403, 404, 405, 406, 407, 408, 409, 410, 411, 412, 413, 414, 415, 416, 417, 418, 419, 420, 421, 422, 423, 424, 425, 426, 427, 428, 429, 430, 431, 432, 433, 434, 435, 436, 437, 438, 439, 600, 601, 602, 603, 604, 605, 606] fun K hK => ?_
    simp only [go_sem, reduceIte, Nat.reduceLT, Nat.reduceLeDiff, Nat.reduceEqDiff, Nat.reduceAdd, Nat.reduceMul, Nat.reduceSub, Nat.reduceBEq, Int.reduceToNat, List.reduceReplicate, reduceCtorEq, Int.reduceAdd]
    repeat (refine And.intro (by first | omega | (and_intros <;> first | omega | exact rows_row _ | decide | (simp; done) | (simp; omega)) | fail) ?_)
    refine hK _ (hN3_2 _ ?_)
    refine Aw_rd fun B3_3 hN3_3 hR3_3 hX3_3 => ?_
    refine Aw_st hE [3, 4, 20, 21, 22, 23] [1, 2, 3, 4, 5, 6, 15, 30, 400, 401, 402, 403, 404, 405, 406, 407, 408, 409, 410, 411, 412, 413, 414, 415, 416, 417, 418, 419, 420, 421, 422, 423, 424, 425, 426, 427, 428, 429, 430, 431, 432, 433, 434, 435, 436, 437, 438, 439, 600, 601, 602, 603, 604, 605, 606] fun K hK => ?_
    simp only [go_sem, reduceIte, Nat.reduceLT, Nat.reduceLeDiff, Nat.reduceEqDiff, Nat.reduceAdd, Nat.reduceMul, Nat.reduceSub, Nat.reduceBEq, Int.reduceToNat, List.reduceReplicate, reduceCtorEq]
    refine hK _ ?_; clear hK K
    refine Aw_sq fun B4_3 hB4_3 hR4_3 hX4_3 => ?_
    refine Aw_no rfl ?_
    refine Aw_exit (hX4_3 _ _ (hX3_3 _ _ (hE2 _ (hB1 _ ?_))))
    refine Aw_st hE [2] [1, 2, 3, 4, 5, 6, 15, 30, 400, 401, 402, 403, 404, 405, 406, 407, 408, 409, 410, 411, 412, 413, 414, 415, 416, 417, 418, 419, 420, 421, 422, 423, 424, 425, 426, 427, 428, 429, 430, 431, 432, 433, 434, 435, 436, 437, 438, 439, 600, 601, 602, 603, 604, 605, 606] fun K hK => ?_
    simp only [go_sem, reduceIte, Nat.reduceLT, Nat.reduceLeDiff, Nat.reduceEqDiff, Nat.reduceAdd, Nat.reduceMul, Nat.reduceSub, Nat.reduceBEq, Int.reduceToNat, List.reduceReplicate, reduceCtorEq]
    refine hK _ ?_
    refine Aw.leE (Le_E (Le_ks [2] [600, 601, 602, 603])) ?_
    refine Aw_ret (hQ _ ?_)
    simp only [go_sem, reduceIte, Nat.reduceLT, Nat.reduceLeDiff, Nat.reduceEqDiff, Nat.reduceAdd, Nat.reduceMul, Nat.reduceSub, Nat.reduceBEq, Int.reduceToNat, List.reduceReplicate, reduceCtorEq]
    exact hpost _ rfl
  · refine Aw_st hE [3, 4, 20, 21, 22] [1, 2, 3, 4, 5, 6, 15, 30, 400, 401, 402, 403, 404, 405, 406, 407, 408, 409, 410, 411, 412, 413, 414, 415, 416, 417, 418, 419, 420, 421, 422, 423, 424, 425, 426, 427, 428, 429, 430, 431, 432, 433, 434, 435, 436, 437, 438, 439, 600, 601, 602, 603, 604, 605, 606] fun K hK => ?_
    simp only [go_sem, reduceIte, Nat.reduceLT, Nat.reduceLeDiff, Nat.reduceEqDiff, Nat.reduceAdd, Nat.reduceMul, Nat.reduceSub, Nat.reduceBEq, Int.reduceToNat, List.reduceReplicate, reduceCtorEq]
    refine hK _ ?_; clear hK K
    refine Aw_bk fun B2 hN2 hE2 hR2 hX2 => ?_
    refine Aw_unr 5 ?_
    refine Aw_rd fun B3_0 hN3_0 hR3_0 hX3_0 => ?_
    refine Aw_st hE [3, 4, 20, 21, 22, 23] [1, 2, 3, 4, 5, 6, 15, 30, 400, 401, 402, 403, 404, 405, 406, 407, 408, 409, 410, 411, 412, 413, 414, 415, 416, 417, 418, 419, 420, 421, 422, 423, 424, 425, 426, 427, 428, 429, 430, 431, 432, 433, 434, 435, 436, 437, 438, 439, 600, 601, 602, 603, 604, 605, 606] fun K hK => ?_
    simp only [go_sem, reduceIte, Nat.reduceLT, Nat.reduceLeDiff, Nat.reduceEqDiff, Nat.reduceAdd, Nat.reduceMul, Nat.reduceSub, Nat.reduceBEq, Int.reduceToNat, List.reduceReplicate, reduceCtorEq]
    refine hK _ ?_; clear hK K
    refine Aw_sq fun B4_0 hB4_0 hR4_0 hX4_0 => ?_
    refine Aw_yes rfl ?_
    refine Aw_skip (hB4_0 _ ?_)
    refine Aw_sq fun B6_0 hB6_0 hR6_0 hX6_0 => ?_
    refine Aw_bk fun B7_0 hN7_0 hE7_0 hR7_0 hX7_0 => ?_
    have hg_0 : (grows [g1, g2, g3, g4])[0]? = some g1.row := rfl
    have hln_0 := hlg g1 (by simp)
    refine Aw_st hE [3, 4, 6, 20, 21, 22] [1, 2, 3, 4, 5, 6, 15, 30, 400, 401, 402, 403, 404, 405, 406, 407, 408, 409, 410, 411, 412, 413, 414, 415, 416, 417, 418, 419, 420, 421, 422, 423, 424, 425, 426, 427, 428, 429, 430, 431, 432, 433, 434, 435, 436, 437, 438, 439, 600, 601, 602, 603, 604, 605, 606] fun K hK => ?_
    simp only [go_sem, reduceIte, Nat.reduceLT, Nat.reduceLeDiff, Nat.reduceEqDiff, Nat.reduceAdd, Nat.reduceMul, Nat.reduceSub, Nat.reduceBEq, Int.reduceToNat, List.reduceReplicate, reduceCtorEq, hg_0, Int.reduceAdd]
    repeat (refine And.intro (by first | omega | (and_intros <;> first | omega | exact rows_row _ | decide | (simp; done) | (simp; omega)) | fail) ?_)
    refine hK _ ?_; clear hK K
    refine Aw_st hE [3, 4, 20, 21, 22] [1, 2, 3, 4, 5, 6, 15, 30, 400, 401, 402, 403, 404, 405, 406, 407, 408, 409, 410, 411, 412, 413, 414, 415, 416, 417, 418, 419, 420, 421, 422, 423, 424, 425, 426, 427, 428, 429, 430, 431, 432, 433, 434, 435, 436, 437, 438, 439, 600, 601, 602, 603, 604, 605, 606] fun K hK => ?_
    simp only [go_sem, reduceIte, Nat.reduceLT, Nat.reduceLeDiff, Nat.reduceEqDiff, Nat.reduceAdd, Nat.reduceMul, Nat.reduceSub, Nat.reduceBEq, Int.reduceToNat, List.reduceReplicate, reduceCtorEq]
    refine ⟨⟨by omega, by omega⟩, ?_⟩
    refine hK _ ?_; clear hK K
    refine Aw_tx hE [3, 4, 20, 21, 22] [1, 2, 3, 4, 5, 6, 15, 30, 400, 401, 402, 403, 404, 405, 406, 407, 408, 409, 410, 411, 412, 413, 414, 415, 416, 417, 418, 419, 420, 421, 422, 423, 424, 425, 426, 427, 428, 429, 430, 431, 432, 433, 434, 435, 436, 437, 438, 439, 600, 601, 602, 603, 604, 605, 606] fun K hK => ?_
    simp only [go_sem, reduceIte, Nat.reduceLT, Nat.reduceLeDiff, Nat.reduceEqDiff, Nat.reduceAdd, Nat.reduceMul, Nat.reduceSub, Nat.reduceBEq, Int.reduceToNat, List.reduceReplicate, reduceCtorEq]
    refine hK _ (hN7_0 _ (hB6_0 _ ?_))
    refine Aw.leE (Le_E (Le_swb _ 30 601 (by decide) (by decide))) ?_
    simp only [St.swb, swbσ, swbm, AV.swb, AV.swbAll, swp, Nat.reduceEqDiff, if_true, if_false, reduceIte, gcs, List.cons_append, List.nil_append]
    refine Aw_tx hE [3, 4, 20, 21, 22] [1, 2, 3, 4, 5, 6, 15, 30, 400, 401, 402, 403, 404, 405, 406, 407, 408, 409, 410, 411, 412, 413, 414, 415, 416, 417, 418, 419, 420, 421, 422, 423, 424, 425, 426, 427, 428, 429, 430, 431, 432, 433, 434, 435, 436, 437, 438, 439, 600, 601, 602, 603, 604, 605, 606] fun K hK => ?_
    simp only [go_sem, reduceIte, Nat.reduceLT, Nat.reduceLeDiff, Nat.reduceEqDiff, Nat.reduceAdd, Nat.reduceMul, Nat.reduceSub, Nat.reduceBEq, Int.reduceToNat, List.reduceReplicate, reduceCtorEq, Int.reduceAdd]
    repeat (refine And.intro (by first | omega | (and_intros <;> first | omega | exact rows_row _ | decide | (simp; done) | (simp; omega)) | fail) ?_)
    refine hK _ (hN3_0 _ ?_)
    refine Aw_rd fun B3_1 hN3_1 hR3_1 hX3_1 => ?_
    refine Aw_st hE [3, 4, 20, 21, 22, 23] [1, 2, 3, 4, 5, 6, 15, 30, 400, 401, 402, 403, 404, 405, 406, 407, 408, 409, 410, 411, 412, 413, 414, 415, 416, 417, 418, 419, 420, 421, 422, 423, 424, 425, 426, 427, 428, 429, 430, 431, 432, 433, 434, 435, 436, 437, 438, 439, 600, 601, 602, 603, 604, 605, 606] fun K hK => ?_
    simp only [go_sem, reduceIte, Nat.reduceLT, Nat.reduceLeDiff, Nat.reduceEqDiff, Nat.reduceAdd, Nat.reduceMul, Nat.reduceSub, Nat.reduceBEq, Int.reduceToNat, List.reduceReplicate, reduceCtorEq]
    refine hK _ ?_; clear hK K
    refine Aw_sq fun B4_1 hB4_1 hR4_1 hX4_1 => ?_
    refine Aw_yes rfl ?_
    refine Aw_skip (hB4_1 _ ?_)
    refine Aw_sq fun B6_1 hB6_1 hR6_1 hX6_1 => ?_
    refine Aw_bk fun B7_1 hN7_1 hE7_1 hR7_1 hX7_1 => ?_
    have hg_1 : (grows [g1, g2, g3, g4])[1]? = some g2.row := rfl
    have hln_1 := hlg g2 (by simp)
    refine Aw_st hE [3, 4, 6, 20, 21, 22] [1, 2, 3, 4, 5, 6, 15, 30, 400, 401, 402, 403, 404, 405, 406, 407, 408, 409, 410, 411, 412, 413, 414, 415, 416, 417, 418, 419, 420, 421, 422, 423, 424, 425, 426, 427, 428, 429, 430, 431, 432, 433, 434, 435, 436, 437, 438, 439, 600, 601, 602, 603, 604, 605, 606] fun K hK => ?_
    simp only [go_sem, reduceIte, Nat.reduceLT, Nat.reduceLeDiff, Nat.reduceEqDiff, Nat.reduceAdd, Nat.reduceMul, Nat.reduceSub, Nat.reduceBEq, Int.reduceToNat, List.reduceReplicate, reduceCtorEq, hg_1, Int.reduceAdd]
    repeat (refine And.intro (by first | omega | (and_intros <;> first | omega | exact rows_row _ | decide | (simp; done) | (simp; omega)) | fail) ?_)
    refine hK _ ?_; clear hK K
    refine Aw_st hE [3, 4, 20, 21, 22] [1, 2, 3, 4, 5, 6, 15, 30, 400, 401, 402, 403, 404, 405, 406, 407, 408, 409, 410, 411, 412, 413, 414, 415, 416, 417, 418, 419, 420, 421, 422, 423, 424, 425, 426, 427, 428, 429, 430, 431, 432, 433, 434, 435, 436, 437, 438, 439, 600, 601, 602, 603, 604, 605, 606] fun K hK => ?_
    simp only [go_sem, reduceIte, Nat.reduceLT, Nat.reduceLeDiff, Nat.reduceEqDiff, Nat.reduceAdd, Nat.reduceMul, Nat.reduceSub, Nat.reduceBEq, Int.reduceToNat, List.reduceReplicate, reduceCtorEq]
    refine ⟨⟨by omega, by omega⟩, ?_⟩
    refine hK _ ?_; clear hK K
    refine Aw_tx hE [3, 4, 20, 21, 22] [1, 2, 3, 4, 5, 6, 15, 30, 400, 401, 402, 403, 404, 405, 406, 407, 408, 409, 410, 411, 412, 413, 414, 415, 416, 417, 418, 419, 420, 421, 422, 423, 424, 425, 426, 427, 428, 429, 430, 431, 432, 433, 434, 435, 436, 437, 438, 439, 600, 601, 602, 603, 604, 605, 606] fun K hK => ?_
    simp only [go_sem, reduceIte, Nat.reduceLT, Nat.reduceLeDiff, Nat.reduceEqDiff, Nat.reduceAdd, Nat.reduceMul, Nat.reduceSub, Nat.reduceBEq, Int.reduceToNat, List.reduceReplicate, reduceCtorEq]
    refine hK _ (hN7_1 _ (hB6_1 _ ?_))
    refine Aw.leE (Le_E (Le_swb _ 30 602 (by decide) (by decide))) ?_
    simp only [St.swb, swbσ, swbm, AV.swb, AV.swbAll, swp, Nat.reduceEqDiff, if_true, if_false, reduceIte, gcs, List.cons_append, List.nil_append]
    refine Aw_tx hE [3, 4, 20, 21, 22] [1, 2, 3, 4, 5, 6, 15, 30, 400, 401, 402, 403, 404, 405, 406, 407, 408, 409, 410, 411, 412, 413, 414, 415, 416, 417, 418, 419, 420, 421, 422, 423, 424, 425, 426, 427, 428, 429, 430, 431, 432, 433, 434, 435, 436, 437, 438, 439, 600, 601, 602, 603, 604, 605, 606] fun K hK => ?_
    simp only [go_sem, reduceIte, Nat.reduceLT, Nat.reduceLeDiff, Nat.reduceEqDiff, Nat.reduceAdd, Nat.reduceMul, Nat.reduceSub, Nat.reduceBEq, Int.reduceToNat, List.reduceReplicate, reduceCtorEq, Int.reduceAdd]
    repeat (refine And.intro (by first | omega | (and_intros <;> first | omega | exact rows_row _ | decide | (simp; done) | (simp; omega)) | fail) ?_)
    refine hK _ (hN3_1 _ ?_)
    refine Aw_rd fun B3_2 hN3_2 hR3_2 hX3_2 => ?_
    refine Aw_st hE [3, 4, 20, 21, 22, 23] [1, 2, 3, 4, 5, 6, 15, 30, 400, 401, 402, 403, 404, 405, 406, 407, 408, 409, 410, 411, 412, 413, 414, 415, 416, 417, 418, 419, 420, 421, 422, 423, 424, 425, 426, 427, 428, 429, 430, 431, 432, 433, 434, 435, 436, 437, 438, 439, 600, 601, 602, 603, 604, 605, 606] fun K hK => ?_
    simp only [go_sem, reduceIte, Nat.reduceLT, Nat.reduceLeDiff, Nat.reduceEqDiff, Nat.reduceAdd, Nat.reduceMul, Nat.reduceSub, Nat.reduceBEq, Int.reduceToNat, List.reduceReplicate, reduceCtorEq]
    refine hK _ ?_; clear hK K
    refine Aw_sq fun B4_2 hB4_2 hR4_2 hX4_2 => ?_
    refine Aw_yes rfl ?_
    refine Aw_skip (hB4_2 _ ?_)
    refine Aw_sq fun B6_2 hB6_2 hR6_2 hX6_2 => ?_
    refine Aw_bk fun B7_2 hN7_2 hE7_2 hR7_2 hX7_2 => ?_
    have hg_2 : (grows [g1, g2, g3, g4])[2]? = some g3.row := rfl
    have hln_2 := hlg g3 (by simp)
    refine Aw_st hE [3, 4, 6, 20, 21, 22] [1, 2, 3, 4, 5, 6, 15, 30, 400, 401, 402, 403, 404, 405, 406, 407, 408, 409, 410, 411, 412, 413, 414, 415, 416, 417, 418, 419, 420, 421, 422, 423, 424, 425, 426, 427, 428, 429, 430, 431, 432, 433, 434, 435, 436, 437, 438, 439, 600, 601, 602, 603, 604, 605, 606] fun K hK => ?_
    simp only [go_sem, reduceIte, Nat.reduceLT, Nat.reduceLeDiff, Nat.reduceEqDiff, Nat.reduceAdd, Nat.reduceMul, Nat.reduceSub, Nat.reduceBEq, Int.reduceToNat, List.reduceReplicate, reduceCtorEq, hg_2, Int.reduceAdd]
    repeat (refine And.intro (by first | omega | (and_intros <;> first | omega | exact rows_row _ | decide | (simp; done) | (simp; omega)) | fail) ?_)
    refine hK _ ?_; clear hK K
    refine Aw_st hE [3, 4, 20, 21, 22] [1, 2, 3, 4, 5, 6, 15, 30, 400, 401, 402, 403, 404, 405, 406, 407, 408, 409, 410, 411, 412, 413, 414, 415, 416, 417, 418, 419, 420, 421, 422, 423, 424, 425, 426, 427, 428, 429, 430, 431, 432, 433, 434, 435, 436, 437, 438, 439, 600, 601, 602, 603, 604, 605, 606] fun K hK => ?_
    simp only [go_sem, reduceIte, Nat.reduceLT, Nat.reduceLeDiff, Nat.reduceEqDiff, Nat.reduceAdd, Nat.reduceMul, Nat.reduceSub, Nat.reduceBEq, Int.reduceToNat, List.reduceReplicate, reduceCtorEq]
    refine ⟨⟨by omega, by omega⟩, ?_⟩
    refine hK _ ?_; clear hK K
    refine Aw_tx hE [3, 4, 20, 21, 22] [1, 2, 3, 4, 5, 6, 15, 30, 400, 401, 402, 403, 404, 405, 406, 407, 408, 409, 410, 411, 412, 413, 414, 415, 416, 417, 418, 419, 420, 421, 422, 423, 424, 425, 426, 427, 428, 429, 430, 431, 432, 433, 434, 435, 436, 437, 438, 439, 600, 601, 602, 603, 604, 605, 606] fun K hK => ?_
    simp only [go_sem, reduceIte, Nat.reduceLT, Nat.reduceLeDiff, Nat.reduceEqDiff, Nat.reduceAdd, Nat.reduceMul, Nat.reduceSub, Nat.reduceBEq, Int.reduceToNat, List.reduceReplicate, reduceCtorEq]
    refine hK _ (hN7_2 _ (hB6_2 _ ?_))
    refine Aw.leE (Le_E (Le_swb _ 30 603 (by decide) (by decide))) ?_
    simp only [St.swb, swbσ, swbm, AV.swb, AV.swbAll, swp, Nat.reduceEqDiff, if_true, if_false, reduceIte, gcs, List.cons_append, List.nil_append]
    refine Aw_tx hE [3, 4, 20, 21, 22] [1, 2, 3, 4, 5, 6, 15, 30, 400, 401, 402, 403, 404, 405, 406, 407, 408, 409, 410, 411, 412, 413, 414, 415, 416, 417, 418, 419, 420, 421, 422, 423, 424, 425, 426, 427, 428, 429, 430, 431, 432, 433, 434, 435, 436, 437, 438, 439, 600, 601, 602, 603, 604, 605, 606] fun K hK => ?_
    simp only [go_sem, reduceIte, Nat.reduceLT, Nat.reduceLeDiff, Nat.reduceEqDiff, Nat.reduceAdd, Nat.reduceMul, Nat.reduceSub, Nat.reduceBEq, Int.reduceToNat, List.reduceReplicate, reduceCtorEq, Int.reduceAdd]
    repeat (refine And.intro (by first | omega | (and_intros <;> first | omega | exact rows_row _ | decide | (simp; done) | (simp; omega)) | fail) ?_)
    refine hK _ (hN3_2 _ ?_)
    refine Aw_rd fun B3_3 hN3_3 hR3_3 hX3_3 => ?_
    refine Aw_st hE [3, 4, 20, 21, 22, 23] [1, 2, 3, 4, 5, 6, 15, 30, 400, 401, 402, 403, 404, 405, 406, 407, 408, 409, 410, 411, 412, 413, 414, 415, 416, 417, 418, 419, 420, 421, 422, 423, 424, 425, 426, 427, 428, 429, 430, 431, 432, 433, 434, 435, 436, 437, 438, 439, 600, 601, 602, 603, 604, 605, 606] fun K hK => ?_
    simp only [go_sem, reduceIte, Nat.reduceLT, Nat.reduceLeDiff, Nat.reduceEqDiff, Nat.reduceAdd, Nat.reduceMul, Nat.reduceSub, Nat.reduceBEq, Int.reduceToNat, List.reduceReplicate, reduceCtorEq]
    refine hK _ ?_; clear hK K
    refine Aw_sq fun B4_3 hB4_3 hR4_3 hX4_3 => ?_
    refine Aw_yes rfl ?_
    refine Aw_skip (hB4_3 _ ?_)
    refine Aw_sq fun B6_3 hB6_3 hR6_3 hX6_3 => ?_
    refine Aw_bk fun B7_3 hN7_3 hE7_3 hR7_3 hX7_3 => ?_
    have hg_3 : (grows [g1, g2, g3, g4])[3]? = some g4.row := rfl
    have hln_3 := hlg g4 (by simp)
    refine Aw_st hE [3, 4, 6, 20, 21, 22] [1, 2, 3, 4, 5, 6, 15, 30, 400, 401, 402, 403, 404, 405, 406, 407, 408, 409, 410, 411, 412, 413, 414, 415, 416, 417, 418, 419, 420, 421, 422, 423, 424, 425, 426, 427, 428, 429, 430, 431, 432, 433, 434, 435, 436, 437, 438, 439, 600, 601, 602, 603, 604, 605, 606] fun K hK => ?_
    simp only [go_sem, reduceIte, Nat.reduceLT, Nat.reduceLeDiff, Nat.reduceEqDiff, Nat.reduceAdd, Nat.reduceMul, Nat.reduceSub, Nat.reduceBEq, Int.reduceToNat, List.reduceReplicate, reduceCtorEq, hg_3, Int.reduceAdd]
    repeat (refine And.intro (by first | omega | (and_intros <;> first | omega | exact rows_row _ | decide | (simp; done) | (simp; omega)) | fail) ?_)
    refine hK _ ?_; clear hK K
    refine Aw_st hE [3, 4, 20, 21, 22] [1, 2, 3, 4, 5, 6, 15, 30, 400, 401, 402, 403, 404, 405, 406, 407, 408, 409, 410, 411, 412, 413, 414, 415, 416, 417, 418, 419, 420, 421, 422, 423, 424, 425, 426, 427, 428, 429, 430, 431, 432, 433, 434, 435, 436, 437, 438, 439, 600, 601, 602, 603, 604, 605, 606] fun K hK => ?_
    simp only [go_sem, reduceIte, Nat.reduceLT, Nat.reduceLeDiff, Nat.reduceEqDiff, Nat.reduceAdd, Nat.reduceMul, Nat.reduceSub, Nat.reduceBEq, Int.reduceToNat, List.reduceReplicate, reduceCtorEq]
    refine ⟨⟨by omega, by omega⟩, ?_⟩
    refine hK _ ?_; clear hK K
    refine Aw_tx hE [3, 4, 20, 21, 22] [1, 2, 3, 4, 5, 6, 15, 30, 400, 401, 402, 403, 404, 405, 406, 407, 408, 409, 410, 411, 412, 413, 414, 415, 416, 417, 418, 419, 420, 421, 422, 423, 424, 425, 426, 427, 428, 429, 430, 431, 432, 433, 434, 435, 436, 437, 438, 439, 600, 601, 602, 603, 604, 605, 606] fun K hK => ?_
    simp only [go_sem, reduceIte, Nat.reduceLT, Nat.reduceLeDiff, Nat.reduceEqDiff, Nat.reduceAdd, Nat.reduceMul, Nat.reduceSub, Nat.reduceBEq, Int.reduceToNat, List.reduceReplicate, reduceCtorEq]
    refine hK _ (hN7_3 _ (hB6_3 _ ?_))
    refine Aw.leE (Le_E (Le_swb _ 30 604 (by decide) (by decide))) ?_
    simp only [St.swb, swbσ, swbm, AV.swb, AV.swbAll, swp, Nat.reduceEqDiff, if_true, if_false, reduceIte, gcs, List.cons_append, List.nil_append]
    refine Aw_tx hE [3, 4, 20, 21, 22] [1, 2, 3, 4, 5, 6, 15, 30, 400, 401, 402, 403, 404, 405, 406, 407, 408, 409, 410, 411, 412, 413, 414, 415, 416, 417, 418, 419, 420, 421, 422, 423, 424, 425, 426, 427, 428, 429, 430, 431, 432, 433, 434, 435, 436, 437, 438, 439, 600, 601, 602, 603, 604, 605, 606] fun K hK => ?_
    simp only [go_sem, reduceIte, Nat.reduceLT, Nat.reduceLeDiff, Nat.reduceEqDiff, Nat.reduceAdd, Nat.reduceMul, Nat.reduceSub, Nat.reduceBEq, Int.reduceToNat, List.reduceReplicate, reduceCtorEq, Int.reduceAdd]
    repeat (refine And.intro (by first | omega | (and_intros <;> first | omega | exact rows_row _ | decide | (simp; done) | (simp; omega)) | fail) ?_)
    refine hK _ (hN3_3 _ ?_)
    refine Aw_rd fun B3_4 hN3_4 hR3_4 hX3_4 => ?_
    refine Aw_st hE [3, 4, 20, 21, 22, 23] [1, 2, 3, 4, 5, 6, 15, 30, 400, 401, 402, 403, 404, 405, 406, 407, 408, 409, 410, 411, 412, 413, 414, 415, 416, 417, 418, 419, 420, 421, 422, 423, 424, 425, 426, 427, 428, 429, 430, 431, 432, 433, 434, 435, 436, 437, 438, 439, 600, 601, 602, 603, 604, 605, 606] fun K hK => ?_
    simp only [go_sem, reduceIte, Nat.reduceLT, Nat.reduceLeDiff, Nat.reduceEqDiff, Nat.reduceAdd, Nat.reduceMul, Nat.reduceSub, Nat.reduceBEq, Int.reduceToNat, List.reduceReplicate, reduceCtorEq]
    refine hK _ ?_; clear hK K
    refine Aw_sq fun B4_4 hB4_4 hR4_4 hX4_4 => ?_
    refine Aw_no rfl ?_
    refine Aw_exit (hX4_4 _ _ (hX3_4 _ _ (hE2 _ (hB1 _ ?_))))
    refine Aw_st hE [2] [1, 2, 3, 4, 5, 6, 15, 30, 400, 401, 402, 403, 404, 405, 406, 407, 408, 409, 410, 411, 412, 413, 414, 415, 416, 417, 418, 419, 420, 421, 422, 423, 424, 425, 426, 427, 428, 429, 430, 431, 432, 433, 434, 435, 436, 437, 438, 439, 600, 601, 602, 603, 604, 605, 606] fun K hK => ?_
    simp only [go_sem, reduceIte, Nat.reduceLT, Nat.reduceLeDiff, Nat.reduceEqDiff, Nat.reduceAdd, Nat.reduceMul, Nat.reduceSub, Nat.reduceBEq, Int.reduceToNat, List.reduceReplicate, reduceCtorEq]
    refine hK _ ?_
    refine Aw.leE (Le_E (Le_ks [2] [600, 601, 602, 603, 604])) ?_
    refine Aw_ret (hQ _ ?_)
    simp only [go_sem, reduceIte, Nat.reduceLT, Nat.reduceLeDiff, Nat.reduceEqDiff, Nat.reduceAdd, Nat.reduceMul, Nat.reduceSub, Nat.reduceBEq, Int.reduceToNat, List.reduceReplicate, reduceCtorEq]
    exact hpost _ rfl
  · refine Aw_st hE [3, 4, 20, 21, 22] [1, 2, 3, 4, 5, 6, 15, 30, 400, 401, 402, 403, 404, 405, 406, 407, 408, 409, 410, 411, 412, 413, 414, 415, 416, 417, 418, 419, 420, 421, 422, 423, 424, 425, 426, 427, 428, 429, 430, 431, 432, 433, 434, 435, 436, 437, 438, 439, 600, 601, 602, 603, 604, 605, 606] fun K hK => ?_
    simp only [go_sem, reduceIte, Nat.reduceLT, Nat.reduceLeDiff, Nat.reduceEqDiff, Nat.reduceAdd, Nat.reduceMul, Nat.reduceSub, Nat.reduceBEq, Int.reduceToNat, List.reduceReplicate, reduceCtorEq]
    refine hK _ ?_; clear hK K
    refine Aw_bk fun B2 hN2 hE2 hR2 hX2 => ?_
    refine Aw_unr 6 ?_
    refine Aw_rd fun B3_0 hN3_0 hR3_0 hX3_0 => ?_
    refine Aw_st hE [3, 4, 20, 21, 22, 23] [1, 2, 3, 4, 5, 6, 15, 30, 400, 401, 402, 403, 404, 405, 406, 407, 408, 409, 410, 411, 412, 413, 414, 415, 416, 417, 418, 419, 420, 421, 422, 423, 424, 425, 426, 427, 428, 429, 430, 431, 432, 433, 434, 435, 436, 437, 438, 439, 600, 601, 602, 603, 604, 605, 606] fun K hK => ?_
    simp only [go_sem, reduceIte, Nat.reduceLT, Nat.reduceLeDiff, Nat.reduceEqDiff, Nat.reduceAdd, Nat.reduceMul, Nat.reduceSub, Nat.reduceBEq, Int.reduceToNat, List.reduceReplicate, reduceCtorEq]
    refine hK _ ?_; clear hK K
    refine Aw_sq fun B4_0 hB4_0 hR4_0 hX4_0 => ?_
    refine Aw_yes rfl ?_
    refine Aw_skip (hB4_0 _ ?_)
    refine Aw_sq fun B6_0 hB6_0 hR6_0 hX6_0 => ?_
    refine Aw_bk fun B7_0 hN7_0 hE7_0 hR7_0 hX7_0 => ?_
    have hg_0 : (grows [g1, g2, g3, g4, g5])[0]? = some g1.row := rfl
    have hln_0 := hlg g1 (by simp)
    refine Aw_st hE [3, 4, 6, 20, 21, 22] [1, 2, 3, 4, 5, 6, 15, 30, 400, 401, 402, 403, 404, 405, 406, 407, 408, 409, 410, 411, 412, 413, 414, 415, 416, 417, 418, 419, 420, 421, 422, 423, 424, 425, 426, 427, 428, 429, 430, 431, 432, 433, 434, 435, 436, 437, 438, 439, 600, 601, 602, 603, 604, 605, 606] fun K hK => ?_
    simp only [go_sem, reduceIte, Nat.reduceLT, Nat.reduceLeDiff, Nat.reduceEqDiff, Nat.reduceAdd, Nat.reduceMul, Nat.reduceSub, Nat.reduceBEq, Int.reduceToNat, List.reduceReplicate, reduceCtorEq, hg_0, Int.reduceAdd]
    repeat (refine And.intro (by first | omega | (and_intros <;> first | omega | exact rows_row _ | decide | (simp; done) | (simp; omega)) | fail) ?_)
    refine hK _ ?_; clear hK K
    refine Aw_st hE [3, 4, 20, 21, 22] [1, 2, 3, 4, 5, 6, 15, 30, 400, 401, 402, 403, 404, 405, 406, 407, 408, 409, 410, 411, 412, 413, 414, 415, 416, 417, 418, 419, 420, 421, 422, 423, 424, 425, 426, 427, 428, 429, 430, 431, 432, 433, 434, 435, 436, 437, 438, 439, 600, 601, 602, 603, 604, 605, 606] fun K hK => ?_
    simp only [go_sem, reduceIte, Nat.reduceLT, Nat.reduceLeDiff, Nat.reduceEqDiff, Nat.reduceAdd, Nat.reduceMul, Nat.reduceSub, Nat.reduceBEq, Int.reduceToNat, List.reduceReplicate, reduceCtorEq]
    refine ⟨⟨by omega, by omega⟩, ?_⟩
    refine hK _ ?_; clear hK K
    refine Aw_tx hE [3, 4, 20, 21, 22] [1, 2, 3, 4, 5, 6, 15, 30, 400, 401, 402, 403, 404, 405, 406, 407, 408, 409, 410, 411, 412, 413, 414, 415, 416, 417, 418, 419, 420, 421, 422, 423, 424, 425, 426, 427, 428, 429, 430, 431, 432, 433, 434, 435, 436, 437, 438, 439, 600, 601, 602, 603, 604, 605, 606] fun K hK => ?_
    simp only [go_sem, reduceIte, Nat.reduceLT, Nat.reduceLeDiff, Nat.reduceEqDiff, Nat.reduceAdd, Nat.reduceMul, Nat.reduceSub, Nat.reduceBEq, Int.reduceToNat, List.reduceReplicate, reduceCtorEq]
    refine hK _ (hN7_0 _ (hB6_0 _ ?_))
    refine Aw.leE (Le_E (Le_swb _ 30 601 (by decide) (by decide))) ?_
    simp only [St.swb, swbσ, swbm, AV.swb, AV.swbAll, swp, Nat.reduceEqDiff, if_true, if_false, reduceIte, gcs, List.cons_append, List.nil_append]
    refine Aw_tx hE [3, 4, 20, 21, 22] [1, 2, 3, 4, 5, 6, 15, 30, 400, 401, 402, 403, 404, 405, 406, 407, 408, 409, 410, 411, 412, 413, 414, 415, 416, 417, 418, 419, 420, 421, 422, 423, 424, 425, 426, 427, 428, 429, 430, 431, 432, 433, 434, 435, 436, 437, 438, 439, 600, 601, 602, 603, 604, 605, 606] fun K hK => ?_
    simp only [go_sem, reduceIte, Nat.reduceLT, Nat.reduceLeDiff, Nat.reduceEqDiff, Nat.reduceAdd, Nat.reduceMul, Nat.reduceSub, Nat.reduceBEq, Int.reduceToNat, List.reduceReplicate, reduceCtorEq, Int.reduceAdd]
    repeat (refine And.intro (by first | omega | (and_intros <;> first | omega | exact rows_row _ | decide | (simp; done) | (simp; omega)) | fail) ?_)
    refine hK _ (hN3_0 _ ?_)
    refine Aw_rd fun B3_1 hN3_1 hR3_1 hX3_1 => ?_
    refine Aw_st hE [3, 4, 20, 21, 22, 23] [1, 2, 3, 4, 5, 6, 15, 30, 400, 401, 402, 403, 404, 405, 406, 407, 408, 409, 410, 411, 412, 413, 414, 415, 416, 417, 418, 419, 420, 421, 422, 423, 424, 425, 426, 427, 428, 429, 430, 431, 432, 433, 434, 435, 436, 437, 438, 439, 600, 601, 602, 603, 604, 605, 606] fun K hK => ?_
    simp only [go_sem, reduceIte, Nat.reduceLT, Nat.reduceLeDiff, Nat.reduceEqDiff, Nat.reduceAdd, Nat.reduceMul, Nat.reduceSub, Nat.reduceBEq, Int.reduceToNat, List.reduceReplicate, reduceCtorEq]
    refine hK _ ?_; clear hK K
    refine Aw_sq fun B4_1 hB4_1 hR4_1 hX4_1 => ?_
    refine Aw_yes rfl ?_
    refine Aw_skip (hB4_1 _ ?_)
    refine Aw_sq fun B6_1 hB6_1 hR6_1 hX6_1 => ?_
    refine Aw_bk fun B7_1 hN7_1 hE7_1 hR7_1 hX7_1 => ?_
    have hg_1 : (grows [g1, g2, g3, g4, g5])[1]? = some g2.row := rfl
    have hln_1 := hlg g2 (by simp)
    refine Aw_st hE [3, 4, 6, 20, 21, 22] [1, 2, 3, 4, 5, 6, 15, 30, 400, 401, 402, 403, 404, 405, 406, 407, 408, 409, 410, 411, 412, 413, 414, 415, 416, 417, 418, 419, 420, 421, 422, 423, 424, 425, 426, 427, 428, 429, 430, 431, 432, 433, 434, 435, 436, 437, 438, 439, 600, 601, 602, 603, 604, 605, 606] fun K hK => ?_
    simp only [go_sem, reduceIte, Nat.reduceLT, Nat.reduceLeDiff, Nat.reduceEqDiff, Nat.reduceAdd, Nat.reduceMul, Nat.reduceSub, Nat.reduceBEq, Int.reduceToNat, List.reduceReplicate, reduceCtorEq, hg_1, Int.reduceAdd]
    repeat (refine And.intro (by first | omega | (and_intros <;> first | omega | exact rows_row _ | decide | (simp; done) | (simp; omega)) | fail) ?_)
    refine hK _ ?_; clear hK K
    refine Aw_st hE [3, 4, 20, 21, 22] [1, 2, 3, 4, 5, 6, 15, 30, 400, 401, 402, 403, 404, 405, 406, 407, 408, 409, 410, 411, 412, 413, 414, 415, 416, 417, 418, 419, 420, 421, 422, 423, 424, 425, 426, 427, 428, 429, 430, 431, 432, 433, 434, 435, 436, 437, 438, 439, 600, 601, 602, 603, 604, 605, 606] fun K hK => ?_
    simp only [go_sem, reduceIte, Nat.reduceLT, Nat.reduceLeDiff, Nat.reduceEqDiff, Nat.reduceAdd, Nat.reduceMul, Nat.reduceSub, Nat.reduceBEq, Int.reduceToNat, List.reduceReplicate, reduceCtorEq]
    refine ⟨⟨by omega, by omega⟩, ?_⟩
    refine hK _ ?_; clear hK K
    refine Aw_tx hE [3, 4, 20, 21, 22] [1, 2, 3, 4, 5, 6, 15, 30, 400, 401, 402, 403, 404, 405, 406, 407, 408, 409, 410, 411, 412, 413, 414, 415, 416, 417, 418, 419, 420, 421, 422, 423, 424, 425, 426, 427, 428, 429, 430, 431, 432, 433, 434, 435, 436, 437, 438, 439, 600, 601, 602, 603, 604, 605, 606] fun K hK => ?_
    simp only [go_sem, reduceIte, Nat.reduceLT, Nat.reduceLeDiff, Nat.reduceEqDiff, Nat.reduceAdd, Nat.reduceMul, Nat.reduceSub, Nat.reduceBEq, Int.reduceToNat, List.reduceReplicate, reduceCtorEq]
    refine hK _ (hN7_1 _ (hB6_1 _ ?_))
    refine Aw.leE (Le_E (Le_swb _ 30 602 (by decide) (by decide))) ?_
    simp only [St.swb, swbσ, swbm, AV.swb, AV.swbAll, swp, Nat.reduceEqDiff, if_true, if_false, reduceIte, gcs, List.cons_append, List.nil_append]
    refine Aw_tx hE [3, 4, 20, 21, 22] [1, 2, 3, 4, 5, 6, 15, 30, 400, 401, 402, 403, 404, 405, 406, 407, 408, 409, 410, 411, 412, 413, 414, 415, 416, 417, 418, 419, 420, 421, 422, 423, 424, 425, 426, 427, 428, 429, 430, 431, 432, 433, 434, 435, 436, 437, 438, 439, 600, 601, 602, 603, 604, 605, 606] fun K hK => ?_
    simp only [go_sem, reduceIte, Nat.reduceLT, Nat.reduceLeDiff, Nat.reduceEqDiff, Nat.reduceAdd, Nat.reduceMul, Nat.reduceSub, Nat.reduceBEq, Int.reduceToNat, List.reduceReplicate, reduceCtorEq, Int.reduceAdd]
    repeat (refine And.intro (by first | omega | (and_intros <;> first | omega | exact rows_row _ | decide | (simp; done) | (simp; omega)) | fail) ?_)
    refine hK _ (hN3_1 _ ?_)
    refine Aw_rd fun B3_2 hN3_2 hR3_2 hX3_2 => ?_
    refine Aw_st hE [3, 4, 20, 21, 22, 23] [1, 2, 3, 4, 5, 6, 15, 30, 400, 401, 402, 403, 404, 405, 406, 407, 408, 409, 410, 411, 412, 413, 414, 415, 416, 417, 418, 419, 420, 421, 422, 423, 424, 425, 426, 427, 428, 429, 430, 431, 432, 433, 434, 435, 436, 437, 438, 439, 600, 601, 602, 603, 604, 605, 606] fun K hK => ?_
    simp only [go_sem, reduceIte, Nat.reduceLT, Nat.reduceLeDiff, Nat.reduceEqDiff, Nat.reduceAdd, Nat.reduceMul, Nat.reduceSub, Nat.reduceBEq, Int.reduceToNat, List.reduceReplicate, reduceCtorEq]
    refine hK _ ?_; clear hK K
    refine Aw_sq fun B4_2 hB4_2 hR4_2 hX4_2 => ?_
    refine Aw_yes rfl ?_
    refine Aw_skip (hB4_2 _ ?_)
    refine Aw_sq fun B6_2 hB6_2 hR6_2 hX6_2 => ?_
    refine Aw_bk fun B7_2 hN7_2 hE7_2 hR7_2 hX7_2 => ?_
    have hg_2 : (grows [g1, g2, g3, g4, g5])[2]? = some g3.row := rfl
    have hln_2 := hlg g3 (by simp)
    refine Aw_st hE [3, 4, 6, 20, 21, 22] [1, 2, 3, 4, 5, 6, 15, 30, 400, 401, 402, 403, 404, 405, 406, 407, 408, 409, 410, 411, 412, 413, 414, 415, 416, 417, 418, 419, 420, 421, 422, 423, 424, 425, 426, 427, 428, 429, 430, 431, 432, 433, 434, 435, 436, 437, 438, 439, 600, 601, 602, 603, 604, 605, 606] fun K hK => ?_
    simp only [go_sem, reduceIte, Nat.reduceLT, Nat.reduceLeDiff, Nat.reduceEqDiff, Nat.reduceAdd, Nat.reduceMul, Nat.reduceSub, Nat.reduceBEq, Int.reduceToNat, List.reduceReplicate, reduceCtorEq, hg_2, Int.reduceAdd]
    repeat (refine And.intro (by first | omega | (and_intros <;> first | omega | exact rows_row _ | decide | (simp; done) | (simp; omega)) | fail) ?_)
    refine hK _ ?_; clear hK K
    refine Aw_st hE [3, 4, 20, 21, 22] [1, 2, 3, 4, 5, 6, 15, 30, 400, 401, 402, 403, 404, 405, 406, 407, 408, 409, 410, 411, 412, 413, 414, 415, 416, 417, 418, 419, 420, 421, 422, 423, 424, 425, 426, 427, 428, 429, 430, 431, 432, 433, 434, 435, 436, 437, 438, 439, 600, 601, 602, 603, 604, 605, 606] fun K hK => ?_
    simp only [go_sem, reduceIte, Nat.reduceLT, Nat.reduceLeDiff, Nat.reduceEqDiff, Nat.reduceAdd, Nat.reduceMul, Nat.reduceSub, Nat.reduceBEq, Int.reduceToNat, List.reduceReplicate, reduceCtorEq]
    refine ⟨⟨by omega, by omega⟩, ?_⟩
    refine hK _ ?_; clear hK K
    refine Aw_tx hE [3, 4, 20, 21, 22] [1, 2, 3, 4, 5, 6, 15, 30, 400, 401, 402, 403, 404, 405, 406, 407, 408, 409, 410, 411, 412, 413, 414, 415, 416, 417, 418, 419, 420, 421, 422, 423, 424, 425, 426, 427, 428, 429, 430, 431, 432, 433, 434, 435, 436, 437, 438, 439, 600, 601, 602, 603, 604, 605, 606] fun K hK => ?_
    simp only [go_sem, reduceIte, Nat.reduceLT, Nat.reduceLeDiff, Nat.reduceEqDiff, Nat.reduceAdd, Nat.reduceMul, Nat.reduceSub, Nat.reduceBEq, Int.reduceToNat, List.reduceReplicate, reduceCtorEq]
    refine hK _ (hN7_2 _ (hB6_2 _ ?_))
    refine Aw.leE (Le_E (Le_swb _ 30 603 (by decide) (by decide))) ?_
    simp only [St.swb, swbσ, swbm, AV.swb, AV.swbAll, swp, Nat.reduceEqDiff, if_true, if_false, reduceIte, gcs, List.cons_append, List.nil_append]
    refine Aw_tx hE [3, 4, 20, 21, 22] [1, 2, 3, 4, 5, 6, 15, 30, 400, 401, 402, 403, 404, 405, 406, 407, 408, 409, 410, 411, 412, 413, 414, 415, 416, 417, 418, 419, 420, 421, 422, 423, 424, 425, 426, 427, 428, 429, 430, 431, 432, 433, 434, 435, 436, 437, 438, 439, 600, 601, 602, 603, 604, 605, 606] fun K hK => ?_
    simp only [go_sem, reduceIte, Nat.reduceLT, Nat.reduceLeDiff, Nat.reduceEqDiff, Nat.reduceAdd, Nat.reduceMul, Nat.reduceSub, Nat.reduceBEq, Int.reduceToNat, List.reduceReplicate, reduceCtorEq, Int.reduceAdd]
    repeat (refine And.intro (by first | omega | (and_intros <;> first | omega | exact rows_row _ | decide | (simp; done) | (simp; omega)) | fail) ?_)
    refine hK _ (hN3_2 _ ?_)
    refine Aw_rd fun B3_3 hN3_3 hR3_3 hX3_3 => ?_
    refine Aw_st hE [3, 4, 20, 21, 22, 23] [1, 2, 3, 4, 5, 6, 15, 30, 400, 401, 402, 403, 404, 405, 406, 407, 408, 409, 410, 411, 412, 413, 414, 415, 416, 417, 418, 419, 420, 421, 422, 423, 424, 425, 426, 427, 428, 429, 430, 431, 432, 433, 434, 435, 436, 437, 438, 439, 600, 601, 602, 603, 604, 605, 606] fun K hK => ?_
    simp only [go_sem, reduceIte, Nat.reduceLT, Nat.reduceLeDiff, Nat.reduceEqDiff, Nat.reduceAdd, Nat.reduceMul, Nat.reduceSub, Nat.reduceBEq, Int.reduceToNat, List.reduceReplicate, reduceCtorEq]
    refine hK _ ?_; clear hK K
    refine Aw_sq fun B4_3 hB4_3 hR4_3 hX4_3 => ?_
    refine Aw_yes rfl ?_
    refine Aw_skip (hB4_3 _ ?_)
    refine Aw_sq fun B6_3 hB6_3 hR6_3 hX6_3 => ?_
    refine Aw_bk fun B7_3 hN7_3 hE7_3 hR7_3 hX7_3 => ?_
    have hg_3 : (grows [g1, g2, g3, g4, g5])[3]? = some g4.row := rfl
    have hln_3 := hlg g4 (by simp)
    refine Aw_st hE [3, 4, 6, 20, 21, 22] [1, 2, 3, 4, 5, 6, 15, 30, 400, 401, 402, 403, 404, 405, 406, 407, 408, 409, 410, 411, 412, 413, 414, 415, 416, 417, 418, 419, 420, 421, 422, 423, 424, 425, 426, 427, 428, 429, 430, 431, 432, 433, 434, 435, 436, 437, 438, 439, 600, 601, 602, 603, 604, 605, 606] fun K hK => ?_
    simp only [go_sem, reduceIte, Nat.reduceLT, Nat.reduceLeDiff, Nat.reduceEqDiff, Nat.reduceAdd, Nat.reduceMul, Nat.reduceSub, Nat.reduceBEq, Int.reduceToNat, List.reduceReplicate, reduceCtorEq, hg_3, Int.reduceAdd]
    repeat (refine And.intro (by first | omega | (and_intros <;> first | omega | exact rows_row _ | decide | (simp; done) | (simp; omega)) | fail) ?_)
    refine hK _ ?_; clear hK K
    refine Aw_st hE [3, 4, 20, 21, 22] [1, 2, 3, 4, 5, 6, 15, 30, 400, 401, 402, 403, 404, 405, 406, 407, 408, 409, 410, 411, 412, 413, 414, 415, 416, 417, 418, 419, 420, 421, 422, 423, 424, 425, 426, 427, 428, 429, 430, 431, 432, 433, 434, 435, 436, 437, 438, 439, 600, 601, 602, 603, 604, 605, 606] fun K hK => ?_
    simp only [go_sem, reduceIte, Nat.reduceLT, Nat.reduceLeDiff, Nat.reduceEqDiff, Nat.reduceAdd, Nat.reduceMul, Nat.reduceSub, Nat.reduceBEq, Int.reduceToNat, List.reduceReplicate, reduceCtorEq]
    refine ⟨⟨by omega, by omega⟩, ?_⟩
    refine hK _ ?_; clear hK K
    refine Aw_tx hE [3, 4, 20, 21, 22] [1, 2, 3, 4, 5, 6, 15, 30, 400, 401, 402, 403, 404, 405, 406, 407, 408, 409, 410, 411, 412, 413, 414, 415, 416, 417, 418, 419, 420, 421, 422, 423, 424, 425, 426, 427, 428, 429, 430, 431, 432, 433, 434, 435, 436, 437, 438, 439, 600, 601, 602, 603, 604, 605, 606] fun K hK => ?_
    simp only [go_sem, reduceIte, Nat.reduceLT, Nat.reduceLeDiff, Nat.reduceEqDiff, Nat.reduceAdd, Nat.reduceMul, Nat.reduceSub, Nat.reduceBEq, Int.reduceToNat, List.reduceReplicate, reduceCtorEq]
    refine hK _ (hN7_3 _ (hB6_3 _ ?_))
    refine Aw.leE (Le_E (Le_swb _ 30 604 (by decide) (by decide))) ?_
    simp only [St.swb, swbσ, swbm, AV.swb, AV.swbAll, swp, Nat.reduceEqDiff, if_true, if_false, reduceIte, gcs, List.cons_append, List.nil_append]
    refine Aw_tx hE [3, 4, 20, 21, 22] [1, 2, 3, 4, 5, 6, 15, 30, 400, 401, 402, 403, 404, 405, 406, 407, 408, 409, 410, 411, 412, 413, 414, 415, 416, 417, 418, 419, 420, 421, 422, 423, 424, 425, 426, 427, 428, 429, 430, 431, 432, 433, 434, 435, 436, 437, 438, 439, 600, 601, 602, 603, 604, 605, 606] fun K hK => ?_
    simp only [go_sem, reduceIte, Nat.reduceLT, Nat.reduceLeDiff, Nat.reduceEqDiff, Nat.reduceAdd, Nat.reduceMul, Nat.reduceSub, Nat.reduceBEq, Int.reduceToNat, List.reduceReplicate, reduceCtorEq, Int.reduceAdd]
    repeat (refine And.intro (by first | omega | (and_intros <;> first | omega | exact rows_row _ | decide | (simp; done) | (simp; omega)) | fail) ?_)
    refine hK _ (hN3_3 _ ?_)
    refine Aw_rd fun B3_4 hN3_4 hR3_4 hX3_4 => ?_
    refine Aw_st hE [3, 4, 20, 21, 22, 23] [1, 2, 3, 4, 5, 6, 15, 30, 400, 401, 402, 403, 404, 405, 406, 407, 408, 409, 410, 411, 412, 413, 414, 415, 416, 417, 418, 419, 420, 421, 422, 423, 424, 425, 426, 427, 428, 429, 430, 431, 432, 433, 434, 435, 436, 437, 438, 439, 600, 601, 602, 603, 604, 605, 606] fun K hK => ?_
    simp only [go_sem, reduceIte, Nat.reduceLT, Nat.reduceLeDiff, Nat.reduceEqDiff, Nat.reduceAdd, Nat.reduceMul, Nat.reduceSub, Nat.reduceBEq, Int.reduceToNat, List.reduceReplicate, reduceCtorEq]
    refine hK _ ?_; clear hK K
    refine Aw_sq fun B4_4 hB4_4 hR4_4 hX4_4 => ?_
    refine Aw_yes rfl ?_
    refine Aw_skip (hB4_4 _ ?_)
    refine Aw_sq fun B6_4 hB6_4 hR6_4 hX6_4 => ?_
    refine Aw_bk fun B7_4 hN7_4 hE7_4 hR7_4 hX7_4 => ?_
    have hg_4 : (grows [g1, g2, g3, g4, g5])[4]? = some g5.row := rfl
    have hln_4 := hlg g5 (by simp)
    refine Aw_st hE [3, 4, 6, 20, 21, 22] [1, 2, 3, 4, 5, 6, 15, 30, 400, 401, 402, 403, 404, 405, 406, 407, 408, 409, 410, 411, 412, 413, 414, 415, 416, 417, 418, 419, 420, 421, 422, 423, 424, 425, 426, 427, 428, 429, 430, 431, 432, 433, 434, 435, 436, 437, 438, 439, 600, 601, 602, 603, 604, 605, 606] fun K hK => ?_
    simp only [go_sem, reduceIte, Nat.reduceLT, Nat.reduceLeDiff, Nat.reduceEqDiff, Nat.reduceAdd, Nat.reduceMul, Nat.reduceSub, Nat.reduceBEq, Int.reduceToNat, List.reduceReplicate, reduceCtorEq, hg_4, Int.reduceAdd]
    repeat (refine And.intro (by first | omega | (and_intros <;> first | omega | exact rows_row _ | decide | (simp; done) | (simp; omega)) | fail) ?_)
    refine hK _ ?_; clear hK K
    refine Aw_st hE [3, 4, 20, 21, 22] [1, 2, 3, 4, 5, 6, 15, 30, 400, 401, 402, 403, 404, 405, 406, 407, 408, 409, 410, 411, 412, 413, 414, 415, 416, 417, 418, 419, 420, 421, 422, 423, 424, 425, 426, 427, 428, 429, 430, 431, 432, 433, 434, 435, 436, 437, 438, 439, 600, 601, 602, 603, 604, 605, 606] fun K hK => ?_
    simp only [go_sem, reduceIte, Nat.reduceLT, Nat.reduceLeDiff, Nat.reduceEqDiff, Nat.reduceAdd, Nat.reduceMul, Nat.reduceSub, Nat.reduceBEq, Int.reduceToNat, List.reduceReplicate, reduceCtorEq]
    refine ⟨⟨by omega, by omega⟩, ?_⟩
    refine hK _ ?_; clear hK K
    refine Aw_tx hE [3, 4, 20, 21, 22] [1, 2, 3, 4, 5, 6, 15, 30, 400, 401, 402, 403, 404, 405, 406, 407, 408, 409, 410, 411, 412, 413, 414, 415, 416, 417, 418, 419, 420, 421, 422, 423, 424, 425, 426, 427, 428, 429, 430, 431, 432, 433, 434, 435, 436, 437, 438, 439, 600, 601, 602, 603, 604, 605, 606] fun K hK => ?_
    simp only [go_sem, reduceIte, Nat.reduceLT, Nat.reduceLeDiff, Nat.reduceEqDiff, Nat.reduceAdd, Nat.reduceMul, Nat.reduceSub, Nat.reduceBEq, Int.reduceToNat, List.reduceReplicate, reduceCtorEq]
    refine hK _ (hN7_4 _ (hB6_4 _ ?_))
    refine Aw.leE (Le_E (Le_swb _ 30 605 (by decide) (by decide))) ?_
    simp only [St.swb, swbσ, swbm, AV.swb, AV.swbAll, swp, Nat.reduceEqDiff, if_true, if_false, reduceIte, gcs, List.cons_append, List.nil_append]
    refine Aw_tx hE [3, 4, 20, 21, 22] [1, 2, 3, 4, 5, 6, 15, 30, 400, 401, 402, 403, 404, 405, 406, 407, 408, 409, 410, 411, 412, 413, 414, 415, 416, 417, 418, 419, 420, 421, 422, 423, 424, 425, 426, 427, 428, 429, 430, 431, 432, 433, 434, 435, 436, 437, 438, 439, 600, 601, 602, 603, 604, 605, 606] fun K hK => ?_
    simp only [go_sem, reduceIte, Nat.reduceLT, Nat.reduceLeDiff, Nat.reduceEqDiff, Nat.reduceAdd, Nat.reduceMul, Nat.reduceSub, Nat.reduceBEq, Int.reduceToNat, List.reduceReplicate, reduceCtorEq, Int.reduceAdd]
    repeat (refine And.intro (by first | omega | (and_intros <;> first | omega | exact rows_row _ | decide | (simp; done) | (simp; omega)) | fail) ?_)
    refine hK _ (hN3_4 _ ?_)
    refine Aw_rd fun B3_5 hN3_5 hR3_5 hX3_5 => ?_
    refine Aw_st hE [3, 4, 20, 21, 22, 23] [1, 2, 3, 4, 5, 6, 15, 30, 400, 401, 402, 403, 404, 405, 406, 407, 408, 409, 410, 411, 412, 413, 414, 415, 416, 417, 418, 419, 420, 421, 422, 423, 424, 425, 426, 427, 428, 429, 430, 431, 432, 433, 434, 435, 436, 437, 438, 439, 600, 601, 602, 603, 604, 605, 606] fun K hK => ?_
    simp only [go_sem, reduceIte, Nat.reduceLT, Nat.reduceLeDiff, Nat.reduceEqDiff, Nat.reduceAdd, Nat.reduceMul, Nat.reduceSub, Nat.reduceBEq, Int.reduceToNat, List.reduceReplicate, reduceCtorEq]
    refine hK _ ?_; clear hK K
    refine Aw_sq fun B4_5 hB4_5 hR4_5 hX4_5 => ?_
    refine Aw_no rfl ?_
    refine Aw_exit (hX4_5 _ _ (hX3_5 _ _ (hE2 _ (hB1 _ ?_))))
    refine Aw_st hE [2] [1, 2, 3, 4, 5, 6, 15, 30, 400, 401, 402, 403, 404, 405, 406, 407, 408, 409, 410, 411, 412, 413, 414, 415, 416, 417, 418, 419, 420, 421, 422, 423, 424, 425, 426, 427, 428, 429, 430, 431, 432, 433, 434, 435, 436, 437, 438, 439, 600, 601, 602, 603, 604, 605, 606] fun K hK => ?_
    simp only [go_sem, reduceIte, Nat.reduceLT, Nat.reduceLeDiff, Nat.reduceEqDiff, Nat.reduceAdd, Nat.reduceMul, Nat.reduceSub, Nat.reduceBEq, Int.reduceToNat, List.reduceReplicate, reduceCtorEq]
    refine hK _ ?_
    refine Aw.leE (Le_E (Le_ks [2] [600, 601, 602, 603, 604, 605])) ?_
    refine Aw_ret (hQ _ ?_)
    simp only [go_sem, reduceIte, Nat.reduceLT, Nat.reduceLeDiff, Nat.reduceEqDiff, Nat.reduceAdd, Nat.reduceMul, Nat.reduceSub, Nat.reduceBEq, Int.reduceToNat, List.reduceReplicate, reduceCtorEq]
    exact hpost _ rfl
  · refine Aw_st hE [3, 4, 20, 21, 22] [1, 2, 3, 4, 5, 6, 15, 30, 400, 401, 402, 403, 404, 405, 406, 407, 408, 409, 410, 411, 412, 413, 414, 415, 416, 417, 418, 419, 420, 421, 422, 423, 424, 425, 426, 427, 428, 429, 430, 431, 432, 433, 434, 435, 436, 437, 438, 439, 600, 601, 602, 603, 604, 605, 606] fun K hK => ?_
    simp only [go_sem, reduceIte, Nat.reduceLT, Nat.reduceLeDiff, Nat.reduceEqDiff, Nat.reduceAdd, Nat.reduceMul, Nat.reduceSub, Nat.reduceBEq, Int.reduceToNat, List.reduceReplicate, reduceCtorEq]
    refine hK _ ?_; clear hK K
    refine Aw_bk fun B2 hN2 hE2 hR2 hX2 => ?_
    refine Aw_unr 7 ?_
    refine Aw_rd fun B3_0 hN3_0 hR3_0 hX3_0 => ?_
    refine Aw_st hE [3, 4, 20, 21, 22, 23] [1, 2, 3, 4, 5, 6, 15, 30, 400, 401, 402, 403, 404, 405, 406, 407, 408, 409, 410, 411, 412, 413, 414, 415, 416, 417, 418, 419, 420, 421, 422, 423, 424, 425, 426, 427, 428, 429, 430, 431, 432, 433, 434, 435, 436, 437, 438, 439, 600, 601, 602, 603, 604, 605, 606] fun K hK => ?_
    simp only [go_sem, reduceIte, Nat.reduceLT, Nat.reduceLeDiff, Nat.reduceEqDiff, Nat.reduceAdd, Nat.reduceMul, Nat.reduceSub, Nat.reduceBEq, Int.reduceToNat, List.reduceReplicate, reduceCtorEq]
    refine hK _ ?_; clear hK K
    refine Aw_sq fun B4_0 hB4_0 hR4_0 hX4_0 => ?_
    refine Aw_yes rfl ?_
    refine Aw_skip (hB4_0 _ ?_)
    refine Aw_sq fun B6_0 hB6_0 hR6_0 hX6_0 => ?_
    refine Aw_bk fun B7_0 hN7_0 hE7_0 hR7_0 hX7_0 => ?_
    have hg_0 : (grows [g1, g2, g3, g4, g5, g6])[0]? = some g1.row := rfl
    have hln_0 := hlg g1 (by simp)
    refine Aw_st hE [3, 4, 6, 20, 21, 22] [1, 2, 3, 4, 5, 6, 15, 30, 400, 401, 402, 403, 404, 405, 406, 407, 408, 409, 410, 411, 412, 413, 414, 415, 416, 417, 418, 419, 420, 421, 422, 423, 424, 425, 426, 427, 428, 429, 430, 431, 432, 433, 434, 435, 436, 437, 438, 439, 600, 601, 602, 603, 604, 605, 606] fun K hK => ?_
    simp only [go_sem, reduceIte, Nat.reduceLT, Nat.reduceLeDiff, Nat.reduceEqDiff, Nat.reduceAdd, Nat.reduceMul, Nat.reduceSub, Nat.reduceBEq, Int.reduceToNat, List.reduceReplicate, reduceCtorEq, hg_0, Int.reduceAdd]
    repeat (refine And.intro (by first | omega | (and_intros <;> first | omega | exact rows_row _ | decide | (simp; done) | (simp; omega)) | fail) ?_)
    refine hK _ ?_; clear hK K
    refine Aw_st hE [3, 4, 20, 21, 22] [1, 2, 3, 4, 5, 6, 15, 30, 400, 401, 402, 403, 404, 405, 406, 407, 408, 409, 410, 411, 412, 413, 414, 415, 416, 417, 418, 419, 420, 421, 422, 423, 424, 425, 426, 427, 428, 429, 430, 431, 432, 433, 434, 435, 436, 437, 438, 439, 600, 601, 602, 603, 604, 605, 606] fun K hK => ?_
    simp only [go_sem, reduceIte, Nat.reduceLT, Nat.reduceLeDiff, Nat.reduceEqDiff, Nat.reduceAdd, Nat.reduceMul, Nat.reduceSub, Nat.reduceBEq, Int.reduceToNat, List.reduceReplicate, reduceCtorEq]
    refine ⟨⟨by omega, by omega⟩, ?_⟩
    refine hK _ ?_; clear hK K
    refine Aw_tx hE [3, 4, 20, 21, 22] [1, 2, 3, 4, 5, 6, 15, 30, 400, 401, 402, 403, 404, 405, 406, 407, 408, 409, 410, 411, 412, 413, 414, 415, 416, 417, 418, 419, 420, 421, 422, 423, 424, 425, 426, 427, 428, 429, 430, 431, 432, 433, 434, 435, 436, 437, 438, 439, 600, 601, 602, 603, 604, 605, 606] fun K hK => ?_
    simp only [go_sem, reduceIte, Nat.reduceLT, Nat.reduceLeDiff, Nat.reduceEqDiff, Nat.reduceAdd, Nat.reduceMul, Nat.reduceSub, Nat.reduceBEq, Int.reduceToNat, List.reduceReplicate, reduceCtorEq]
    refine hK _ (hN7_0 _ (hB6_0 _ ?_))
    refine Aw.leE (Le_E (Le_swb _ 30 601 (by decide) (by decide))) ?_
    simp only [St.swb, swbσ, swbm, AV.swb, AV.swbAll, swp, Nat.reduceEqDiff, if_true, if_false, reduceIte, gcs, List.cons_append, List.nil_append]
    refine Aw_tx hE [3, 4, 20, 21, 22] [1, 2, 3, 4, 5, 6, 15, 30, 400, 401, 402, 403, 404, 405, 406, 407, 408, 409, 410, 411, 412, 413, 414, 415, 416, 417, 418, 419, 420, 421, 422, 423, 424, 425, 426, 427, 428, 429, 430, 431, 432, 433, 434, 435, 436, 437, 438, 439, 600, 601, 602, 603, 604, 605, 606] fun K hK => ?_
    simp only [go_sem, reduceIte, Nat.reduceLT, Nat.reduceLeDiff, Nat.reduceEqDiff, Nat.reduceAdd, Nat.reduceMul, Nat.reduceSub, Nat.reduceBEq, Int.reduceToNat, List.reduceReplicate, reduceCtorEq, Int.reduceAdd]
    repeat (refine And.intro (by first | omega | (and_intros <;> first | omega | exact rows_row _ | decide | (simp; done) | (simp; omega)) | fail) ?_)
    refine hK _ (hN3_0 _ ?_)
    refine Aw_rd fun B3_1 hN3_1 hR3_1 hX3_1 => ?_
    refine Aw_st hE [3, 4, 20, 21, 22, 23] [1, 2, 3, 4, 5, 6, 15, 30, 400, 401, 402, 403, 404, 405, 406, 407, 408, 409, 410, 411, 412, 413, 414, 415, 416, 417, 418, 419, 420, 421, 422, 423, 424, 425, 426, 427, 428, 429, 430, 431, 432, 433, 434, 435, 436, 437, 438, 439, 600, 601, 602, 603, 604, 605, 606] fun K hK => ?_
    simp only [go_sem, reduceIte, Nat.reduceLT, Nat.reduceLeDiff, Nat.reduceEqDiff, Nat.reduceAdd, Nat.reduceMul, Nat.reduceSub, Nat.reduceBEq, Int.reduceToNat, List.reduceReplicate, reduceCtorEq]
    refine hK _ ?_; clear hK K
    refine Aw_sq fun B4_1 hB4_1 hR4_1 hX4_1 => ?_
    refine Aw_yes rfl ?_
    refine Aw_skip (hB4_1 _ ?_)
    refine Aw_sq fun B6_1 hB6_1 hR6_1 hX6_1 => ?_
    refine Aw_bk fun B7_1 hN7_1 hE7_1 hR7_1 hX7_1 => ?_
    have hg_1 : (grows [g1, g2, g3, g4, g5, g6])[1]? = some g2.row := rfl
    have hln_1 := hlg g2 (by simp)
    refine Aw_st hE [3, 4, 6, 20, 21, 22] [1, 2, 3, 4, 5, 6, 15, 30, 400, 401, 402, 403, 404, 405, 406, 407, 408, 409, 410, 411, 412, 413, 414, 415, 416, 417, 418, 419, 420, 421, 422, 423, 424, 425, 426, 427, 428, 429, 430, 431, 432, 433, 434, 435, 436, 437, 438, 439, 600, 601, 602, 603, 604, 605, 606] fun K hK => ?_
    simp only [go_sem, reduceIte, Nat.reduceLT, Nat.reduceLeDiff, Nat.reduceEqDiff, Nat.reduceAdd, Nat.reduceMul, Nat.reduceSub, Nat.reduceBEq, Int.reduceToNat, List.reduceReplicate, reduceCtorEq, hg_1, Int.reduceAdd]
    repeat (refine And.intro (by first | omega | (and_intros <;> first | omega | exact rows_row _ | decide | (simp; done) | (simp; omega)) | fail) ?_)
    refine hK _ ?_; clear hK K
    refine Aw_st hE [3, 4, 20, 21, 22] [1, 2, 3, 4, 5, 6, 15, 30, 400, 401, 402, 403, 404, 405, 406, 407, 408, 409, 410, 411, 412, 413, 414, 415, 416, 417, 418, 419, 420, 421, 422, 423, 424, 425, 426, 427, 428, 429, 430, 431, 432, 433, 434, 435, 436, 437, 438, 439, 600, 601, 602, 603, 604, 605, 606] fun K hK => ?_
    simp only [go_sem, reduceIte, Nat.reduceLT, Nat.reduceLeDiff, Nat.reduceEqDiff, Nat.reduceAdd, Nat.reduceMul, Nat.reduceSub, Nat.reduceBEq, Int.reduceToNat, List.reduceReplicate, reduceCtorEq]
    refine ⟨⟨by omega, by omega⟩, ?_⟩
    refine hK _ ?_; clear hK K
    refine Aw_tx hE [3, 4, 20, 21, 22] [1, 2, 3, 4, 5, 6, 15, 30, 400, 401, 402, 403, 404, 405, 406, 407, 408, 409, 410, 411, 412, 413, 414, 415, 416, 417, 418, 419, 420, 421, 422, 423, 424, 425, 426, 427, 428, 429, 430, 431, 432, 433, 434, 435, 436, 437, 438, 439, 600, 601, 602, 603, 604, 605, 606] fun K hK => ?_
    simp only [go_sem, reduceIte, Nat.reduceLT, Nat.reduceLeDiff, Nat.reduceEqDiff, Nat.reduceAdd, Nat.reduceMul, Nat.reduceSub, Nat.reduceBEq, Int.reduceToNat, List.reduceReplicate, reduceCtorEq]
    refine hK _ (hN7_1 _ (hB6_1 _ ?_))
    refine Aw.leE (Le_E (Le_swb _ 30 602 (by decide) (by decide))) ?_
    simp only [St.swb, swbσ, swbm, AV.swb, AV.swbAll, swp, Nat.reduceEqDiff, if_true, if_false, reduceIte, gcs, List.cons_append, List.nil_append]
    refine Aw_tx hE [3, 4, 20, 21, 22] [1, 2, 3, 4, 5, 6, 15, 30, 400, 401, 402, 403, 404, 405, 406, 407, 408, 409, 410, 411, 412, 413, 414, 415, 416, 417, 418, 419, 420, 421, 422, 423, 424, 425, 426, 427, 428, 429, 430, 431, 432, 433, 434, 435, 436, 437, 438, 439, 600, 601, 602, 603, 604, 605, 606] fun K hK => ?_
    simp only [go_sem, reduceIte, Nat.reduceLT, Nat.reduceLeDiff, Nat.reduceEqDiff, Nat.reduceAdd, Nat.reduceMul, Nat.reduceSub, Nat.reduceBEq, Int.reduceToNat, List.reduceReplicate, reduceCtorEq, Int.reduceAdd]
    repeat (refine And.intro (by first | omega | (and_intros <;> first | omega | exact rows_row _ | decide | (simp; done) | (simp; omega)) | fail) ?_)
    refine hK _ (hN3_1 _ ?_)
    refine Aw_rd fun B3_2 hN3_2 hR3_2 hX3_2 => ?_
    refine Aw_st hE [3, 4, 20, 21, 22, 23] [1, 2, 3, 4, 5, 6, 15, 30, 400, 401, 402, 403, 404, 405, 406, 407, 408, 409, 410, 411, 412, 413, 414, 415, 416, 417, 418, 419, 420, 421, 422, 423, 424, 425, 426, 427, 428, 429, 430, 431, 432, 433, 434, 435, 436, 437, 438, 439, 600, 601, 602, 603, 604, 605, 606] fun K hK => ?_
    simp only [go_sem, reduceIte, Nat.reduceLT, Nat.reduceLeDiff, Nat.reduceEqDiff, Nat.reduceAdd, Nat.reduceMul, Nat.reduceSub, Nat.reduceBEq, Int.reduceToNat, List.reduceReplicate, reduceCtorEq]
    refine hK _ ?_; clear hK K
    refine Aw_sq fun B4_2 hB4_2 hR4_2 hX4_2 => ?_
    refine Aw_yes rfl ?_
    refine Aw_skip (hB4_2 _ ?_)
    refine Aw_sq fun B6_2 hB6_2 hR6_2 hX6_2 => ?_
    refine Aw_bk fun B7_2 hN7_2 hE7_2 hR7_2 hX7_2 => ?_
    have hg_2 : (grows [g1, g2, g3, g4, g5, g6])[2]? = some g3.row := rfl
    have hln_2 := hlg g3 (by simp)
    refine Aw_st hE [3, 4, 6, 20, 21, 22] [1, 2, 3, 4, 5, 6, 15, 30, 400, 401, 402, 403, 404, 405, 406, 407, 408, 409, 410, 411, 412, 413, 414, 415, 416, 417, 418, 419, 420, 421, 422, 423, 424, 425, 426, 427, 428, 429, 430, 431, 432, 433, 434, 435, 436, 437, 438, 439, 600, 601, 602, 603, 604, 605, 606] fun K hK => ?_
    simp only [go_sem, reduceIte, Nat.reduceLT, Nat.reduceLeDiff, Nat.reduceEqDiff, Nat.reduceAdd, Nat.reduceMul, Nat.reduceSub, Nat.reduceBEq, Int.reduceToNat, List.reduceReplicate, reduceCtorEq, hg_2, Int.reduceAdd]
    repeat (refine And.intro (by first | omega | (and_intros <;> first | omega | exact rows_row _ | decide | (simp; done) | (simp; omega)) | fail) ?_)
    refine hK _ ?_; clear hK K
    refine Aw_st hE [3, 4, 20, 21, 22] [1, 2, 3, 4, 5, 6, 15, 30, 400, 401, 402, 403, 404, 405, 406, 407, 408, 409, 410, 411, 412, 413, 414, 415, 416, 417, 418, 419, 420, 421, 422, 423, 424, 425, 426, 427, 428, 429, 430, 431, 432, 433, 434, 435, 436, 437, 438, 439, 600, 601, 602, 603, 604, 605, 606] fun K hK => ?_
    simp only [go_sem, reduceIte, Nat.reduceLT, Nat.reduceLeDiff, Nat.reduceEqDiff, Nat.reduceAdd, Nat.reduceMul, Nat.reduceSub, Nat.reduceBEq, Int.reduceToNat, List.reduceReplicate, reduceCtorEq]
    refine ⟨⟨by omega, by omega⟩, ?_⟩
    refine hK _ ?_; clear hK K
    refine Aw_tx hE [3, 4, 20, 21, 22] [1, 2, 3, 4, 5, 6, 15, 30, 400, 401, 402, 403, 404, 405, 406, 407, 408, 409, 410, 411, 412, 413, 414, 415, 416, 417, 418, 419, 420, 421, 422, 423, 424, 425, 426, 427, 428, 429, 430, 431, 432, 433, 434, 435, 436, 437, 438, 439, 600, 601, 602, 603, 604, 605, 606] fun K hK => ?_
    simp only [go_sem, reduceIte, Nat.reduceLT, Nat.reduceLeDiff, Nat.reduceEqDiff, Nat.reduceAdd, Nat.reduceMul, Nat.reduceSub, Nat.reduceBEq, Int.reduceToNat, List.reduceReplicate, reduceCtorEq]
    refine hK _ (hN7_2 _ (hB6_2 _ ?_))
    refine Aw.leE (Le_E (Le_swb _ 30 603 (by decide) (by decide))) ?_
    simp only [St.swb, swbσ, swbm, AV.swb, AV.swbAll, swp, Nat.reduceEqDiff, if_true, if_false, reduceIte, gcs, List.cons_append, List.nil_append]
    refine Aw_tx hE [3, 4, 20, 21, 22] [1, 2, 3, 4, 5, 6, 15, 30, 400, 401, 402, 403, 404, 405, 406, 407, 408, 409, 410, 411, 412, 413, 414, 415, 416, 417, 418, 419, 420, 421, 422, 423, 424, 425, 426, 427, 428, 429, 430, 431, 432, 433, 434, 435, 436, 437, 438, 439, 600, 601, 602, 603, 604, 605, 606] fun K hK => ?_
    simp only [go_sem, reduceIte, Nat.reduceLT, Nat.reduceLeDiff, Nat.reduceEqDiff, Nat.reduceAdd, Nat.reduceMul, Nat.reduceSub, Nat.reduceBEq, Int.reduceToNat, List.reduceReplicate, reduceCtorEq, Int.reduceAdd]
    repeat (refine And.intro (by first | omega | (and_intros <;> first | omega | exact rows_row _ | decide | (simp; done) | (simp; omega)) | fail) ?_)
    refine hK _ (hN3_2 _ ?_)
    refine Aw_rd fun B3_3 hN3_3 hR3_3 hX3_3 => ?_
    refine Aw_st hE [3, 4, 20, 21, 22, 23] [1, 2, 3, 4, 5, 6, 15, 30, 400, 401, 402, 403, 404, 405, 406, 407, 408, 409, 410, 411, 412, 413, 414, 415, 416, 417, 418, 419, 420, 421, 422, 423, 424, 425, 426, 427, 428, 429, 430, 431, 432, 433, 434, 435, 436, 437, 438, 439, 600, 601, 602, 603, 604, 605, 606] fun K hK => ?_
    simp only [go_sem, reduceIte, Nat.reduceLT, Nat.reduceLeDiff, Nat.reduceEqDiff, Nat.reduceAdd, Nat.reduceMul, Nat.reduceSub, Nat.reduceBEq, Int.reduceToNat, List.reduceReplicate, reduceCtorEq]
    refine hK _ ?_; clear hK K
    refine Aw_sq fun B4_3 hB4_3 hR4_3 hX4_3 => ?_
    refine Aw_yes rfl ?_
    refine Aw_skip (hB4_3 _ ?_)
    refine Aw_sq fun B6_3 hB6_3 hR6_3 hX6_3 => ?_
    refine Aw_bk fun B7_3 hN7_3 hE7_3 hR7_3 hX7_3 => ?_
    have hg_3 : (grows [g1, g2, g3, g4, g5, g6])[3]? = some g4.row := rfl
    have hln_3 := hlg g4 (by simp)
    refine Aw_st hE [3, 4, 6, 20, 21, 22] [1, 2, 3, 4, 5, 6, 15, 30, 400, 401, 402, 403, 404, 405, 406, 407, 408, 409, 410, 411, 412, 413, 414, 415, 416, 417, 418, 419, 420, 421, 422, 423, 424, 425, 426, 427, 428, 429, 430, 431, 432, 433, 434, 435, 436, 437, 438, 439, 600, 601, 602, 603, 604, 605, 606] fun K hK => ?_
    simp only [go_sem, reduceIte, Nat.reduceLT, Nat.reduceLeDiff, Nat.reduceEqDiff, Nat.reduceAdd, Nat.reduceMul, Nat.reduceSub, Nat.reduceBEq, Int.reduceToNat, List.reduceReplicate, reduceCtorEq, hg_3, Int.reduceAdd]
    repeat (refine And.intro (by first | omega | (and_intros <;> first | omega | exact rows_row _ | decide | (simp; done) | (simp; omega)) | fail) ?_)
    refine hK _ ?_; clear hK K
    refine Aw_st hE [3, 4, 20, 21, 22] [1, 2, 3, 4, 5, 6, 15, 30, 400, 401, 402, 403, 404, 405, 406, 407, 408, 409, 410, 411, 412, 413, 414, 415, 416, 417, 418, 419, 420, 421, 422, 423, 424, 425, 426, 427, 428, 429, 430, 431, 432, 433, 434, 435, 436, 437, 438, 439, 600, 601, 602, 603, 604, 605, 606] fun K hK => ?_
    simp only [go_sem, reduceIte, Nat.reduceLT, Nat.reduceLeDiff, Nat.reduceEqDiff, Nat.reduceAdd, Nat.reduceMul, Nat.reduceSub, Nat.reduceBEq, Int.reduceToNat, List.reduceReplicate, reduceCtorEq]
    refine ⟨⟨by omega, by omega⟩, ?_⟩
    refine hK _ ?_; clear hK K
    refine Aw_tx hE [3, 4, 20, 21, 22] [1, 2, 3, 4, 5, 6, 15, 30, 400, 401, 402, 403, 404, 405, 406, 407, 408, 409, 410, 411, 412, 413, 414, 415, 416, 417, 418, 419, 420, 421, 422, 423, 424, 425, 426, 427, 428, 429, 430, 431, 432, 433, 434, 435, 436, 437, 438, 439, 600, 601, 602, 603, 604, 605, 606] fun K hK => ?_
    simp only [go_sem, reduceIte, Nat.reduceLT, Nat.reduceLeDiff, Nat.reduceEqDiff, Nat.reduceAdd, Nat.reduceMul, Nat.reduceSub, Nat.reduceBEq, Int.reduceToNat, List.reduceReplicate, reduceCtorEq]
    refine hK _ (hN7_3 _ (hB6_3 _ ?_))
    refine Aw.leE (Le_E (Le_swb _ 30 604 (by decide) (by decide))) ?_
    simp only [St.swb, swbσ, swbm, AV.swb, AV.swbAll, swp, Nat.reduceEqDiff, if_true, if_false, reduceIte, gcs, List.cons_append, List.nil_append]
    refine Aw_tx hE [3, 4, 20, 21, 22] [1, 2, 3, 4, 5, 6, 15, 30, 400, 401, 402, 403, 404, 405, 406, 407, 408, 409, 410, 411, 412, 413, 414, 415, 416, 417, 418, 419, 420, 421, 422, 423, 424, 425, 426, 427, 428, 429, 430, 431, 432, 433, 434, 435, 436, 437, 438, 439, 600, 601, 602, 603, 604, 605, 606] fun K hK => ?_
    simp only [go_sem, reduceIte, Nat.reduceLT, Nat.reduceLeDiff, Nat.reduceEqDiff, Nat.reduceAdd, Nat.reduceMul, Nat.reduceSub, Nat.reduceBEq, Int.reduceToNat, List.reduceReplicate, reduceCtorEq, Int.reduceAdd]
    repeat (refine And.intro (by first | omega | (and_intros <;> first | omega | exact rows_row _ | decide | (simp; done) | (simp; omega)) | fail) ?_)
    refine hK _ (hN3_3 _ ?_)
    refine Aw_rd fun B3_4 hN3_4 hR3_4 hX3_4 => ?_
    refine Aw_st hE [3, 4, 20, 21, 22, 23] [1, 2, 3, 4, 5, 6, 15, 30, 400, 401, 402, 403, 404, 405, 406, 407, 408, 409, 410, 411, 412, 413, 414, 415, 416, 417, 418, 419, 420, 421, 422, 423, 424, 425, 426, 427, 428, 429, 430, 431, 432, 433, 434, 435, 436, 437, 438, 439, 600, 601, 602, 603, 604, 605, 606] fun K hK => ?_
    simp only [go_sem, reduceIte, Nat.reduceLT, Nat.reduceLeDiff, Nat.reduceEqDiff, Nat.reduceAdd, Nat.reduceMul, Nat.reduceSub, Nat.reduceBEq, Int.reduceToNat, List.reduceReplicate, reduceCtorEq]
    refine hK _ ?_; clear hK K
    refine Aw_sq fun B4_4 hB4_4 hR4_4 hX4_4 => ?_
    refine Aw_yes rfl ?_
    refine Aw_skip (hB4_4 _ ?_)
    refine Aw_sq fun B6_4 hB6_4 hR6_4 hX6_4 => ?_
    refine Aw_bk fun B7_4 hN7_4 hE7_4 hR7_4 hX7_4 => ?_
    have hg_4 : (grows [g1, g2, g3, g4, g5, g6])[4]? = some g5.row := rfl
    have hln_4 := hlg g5 (by simp)
    refine Aw_st hE [3, 4, 6, 20, 21, 22] [1, 2, 3, 4, 5, 6, 15, 30, 400, 401, 402, 403, 404, 405, 406, 407, 408, 409, 410, 411, 412, 413, 414, 415, 416, 417, 418, 419, 420, 421, 422, 423, 424, 425, 426, 427, 428, 429, 430, 431, 432, 433, 434, 435, 436, 437, 438, 439, 600, 601, 602, 603, 604, 605, 606] fun K hK => ?_
    simp only [go_sem, reduceIte, Nat.reduceLT, Nat.reduceLeDiff, Nat.reduceEqDiff, Nat.reduceAdd, Nat.reduceMul, Nat.reduceSub, Nat.reduceBEq, Int.reduceToNat, List.reduceReplicate, reduceCtorEq, hg_4, Int.reduceAdd]
    repeat (refine And.intro (by first | omega | (and_intros <;> first | omega | exact rows_row _ | decide | (simp; done) | (simp; omega)) | fail) ?_)
    refine hK _ ?_; clear hK K
    refine Aw_st hE [3, 4, 20, 21, 22] [1, 2, 3, 4, 5, 6, 15, 30, 400, 401, 402, 403, 404, 405, 406, 407, 408, 409, 410, 411, 412, 413, 414, 415, 416, 417, 418, 419, 420, 421, 422, 423, 424, 425, 426, 427, 428, 429, 430, 431, 432, 433, 434, 435, 436, 437, 438, 439, 600, 601, 602, 603, 604, 605, 606] fun K hK => ?_
    simp only [go_sem, reduceIte, Nat.reduceLT, Nat.reduceLeDiff, Nat.reduceEqDiff, Nat.reduceAdd, Nat.reduceMul, Nat.reduceSub, Nat.reduceBEq, Int.reduceToNat, List.reduceReplicate, reduceCtorEq]
    refine ⟨⟨by omega, by omega⟩, ?_⟩
    refine hK _ ?_; clear hK K
    refine Aw_tx hE [3, 4, 20, 21, 22] [1, 2, 3, 4, 5, 6, 15, 30, 400, 401, 402, 403, 404, 405, 406, 407, 408, 409, 410, 411, 412, 413, 414, 415, 416, 417, 418, 419, 420, 421, 422, 423, 424, 425, 426, 427, 428, 429, 430, 431, 432, 433, 434, 435, 436, 437, 438, 439, 600, 601, 602, 603, 604, 605, 606] fun K hK => ?_
    simp only [go_sem, reduceIte, Nat.reduceLT, Nat.reduceLeDiff, Nat.reduceEqDiff, Nat.reduceAdd, Nat.reduceMul, Nat.reduceSub, Nat.reduceBEq, Int.reduceToNat, List.reduceReplicate, reduceCtorEq]
    refine hK _ (hN7_4 _ (hB6_4 _ ?_))
    refine Aw.leE (Le_E (Le_swb _ 30 605 (by decide) (by decide))) ?_
    simp only [St.swb, swbσ, swbm, AV.swb, AV.swbAll, swp, Nat.reduceEqDiff, if_true, if_false, reduceIte, gcs, List.cons_append, List.nil_append]
    refine Aw_tx hE [3, 4, 20, 21, 22] [1, 2, 3, 4, 5, 6, 15, 30, 400, 401, 402, 403, 404, 405, 406, 407, 408, 409, 410, 411, 412, 413, 414, 415, 416, 417, 418, 419, 420, 421, 422, 423, 424, 425, 426, 427, 428, 429, 430, 431, 432, 433, 434, 435, 436, 437, 438, 439, 600, 601, 602, 603, 604, 605, 606] fun K hK => ?_
    simp only [go_sem, reduceIte, Nat.reduceLT, Nat.reduceLeDiff, Nat.reduceEqDiff, Nat.reduceAdd, Nat.reduceMul, Nat.reduceSub, Nat.reduceBEq, Int.reduceToNat, List.reduceReplicate, reduceCtorEq, Int.reduceAdd]
    repeat (refine And.intro (by first | omega | (and_intros <;> first | omega | exact rows_row _ | decide | (simp; done) | (simp; omega)) | fail) ?_)
    refine hK _ (hN3_4 _ ?_)
    refine Aw_rd fun B3_5 hN3_5 hR3_5 hX3_5 => ?_
    refine Aw_st hE [3, 4, 20, 21, 22, 23] [1, 2, 3, 4, 5, 6, 15, 30, 400, 401, 402, 403, 404, 405, 406, 407, 408, 409, 410, 411, 412, 413, 414, 415, 416, 417, 418, 419, 420, 421, 422, 423, 424, 425, 426, 427, 428, 429, 430, 431, 432, 433, 434, 435, 436, 437, 438, 439, 600, 601, 602, 603, 604, 605, 606] fun K hK => ?_
    simp only [go_sem, reduceIte, Nat.reduceLT, Nat.reduceLeDiff, Nat.reduceEqDiff, Nat.reduceAdd, Nat.reduceMul, Nat.reduceSub, Nat.reduceBEq, Int.reduceToNat, List.reduceReplicate, reduceCtorEq]
    refine hK _ ?_; clear hK K
    refine Aw_sq fun B4_5 hB4_5 hR4_5 hX4_5 => ?_
    refine Aw_yes rfl ?_
    refine Aw_skip (hB4_5 _ ?_)
    refine Aw_sq fun B6_5 hB6_5 hR6_5 hX6_5 => ?_
    refine Aw_bk fun B7_5 hN7_5 hE7_5 hR7_5 hX7_5 => ?_
    have hg_5 : (grows [g1, g2, g3, g4, g5, g6])[5]? = some g6.row := rfl
    have hln_5 := hlg g6 (by simp)
    refine Aw_st hE [3, 4, 6, 20, 21, 22] [1, 2, 3, 4, 5, 6, 15, 30, 400, 401, 402, 403, 404, 405, 406, 407, 408, 409, 410, 411, 412, 413, 414, 415, 416, 417, 418, 419, 420, 421, 422, 423, 424, 425, 426, 427, 428, 429, 430, 431, 432, 433, 434, 435, 436, 437, 438, 439, 600, 601, 602, 603, 604, 605, 606] fun K hK => ?_
    simp only [go_sem, reduceIte, Nat.reduceLT, Nat.reduceLeDiff, Nat.reduceEqDiff, Nat.reduceAdd, Nat.reduceMul, Nat.reduceSub, Nat.reduceBEq, Int.reduceToNat, List.reduceReplicate, reduceCtorEq, hg_5, Int.reduceAdd]
    repeat (refine And.intro (by first | omega | (and_intros <;> first | omega | exact rows_row _ | decide | (simp; done) | (simp; omega)) | fail) ?_)
    refine hK _ ?_; clear hK K
    refine Aw_st hE [3, 4, 20, 21, 22] [1, 2, 3, 4, 5, 6, 15, 30, 400, 401, 402, 403, 404, 405, 406, 407, 408, 409, 410, 411, 412, 413, 414, 415, 416, 417, 418, 419, 420, 421, 422, 423, 424, 425, 426, 427, 428, 429, 430, 431, 432, 433, 434, 435, 436, 437, 438, 439, 600, 601, 602, 603, 604, 605, 606] fun K hK => ?_
    simp only [go_sem, reduceIte, Nat.reduceLT, Nat.reduceLeDiff, Nat.reduceEqDiff, Nat.reduceAdd, Nat.reduceMul, Nat.reduceSub, Nat.reduceBEq, Int.reduceToNat, List.reduceReplicate, reduceCtorEq]
    refine ⟨⟨by omega, by omega⟩, ?_⟩
    refine hK _ ?_; clear hK K
    refine Aw_tx hE [3, 4, 20, 21, 22] [1, 2, 3, 4, 5, 6, 15, 30, 400, 401, 402, 403, 404, 405, 406, 407, 408, 409, 410, 411, 412, 413, 414, 415, 416, 417, 418, 419, 420, 421, 422, 423, 424, 425, 426, 427, 428, 429, 430, 431, 432, 433, 434, 435, 436, 437, 438, 439, 600, 601, 602, 603, 604, 605, 606] fun K hK => ?_
    simp only [go_sem, reduceIte, Nat.reduceLT, Nat.reduceLeDiff, Nat.reduceEqDiff, Nat.reduceAdd, Nat.reduceMul, Nat.reduceSub, Nat.reduceBEq, Int.reduceToNat, List.reduceReplicate, reduceCtorEq]
    refine hK _ (hN7_5 _ (hB6_5 _ ?_))
    refine Aw.leE (Le_E (Le_swb _ 30 606 (by decide) (by decide))) ?_
    simp only [St.swb, swbσ, swbm, AV.swb, AV.swbAll, swp, Nat.reduceEqDiff, if_true, if_false, reduceIte, gcs, List.cons_append, List.nil_append]
    refine Aw_tx hE [3, 4, 20, 21, 22] [1, 2, 3, 4, 5, 6, 15, 30, 400, 401, 402, 403, 404, 405, 406, 407, 408, 409, 410, 411, 412, 413, 414, 415, 416, 417, 418, 419, 420, 421, 422, 423, 424, 425, 426, 427, 428, 429, 430, 431, 432, 433, 434, 435, 436, 437, 438, 439, 600, 601, 602, 603, 604, 605, 606] fun K hK => ?_
    simp only [go_sem, reduceIte, Nat.reduceLT, Nat.reduceLeDiff, Nat.reduceEqDiff, Nat.reduceAdd, Nat.reduceMul, Nat.reduceSub, Nat.reduceBEq, Int.reduceToNat, List.reduceReplicate, reduceCtorEq, Int.reduceAdd]
    repeat (refine And.intro (by first | omega | (and_intros <;> first | omega | exact rows_row _ | decide | (simp; done) | (simp; omega)) | fail) ?_)
    refine hK _ (hN3_5 _ ?_)
    refine Aw_rd fun B3_6 hN3_6 hR3_6 hX3_6 => ?_
    refine Aw_st hE [3, 4, 20, 21, 22, 23] [1, 2, 3, 4, 5, 6, 15, 30, 400, 401, 402, 403, 404, 405, 406, 407, 408, 409, 410, 411, 412, 413, 414, 415, 416, 417, 418, 419, 420, 421, 422, 423, 424, 425, 426, 427, 428, 429, 430, 431, 432, 433, 434, 435, 436, 437, 438, 439, 600, 601, 602, 603, 604, 605, 606] fun K hK => ?_
    simp only [go_sem, reduceIte, Nat.reduceLT, Nat.reduceLeDiff, Nat.reduceEqDiff, Nat.reduceAdd, Nat.reduceMul, Nat.reduceSub, Nat.reduceBEq, Int.reduceToNat, List.reduceReplicate, reduceCtorEq]
    refine hK _ ?_; clear hK K
    refine Aw_sq fun B4_6 hB4_6 hR4_6 hX4_6 => ?_
    refine Aw_no rfl ?_
    refine Aw_exit (hX4_6 _ _ (hX3_6 _ _ (hE2 _ (hB1 _ ?_))))
    refine Aw_st hE [2] [1, 2, 3, 4, 5, 6, 15, 30, 400, 401, 402, 403, 404, 405, 406, 407, 408, 409, 410, 411, 412, 413, 414, 415, 416, 417, 418, 419, 420, 421, 422, 423, 424, 425, 426, 427, 428, 429, 430, 431, 432, 433, 434, 435, 436, 437, 438, 439, 600, 601, 602, 603, 604, 605, 606] fun K hK => ?_
    simp only [go_sem, reduceIte, Nat.reduceLT, Nat.reduceLeDiff, Nat.reduceEqDiff, Nat.reduceAdd, Nat.reduceMul, Nat.reduceSub, Nat.reduceBEq, Int.reduceToNat, List.reduceReplicate, reduceCtorEq]
    refine hK _ ?_
    refine Aw.leE (Le_E (Le_ks [2] [600, 601, 602, 603, 604, 605, 606])) ?_
    refine Aw_ret (hQ _ ?_)
    simp only [go_sem, reduceIte, Nat.reduceLT, Nat.reduceLeDiff, Nat.reduceEqDiff, Nat.reduceAdd, Nat.reduceMul, Nat.reduceSub, Nat.reduceBEq, Int.reduceToNat, List.reduceReplicate, reduceCtorEq]
    exact hpost _ rfl
end Go.Proofs.W
end
section
namespace Go.Proofs.W
open Go Go.Eng Go.RowKit
set_option linter.unusedSimpArgs false
set_option maxRecDepth 100000

theorem open_postL {h : Int} {up : Bool} {l : List Gt} {M : List (Nat × List AV)} (hM : sesB h up l = M) (m1 : List (Nat × List AV)) (K : AV → List (Nat × List AV) → Prop) : (∀ r m2, cOpen.post [.agg [iv h, bv up, .sl none (grows l)]] m1 r m2 → K r m2) = K (.loc 600 0) M := by
  rw [open_post, hM]
theorem ribL_p {h : Int} {up : Bool} (l : List Gt) {n : Int} (hl : l.length ≤ 1000) : cRibL.pre [sesA h up l n] := ⟨h, up, l, n, rfl, hl⟩
theorem ribL_q {h : Int} {up : Bool} (l : List Gt) {n : Int} {K : AV → Prop} (hk : K (.agg [iv h, bv up, .sl none (grows l)])) : ∀ r, cRibL.post [sesA h up l n] r → K r := fun r hr => by
  rw [hr h up l n rfl]; exact hk
def dRibDownI (pb : Addr) : DFn := { g := gRibDown, inv := WP pb }
attribute [go_sem] dRibDownI
theorem wp_mm (pb : Addr) : Inh (WP pb) (fun _ => True) false := fun _ _ _ _ _ => trivial
set_option maxHeartbeats 16000000 in
theorem iRibDown_ok (pb : Addr) : Fine Tryd.prog 16 (dRibDownI pb).con := by
  refine fine_detX [] gl_nil [] ms_nil [(40, (cOpen, [], [(600, 400), (601, 401), (602, 402), (603, 403), (604, 404), (605, 405), (606, 406)]))] (mm_cons open_ok (by decide) mm_nil (wp_mm pb)) [] [] ex_nil (T := TT) Tryd.func16 rfl Tryd.ntmps16 (by rw [Tryd.results16]) rfl rfl tt (gs_cons ribL_ok gs_nil) (ds_cons (iRibOk_ok pb) ds_nil (wp_inh pb)) ?_
  intro args c r h hc
  simp only [dRibDownI, gRibDown] at h
  split at h
  rotate_left
  · cases h
  split at h
  rotate_left
  · cases h
  rename_i h0 up t els g _ l hgo
  obtain rfl := gotsL_eq hgo
  obtain ⟨rfl, rfl⟩ := Prod.mk.inj (Option.some.inj h)
  refine ⟨by simp, fun k E hE Q hQ => ?_⟩
  refine Aw_st hE [1, 2, 4] [2, 4, 412, 413, 414, 415, 416, 417, 418] fun K hK => ?_
  simp only [go_sem, reduceIte, Nat.reduceLT, Nat.reduceLeDiff, Nat.reduceEqDiff, Nat.reduceAdd, Nat.reduceMul, Nat.reduceSub, Nat.reduceBEq, Int.reduceToNat, List.reduceReplicate, reduceCtorEq]
  refine hK _ ?_; clear hK K
  refine Aw_sq fun B1 hB1 hR1 hX1 => ?_
  refine Aw_st hE [1, 2, 4, 9] [2, 4, 412, 413, 414, 415, 416, 417, 418] fun K hK => ?_
  simp only [go_sem, reduceIte, Nat.reduceLT, Nat.reduceLeDiff, Nat.reduceEqDiff, Nat.reduceAdd, Nat.reduceMul, Nat.reduceSub, Nat.reduceBEq, Int.reduceToNat, List.reduceReplicate, reduceCtorEq]
  refine ⟨⟨by omega, hc.2⟩, ?_⟩
  refine hK _ (Aw_cond rfl (fun hc2 => ?_) (fun hc2 => ?_))
  · have hok : ribOk ⟨h0, up, l⟩ = false := by simpa using hc2
    refine Aw_st hE [4] [2, 4, 412, 413, 414, 415, 416, 417, 418] fun K hK => ?_
    simp only [go_sem, reduceIte, Nat.reduceLT, Nat.reduceLeDiff, Nat.reduceEqDiff, Nat.reduceAdd, Nat.reduceMul, Nat.reduceSub, Nat.reduceBEq, Int.reduceToNat, List.reduceReplicate, reduceCtorEq]
    refine hK _ (Aw_ret (hR1 _ (hQ _ ?_)))
    simp only [go_sem, reduceIte, Nat.reduceLT, Nat.reduceLeDiff, Nat.reduceEqDiff, Nat.reduceAdd, Nat.reduceMul, Nat.reduceSub, Nat.reduceBEq, Int.reduceToNat, List.reduceReplicate, reduceCtorEq]
    rw [hok]; rfl
  have hok : ribOk ⟨h0, up, l⟩ = true := by simpa using hc2
  rw [hok] at hQ
  simp only [if_true] at hQ
  have hl6 := (ribOk_iff.1 hok).2.1
  refine Aw_skip (hB1 _ ?_)
  rcases six hl6 with hl | ⟨g1, hl⟩ | ⟨g1, g2, hl⟩ | ⟨g1, g2, g3, hl⟩ | ⟨g1, g2, g3, g4, hl⟩ | ⟨g1, g2, g3, g4, g5, hl⟩ | ⟨g1, g2, g3, g4, g5, g6, hl⟩
  · have hses : sesB h0 up l = [(600, [iv h0, bv up, .v (.pointer none), iv ((0 : Nat) : Int)])] := by rw [hl]; rfl
    have hop := fun (m1 : List (Nat × List AV)) (K : AV → List (Nat × List AV) → Prop) => open_postL hses m1 K
    refine Aw_st hE [1, 4, 5] [2, 4, 412, 413, 414, 415, 416, 417, 418] fun K hK => ?_
    simp only [go_sem, reduceIte, Nat.reduceLT, Nat.reduceLeDiff, Nat.reduceEqDiff, Nat.reduceAdd, Nat.reduceMul, Nat.reduceSub, Nat.reduceBEq, Int.reduceToNat, List.reduceReplicate, reduceCtorEq, ↓hop]
    refine ⟨by decide, ⟨hl6, hc.2⟩, ?_⟩
    subst hl
    refine hK _ ?_; clear hK K
    refine Aw_st hE [1, 4, 5] [2, 4, 412, 413, 414, 415, 416, 417, 418] fun K hK => ?_
    simp only [go_sem, reduceIte, Nat.reduceLT, Nat.reduceLeDiff, Nat.reduceEqDiff, Nat.reduceAdd, Nat.reduceMul, Nat.reduceSub, Nat.reduceBEq, Int.reduceToNat, List.reduceReplicate, reduceCtorEq]
    refine hK _ ?_; clear hK K
    refine Aw_sq fun B3 hB3 hR3 hX3 => ?_
    refine Aw_st hE [4, 5, 17] [2, 4, 412, 413, 414, 415, 416, 417, 418] fun K hK => ?_
    simp only [go_sem, reduceIte, Nat.reduceLT, Nat.reduceLeDiff, Nat.reduceEqDiff, Nat.reduceAdd, Nat.reduceMul, Nat.reduceSub, Nat.reduceBEq, Int.reduceToNat, List.reduceReplicate, reduceCtorEq]
    refine hK _ (Aw_cond rfl (fun hc4 => ?_) (fun hc4 => ?_))
    · have hg : g = false := by simpa using hc4
      subst hg
      refine Aw_tx hE [4, 5] [2, 4, 412, 413, 414, 415, 416, 417, 418] fun K hK => ?_
      simp only [go_sem, reduceIte, Nat.reduceLT, Nat.reduceLeDiff, Nat.reduceEqDiff, Nat.reduceAdd, Nat.reduceMul, Nat.reduceSub, Nat.reduceBEq, Int.reduceToNat, List.reduceReplicate, reduceCtorEq]
      refine hK _ (hB3 _ ?_)
      refine Aw_sq fun B5 hB5 hR5 hX5 => ?_
      refine Aw_st hE [4, 5, 6] [2, 4, 412, 413, 414, 415, 416, 417, 418] fun K hK => ?_
      simp only [go_sem, reduceIte, Nat.reduceLT, Nat.reduceLeDiff, Nat.reduceEqDiff, Nat.reduceAdd, Nat.reduceMul, Nat.reduceSub, Nat.reduceBEq, Int.reduceToNat, List.reduceReplicate, reduceCtorEq]
      refine hK _ ?_; clear hK K
      refine Aw_bk fun B6 hN6 hE6 hR6 hX6 => ?_
      refine Aw_unr 1 (Aw_rd fun B7 hN7 hR7 hX7 => ?_)
      refine Aw_sq fun B8 hB8 hR8 hX8 => ?_
      refine Aw_stP hE [4, 5, 6, 26] [2, 4, 412, 413, 414, 415, 416, 417, 418] fun K hK => ?_
      simp only [go_sem, reduceIte, Nat.reduceLT, Nat.reduceLeDiff, Nat.reduceEqDiff, Nat.reduceAdd, Nat.reduceMul, Nat.reduceSub, Nat.reduceBEq, Int.reduceToNat, List.reduceReplicate, reduceCtorEq]
      refine hK _ (Aw_no rfl (Aw_exit (hX8 _ _ (hX7 _ _ (hE6 _ (hB5 _ ?_))))))
      refine Aw_frz hE rfl 412 4 rfl rfl ?_
      simp only [go_sem, reduceIte, Nat.reduceLT, Nat.reduceLeDiff, Nat.reduceEqDiff, Nat.reduceAdd, Nat.reduceMul, Nat.reduceSub, Nat.reduceBEq, Int.reduceToNat, List.reduceReplicate, reduceCtorEq]
      refine Aw_st hE [4] [2, 4, 412, 413, 414, 415, 416, 417, 418] fun K hK => ?_
      simp only [go_sem, reduceIte, Nat.reduceLT, Nat.reduceLeDiff, Nat.reduceEqDiff, Nat.reduceAdd, Nat.reduceMul, Nat.reduceSub, Nat.reduceBEq, Int.reduceToNat, List.reduceReplicate, reduceCtorEq]
      refine ⟨ribL_p [] (by simp), ribL_q [] ?_⟩
      simp only [go_sem, reduceIte, Nat.reduceLT, Nat.reduceLeDiff, Nat.reduceEqDiff, Nat.reduceAdd, Nat.reduceMul, Nat.reduceSub, Nat.reduceBEq, Int.reduceToNat, List.reduceReplicate, reduceCtorEq]
      refine hK _ (Aw_ret (hQ _ ?_))
      simp only [go_sem, reduceIte, Nat.reduceLT, Nat.reduceLeDiff, Nat.reduceEqDiff, Nat.reduceAdd, Nat.reduceMul, Nat.reduceSub, Nat.reduceBEq, Int.reduceToNat, List.reduceReplicate, reduceCtorEq]
      all_goals rfl
    · have hg : g = true := by simpa using hc4
      subst hg
      refine Aw_skip (hB3 _ ?_)
      refine Aw_sq fun B5 hB5 hR5 hX5 => ?_
      refine Aw_st hE [4, 5, 6] [2, 4, 412, 413, 414, 415, 416, 417, 418] fun K hK => ?_
      simp only [go_sem, reduceIte, Nat.reduceLT, Nat.reduceLeDiff, Nat.reduceEqDiff, Nat.reduceAdd, Nat.reduceMul, Nat.reduceSub, Nat.reduceBEq, Int.reduceToNat, List.reduceReplicate, reduceCtorEq]
      refine hK _ ?_; clear hK K
      refine Aw_bk fun B6 hN6 hE6 hR6 hX6 => ?_
      refine Aw_unr 1 ?_
      refine Aw_rd fun B7_0 hN7_0 hR7_0 hX7_0 => ?_
      refine Aw_sq fun B8_0 hB8_0 hR8_0 hX8_0 => ?_
      refine Aw_stP hE [4, 5, 6, 26] [2, 4, 412, 413, 414, 415, 416, 417, 418] fun K hK => ?_
      simp only [go_sem, reduceIte, Nat.reduceLT, Nat.reduceLeDiff, Nat.reduceEqDiff, Nat.reduceAdd, Nat.reduceMul, Nat.reduceSub, Nat.reduceBEq, Int.reduceToNat, List.reduceReplicate, reduceCtorEq]
      refine hK _ (Aw_no rfl (Aw_exit (hX8_0 _ _ (hX7_0 _ _ (hE6 _ (hB5 _ ?_))))))
      refine Aw_frz hE rfl 412 4 rfl rfl ?_
      simp only [go_sem, reduceIte, Nat.reduceLT, Nat.reduceLeDiff, Nat.reduceEqDiff, Nat.reduceAdd, Nat.reduceMul, Nat.reduceSub, Nat.reduceBEq, Int.reduceToNat, List.reduceReplicate, reduceCtorEq]
      refine Aw_st hE [4] [2, 4, 412, 413, 414, 415, 416, 417, 418] fun K hK => ?_
      simp only [go_sem, reduceIte, Nat.reduceLT, Nat.reduceLeDiff, Nat.reduceEqDiff, Nat.reduceAdd, Nat.reduceMul, Nat.reduceSub, Nat.reduceBEq, Int.reduceToNat, List.reduceReplicate, reduceCtorEq]
      refine ⟨ribL_p [] (by simp), ribL_q [] ?_⟩
      simp only [go_sem, reduceIte, Nat.reduceLT, Nat.reduceLeDiff, Nat.reduceEqDiff, Nat.reduceAdd, Nat.reduceMul, Nat.reduceSub, Nat.reduceBEq, Int.reduceToNat, List.reduceReplicate, reduceCtorEq]
      refine hK _ (Aw_ret (hQ _ ?_))
      simp only [go_sem, reduceIte, Nat.reduceLT, Nat.reduceLeDiff, Nat.reduceEqDiff, Nat.reduceAdd, Nat.reduceMul, Nat.reduceSub, Nat.reduceBEq, Int.reduceToNat, List.reduceReplicate, reduceCtorEq]
      all_goals rfl
  · have hses : sesB h0 up l = [(600, [iv h0, bv up, .loc 601 0, iv ((1 : Nat) : Int)]), (601, gcs g1 ++ [.v (.pointer none)])] := by rw [hl]; rfl
    have hop := fun (m1 : List (Nat × List AV)) (K : AV → List (Nat × List AV) → Prop) => open_postL hses m1 K
    refine Aw_st hE [1, 4, 5] [2, 4, 412, 413, 414, 415, 416, 417, 418] fun K hK => ?_
    simp only [go_sem, reduceIte, Nat.reduceLT, Nat.reduceLeDiff, Nat.reduceEqDiff, Nat.reduceAdd, Nat.reduceMul, Nat.reduceSub, Nat.reduceBEq, Int.reduceToNat, List.reduceReplicate, reduceCtorEq, ↓hop]
    refine ⟨by decide, ⟨hl6, hc.2⟩, ?_⟩
    subst hl
    refine hK _ ?_; clear hK K
    refine Aw_st hE [1, 4, 5] [2, 4, 412, 413, 414, 415, 416, 417, 418] fun K hK => ?_
    simp only [go_sem, reduceIte, Nat.reduceLT, Nat.reduceLeDiff, Nat.reduceEqDiff, Nat.reduceAdd, Nat.reduceMul, Nat.reduceSub, Nat.reduceBEq, Int.reduceToNat, List.reduceReplicate, reduceCtorEq]
    refine hK _ ?_; clear hK K
    refine Aw_sq fun B3 hB3 hR3 hX3 => ?_
    refine Aw_st hE [4, 5, 17] [2, 4, 412, 413, 414, 415, 416, 417, 418] fun K hK => ?_
    simp only [go_sem, reduceIte, Nat.reduceLT, Nat.reduceLeDiff, Nat.reduceEqDiff, Nat.reduceAdd, Nat.reduceMul, Nat.reduceSub, Nat.reduceBEq, Int.reduceToNat, List.reduceReplicate, reduceCtorEq]
    refine hK _ (Aw_cond rfl (fun hc4 => ?_) (fun hc4 => ?_))
    · have hg : g = false := by simpa using hc4
      subst hg
      refine Aw_tx hE [4, 5] [2, 4, 412, 413, 414, 415, 416, 417, 418] fun K hK => ?_
      simp only [go_sem, reduceIte, Nat.reduceLT, Nat.reduceLeDiff, Nat.reduceEqDiff, Nat.reduceAdd, Nat.reduceMul, Nat.reduceSub, Nat.reduceBEq, Int.reduceToNat, List.reduceReplicate, reduceCtorEq]
      refine hK _ (hB3 _ ?_)
      refine Aw_sq fun B5 hB5 hR5 hX5 => ?_
      refine Aw_st hE [4, 5, 6] [2, 4, 412, 413, 414, 415, 416, 417, 418] fun K hK => ?_
      simp only [go_sem, reduceIte, Nat.reduceLT, Nat.reduceLeDiff, Nat.reduceEqDiff, Nat.reduceAdd, Nat.reduceMul, Nat.reduceSub, Nat.reduceBEq, Int.reduceToNat, List.reduceReplicate, reduceCtorEq]
      refine hK _ ?_; clear hK K
      refine Aw_bk fun B6 hN6 hE6 hR6 hX6 => ?_
      refine Aw_unr 1 (Aw_rd fun B7 hN7 hR7 hX7 => ?_)
      refine Aw_sq fun B8 hB8 hR8 hX8 => ?_
      refine Aw_stP hE [4, 5, 6, 26] [2, 4, 412, 413, 414, 415, 416, 417, 418] fun K hK => ?_
      simp only [go_sem, reduceIte, Nat.reduceLT, Nat.reduceLeDiff, Nat.reduceEqDiff, Nat.reduceAdd, Nat.reduceMul, Nat.reduceSub, Nat.reduceBEq, Int.reduceToNat, List.reduceReplicate, reduceCtorEq]
      refine hK _ (Aw_no rfl (Aw_exit (hX8 _ _ (hX7 _ _ (hE6 _ (hB5 _ ?_))))))
      refine Aw_frz hE rfl 412 4 rfl rfl ?_
      simp only [go_sem, reduceIte, Nat.reduceLT, Nat.reduceLeDiff, Nat.reduceEqDiff, Nat.reduceAdd, Nat.reduceMul, Nat.reduceSub, Nat.reduceBEq, Int.reduceToNat, List.reduceReplicate, reduceCtorEq]
      refine Aw_st hE [4] [2, 4, 412, 413, 414, 415, 416, 417, 418] fun K hK => ?_
      simp only [go_sem, reduceIte, Nat.reduceLT, Nat.reduceLeDiff, Nat.reduceEqDiff, Nat.reduceAdd, Nat.reduceMul, Nat.reduceSub, Nat.reduceBEq, Int.reduceToNat, List.reduceReplicate, reduceCtorEq]
      refine ⟨ribL_p [] (by simp), ribL_q [] ?_⟩
      simp only [go_sem, reduceIte, Nat.reduceLT, Nat.reduceLeDiff, Nat.reduceEqDiff, Nat.reduceAdd, Nat.reduceMul, Nat.reduceSub, Nat.reduceBEq, Int.reduceToNat, List.reduceReplicate, reduceCtorEq]
      refine hK _ (Aw_ret (hQ _ ?_))
      simp only [go_sem, reduceIte, Nat.reduceLT, Nat.reduceLeDiff, Nat.reduceEqDiff, Nat.reduceAdd, Nat.reduceMul, Nat.reduceSub, Nat.reduceBEq, Int.reduceToNat, List.reduceReplicate, reduceCtorEq]
      all_goals rfl
    · have hg : g = true := by simpa using hc4
      subst hg
      refine Aw_skip (hB3 _ ?_)
      refine Aw_sq fun B5 hB5 hR5 hX5 => ?_
      refine Aw_st hE [4, 5, 6] [2, 4, 412, 413, 414, 415, 416, 417, 418] fun K hK => ?_
      simp only [go_sem, reduceIte, Nat.reduceLT, Nat.reduceLeDiff, Nat.reduceEqDiff, Nat.reduceAdd, Nat.reduceMul, Nat.reduceSub, Nat.reduceBEq, Int.reduceToNat, List.reduceReplicate, reduceCtorEq]
      refine hK _ ?_; clear hK K
      refine Aw_bk fun B6 hN6 hE6 hR6 hX6 => ?_
      refine Aw_unr 2 ?_
      refine Aw_rd fun B7_0 hN7_0 hR7_0 hX7_0 => ?_
      refine Aw_sq fun B8_0 hB8_0 hR8_0 hX8_0 => ?_
      refine Aw_stP hE [4, 5, 6, 26] [2, 4, 412, 413, 414, 415, 416, 417, 418] fun K hK => ?_
      simp only [go_sem, reduceIte, Nat.reduceLT, Nat.reduceLeDiff, Nat.reduceEqDiff, Nat.reduceAdd, Nat.reduceMul, Nat.reduceSub, Nat.reduceBEq, Int.reduceToNat, List.reduceReplicate, reduceCtorEq]
      refine hK _ (Aw_yes rfl (Aw_skip (hB8_0 _ ?_)))
      refine Aw_sq fun B10_0 hB10_0 hR10_0 hX10_0 => ?_
      refine Aw_bk fun B11_0 hN11_0 hE11_0 hR11_0 hX11_0 => ?_
      refine Aw_tx hE [4, 5, 6] [2, 4, 412, 413, 414, 415, 416, 417, 418] fun K hK => ?_
      simp only [go_sem, reduceIte, Nat.reduceLT, Nat.reduceLeDiff, Nat.reduceEqDiff, Nat.reduceAdd, Nat.reduceMul, Nat.reduceSub, Nat.reduceBEq, Int.reduceToNat, List.reduceReplicate, reduceCtorEq]
      repeat (refine And.intro (by first | omega | (and_intros <;> first | omega | exact rows_row _ | decide | (simp; done) | (simp; omega)) | fail) ?_)
      refine hK _ (hN11_0 _ (hB10_0 _ ?_))
      refine Aw_tx hE [4, 5, 6] [2, 4, 412, 413, 414, 415, 416, 417, 418] fun K hK => ?_
      simp only [go_sem, reduceIte, Nat.reduceLT, Nat.reduceLeDiff, Nat.reduceEqDiff, Nat.reduceAdd, Nat.reduceMul, Nat.reduceSub, Nat.reduceBEq, Int.reduceToNat, List.reduceReplicate, reduceCtorEq]
      refine hK _ (hN7_0 _ ?_)
      refine Aw_rd fun B7_1 hN7_1 hR7_1 hX7_1 => ?_
      refine Aw_sq fun B8_1 hB8_1 hR8_1 hX8_1 => ?_
      refine Aw_stP hE [4, 5, 6, 26] [2, 4, 412, 413, 414, 415, 416, 417, 418] fun K hK => ?_
      simp only [go_sem, reduceIte, Nat.reduceLT, Nat.reduceLeDiff, Nat.reduceEqDiff, Nat.reduceAdd, Nat.reduceMul, Nat.reduceSub, Nat.reduceBEq, Int.reduceToNat, List.reduceReplicate, reduceCtorEq]
      refine hK _ (Aw_no rfl (Aw_exit (hX8_1 _ _ (hX7_1 _ _ (hE6 _ (hB5 _ ?_))))))
      refine Aw_frz hE rfl 413 7 rfl rfl ?_
      simp only [go_sem, reduceIte, Nat.reduceLT, Nat.reduceLeDiff, Nat.reduceEqDiff, Nat.reduceAdd, Nat.reduceMul, Nat.reduceSub, Nat.reduceBEq, Int.reduceToNat, List.reduceReplicate, reduceCtorEq]
      refine Aw_frz hE rfl 412 4 rfl rfl ?_
      simp only [go_sem, reduceIte, Nat.reduceLT, Nat.reduceLeDiff, Nat.reduceEqDiff, Nat.reduceAdd, Nat.reduceMul, Nat.reduceSub, Nat.reduceBEq, Int.reduceToNat, List.reduceReplicate, reduceCtorEq]
      refine Aw_st hE [4] [2, 4, 412, 413, 414, 415, 416, 417, 418] fun K hK => ?_
      simp only [go_sem, reduceIte, Nat.reduceLT, Nat.reduceLeDiff, Nat.reduceEqDiff, Nat.reduceAdd, Nat.reduceMul, Nat.reduceSub, Nat.reduceBEq, Int.reduceToNat, List.reduceReplicate, reduceCtorEq]
      refine ⟨ribL_p [oldG g1] (by simp), ribL_q [oldG g1] ?_⟩
      simp only [go_sem, reduceIte, Nat.reduceLT, Nat.reduceLeDiff, Nat.reduceEqDiff, Nat.reduceAdd, Nat.reduceMul, Nat.reduceSub, Nat.reduceBEq, Int.reduceToNat, List.reduceReplicate, reduceCtorEq]
      refine hK _ (Aw_ret (hQ _ ?_))
      simp only [go_sem, reduceIte, Nat.reduceLT, Nat.reduceLeDiff, Nat.reduceEqDiff, Nat.reduceAdd, Nat.reduceMul, Nat.reduceSub, Nat.reduceBEq, Int.reduceToNat, List.reduceReplicate, reduceCtorEq]
      all_goals rfl
  · have hses : sesB h0 up l = [(600, [iv h0, bv up, .loc 601 0, iv ((2 : Nat) : Int)]), (601, gcs g1 ++ [.loc 602 0]), (602, gcs g2 ++ [.v (.pointer none)])] := by rw [hl]; rfl
    have hop := fun (m1 : List (Nat × List AV)) (K : AV → List (Nat × List AV) → Prop) => open_postL hses m1 K
    refine Aw_st hE [1, 4, 5] [2, 4, 412, 413, 414, 415, 416, 417, 418] fun K hK => ?_
    simp only [go_sem, reduceIte, Nat.reduceLT, Nat.reduceLeDiff, Nat.reduceEqDiff, Nat.reduceAdd, Nat.reduceMul, Nat.reduceSub, Nat.reduceBEq, Int.reduceToNat, List.reduceReplicate, reduceCtorEq, ↓hop]
    refine ⟨by decide, ⟨hl6, hc.2⟩, ?_⟩
    subst hl
    refine hK _ ?_; clear hK K
    refine Aw_st hE [1, 4, 5] [2, 4, 412, 413, 414, 415, 416, 417, 418] fun K hK => ?_
    simp only [go_sem, reduceIte, Nat.reduceLT, Nat.reduceLeDiff, Nat.reduceEqDiff, Nat.reduceAdd, Nat.reduceMul, Nat.reduceSub, Nat.reduceBEq, Int.reduceToNat, List.reduceReplicate, reduceCtorEq]
    refine hK _ ?_; clear hK K
    refine Aw_sq fun B3 hB3 hR3 hX3 => ?_
    refine Aw_st hE [4, 5, 17] [2, 4, 412, 413, 414, 415, 416, 417, 418] fun K hK => ?_
    simp only [go_sem, reduceIte, Nat.reduceLT, Nat.reduceLeDiff, Nat.reduceEqDiff, Nat.reduceAdd, Nat.reduceMul, Nat.reduceSub, Nat.reduceBEq, Int.reduceToNat, List.reduceReplicate, reduceCtorEq]
    refine hK _ (Aw_cond rfl (fun hc4 => ?_) (fun hc4 => ?_))
    · have hg : g = false := by simpa using hc4
      subst hg
      refine Aw_tx hE [4, 5] [2, 4, 412, 413, 414, 415, 416, 417, 418] fun K hK => ?_
      simp only [go_sem, reduceIte, Nat.reduceLT, Nat.reduceLeDiff, Nat.reduceEqDiff, Nat.reduceAdd, Nat.reduceMul, Nat.reduceSub, Nat.reduceBEq, Int.reduceToNat, List.reduceReplicate, reduceCtorEq]
      refine hK _ (hB3 _ ?_)
      refine Aw_sq fun B5 hB5 hR5 hX5 => ?_
      refine Aw_st hE [4, 5, 6] [2, 4, 412, 413, 414, 415, 416, 417, 418] fun K hK => ?_
      simp only [go_sem, reduceIte, Nat.reduceLT, Nat.reduceLeDiff, Nat.reduceEqDiff, Nat.reduceAdd, Nat.reduceMul, Nat.reduceSub, Nat.reduceBEq, Int.reduceToNat, List.reduceReplicate, reduceCtorEq]
      refine hK _ ?_; clear hK K
      refine Aw_bk fun B6 hN6 hE6 hR6 hX6 => ?_
      refine Aw_unr 1 (Aw_rd fun B7 hN7 hR7 hX7 => ?_)
      refine Aw_sq fun B8 hB8 hR8 hX8 => ?_
      refine Aw_stP hE [4, 5, 6, 26] [2, 4, 412, 413, 414, 415, 416, 417, 418] fun K hK => ?_
      simp only [go_sem, reduceIte, Nat.reduceLT, Nat.reduceLeDiff, Nat.reduceEqDiff, Nat.reduceAdd, Nat.reduceMul, Nat.reduceSub, Nat.reduceBEq, Int.reduceToNat, List.reduceReplicate, reduceCtorEq]
      refine hK _ (Aw_no rfl (Aw_exit (hX8 _ _ (hX7 _ _ (hE6 _ (hB5 _ ?_))))))
      refine Aw_frz hE rfl 412 4 rfl rfl ?_
      simp only [go_sem, reduceIte, Nat.reduceLT, Nat.reduceLeDiff, Nat.reduceEqDiff, Nat.reduceAdd, Nat.reduceMul, Nat.reduceSub, Nat.reduceBEq, Int.reduceToNat, List.reduceReplicate, reduceCtorEq]
      refine Aw_st hE [4] [2, 4, 412, 413, 414, 415, 416, 417, 418] fun K hK => ?_
      simp only [go_sem, reduceIte, Nat.reduceLT, Nat.reduceLeDiff, Nat.reduceEqDiff, Nat.reduceAdd, Nat.reduceMul, Nat.reduceSub, Nat.reduceBEq, Int.reduceToNat, List.reduceReplicate, reduceCtorEq]
      refine ⟨ribL_p [] (by simp), ribL_q [] ?_⟩
      simp only [go_sem, reduceIte, Nat.reduceLT, Nat.reduceLeDiff, Nat.reduceEqDiff, Nat.reduceAdd, Nat.reduceMul, Nat.reduceSub, Nat.reduceBEq, Int.reduceToNat, List.reduceReplicate, reduceCtorEq]
      refine hK _ (Aw_ret (hQ _ ?_))
      simp only [go_sem, reduceIte, Nat.reduceLT, Nat.reduceLeDiff, Nat.reduceEqDiff, Nat.reduceAdd, Nat.reduceMul, Nat.reduceSub, Nat.reduceBEq, Int.reduceToNat, List.reduceReplicate, reduceCtorEq]
      all_goals rfl
    · have hg : g = true := by simpa using hc4
      subst hg
      refine Aw_skip (hB3 _ ?_)
      refine Aw_sq fun B5 hB5 hR5 hX5 => ?_
      refine Aw_st hE [4, 5, 6] [2, 4, 412, 413, 414, 415, 416, 417, 418] fun K hK => ?_
      simp only [go_sem, reduceIte, Nat.reduceLT, Nat.reduceLeDiff, Nat.reduceEqDiff, Nat.reduceAdd, Nat.reduceMul, Nat.reduceSub, Nat.reduceBEq, Int.reduceToNat, List.reduceReplicate, reduceCtorEq]
      refine hK _ ?_; clear hK K
      refine Aw_bk fun B6 hN6 hE6 hR6 hX6 => ?_
      refine Aw_unr 3 ?_
      refine Aw_rd fun B7_0 hN7_0 hR7_0 hX7_0 => ?_
      refine Aw_sq fun B8_0 hB8_0 hR8_0 hX8_0 => ?_
      refine Aw_stP hE [4, 5, 6, 26] [2, 4, 412, 413, 414, 415, 416, 417, 418] fun K hK => ?_
      simp only [go_sem, reduceIte, Nat.reduceLT, Nat.reduceLeDiff, Nat.reduceEqDiff, Nat.reduceAdd, Nat.reduceMul, Nat.reduceSub, Nat.reduceBEq, Int.reduceToNat, List.reduceReplicate, reduceCtorEq]
      refine hK _ (Aw_yes rfl (Aw_skip (hB8_0 _ ?_)))
      refine Aw_sq fun B10_0 hB10_0 hR10_0 hX10_0 => ?_
      refine Aw_bk fun B11_0 hN11_0 hE11_0 hR11_0 hX11_0 => ?_
      refine Aw_tx hE [4, 5, 6] [2, 4, 412, 413, 414, 415, 416, 417, 418] fun K hK => ?_
      simp only [go_sem, reduceIte, Nat.reduceLT, Nat.reduceLeDiff, Nat.reduceEqDiff, Nat.reduceAdd, Nat.reduceMul, Nat.reduceSub, Nat.reduceBEq, Int.reduceToNat, List.reduceReplicate, reduceCtorEq]
      repeat (refine And.intro (by first | omega | (and_intros <;> first | omega | exact rows_row _ | decide | (simp; done) | (simp; omega)) | fail) ?_)
      refine hK _ (hN11_0 _ (hB10_0 _ ?_))
      refine Aw_tx hE [4, 5, 6] [2, 4, 412, 413, 414, 415, 416, 417, 418] fun K hK => ?_
      simp only [go_sem, reduceIte, Nat.reduceLT, Nat.reduceLeDiff, Nat.reduceEqDiff, Nat.reduceAdd, Nat.reduceMul, Nat.reduceSub, Nat.reduceBEq, Int.reduceToNat, List.reduceReplicate, reduceCtorEq]
      refine hK _ (hN7_0 _ ?_)
      refine Aw_rd fun B7_1 hN7_1 hR7_1 hX7_1 => ?_
      refine Aw_sq fun B8_1 hB8_1 hR8_1 hX8_1 => ?_
      refine Aw_stP hE [4, 5, 6, 26] [2, 4, 412, 413, 414, 415, 416, 417, 418] fun K hK => ?_
      simp only [go_sem, reduceIte, Nat.reduceLT, Nat.reduceLeDiff, Nat.reduceEqDiff, Nat.reduceAdd, Nat.reduceMul, Nat.reduceSub, Nat.reduceBEq, Int.reduceToNat, List.reduceReplicate, reduceCtorEq]
      refine hK _ (Aw_yes rfl (Aw_skip (hB8_1 _ ?_)))
      refine Aw_sq fun B10_1 hB10_1 hR10_1 hX10_1 => ?_
      refine Aw_bk fun B11_1 hN11_1 hE11_1 hR11_1 hX11_1 => ?_
      refine Aw_tx hE [4, 5, 6] [2, 4, 412, 413, 414, 415, 416, 417, 418] fun K hK => ?_
      simp only [go_sem, reduceIte, Nat.reduceLT, Nat.reduceLeDiff, Nat.reduceEqDiff, Nat.reduceAdd, Nat.reduceMul, Nat.reduceSub, Nat.reduceBEq, Int.reduceToNat, List.reduceReplicate, reduceCtorEq]
      repeat (refine And.intro (by first | omega | (and_intros <;> first | omega | exact rows_row _ | decide | (simp; done) | (simp; omega)) | fail) ?_)
      refine hK _ (hN11_1 _ (hB10_1 _ ?_))
      refine Aw_tx hE [4, 5, 6] [2, 4, 412, 413, 414, 415, 416, 417, 418] fun K hK => ?_
      simp only [go_sem, reduceIte, Nat.reduceLT, Nat.reduceLeDiff, Nat.reduceEqDiff, Nat.reduceAdd, Nat.reduceMul, Nat.reduceSub, Nat.reduceBEq, Int.reduceToNat, List.reduceReplicate, reduceCtorEq]
      refine hK _ (hN7_1 _ ?_)
      refine Aw_rd fun B7_2 hN7_2 hR7_2 hX7_2 => ?_
      refine Aw_sq fun B8_2 hB8_2 hR8_2 hX8_2 => ?_
      refine Aw_stP hE [4, 5, 6, 26] [2, 4, 412, 413, 414, 415, 416, 417, 418] fun K hK => ?_
      simp only [go_sem, reduceIte, Nat.reduceLT, Nat.reduceLeDiff, Nat.reduceEqDiff, Nat.reduceAdd, Nat.reduceMul, Nat.reduceSub, Nat.reduceBEq, Int.reduceToNat, List.reduceReplicate, reduceCtorEq]
      refine hK _ (Aw_no rfl (Aw_exit (hX8_2 _ _ (hX7_2 _ _ (hE6 _ (hB5 _ ?_))))))
      refine Aw_frz hE rfl 414 7 rfl rfl ?_
      simp only [go_sem, reduceIte, Nat.reduceLT, Nat.reduceLeDiff, Nat.reduceEqDiff, Nat.reduceAdd, Nat.reduceMul, Nat.reduceSub, Nat.reduceBEq, Int.reduceToNat, List.reduceReplicate, reduceCtorEq]
      refine Aw_frz hE rfl 413 7 rfl rfl ?_
      simp only [go_sem, reduceIte, Nat.reduceLT, Nat.reduceLeDiff, Nat.reduceEqDiff, Nat.reduceAdd, Nat.reduceMul, Nat.reduceSub, Nat.reduceBEq, Int.reduceToNat, List.reduceReplicate, reduceCtorEq]
      refine Aw_frz hE rfl 412 4 rfl rfl ?_
      simp only [go_sem, reduceIte, Nat.reduceLT, Nat.reduceLeDiff, Nat.reduceEqDiff, Nat.reduceAdd, Nat.reduceMul, Nat.reduceSub, Nat.reduceBEq, Int.reduceToNat, List.reduceReplicate, reduceCtorEq]
      refine Aw_st hE [4] [2, 4, 412, 413, 414, 415, 416, 417, 418] fun K hK => ?_
      simp only [go_sem, reduceIte, Nat.reduceLT, Nat.reduceLeDiff, Nat.reduceEqDiff, Nat.reduceAdd, Nat.reduceMul, Nat.reduceSub, Nat.reduceBEq, Int.reduceToNat, List.reduceReplicate, reduceCtorEq]
      refine ⟨ribL_p [oldG g1, oldG g2] (by simp), ribL_q [oldG g1, oldG g2] ?_⟩
      simp only [go_sem, reduceIte, Nat.reduceLT, Nat.reduceLeDiff, Nat.reduceEqDiff, Nat.reduceAdd, Nat.reduceMul, Nat.reduceSub, Nat.reduceBEq, Int.reduceToNat, List.reduceReplicate, reduceCtorEq]
      refine hK _ (Aw_ret (hQ _ ?_))
      simp only [go_sem, reduceIte, Nat.reduceLT, Nat.reduceLeDiff, Nat.reduceEqDiff, Nat.reduceAdd, Nat.reduceMul, Nat.reduceSub, Nat.reduceBEq, Int.reduceToNat, List.reduceReplicate, reduceCtorEq]
      all_goals rfl
  · have hses : sesB h0 up l = [(600, [iv h0, bv up, .loc 601 0, iv ((3 : Nat) : Int)]), (601, gcs g1 ++ [.loc 602 0]), (602, gcs g2 ++ [.loc 603 0]), (603, gcs g3 ++ [.v (.pointer none)])] := by rw [hl]; rfl
    have hop := fun (m1 : List (Nat × List AV)) (K : AV → List (Nat × List AV) → Prop) => open_postL hses m1 K
    refine Aw_st hE [1, 4, 5] [2, 4, 412, 413, 414, 415, 416, 417, 418] fun K hK => ?_
    simp only [go_sem, reduceIte, Nat.reduceLT, Nat.reduceLeDiff, Nat.reduceEqDiff, Nat.reduceAdd, Nat.reduceMul, Nat.reduceSub, Nat.reduceBEq, Int.reduceToNat, List.reduceReplicate, reduceCtorEq, ↓hop]
    refine ⟨by decide, ⟨hl6, hc.2⟩, ?_⟩
    subst hl
    refine hK _ ?_; clear hK K
    refine Aw_st hE [1, 4, 5] [2, 4, 412, 413, 414, 415, 416, 417, 418] fun K hK => ?_
    simp only [go_sem, reduceIte, Nat.reduceLT, Nat.reduceLeDiff, Nat.reduceEqDiff, Nat.reduceAdd, Nat.reduceMul, Nat.reduceSub, Nat.reduceBEq, Int.reduceToNat, List.reduceReplicate, reduceCtorEq]
    refine hK _ ?_; clear hK K
    refine Aw_sq fun B3 hB3 hR3 hX3 => ?_
    refine Aw_st hE [4, 5, 17] [2, 4, 412, 413, 414, 415, 416, 417, 418] fun K hK => ?_
    simp only [go_sem, reduceIte, Nat.reduceLT, Nat.reduceLeDiff, Nat.reduceEqDiff, Nat.reduceAdd, Nat.reduceMul, Nat.reduceSub, Nat.reduceBEq, Int.reduceToNat, List.reduceReplicate, reduceCtorEq]
    refine hK _ (Aw_cond rfl (fun hc4 => ?_) (fun hc4 => ?_))
    · have hg : g = false := by simpa using hc4
      subst hg
      refine Aw_tx hE [4, 5] [2, 4, 412, 413, 414, 415, 416, 417, 418] fun K hK => ?_
      simp only [go_sem, reduceIte, Nat.reduceLT, Nat.reduceLeDiff, Nat.reduceEqDiff, Nat.reduceAdd, Nat.reduceMul, Nat.reduceSub, Nat.reduceBEq, Int.reduceToNat, List.reduceReplicate, reduceCtorEq]
      refine hK _ (hB3 _ ?_)
      refine Aw_sq fun B5 hB5 hR5 hX5 => ?_
      refine Aw_st hE [4, 5, 6] [2, 4, 412, 413, 414, 415, 416, 417, 418] fun K hK => ?_
      simp only [go_sem, reduceIte, Nat.reduceLT, Nat.reduceLeDiff, Nat.reduceEqDiff, Nat.reduceAdd, Nat.reduceMul, Nat.reduceSub, Nat.reduceBEq, Int.reduceToNat, List.reduceReplicate, reduceCtorEq]
      refine hK _ ?_; clear hK K
      refine Aw_bk fun B6 hN6 hE6 hR6 hX6 => ?_
      refine Aw_unr 1 (Aw_rd fun B7 hN7 hR7 hX7 => ?_)
      refine Aw_sq fun B8 hB8 hR8 hX8 => ?_
      refine Aw_stP hE [4, 5, 6, 26] [2, 4, 412, 413, 414, 415, 416, 417, 418] fun K hK => ?_
      simp only [go_sem, reduceIte, Nat.reduceLT, Nat.reduceLeDiff, Nat.reduceEqDiff, Nat.reduceAdd, Nat.reduceMul, Nat.reduceSub, Nat.reduceBEq, Int.reduceToNat, List.reduceReplicate, reduceCtorEq]
      refine hK _ (Aw_no rfl (Aw_exit (hX8 _ _ (hX7 _ _ (hE6 _ (hB5 _ ?_))))))
      refine Aw_frz hE rfl 412 4 rfl rfl ?_
      simp only [go_sem, reduceIte, Nat.reduceLT, Nat.reduceLeDiff, Nat.reduceEqDiff, Nat.reduceAdd, Nat.reduceMul, Nat.reduceSub, Nat.reduceBEq, Int.reduceToNat, List.reduceReplicate, reduceCtorEq]
      refine Aw_st hE [4] [2, 4, 412, 413, 414, 415, 416, 417, 418] fun K hK => ?_
      simp only [go_sem, reduceIte, Nat.reduceLT, Nat.reduceLeDiff, Nat.reduceEqDiff, Nat.reduceAdd, Nat.reduceMul, Nat.reduceSub, Nat.reduceBEq, Int.reduceToNat, List.reduceReplicate, reduceCtorEq]
      refine ⟨ribL_p [] (by simp), ribL_q [] ?_⟩
      simp only [go_sem, reduceIte, Nat.reduceLT, Nat.reduceLeDiff, Nat.reduceEqDiff, Nat.reduceAdd, Nat.reduceMul, Nat.reduceSub, Nat.reduceBEq, Int.reduceToNat, List.reduceReplicate, reduceCtorEq]
      refine hK _ (Aw_ret (hQ _ ?_))
      simp only [go_sem, reduceIte, Nat.reduceLT, Nat.reduceLeDiff, Nat.reduceEqDiff, Nat.reduceAdd, Nat.reduceMul, Nat.reduceSub, Nat.reduceBEq, Int.reduceToNat, List.reduceReplicate, reduceCtorEq]
      all_goals rfl
    · have hg : g = true := by simpa using hc4
      subst hg
      refine Aw_skip (hB3 _ ?_)
      refine Aw_sq fun B5 hB5 hR5 hX5 => ?_
      refine Aw_st hE [4, 5, 6] [2, 4, 412, 413, 414, 415, 416, 417, 418] fun K hK => ?_
      simp only [go_sem, reduceIte, Nat.reduceLT, Nat.reduceLeDiff, Nat.reduceEqDiff, Nat.reduceAdd, Nat.reduceMul, Nat.reduceSub, Nat.reduceBEq, Int.reduceToNat, List.reduceReplicate, reduceCtorEq]
      refine hK _ ?_; clear hK K
      refine Aw_bk fun B6 hN6 hE6 hR6 hX6 => ?_
      refine Aw_unr 4 ?_
      refine Aw_rd fun B7_0 hN7_0 hR7_0 hX7_0 => ?_
      refine Aw_sq fun B8_0 hB8_0 hR8_0 hX8_0 => ?_
      refine Aw_stP hE [4, 5, 6, 26] [2, 4, 412, 413, 414, 415, 416, 417, 418] fun K hK => ?_
      simp only [go_sem, reduceIte, Nat.reduceLT, Nat.reduceLeDiff, Nat.reduceEqDiff, Nat.reduceAdd, Nat.reduceMul, Nat.reduceSub, Nat.reduceBEq, Int.reduceToNat, List.reduceReplicate, reduceCtorEq]
      refine hK _ (Aw_yes rfl (Aw_skip (hB8_0 _ ?_)))
      refine Aw_sq fun B10_0 hB10_0 hR10_0 hX10_0 => ?_
      refine Aw_bk fun B11_0 hN11_0 hE11_0 hR11_0 hX11_0 => ?_
      refine Aw_tx hE [4, 5, 6] [2, 4, 412, 413, 414, 415, 416, 417, 418] fun K hK => ?_
      simp only [go_sem, reduceIte, Nat.reduceLT, Nat.reduceLeDiff, Nat.reduceEqDiff, Nat.reduceAdd, Nat.reduceMul, Nat.reduceSub, Nat.reduceBEq, Int.reduceToNat, List.reduceReplicate, reduceCtorEq]
      repeat (refine And.intro (by first | omega | (and_intros <;> first | omega | exact rows_row _ | decide | (simp; done) | (simp; omega)) | fail) ?_)
      refine hK _ (hN11_0 _ (hB10_0 _ ?_))
      refine Aw_tx hE [4, 5, 6] [2, 4, 412, 413, 414, 415, 416, 417, 418] fun K hK => ?_
      simp only [go_sem, reduceIte, Nat.reduceLT, Nat.reduceLeDiff, Nat.reduceEqDiff, Nat.reduceAdd, Nat.reduceMul, Nat.reduceSub, Nat.reduceBEq, Int.reduceToNat, List.reduceReplicate, reduceCtorEq]
      refine hK _ (hN7_0 _ ?_)
      refine Aw_rd fun B7_1 hN7_1 hR7_1 hX7_1 => ?_
      refine Aw_sq fun B8_1 hB8_1 hR8_1 hX8_1 => ?_
      refine Aw_stP hE [4, 5, 6, 26] [2, 4, 412, 413, 414, 415, 416, 417, 418] fun K hK => ?_
      simp only [go_sem, reduceIte, Nat.reduceLT, Nat.reduceLeDiff, Nat.reduceEqDiff, Nat.reduceAdd, Nat.reduceMul, Nat.reduceSub, Nat.reduceBEq, Int.reduceToNat, List.reduceReplicate, reduceCtorEq]
      refine hK _ (Aw_yes rfl (Aw_skip (hB8_1 _ ?_)))
      refine Aw_sq fun B10_1 hB10_1 hR10_1 hX10_1 => ?_
      refine Aw_bk fun B11_1 hN11_1 hE11_1 hR11_1 hX11_1 => ?_
      refine Aw_tx hE [4, 5, 6] [2, 4, 412, 413, 414, 415, 416, 417, 418] fun K hK => ?_
      simp only [go_sem, reduceIte, Nat.reduceLT, Nat.reduceLeDiff, Nat.reduceEqDiff, Nat.reduceAdd, Nat.reduceMul, Nat.reduceSub, Nat.reduceBEq, Int.reduceToNat, List.reduceReplicate, reduceCtorEq]
      repeat (refine And.intro (by first | omega | (and_intros <;> first | omega | exact rows_row _ | decide | (simp; done) | (simp; omega)) | fail) ?_)
      refine hK _ (hN11_1 _ (hB10_1 _ ?_))
      refine Aw_tx hE [4, 5, 6] [2, 4, 412, 413, 414, 415, 416, 417, 418] fun K hK => ?_
      simp only [go_sem, reduceIte, Nat.reduceLT, Nat.reduceLeDiff, Nat.reduceEqDiff, Nat.reduceAdd, Nat.reduceMul, Nat.reduceSub, Nat.reduceBEq, Int.reduceToNat, List.reduceReplicate, reduceCtorEq]
      refine hK _ (hN7_1 _ ?_)
      refine Aw_rd fun B7_2 hN7_2 hR7_2 hX7_2 => ?_
      refine Aw_sq fun B8_2 hB8_2 hR8_2 hX8_2 => ?_
      refine Aw_stP hE [4, 5, 6, 26] [2, 4, 412, 413, 414, 415, 416, 417, 418] fun K hK => ?_
      simp only [go_sem, reduceIte, Nat.reduceLT, Nat.reduceLeDiff, Nat.reduceEqDiff, Nat.reduceAdd, Nat.reduceMul, Nat.reduceSub, Nat.reduceBEq, Int.reduceToNat, List.reduceReplicate, reduceCtorEq]
      refine hK _ (Aw_yes rfl (Aw_skip (hB8_2 _ ?_)))
      refine Aw_sq fun B10_2 hB10_2 hR10_2 hX10_2 => ?_
      refine Aw_bk fun B11_2 hN11_2 hE11_2 hR11_2 hX11_2 => ?_
      refine Aw_tx hE [4, 5, 6] [2, 4, 412, 413, 414, 415, 416, 417, 418] fun K hK => ?_
      simp only [go_sem, reduceIte, Nat.reduceLT, Nat.reduceLeDiff, Nat.reduceEqDiff, Nat.reduceAdd, Nat.reduceMul, Nat.reduceSub, Nat.reduceBEq, Int.reduceToNat, List.reduceReplicate, reduceCtorEq]
      repeat (refine And.intro (by first | omega | (and_intros <;> first | omega | exact rows_row _ | decide | (simp; done) | (simp; omega)) | fail) ?_)
      refine hK _ (hN11_2 _ (hB10_2 _ ?_))
      refine Aw_tx hE [4, 5, 6] [2, 4, 412, 413, 414, 415, 416, 417, 418] fun K hK => ?_
      simp only [go_sem, reduceIte, Nat.reduceLT, Nat.reduceLeDiff, Nat.reduceEqDiff, Nat.reduceAdd, Nat.reduceMul, Nat.reduceSub, Nat.reduceBEq, Int.reduceToNat, List.reduceReplicate, reduceCtorEq]
      refine hK _ (hN7_2 _ ?_)
      refine Aw_rd fun B7_3 hN7_3 hR7_3 hX7_3 => ?_
      refine Aw_sq fun B8_3 hB8_3 hR8_3 hX8_3 => ?_
      refine Aw_stP hE [4, 5, 6, 26] [2, 4, 412, 413, 414, 415, 416, 417, 418] fun K hK => ?_
      simp only [go_sem, reduceIte, Nat.reduceLT, Nat.reduceLeDiff, Nat.reduceEqDiff, Nat.reduceAdd, Nat.reduceMul, Nat.reduceSub, Nat.reduceBEq, Int.reduceToNat, List.reduceReplicate, reduceCtorEq]
      refine hK _ (Aw_no rfl (Aw_exit (hX8_3 _ _ (hX7_3 _ _ (hE6 _ (hB5 _ ?_))))))
      refine Aw_frz hE rfl 415 7 rfl rfl ?_
      simp only [go_sem, reduceIte, Nat.reduceLT, Nat.reduceLeDiff, Nat.reduceEqDiff, Nat.reduceAdd, Nat.reduceMul, Nat.reduceSub, Nat.reduceBEq, Int.reduceToNat, List.reduceReplicate, reduceCtorEq]
      refine Aw_frz hE rfl 414 7 rfl rfl ?_
      simp only [go_sem, reduceIte, Nat.reduceLT, Nat.reduceLeDiff, Nat.reduceEqDiff, Nat.reduceAdd, Nat.reduceMul, Nat.reduceSub, Nat.reduceBEq, Int.reduceToNat, List.reduceReplicate, reduceCtorEq]
      refine Aw_frz hE rfl 413 7 rfl rfl ?_
      simp only [go_sem, reduceIte, Nat.reduceLT, Nat.reduceLeDiff, Nat.reduceEqDiff, Nat.reduceAdd, Nat.reduceMul, Nat.reduceSub, Nat.reduceBEq, Int.reduceToNat, List.reduceReplicate, reduceCtorEq]
      refine Aw_frz hE rfl 412 4 rfl rfl ?_
      simp only [go_sem, reduceIte, Nat.reduceLT, Nat.reduceLeDiff, Nat.reduceEqDiff, Nat.reduceAdd, Nat.reduceMul, Nat.reduceSub, Nat.reduceBEq, Int.reduceToNat, List.reduceReplicate, reduceCtorEq]
      refine Aw_st hE [4] [2, 4, 412, 413, 414, 415, 416, 417, 418] fun K hK => ?_
      simp only [go_sem, reduceIte, Nat.reduceLT, Nat.reduceLeDiff, Nat.reduceEqDiff, Nat.reduceAdd, Nat.reduceMul, Nat.reduceSub, Nat.reduceBEq, Int.reduceToNat, List.reduceReplicate, reduceCtorEq]
      refine ⟨ribL_p [oldG g1, oldG g2, oldG g3] (by simp), ribL_q [oldG g1, oldG g2, oldG g3] ?_⟩
      simp only [go_sem, reduceIte, Nat.reduceLT, Nat.reduceLeDiff, Nat.reduceEqDiff, Nat.reduceAdd, Nat.reduceMul, Nat.reduceSub, Nat.reduceBEq, Int.reduceToNat, List.reduceReplicate, reduceCtorEq]
      refine hK _ (Aw_ret (hQ _ ?_))
      simp only [go_sem, reduceIte, Nat.reduceLT, Nat.reduceLeDiff, Nat.reduceEqDiff, Nat.reduceAdd, Nat.reduceMul, Nat.reduceSub, Nat.reduceBEq, Int.reduceToNat, List.reduceReplicate, reduceCtorEq]
      all_goals rfl
  · have hses : sesB h0 up l = [(600, [iv h0, bv up, .loc 601 0, iv ((4 : Nat) : Int)]), (601, gcs g1 ++ [.loc 602 0]), (602, gcs g2 ++ [.loc 603 0]), (603, gcs g3 ++ [.loc 604 0]), (604, gcs g4 ++ [.v (.pointer none)])] := by rw [hl]; rfl
    have hop := fun (m1 : List (Nat × List AV)) (K : AV → List (Nat × List AV) → Prop) => open_postL hses m1 K
    refine Aw_st hE [1, 4, 5] [2, 4, 412, 413, 414, 415, 416, 417, 418] fun K hK => ?_
    simp only [go_sem, reduceIte, Nat.reduceLT, Nat.reduceLeDiff, Nat.reduceEqDiff, Nat.reduceAdd, Nat.reduceMul, Nat.reduceSub, Nat.reduceBEq, Int.reduceToNat, List.reduceReplicate, reduceCtorEq, ↓hop]
    refine ⟨by decide, ⟨hl6, hc.2⟩, ?_⟩
    subst hl
    refine hK _ ?_; clear hK K
    refine Aw_st hE [1, 4, 5] [2, 4, 412, 413, 414, 415, 416, 417, 418] fun K hK => ?_
    simp only [go_sem, reduceIte, Nat.reduceLT, Nat.reduceLeDiff, Nat.reduceEqDiff, Nat.reduceAdd, Nat.reduceMul, Nat.reduceSub, Nat.reduceBEq, Int.reduceToNat, List.reduceReplicate, reduceCtorEq]
    refine hK _ ?_; clear hK K
    refine Aw_sq fun B3 hB3 hR3 hX3 => ?_
    refine Aw_st hE [4, 5, 17] [2, 4, 412, 413, 414, 415, 416, 417, 418] fun K hK => ?_
    simp only [go_sem, reduceIte, Nat.reduceLT, Nat.reduceLeDiff, Nat.reduceEqDiff, Nat.reduceAdd, Nat.reduceMul, Nat.reduceSub, Nat.reduceBEq, Int.reduceToNat, List.reduceReplicate, reduceCtorEq]
    refine hK _ (Aw_cond rfl (fun hc4 => ?_) (fun hc4 => ?_))
    · have hg : g = false := by simpa using hc4
      subst hg
      refine Aw_tx hE [4, 5] [2, 4, 412, 413, 414, 415, 416, 417, 418] fun K hK => ?_
      simp only [go_sem, reduceIte, Nat.reduceLT, Nat.reduceLeDiff, Nat.reduceEqDiff, Nat.reduceAdd, Nat.reduceMul, Nat.reduceSub, Nat.reduceBEq, Int.reduceToNat, List.reduceReplicate, reduceCtorEq]
      refine hK _ (hB3 _ ?_)
      refine Aw_sq fun B5 hB5 hR5 hX5 => ?_
      refine Aw_st hE [4, 5, 6] [2, 4, 412, 413, 414, 415, 416, 417, 418] fun K hK => ?_
      simp only [go_sem, reduceIte, Nat.reduceLT, Nat.reduceLeDiff, Nat.reduceEqDiff, Nat.reduceAdd, Nat.reduceMul, Nat.reduceSub, Nat.reduceBEq, Int.reduceToNat, List.reduceReplicate, reduceCtorEq]
      refine hK _ ?_; clear hK K
      refine Aw_bk fun B6 hN6 hE6 hR6 hX6 => ?_
      refine Aw_unr 1 (Aw_rd fun B7 hN7 hR7 hX7 => ?_)
      refine Aw_sq fun B8 hB8 hR8 hX8 => ?_
      refine Aw_stP hE [4, 5, 6, 26] [2, 4, 412, 413, 414, 415, 416, 417, 418] fun K hK => ?_
      simp only [go_sem, reduceIte, Nat.reduceLT, Nat.reduceLeDiff, Nat.reduceEqDiff, Nat.reduceAdd, Nat.reduceMul, Nat.reduceSub, Nat.reduceBEq, Int.reduceToNat, List.reduceReplicate, reduceCtorEq]
      refine hK _ (Aw_no rfl (Aw_exit (hX8 _ _ (hX7 _ _ (hE6 _ (hB5 _ ?_))))))
      refine Aw_frz hE rfl 412 4 rfl rfl ?_
      simp only [go_sem, reduceIte, Nat.reduceLT, Nat.reduceLeDiff, Nat.reduceEqDiff, Nat.reduceAdd, Nat.reduceMul, Nat.reduceSub, Nat.reduceBEq, Int.reduceToNat, List.reduceReplicate, reduceCtorEq]
      refine Aw_st hE [4] [2, 4, 412, 413, 414, 415, 416, 417, 418] fun K hK => ?_
      simp only [go_sem, reduceIte, Nat.reduceLT, Nat.reduceLeDiff, Nat.reduceEqDiff, Nat.reduceAdd, Nat.reduceMul, Nat.reduceSub, Nat.reduceBEq, Int.reduceToNat, List.reduceReplicate, reduceCtorEq]
      refine ⟨ribL_p [] (by simp), ribL_q [] ?_⟩
      simp only [go_sem, reduceIte, Nat.reduceLT, Nat.reduceLeDiff, Nat.reduceEqDiff, Nat.reduceAdd, Nat.reduceMul, Nat.reduceSub, Nat.reduceBEq, Int.reduceToNat, List.reduceReplicate, reduceCtorEq]
      refine hK _ (Aw_ret (hQ _ ?_))
      simp only [go_sem, reduceIte, Nat.reduceLT, Nat.reduceLeDiff, Nat.reduceEqDiff, Nat.reduceAdd, Nat.reduceMul, Nat.reduceSub, Nat.reduceBEq, Int.reduceToNat, List.reduceReplicate, reduceCtorEq]
      all_goals rfl
    · have hg : g = true := by simpa using hc4
      subst hg
      refine Aw_skip (hB3 _ ?_)
      refine Aw_sq fun B5 hB5 hR5 hX5 => ?_
      refine Aw_st hE [4, 5, 6] [2, 4, 412, 413, 414, 415, 416, 417, 418] fun K hK => ?_
      simp only [go_sem, reduceIte, Nat.reduceLT, Nat.reduceLeDiff, Nat.reduceEqDiff, Nat.reduceAdd, Nat.reduceMul, Nat.reduceSub, Nat.reduceBEq, Int.reduceToNat, List.reduceReplicate, reduceCtorEq]
      refine hK _ ?_; clear hK K
      refine Aw_bk fun B6 hN6 hE6 hR6 hX6 => ?_
      refine Aw_unr 5 ?_
      refine Aw_rd fun B7_0 hN7_0 hR7_0 hX7_0 => ?_
      refine Aw_sq fun B8_0 hB8_0 hR8_0 hX8_0 => ?_
      refine Aw_stP hE [4, 5, 6, 26] [2, 4, 412, 413, 414, 415, 416, 417, 418] fun K hK => ?_
      simp only [go_sem, reduceIte, Nat.reduceLT, Nat.reduceLeDiff, Nat.reduceEqDiff, Nat.reduceAdd, Nat.reduceMul, Nat.reduceSub, Nat.reduceBEq, Int.reduceToNat, List.reduceReplicate, reduceCtorEq]
      refine hK _ (Aw_yes rfl (Aw_skip (hB8_0 _ ?_)))
      refine Aw_sq fun B10_0 hB10_0 hR10_0 hX10_0 => ?_
      refine Aw_bk fun B11_0 hN11_0 hE11_0 hR11_0 hX11_0 => ?_
      refine Aw_tx hE [4, 5, 6] [2, 4, 412, 413, 414, 415, 416, 417, 418] fun K hK => ?_
      simp only [go_sem, reduceIte, Nat.reduceLT, Nat.reduceLeDiff, Nat.reduceEqDiff, Nat.reduceAdd, Nat.reduceMul, Nat.reduceSub, Nat.reduceBEq, Int.reduceToNat, List.reduceReplicate, reduceCtorEq]
      repeat (refine And.intro (by first | omega | (and_intros <;> first | omega | exact rows_row _ | decide | (simp; done) | (simp; omega)) | fail) ?_)
      refine hK _ (hN11_0 _ (hB10_0 _ ?_))
      refine Aw_tx hE [4, 5, 6] [2, 4, 412, 413, 414, 415, 416, 417, 418] fun K hK => ?_
      simp only [go_sem, reduceIte, Nat.reduceLT, Nat.reduceLeDiff, Nat.reduceEqDiff, Nat.reduceAdd, Nat.reduceMul, Nat.reduceSub, Nat.reduceBEq, Int.reduceToNat, List.reduceReplicate, reduceCtorEq]
      refine hK _ (hN7_0 _ ?_)
      refine Aw_rd fun B7_1 hN7_1 hR7_1 hX7_1 => ?_
      refine Aw_sq fun B8_1 hB8_1 hR8_1 hX8_1 => ?_
      refine Aw_stP hE [4, 5, 6, 26] [2, 4, 412, 413, 414, 415, 416, 417, 418] fun K hK => ?_
      simp only [go_sem, reduceIte, Nat.reduceLT, Nat.reduceLeDiff, Nat.reduceEqDiff, Nat.reduceAdd, Nat.reduceMul, Nat.reduceSub, Nat.reduceBEq, Int.reduceToNat, List.reduceReplicate, reduceCtorEq]
      refine hK _ (Aw_yes rfl (Aw_skip (hB8_1 _ ?_)))
      refine Aw_sq fun B10_1 hB10_1 hR10_1 hX10_1 => ?_
      refine Aw_bk fun B11_1 hN11_1 hE11_1 hR11_1 hX11_1 => ?_
      refine Aw_tx hE [4, 5, 6] [2, 4, 412, 413, 414, 415, 416, 417, 418] fun K hK => ?_
      simp only [go_sem, reduceIte, Nat.reduceLT, Nat.reduceLeDiff, Nat.reduceEqDiff, Nat.reduceAdd, Nat.reduceMul, Nat.reduceSub, Nat.reduceBEq, Int.reduceToNat, List.reduceReplicate, reduceCtorEq]
      repeat (refine And.intro (by first | omega | (and_intros <;> first | omega | exact rows_row _ | decide | (simp; done) | (simp; omega)) | fail) ?_)
      refine hK _ (hN11_1 _ (hB10_1 _ ?_))
      refine Aw_tx hE [4, 5, 6] [2, 4, 412, 413, 414, 415, 416, 417, 418] fun K hK => ?_
      simp only [go_sem, reduceIte, Nat.reduceLT, Nat.reduceLeDiff, Nat.reduceEqDiff, Nat.reduceAdd, Nat.reduceMul, Nat.reduceSub, Nat.reduceBEq, Int.reduceToNat, List.reduceReplicate, reduceCtorEq]
      refine hK _ (hN7_1 _ ?_)
      refine Aw_rd fun B7_2 hN7_2 hR7_2 hX7_2 => ?_
      refine Aw_sq fun B8_2 hB8_2 hR8_2 hX8_2 => ?_
      refine Aw_stP hE [4, 5, 6, 26] [2, 4, 412, 413, 414, 415, 416, 417, 418] fun K hK => ?_
      simp only [go_sem, reduceIte, Nat.reduceLT, Nat.reduceLeDiff, Nat.reduceEqDiff, Nat.reduceAdd, Nat.reduceMul, Nat.reduceSub, Nat.reduceBEq, Int.reduceToNat, List.reduceReplicate, reduceCtorEq]
      refine hK _ (Aw_yes rfl (Aw_skip (hB8_2 _ ?_)))
      refine Aw_sq fun B10_2 hB10_2 hR10_2 hX10_2 => ?_
      refine Aw_bk fun B11_2 hN11_2 hE11_2 hR11_2 hX11_2 => ?_
      refine Aw_tx hE [4, 5, 6] [2, 4, 412, 413, 414, 415, 416, 417, 418] fun K hK => ?_
      simp only [go_sem, reduceIte, Nat.reduceLT, Nat.reduceLeDiff, Nat.reduceEqDiff, Nat.reduceAdd, Nat.reduceMul, Nat.reduceSub, Nat.reduceBEq, Int.reduceToNat, List.reduceReplicate, reduceCtorEq]
      repeat (refine And.intro (by first | omega | (and_intros <;> first | omega | exact rows_row _ | decide | (simp; done) | (simp; omega)) | fail) ?_)
      refine hK _ (hN11_2 _ (hB10_2 _ ?_))
      refine Aw_tx hE [4, 5, 6] [2, 4, 412, 413, 414, 415, 416, 417, 418] fun K hK => ?_
      simp only [go_sem, reduceIte, Nat.reduceLT, Nat.reduceLeDiff, Nat.reduceEqDiff, Nat.reduceAdd, Nat.reduceMul, Nat.reduceSub, Nat.reduceBEq, Int.reduceToNat, List.reduceReplicate, reduceCtorEq]
      refine hK _ (hN7_2 _ ?_)
      refine Aw_rd fun B7_3 hN7_3 hR7_3 hX7_3 => ?_
      refine Aw_sq fun B8_3 hB8_3 hR8_3 hX8_3 => ?_
      refine Aw_stP hE [4, 5, 6, 26] [2, 4, 412, 413, 414, 415, 416, 417, 418] fun K hK => ?_
      simp only [go_sem, reduceIte, Nat.reduceLT, Nat.reduceLeDiff, Nat.reduceEqDiff, Nat.reduceAdd, Nat.reduceMul, Nat.reduceSub, Nat.reduceBEq, Int.reduceToNat, List.reduceReplicate, reduceCtorEq]
      refine hK _ (Aw_yes rfl (Aw_skip (hB8_3 _ ?_)))
      refine Aw_sq fun B10_3 hB10_3 hR10_3 hX10_3 => ?_
      refine Aw_bk fun B11_3 hN11_3 hE11_3 hR11_3 hX11_3 => ?_
      refine Aw_tx hE [4, 5, 6] [2, 4, 412, 413, 414, 415, 416, 417, 418] fun K hK => ?_
      simp only [go_sem, reduceIte, Nat.reduceLT, Nat.reduceLeDiff, Nat.reduceEqDiff, Nat.reduceAdd, Nat.reduceMul, Nat.reduceSub, Nat.reduceBEq, Int.reduceToNat, List.reduceReplicate, reduceCtorEq]
      repeat (refine And.intro (by first | omega | (and_intros <;> first | omega | exact rows_row _ | decide | (simp; done) | (simp; omega)) | fail) ?_)
      refine hK _ (hN11_3 _ (hB10_3 _ ?_))
      refine Aw_tx hE [4, 5, 6] [2, 4, 412, 413, 414, 415, 416, 417, 418] fun K hK => ?_
      simp only [go_sem, reduceIte, Nat.reduceLT, Nat.reduceLeDiff, Nat.reduceEqDiff, Nat.reduceAdd, Nat.reduceMul, Nat.reduceSub, Nat.reduceBEq, Int.reduceToNat, List.reduceReplicate, reduceCtorEq]
      refine hK _ (hN7_3 _ ?_)
      refine Aw_rd fun B7_4 hN7_4 hR7_4 hX7_4 => ?_
      refine Aw_sq fun B8_4 hB8_4 hR8_4 hX8_4 => ?_
      refine Aw_stP hE [4, 5, 6, 26] [2, 4, 412, 413, 414, 415, 416, 417, 418] fun K hK => ?_
      simp only [go_sem, reduceIte, Nat.reduceLT, Nat.reduceLeDiff, Nat.reduceEqDiff, Nat.reduceAdd, Nat.reduceMul, Nat.reduceSub, Nat.reduceBEq, Int.reduceToNat, List.reduceReplicate, reduceCtorEq]
      refine hK _ (Aw_no rfl (Aw_exit (hX8_4 _ _ (hX7_4 _ _ (hE6 _ (hB5 _ ?_))))))
      refine Aw_frz hE rfl 416 7 rfl rfl ?_
      simp only [go_sem, reduceIte, Nat.reduceLT, Nat.reduceLeDiff, Nat.reduceEqDiff, Nat.reduceAdd, Nat.reduceMul, Nat.reduceSub, Nat.reduceBEq, Int.reduceToNat, List.reduceReplicate, reduceCtorEq]
      refine Aw_frz hE rfl 415 7 rfl rfl ?_
      simp only [go_sem, reduceIte, Nat.reduceLT, Nat.reduceLeDiff, Nat.reduceEqDiff, Nat.reduceAdd, Nat.reduceMul, Nat.reduceSub, Nat.reduceBEq, Int.reduceToNat, List.reduceReplicate, reduceCtorEq]
      refine Aw_frz hE rfl 414 7 rfl rfl ?_
      simp only [go_sem, reduceIte, Nat.reduceLT, Nat.reduceLeDiff, Nat.reduceEqDiff, Nat.reduceAdd, Nat.reduceMul, Nat.reduceSub, Nat.reduceBEq, Int.reduceToNat, List.reduceReplicate, reduceCtorEq]
      refine Aw_frz hE rfl 413 7 rfl rfl ?_
      simp only [go_sem, reduceIte, Nat.reduceLT, Nat.reduceLeDiff, Nat.reduceEqDiff, Nat.reduceAdd, Nat.reduceMul, Nat.reduceSub, Nat.reduceBEq, Int.reduceToNat, List.reduceReplicate, reduceCtorEq]
      refine Aw_frz hE rfl 412 4 rfl rfl ?_
      simp only [go_sem, reduceIte, Nat.reduceLT, Nat.reduceLeDiff, Nat.reduceEqDiff, Nat.reduceAdd, Nat.reduceMul, Nat.reduceSub, Nat.reduceBEq, Int.reduceToNat, List.reduceReplicate, reduceCtorEq]
      refine Aw_st hE [4] [2, 4, 412, 413, 414, 415, 416, 417, 418] fun K hK => ?_
      simp only [go_sem, reduceIte, Nat.reduceLT, Nat.reduceLeDiff, Nat.reduceEqDiff, Nat.reduceAdd, Nat.reduceMul, Nat.reduceSub, Nat.reduceBEq, Int.reduceToNat, List.reduceReplicate, reduceCtorEq]
      refine ⟨ribL_p [oldG g1, oldG g2, oldG g3, oldG g4] (by simp), ribL_q [oldG g1, oldG g2, oldG g3, oldG g4] ?_⟩
      simp only [go_sem, reduceIte, Nat.reduceLT, Nat.reduceLeDiff, Nat.reduceEqDiff, Nat.reduceAdd, Nat.reduceMul, Nat.reduceSub, Nat.reduceBEq, Int.reduceToNat, List.reduceReplicate, reduceCtorEq]
      refine hK _ (Aw_ret (hQ _ ?_))
      simp only [go_sem, reduceIte, Nat.reduceLT, Nat.reduceLeDiff, Nat.reduceEqDiff, Nat.reduceAdd, Nat.reduceMul, Nat.reduceSub, Nat.reduceBEq, Int.reduceToNat, List.reduceReplicate, reduceCtorEq]
      all_goals rfl
  · have hses : sesB h0 up l = [(600, [iv h0, bv up, .loc 601 0, iv ((5 : Nat) : Int)]), (601, gcs g1 ++ [.loc 602 0]), (602, gcs g2 ++ [.loc 603 0]), (603, gcs g3 ++ [.loc 604 0]), (604, gcs g4 ++ [.loc 605 0]), (605, gcs g5 ++ [.v (.pointer none)])] := by rw [hl]; rfl
    have hop := fun (m1 : List (Nat × List AV)) (K : AV → List (Nat × List AV) → Prop) => open_postL hses m1 K
    refine Aw_st hE [1, 4, 5] [2, 4, 412, 413, 414, 415, 416, 417, 418] fun K hK => ?_
    simp only [go_sem, reduceIte, Nat.reduceLT, Nat.reduceLeDiff, Nat.reduceEqDiff, Nat.reduceAdd, Nat.reduceMul, Nat.reduceSub, Nat.reduceBEq, Int.reduceToNat, List.reduceReplicate, reduceCtorEq, ↓hop]
    refine ⟨by decide, ⟨hl6, hc.2⟩, ?_⟩
    subst hl
    refine hK _ ?_; clear hK K
    refine Aw_st hE [1, 4, 5] [2, 4, 412, 413, 414, 415, 416, 417, 418] fun K hK => ?_
    simp only [go_sem, reduceIte, Nat.reduceLT, Nat.reduceLeDiff, Nat.reduceEqDiff, Nat.reduceAdd, Nat.reduceMul, Nat.reduceSub, Nat.reduceBEq, Int.reduceToNat, List.reduceReplicate, reduceCtorEq]
    refine hK _ ?_; clear hK K
    refine Aw_sq fun B3 hB3 hR3 hX3 => ?_
    refine Aw_st hE [4, 5, 17] [2, 4, 412, 413, 414, 415, 416, 417, 418] fun K hK => ?_
    simp only [go_sem, reduceIte, Nat.reduceLT, Nat.reduceLeDiff, Nat.reduceEqDiff, Nat.reduceAdd, Nat.reduceMul, Nat.reduceSub, Nat.reduceBEq, Int.reduceToNat, List.reduceReplicate, reduceCtorEq]
    refine hK _ (Aw_cond rfl (fun hc4 => ?_) (fun hc4 => ?_))
    · have hg : g = false := by simpa using hc4
      subst hg
      refine Aw_tx hE [4, 5] [2, 4, 412, 413, 414, 415, 416, 417, 418] fun K hK => ?_
      simp only [go_sem, reduceIte, Nat.reduceLT, Nat.reduceLeDiff, Nat.reduceEqDiff, Nat.reduceAdd, Nat.reduceMul, Nat.reduceSub, Nat.reduceBEq, Int.reduceToNat, List.reduceReplicate, reduceCtorEq]
      refine hK _ (hB3 _ ?_)
      refine Aw_sq fun B5 hB5 hR5 hX5 => ?_
      refine Aw_st hE [4, 5, 6] [2, 4, 412, 413, 414, 415, 416, 417, 418] fun K hK => ?_
      simp only [go_sem, reduceIte, Nat.reduceLT, Nat.reduceLeDiff, Nat.reduceEqDiff, Nat.reduceAdd, Nat.reduceMul, Nat.reduceSub, Nat.reduceBEq, Int.reduceToNat, List.reduceReplicate, reduceCtorEq]
      refine hK _ ?_; clear hK K
      refine Aw_bk fun B6 hN6 hE6 hR6 hX6 => ?_
      refine Aw_unr 1 (Aw_rd fun B7 hN7 hR7 hX7 => ?_)
      refine Aw_sq fun B8 hB8 hR8 hX8 => ?_
      refine Aw_stP hE [4, 5, 6, 26] [2, 4, 412, 413, 414, 415, 416, 417, 418] fun K hK => ?_
      simp only [go_sem, reduceIte, Nat.reduceLT, Nat.reduceLeDiff, Nat.reduceEqDiff, Nat.reduceAdd, Nat.reduceMul, Nat.reduceSub, Nat.reduceBEq, Int.reduceToNat, List.reduceReplicate, reduceCtorEq]
      refine hK _ (Aw_no rfl (Aw_exit (hX8 _ _ (hX7 _ _ (hE6 _ (hB5 _ ?_))))))
      refine Aw_frz hE rfl 412 4 rfl rfl ?_
      simp only [go_sem, reduceIte, Nat.reduceLT, Nat.reduceLeDiff, Nat.reduceEqDiff, Nat.reduceAdd, Nat.reduceMul, Nat.reduceSub, Nat.reduceBEq, Int.reduceToNat, List.reduceReplicate, reduceCtorEq]
      refine Aw_st hE [4] [2, 4, 412, 413, 414, 415, 416, 417, 418] fun K hK => ?_
      simp only [go_sem, reduceIte, Nat.reduceLT, Nat.reduceLeDiff, Nat.reduceEqDiff, Nat.reduceAdd, Nat.reduceMul, Nat.reduceSub, Nat.reduceBEq, Int.reduceToNat, List.reduceReplicate, reduceCtorEq]
      refine ⟨ribL_p [] (by simp), ribL_q [] ?_⟩
      simp only [go_sem, reduceIte, Nat.reduceLT, Nat.reduceLeDiff, Nat.reduceEqDiff, Nat.reduceAdd, Nat.reduceMul, Nat.reduceSub, Nat.reduceBEq, Int.reduceToNat, List.reduceReplicate, reduceCtorEq]
      refine hK _ (Aw_ret (hQ _ ?_))
      simp only [go_sem, reduceIte, Nat.reduceLT, Nat.reduceLeDiff, Nat.reduceEqDiff, Nat.reduceAdd, Nat.reduceMul, Nat.reduceSub, Nat.reduceBEq, Int.reduceToNat, List.reduceReplicate, reduceCtorEq]
      all_goals rfl
    · have hg : g = true := by simpa using hc4
      subst hg
      refine Aw_skip (hB3 _ ?_)
      refine Aw_sq fun B5 hB5 hR5 hX5 => ?_
      refine Aw_st hE [4, 5, 6] [2, 4, 412, 413, 414, 415, 416, 417, 418] fun K hK => ?_
      simp only [go_sem, reduceIte, Nat.reduceLT, Nat.reduceLeDiff, Nat.reduceEqDiff, Nat.reduceAdd, Nat.reduceMul, Nat.reduceSub, Nat.reduceBEq, Int.reduceToNat, List.reduceReplicate, reduceCtorEq]
      refine hK _ ?_; clear hK K
      refine Aw_bk fun B6 hN6 hE6 hR6 hX6 => ?_
      refine Aw_unr 6 ?_
      refine Aw_rd fun B7_0 hN7_0 hR7_0 hX7_0 => ?_
      refine Aw_sq fun B8_0 hB8_0 hR8_0 hX8_0 => ?_
      refine Aw_stP hE [4, 5, 6, 26] [2, 4, 412, 413, 414, 415, 416, 417, 418] fun K hK => ?_
      simp only [go_sem, reduceIte, Nat.reduceLT, Nat.reduceLeDiff, Nat.reduceEqDiff, Nat.reduceAdd, Nat.reduceMul, Nat.reduceSub, Nat.reduceBEq, Int.reduceToNat, List.reduceReplicate, reduceCtorEq]
      refine hK _ (Aw_yes rfl (Aw_skip (hB8_0 _ ?_)))
      refine Aw_sq fun B10_0 hB10_0 hR10_0 hX10_0 => ?_
      refine Aw_bk fun B11_0 hN11_0 hE11_0 hR11_0 hX11_0 => ?_
      refine Aw_tx hE [4, 5, 6] [2, 4, 412, 413, 414, 415, 416, 417, 418] fun K hK => ?_
      simp only [go_sem, reduceIte, Nat.reduceLT, Nat.reduceLeDiff, Nat.reduceEqDiff, Nat.reduceAdd, Nat.reduceMul, Nat.reduceSub, Nat.reduceBEq, Int.reduceToNat, List.reduceReplicate, reduceCtorEq]
      repeat (refine And.intro (by first | omega | (and_intros <;> first | omega | exact rows_row _ | decide | (simp; done) | (simp; omega)) | fail) ?_)
      refine hK _ (hN11_0 _ (hB10_0 _ ?_))
      refine Aw_tx hE [4, 5, 6] [2, 4, 412, 413, 414, 415, 416, 417, 418] fun K hK => ?_
      simp only [go_sem, reduceIte, Nat.reduceLT, Nat.reduceLeDiff, Nat.reduceEqDiff, Nat.reduceAdd, Nat.reduceMul, Nat.reduceSub, Nat.reduceBEq, Int.reduceToNat, List.reduceReplicate, reduceCtorEq]
      refine hK _ (hN7_0 _ ?_)
      refine Aw_rd fun B7_1 hN7_1 hR7_1 hX7_1 => ?_
      refine Aw_sq fun B8_1 hB8_1 hR8_1 hX8_1 => ?_
      refine Aw_stP hE [4, 5, 6, 26] [2, 4, 412, 413, 414, 415, 416, 417, 418] fun K hK => ?_
      simp only [go_sem, reduceIte, Nat.reduceLT, Nat.reduceLeDiff, Nat.reduceEqDiff, Nat.reduceAdd, Nat.reduceMul, Nat.reduceSub, Nat.reduceBEq, Int.reduceToNat, List.reduceReplicate, reduceCtorEq]
      refine hK _ (Aw_yes rfl (Aw_skip (hB8_1 _ ?_)))
      refine Aw_sq fun B10_1 hB10_1 hR10_1 hX10_1 => ?_
      refine Aw_bk fun B11_1 hN11_1 hE11_1 hR11_1 hX11_1 => ?_
      refine Aw_tx hE [4, 5, 6] [2, 4, 412, 413, 414, 415, 416, 417, 418] fun K hK => ?_
      simp only [go_sem, reduceIte, Nat.reduceLT, Nat.reduceLeDiff, Nat.reduceEqDiff, Nat.reduceAdd, Nat.reduceMul, Nat.reduceSub, Nat.reduceBEq, Int.reduceToNat, List.reduceReplicate, reduceCtorEq]
      repeat (refine And.intro (by first | omega | (and_intros <;> first | omega | exact rows_row _ | decide | (simp; done) | (simp; omega)) | fail) ?_)
      refine hK _ (hN11_1 _ (hB10_1 _ ?_))
      refine Aw_tx hE [4, 5, 6] [2, 4, 412, 413, 414, 415, 416, 417, 418] fun K hK => ?_
      simp only [go_sem, reduceIte, Nat.reduceLT, Nat.reduceLeDiff, Nat.reduceEqDiff, Nat.reduceAdd, Nat.reduceMul, Nat.reduceSub, Nat.reduceBEq, Int.reduceToNat, List.reduceReplicate, reduceCtorEq]
      refine hK _ (hN7_1 _ ?_)
      refine Aw_rd fun B7_2 hN7_2 hR7_2 hX7_2 => ?_
      refine Aw_sq fun B8_2 hB8_2 hR8_2 hX8_2 => ?_
      refine Aw_stP hE [4, 5, 6, 26] [2, 4, 412, 413, 414, 415, 416, 417, 418] fun K hK => ?_
      simp only [go_sem, reduceIte, Nat.reduceLT, Nat.reduceLeDiff, Nat.reduceEqDiff, Nat.reduceAdd, Nat.reduceMul, Nat.reduceSub, Nat.reduceBEq, Int.reduceToNat, List.reduceReplicate, reduceCtorEq]
      refine hK _ (Aw_yes rfl (Aw_skip (hB8_2 _ ?_)))
      refine Aw_sq fun B10_2 hB10_2 hR10_2 hX10_2 => ?_
      refine Aw_bk fun B11_2 hN11_2 hE11_2 hR11_2 hX11_2 => ?_
      refine Aw_tx hE [4, 5, 6] [2, 4, 412, 413, 414, 415, 416, 417, 418] fun K hK => ?_
      simp only [go_sem, reduceIte, Nat.reduceLT, Nat.reduceLeDiff, Nat.reduceEqDiff, Nat.reduceAdd, Nat.reduceMul, Nat.reduceSub, Nat.reduceBEq, Int.reduceToNat, List.reduceReplicate, reduceCtorEq]
      repeat (refine And.intro (by first | omega | (and_intros <;> first | omega | exact rows_row _ | decide | (simp; done) | (simp; omega)) | fail) ?_)
      refine hK _ (hN11_2 _ (hB10_2 _ ?_))
      refine Aw_tx hE [4, 5, 6] [2, 4, 412, 413, 414, 415, 416, 417, 418] fun K hK => ?_
      simp only [go_sem, reduceIte, Nat.reduceLT, Nat.reduceLeDiff, Nat.reduceEqDiff, Nat.reduceAdd, Nat.reduceMul, Nat.reduceSub, Nat.reduceBEq, Int.reduceToNat, List.reduceReplicate, reduceCtorEq]
      refine hK _ (hN7_2 _ ?_)
      refine Aw_rd fun B7_3 hN7_3 hR7_3 hX7_3 => ?_
      refine Aw_sq fun B8_3 hB8_3 hR8_3 hX8_3 => ?_
      refine Aw_stP hE [4, 5, 6, 26] [2, 4, 412, 413, 414, 415, 416, 417, 418] fun K hK => ?_
      simp only [go_sem, reduceIte, Nat.reduceLT, Nat.reduceLeDiff, Nat.reduceEqDiff, Nat.reduceAdd, Nat.reduceMul, Nat.reduceSub, Nat.reduceBEq, Int.reduceToNat, List.reduceReplicate, reduceCtorEq]
      refine hK _ (Aw_yes rfl (Aw_skip (hB8_3 _ ?_)))
      refine Aw_sq fun B10_3 hB10_3 hR10_3 hX10_3 => ?_
      refine Aw_bk fun B11_3 hN11_3 hE11_3 hR11_3 hX11_3 => ?_
      refine Aw_tx hE [4, 5, 6] [2, 4, 412, 413, 414, 415, 416, 417, 418] fun K hK => ?_
      simp only [go_sem, reduceIte, Nat.reduceLT, Nat.reduceLeDiff, Nat.reduceEqDiff, Nat.reduceAdd, Nat.reduceMul, Nat.reduceSub, Nat.reduceBEq, Int.reduceToNat, List.reduceReplicate, reduceCtorEq]
      repeat (refine And.intro (by first | omega | (and_intros <;> first | omega | exact rows_row _ | decide | (simp; done) | (simp; omega)) | fail) ?_)
      refine hK _ (hN11_3 _ (hB10_3 _ ?_))
      refine Aw_tx hE [4, 5, 6] [2, 4, 412, 413, 414, 415, 416, 417, 418] fun K hK => ?_
      simp only [go_sem, reduceIte, Nat.reduceLT, Nat.reduceLeDiff, Nat.reduceEqDiff, Nat.reduceAdd, Nat.reduceMul, Nat.reduceSub, Nat.reduceBEq, Int.reduceToNat, List.reduceReplicate, reduceCtorEq]
      refine hK _ (hN7_3 _ ?_)
      refine Aw_rd fun B7_4 hN7_4 hR7_4 hX7_4 => ?_
      refine Aw_sq fun B8_4 hB8_4 hR8_4 hX8_4 => ?_
      refine Aw_stP hE [4, 5, 6, 26] [2, 4, 412, 413, 414, 415, 416, 417, 418] fun K hK => ?_
      simp only [go_sem, reduceIte, Nat.reduceLT, Nat.reduceLeDiff, Nat.reduceEqDiff, Nat.reduceAdd, Nat.reduceMul, Nat.reduceSub, Nat.reduceBEq, Int.reduceToNat, List.reduceReplicate, reduceCtorEq]
      refine hK _ (Aw_yes rfl (Aw_skip (hB8_4 _ ?_)))
      refine Aw_sq fun B10_4 hB10_4 hR10_4 hX10_4 => ?_
      refine Aw_bk fun B11_4 hN11_4 hE11_4 hR11_4 hX11_4 => ?_
      refine Aw_tx hE [4, 5, 6] [2, 4, 412, 413, 414, 415, 416, 417, 418] fun K hK => ?_
      simp only [go_sem, reduceIte, Nat.reduceLT, Nat.reduceLeDiff, Nat.reduceEqDiff, Nat.reduceAdd, Nat.reduceMul, Nat.reduceSub, Nat.reduceBEq, Int.reduceToNat, List.reduceReplicate, reduceCtorEq]
      repeat (refine And.intro (by first | omega | (and_intros <;> first | omega | exact rows_row _ | decide | (simp; done) | (simp; omega)) | fail) ?_)
      refine hK _ (hN11_4 _ (hB10_4 _ ?_))
      refine Aw_tx hE [4, 5, 6] [2, 4, 412, 413, 414, 415, 416, 417, 418] fun K hK => ?_
      simp only [go_sem, reduceIte, Nat.reduceLT, Nat.reduceLeDiff, Nat.reduceEqDiff, Nat.reduceAdd, Nat.reduceMul, Nat.reduceSub, Nat.reduceBEq, Int.reduceToNat, List.reduceReplicate, reduceCtorEq]
      refine hK _ (hN7_4 _ ?_)
      refine Aw_rd fun B7_5 hN7_5 hR7_5 hX7_5 => ?_
      refine Aw_sq fun B8_5 hB8_5 hR8_5 hX8_5 => ?_
      refine Aw_stP hE [4, 5, 6, 26] [2, 4, 412, 413, 414, 415, 416, 417, 418] fun K hK => ?_
      simp only [go_sem, reduceIte, Nat.reduceLT, Nat.reduceLeDiff, Nat.reduceEqDiff, Nat.reduceAdd, Nat.reduceMul, Nat.reduceSub, Nat.reduceBEq, Int.reduceToNat, List.reduceReplicate, reduceCtorEq]
      refine hK _ (Aw_no rfl (Aw_exit (hX8_5 _ _ (hX7_5 _ _ (hE6 _ (hB5 _ ?_))))))
      refine Aw_frz hE rfl 417 7 rfl rfl ?_
      simp only [go_sem, reduceIte, Nat.reduceLT, Nat.reduceLeDiff, Nat.reduceEqDiff, Nat.reduceAdd, Nat.reduceMul, Nat.reduceSub, Nat.reduceBEq, Int.reduceToNat, List.reduceReplicate, reduceCtorEq]
      refine Aw_frz hE rfl 416 7 rfl rfl ?_
      simp only [go_sem, reduceIte, Nat.reduceLT, Nat.reduceLeDiff, Nat.reduceEqDiff, Nat.reduceAdd, Nat.reduceMul, Nat.reduceSub, Nat.reduceBEq, Int.reduceToNat, List.reduceReplicate, reduceCtorEq]
      refine Aw_frz hE rfl 415 7 rfl rfl ?_
      simp only [go_sem, reduceIte, Nat.reduceLT, Nat.reduceLeDiff, Nat.reduceEqDiff, Nat.reduceAdd, Nat.reduceMul, Nat.reduceSub, Nat.reduceBEq, Int.reduceToNat, List.reduceReplicate, reduceCtorEq]
      refine Aw_frz hE rfl 414 7 rfl rfl ?_
      simp only [go_sem, reduceIte, Nat.reduceLT, Nat.reduceLeDiff, Nat.reduceEqDiff, Nat.reduceAdd, Nat.reduceMul, Nat.reduceSub, Nat.reduceBEq, Int.reduceToNat, List.reduceReplicate, reduceCtorEq]
      refine Aw_frz hE rfl 413 7 rfl rfl ?_
      simp only [go_sem, reduceIte, Nat.reduceLT, Nat.reduceLeDiff, Nat.reduceEqDiff, Nat.reduceAdd, Nat.reduceMul, Nat.reduceSub, Nat.reduceBEq, Int.reduceToNat, List.reduceReplicate, reduceCtorEq]
      refine Aw_frz hE rfl 412 4 rfl rfl ?_
      simp only [go_sem, reduceIte, Nat.reduceLT, Nat.reduceLeDiff, Nat.reduceEqDiff, Nat.reduceAdd, Nat.reduceMul, Nat.reduceSub, Nat.reduceBEq, Int.reduceToNat, List.reduceReplicate, reduceCtorEq]
      refine Aw_st hE [4] [2, 4, 412, 413, 414, 415, 416, 417, 418] fun K hK => ?_
      simp only [go_sem, reduceIte, Nat.reduceLT, Nat.reduceLeDiff, Nat.reduceEqDiff, Nat.reduceAdd, Nat.reduceMul, Nat.reduceSub, Nat.reduceBEq, Int.reduceToNat, List.reduceReplicate, reduceCtorEq]
      refine ⟨ribL_p [oldG g1, oldG g2, oldG g3, oldG g4, oldG g5] (by simp), ribL_q [oldG g1, oldG g2, oldG g3, oldG g4, oldG g5] ?_⟩
      simp only [go_sem, reduceIte, Nat.reduceLT, Nat.reduceLeDiff, Nat.reduceEqDiff, Nat.reduceAdd, Nat.reduceMul, Nat.reduceSub, Nat.reduceBEq, Int.reduceToNat, List.reduceReplicate, reduceCtorEq]
      refine hK _ (Aw_ret (hQ _ ?_))
      simp only [go_sem, reduceIte, Nat.reduceLT, Nat.reduceLeDiff, Nat.reduceEqDiff, Nat.reduceAdd, Nat.reduceMul, Nat.reduceSub, Nat.reduceBEq, Int.reduceToNat, List.reduceReplicate, reduceCtorEq]
      all_goals rfl
  · have hses : sesB h0 up l = [(600, [iv h0, bv up, .loc 601 0, iv ((6 : Nat) : Int)]), (601, gcs g1 ++ [.loc 602 0]), (602, gcs g2 ++ [.loc 603 0]), (603, gcs g3 ++ [.loc 604 0]), (604, gcs g4 ++ [.loc 605 0]), (605, gcs g5 ++ [.loc 606 0]), (606, gcs g6 ++ [.v (.pointer none)])] := by rw [hl]; rfl
    have hop := fun (m1 : List (Nat × List AV)) (K : AV → List (Nat × List AV) → Prop) => open_postL hses m1 K
    refine Aw_st hE [1, 4, 5] [2, 4, 412, 413, 414, 415, 416, 417, 418] fun K hK => ?_
    simp only [go_sem, reduceIte, Nat.reduceLT, Nat.reduceLeDiff, Nat.reduceEqDiff, Nat.reduceAdd, Nat.reduceMul, Nat.reduceSub, Nat.reduceBEq, Int.reduceToNat, List.reduceReplicate, reduceCtorEq, ↓hop]
    refine ⟨by decide, ⟨hl6, hc.2⟩, ?_⟩
    subst hl
    refine hK _ ?_; clear hK K
    refine Aw_st hE [1, 4, 5] [2, 4, 412, 413, 414, 415, 416, 417, 418] fun K hK => ?_
    simp only [go_sem, reduceIte, Nat.reduceLT, Nat.reduceLeDiff, Nat.reduceEqDiff, Nat.reduceAdd, Nat.reduceMul, Nat.reduceSub, Nat.reduceBEq, Int.reduceToNat, List.reduceReplicate, reduceCtorEq]
    refine hK _ ?_; clear hK K
    refine Aw_sq fun B3 hB3 hR3 hX3 => ?_
    refine Aw_st hE [4, 5, 17] [2, 4, 412, 413, 414, 415, 416, 417, 418] fun K hK => ?_
    simp only [go_sem, reduceIte, Nat.reduceLT, Nat.reduceLeDiff, Nat.reduceEqDiff, Nat.reduceAdd, Nat.reduceMul, Nat.reduceSub, Nat.reduceBEq, Int.reduceToNat, List.reduceReplicate, reduceCtorEq]
    refine hK _ (Aw_cond rfl (fun hc4 => ?_) (fun hc4 => ?_))
    · have hg : g = false := by simpa using hc4
      subst hg
      refine Aw_tx hE [4, 5] [2, 4, 412, 413, 414, 415, 416, 417, 418] fun K hK => ?_
      simp only [go_sem, reduceIte, Nat.reduceLT, Nat.reduceLeDiff, Nat.reduceEqDiff, Nat.reduceAdd, Nat.reduceMul, Nat.reduceSub, Nat.reduceBEq, Int.reduceToNat, List.reduceReplicate, reduceCtorEq]
      refine hK _ (hB3 _ ?_)
      refine Aw_sq fun B5 hB5 hR5 hX5 => ?_
      refine Aw_st hE [4, 5, 6] [2, 4, 412, 413, 414, 415, 416, 417, 418] fun K hK => ?_
      simp only [go_sem, reduceIte, Nat.reduceLT, Nat.reduceLeDiff, Nat.reduceEqDiff, Nat.reduceAdd, Nat.reduceMul, Nat.reduceSub, Nat.reduceBEq, Int.reduceToNat, List.reduceReplicate, reduceCtorEq]
      refine hK _ ?_; clear hK K
      refine Aw_bk fun B6 hN6 hE6 hR6 hX6 => ?_
      refine Aw_unr 1 (Aw_rd fun B7 hN7 hR7 hX7 => ?_)
      refine Aw_sq fun B8 hB8 hR8 hX8 => ?_
      refine Aw_stP hE [4, 5, 6, 26] [2, 4, 412, 413, 414, 415, 416, 417, 418] fun K hK => ?_
      simp only [go_sem, reduceIte, Nat.reduceLT, Nat.reduceLeDiff, Nat.reduceEqDiff, Nat.reduceAdd, Nat.reduceMul, Nat.reduceSub, Nat.reduceBEq, Int.reduceToNat, List.reduceReplicate, reduceCtorEq]
      refine hK _ (Aw_no rfl (Aw_exit (hX8 _ _ (hX7 _ _ (hE6 _ (hB5 _ ?_))))))
      refine Aw_frz hE rfl 412 4 rfl rfl ?_
      simp only [go_sem, reduceIte, Nat.reduceLT, Nat.reduceLeDiff, Nat.reduceEqDiff, Nat.reduceAdd, Nat.reduceMul, Nat.reduceSub, Nat.reduceBEq, Int.reduceToNat, List.reduceReplicate, reduceCtorEq]
      refine Aw_st hE [4] [2, 4, 412, 413, 414, 415, 416, 417, 418] fun K hK => ?_
      simp only [go_sem, reduceIte, Nat.reduceLT, Nat.reduceLeDiff, Nat.reduceEqDiff, Nat.reduceAdd, Nat.reduceMul, Nat.reduceSub, Nat.reduceBEq, Int.reduceToNat, List.reduceReplicate, reduceCtorEq]
      refine ⟨ribL_p [] (by simp), ribL_q [] ?_⟩
      simp only [go_sem, reduceIte, Nat.reduceLT, Nat.reduceLeDiff, Nat.reduceEqDiff, Nat.reduceAdd, Nat.reduceMul, Nat.reduceSub, Nat.reduceBEq, Int.reduceToNat, List.reduceReplicate, reduceCtorEq]
      refine hK _ (Aw_ret (hQ _ ?_))
      simp only [go_sem, reduceIte, Nat.reduceLT, Nat.reduceLeDiff, Nat.reduceEqDiff, Nat.reduceAdd, Nat.reduceMul, Nat.reduceSub, Nat.reduceBEq, Int.reduceToNat, List.reduceReplicate, reduceCtorEq]
      all_goals rfl
    · have hg : g = true := by simpa using hc4
      subst hg
      refine Aw_skip (hB3 _ ?_)
      refine Aw_sq fun B5 hB5 hR5 hX5 => ?_
      refine Aw_st hE [4, 5, 6] [2, 4, 412, 413, 414, 415, 416, 417, 418] fun K hK => ?_
      simp only [go_sem, reduceIte, Nat.reduceLT, Nat.reduceLeDiff, Nat.reduceEqDiff, Nat.reduceAdd, Nat.reduceMul, Nat.reduceSub, Nat.reduceBEq, Int.reduceToNat, List.reduceReplicate, reduceCtorEq]
      refine hK _ ?_; clear hK K
      refine Aw_bk fun B6 hN6 hE6 hR6 hX6 => ?_
      refine Aw_unr 7 ?_
      refine Aw_rd fun B7_0 hN7_0 hR7_0 hX7_0 => ?_
      refine Aw_sq fun B8_0 hB8_0 hR8_0 hX8_0 => ?_
      refine Aw_stP hE [4, 5, 6, 26] [2, 4, 412, 413, 414, 415, 416, 417, 418] fun K hK => ?_
      simp only [go_sem, reduceIte, Nat.reduceLT, Nat.reduceLeDiff, Nat.reduceEqDiff, Nat.reduceAdd, Nat.reduceMul, Nat.reduceSub, Nat.reduceBEq, Int.reduceToNat, List.reduceReplicate, reduceCtorEq]
      refine hK _ (Aw_yes rfl (Aw_skip (hB8_0 _ ?_)))
      refine Aw_sq fun B10_0 hB10_0 hR10_0 hX10_0 => ?_
      refine Aw_bk fun B11_0 hN11_0 hE11_0 hR11_0 hX11_0 => ?_
      refine Aw_tx hE [4, 5, 6] [2, 4, 412, 413, 414, 415, 416, 417, 418] fun K hK => ?_
      simp only [go_sem, reduceIte, Nat.reduceLT, Nat.reduceLeDiff, Nat.reduceEqDiff, Nat.reduceAdd, Nat.reduceMul, Nat.reduceSub, Nat.reduceBEq, Int.reduceToNat, List.reduceReplicate, reduceCtorEq]
      repeat (refine And.intro (by first | omega | (and_intros <;> first | omega | exact rows_row _ | decide | (simp; done) | (simp; omega)) | fail) ?_)
      refine hK _ (hN11_0 _ (hB10_0 _ ?_))
      refine Aw_tx hE [4, 5, 6] [2, 4, 412, 413, 414, 415, 416, 417, 418] fun K hK => ?_
      simp only [go_sem, reduceIte, Nat.reduceLT, Nat.reduceLeDiff, Nat.reduceEqDiff, Nat.reduceAdd, Nat.reduceMul, Nat.reduceSub, Nat.reduceBEq, Int.reduceToNat, List.reduceReplicate, reduceCtorEq]
      refine hK _ (hN7_0 _ ?_)
      refine Aw_rd fun B7_1 hN7_1 hR7_1 hX7_1 => ?_
      refine Aw_sq fun B8_1 hB8_1 hR8_1 hX8_1 => ?_
      refine Aw_stP hE [4, 5, 6, 26] [2, 4, 412, 413, 414, 415, 416, 417, 418] fun K hK => ?_
      simp only [go_sem, reduceIte, Nat.reduceLT, Nat.reduceLeDiff, Nat.reduceEqDiff, Nat.reduceAdd, Nat.reduceMul, Nat.reduceSub, Nat.reduceBEq, Int.reduceToNat, List.reduceReplicate, reduceCtorEq]
      refine hK _ (Aw_yes rfl (Aw_skip (hB8_1 _ ?_)))
      refine Aw_sq fun B10_1 hB10_1 hR10_1 hX10_1 => ?_
      refine Aw_bk fun B11_1 hN11_1 hE11_1 hR11_1 hX11_1 => ?_
      refine Aw_tx hE [4, 5, 6] [2, 4, 412, 413, 414, 415, 416, 417, 418] fun K hK => ?_
      simp only [go_sem, reduceIte, Nat.reduceLT, Nat.reduceLeDiff, Nat.reduceEqDiff, Nat.reduceAdd, Nat.reduceMul, Nat.reduceSub, Nat.reduceBEq, Int.reduceToNat, List.reduceReplicate, reduceCtorEq]
      repeat (refine And.intro (by first | omega | (and_intros <;> first | omega | exact rows_row _ | decide | (simp; done) | (simp; omega)) | fail) ?_)
      refine hK _ (hN11_1 _ (hB10_1 _ ?_))
      refine Aw_tx hE [4, 5, 6] [2, 4, 412, 413, 414, 415, 416, 417, 418] fun K hK => ?_
      simp only [go_sem, reduceIte, Nat.reduceLT, Nat.reduceLeDiff, Nat.reduceEqDiff, Nat.reduceAdd, Nat.reduceMul, Nat.reduceSub, Nat.reduceBEq, Int.reduceToNat, List.reduceReplicate, reduceCtorEq]
      refine hK _ (hN7_1 _ ?_)
      refine Aw_rd fun B7_2 hN7_2 hR7_2 hX7_2 => ?_
      refine Aw_sq fun B8_2 hB8_2 hR8_2 hX8_2 => ?_
      refine Aw_stP hE [4, 5, 6, 26] [2, 4, 412, 413, 414, 415, 416, 417, 418] fun K hK => ?_
      simp only [go_sem, reduceIte, Nat.reduceLT, Nat.reduceLeDiff, Nat.reduceEqDiff, Nat.reduceAdd, Nat.reduceMul, Nat.reduceSub, Nat.reduceBEq, Int.reduceToNat, List.reduceReplicate, reduceCtorEq]
      refine hK _ (Aw_yes rfl (Aw_skip (hB8_2 _ ?_)))
      refine Aw_sq fun B10_2 hB10_2 hR10_2 hX10_2 => ?_
      refine Aw_bk fun B11_2 hN11_2 hE11_2 hR11_2 hX11_2 => ?_
      refine Aw_tx hE [4, 5, 6] [2, 4, 412, 413, 414, 415, 416, 417, 418] fun K hK => ?_
      simp only [go_sem, reduceIte, Nat.reduceLT, Nat.reduceLeDiff, Nat.reduceEqDiff, Nat.reduceAdd, Nat.reduceMul, Nat.reduceSub, Nat.reduceBEq, Int.reduceToNat, List.reduceReplicate, reduceCtorEq]
      repeat (refine And.intro (by first | omega | (and_intros <;> first | omega | exact rows_row _ | decide | (simp; done) | (simp; omega)) | fail) ?_)
      refine hK _ (hN11_2 _ (hB10_2 _ ?_))
      refine Aw_tx hE [4, 5, 6] [2, 4, 412, 413, 414, 415, 416, 417, 418] fun K hK => ?_
      simp only [go_sem, reduceIte, Nat.reduceLT, Nat.reduceLeDiff, Nat.reduceEqDiff, Nat.reduceAdd, Nat.reduceMul, Nat.reduceSub, Nat.reduceBEq, Int.reduceToNat, List.reduceReplicate, reduceCtorEq]
      refine hK _ (hN7_2 _ ?_)
      refine Aw_rd fun B7_3 hN7_3 hR7_3 hX7_3 => ?_
      refine Aw_sq fun B8_3 hB8_3 hR8_3 hX8_3 => ?_
      refine Aw_stP hE [4, 5, 6, 26] [2, 4, 412, 413, 414, 415, 416, 417, 418] fun K hK => ?_
      simp only [go_sem, reduceIte, Nat.reduceLT, Nat.reduceLeDiff, Nat.reduceEqDiff, Nat.reduceAdd, Nat.reduceMul, Nat.reduceSub, Nat.reduceBEq, Int.reduceToNat, List.reduceReplicate, reduceCtorEq]
      refine hK _ (Aw_yes rfl (Aw_skip (hB8_3 _ ?_)))
      refine Aw_sq fun B10_3 hB10_3 hR10_3 hX10_3 => ?_
      refine Aw_bk fun B11_3 hN11_3 hE11_3 hR11_3 hX11_3 => ?_
      refine Aw_tx hE [4, 5, 6] [2, 4, 412, 413, 414, 415, 416, 417, 418] fun K hK => ?_
      simp only [go_sem, reduceIte, Nat.reduceLT, Nat.reduceLeDiff, Nat.reduceEqDiff, Nat.reduceAdd, Nat.reduceMul, Nat.reduceSub, Nat.reduceBEq, Int.reduceToNat, List.reduceReplicate, reduceCtorEq]
      repeat (refine And.intro (by first | omega | (and_intros <;> first | omega | exact rows_row _ | decide | (simp; done) | (simp; omega)) | fail) ?_)
      refine hK _ (hN11_3 _ (hB10_3 _ ?_))
      refine Aw_tx hE [4, 5, 6] [2, 4, 412, 413, 414, 415, 416, 417, 418] fun K hK => ?_
      simp only [go_sem, reduceIte, Nat.reduceLT, Nat.reduceLeDiff, Nat.reduceEqDiff, Nat.reduceAdd, Nat.reduceMul, Nat.reduceSub, Nat.reduceBEq, Int.reduceToNat, List.reduceReplicate, reduceCtorEq]
      refine hK _ (hN7_3 _ ?_)
      refine Aw_rd fun B7_4 hN7_4 hR7_4 hX7_4 => ?_
      refine Aw_sq fun B8_4 hB8_4 hR8_4 hX8_4 => ?_
      refine Aw_stP hE [4, 5, 6, 26] [2, 4, 412, 413, 414, 415, 416, 417, 418] fun K hK => ?_
      simp only [go_sem, reduceIte, Nat.reduceLT, Nat.reduceLeDiff, Nat.reduceEqDiff, Nat.reduceAdd, Nat.reduceMul, Nat.reduceSub, Nat.reduceBEq, Int.reduceToNat, List.reduceReplicate, reduceCtorEq]
      refine hK _ (Aw_yes rfl (Aw_skip (hB8_4 _ ?_)))
      refine Aw_sq fun B10_4 hB10_4 hR10_4 hX10_4 => ?_
      refine Aw_bk fun B11_4 hN11_4 hE11_4 hR11_4 hX11_4 => ?_
      refine Aw_tx hE [4, 5, 6] [2, 4, 412, 413, 414, 415, 416, 417, 418] fun K hK => ?_
      simp only [go_sem, reduceIte, Nat.reduceLT, Nat.reduceLeDiff, Nat.reduceEqDiff, Nat.reduceAdd, Nat.reduceMul, Nat.reduceSub, Nat.reduceBEq, Int.reduceToNat, List.reduceReplicate, reduceCtorEq]
      repeat (refine And.intro (by first | omega | (and_intros <;> first | omega | exact rows_row _ | decide | (simp; done) | (simp; omega)) | fail) ?_)
      refine hK _ (hN11_4 _ (hB10_4 _ ?_))
      refine Aw_tx hE [4, 5, 6] [2, 4, 412, 413, 414, 415, 416, 417, 418] fun K hK => ?_
      simp only [go_sem, reduceIte, Nat.reduceLT, Nat.reduceLeDiff, Nat.reduceEqDiff, Nat.reduceAdd, Nat.reduceMul, Nat.reduceSub, Nat.reduceBEq, Int.reduceToNat, List.reduceReplicate, reduceCtorEq]
      refine hK _ (hN7_4 _ ?_)
      refine Aw_rd fun B7_5 hN7_5 hR7_5 hX7_5 => ?_
      refine Aw_sq fun B8_5 hB8_5 hR8_5 hX8_5 => ?_
      refine Aw_stP hE [4, 5, 6, 26] [2, 4, 412, 413, 414, 415, 416, 417, 418] fun K hK => ?_
      simp only [go_sem, reduceIte, Nat.reduceLT, Nat.reduceLeDiff, Nat.reduceEqDiff, Nat.reduceAdd, Nat.reduceMul, Nat.reduceSub, Nat.reduceBEq, Int.reduceToNat, List.reduceReplicate, reduceCtorEq]
      refine hK _ (Aw_yes rfl (Aw_skip (hB8_5 _ ?_)))
      refine Aw_sq fun B10_5 hB10_5 hR10_5 hX10_5 => ?_
      refine Aw_bk fun B11_5 hN11_5 hE11_5 hR11_5 hX11_5 => ?_
      refine Aw_tx hE [4, 5, 6] [2, 4, 412, 413, 414, 415, 416, 417, 418] fun K hK => ?_
      simp only [go_sem, reduceIte, Nat.reduceLT, Nat.reduceLeDiff, Nat.reduceEqDiff, Nat.reduceAdd, Nat.reduceMul, Nat.reduceSub, Nat.reduceBEq, Int.reduceToNat, List.reduceReplicate, reduceCtorEq]
      repeat (refine And.intro (by first | omega | (and_intros <;> first | omega | exact rows_row _ | decide | (simp; done) | (simp; omega)) | fail) ?_)
      refine hK _ (hN11_5 _ (hB10_5 _ ?_))
      refine Aw_tx hE [4, 5, 6] [2, 4, 412, 413, 414, 415, 416, 417, 418] fun K hK => ?_
      simp only [go_sem, reduceIte, Nat.reduceLT, Nat.reduceLeDiff, Nat.reduceEqDiff, Nat.reduceAdd, Nat.reduceMul, Nat.reduceSub, Nat.reduceBEq, Int.reduceToNat, List.reduceReplicate, reduceCtorEq]
      refine hK _ (hN7_5 _ ?_)
      refine Aw_rd fun B7_6 hN7_6 hR7_6 hX7_6 => ?_
      refine Aw_sq fun B8_6 hB8_6 hR8_6 hX8_6 => ?_
      refine Aw_stP hE [4, 5, 6, 26] [2, 4, 412, 413, 414, 415, 416, 417, 418] fun K hK => ?_
      simp only [go_sem, reduceIte, Nat.reduceLT, Nat.reduceLeDiff, Nat.reduceEqDiff, Nat.reduceAdd, Nat.reduceMul, Nat.reduceSub, Nat.reduceBEq, Int.reduceToNat, List.reduceReplicate, reduceCtorEq]
      refine hK _ (Aw_no rfl (Aw_exit (hX8_6 _ _ (hX7_6 _ _ (hE6 _ (hB5 _ ?_))))))
      refine Aw_frz hE rfl 418 7 rfl rfl ?_
      simp only [go_sem, reduceIte, Nat.reduceLT, Nat.reduceLeDiff, Nat.reduceEqDiff, Nat.reduceAdd, Nat.reduceMul, Nat.reduceSub, Nat.reduceBEq, Int.reduceToNat, List.reduceReplicate, reduceCtorEq]
      refine Aw_frz hE rfl 417 7 rfl rfl ?_
      simp only [go_sem, reduceIte, Nat.reduceLT, Nat.reduceLeDiff, Nat.reduceEqDiff, Nat.reduceAdd, Nat.reduceMul, Nat.reduceSub, Nat.reduceBEq, Int.reduceToNat, List.reduceReplicate, reduceCtorEq]
      refine Aw_frz hE rfl 416 7 rfl rfl ?_
      simp only [go_sem, reduceIte, Nat.reduceLT, Nat.reduceLeDiff, Nat.reduceEqDiff, Nat.reduceAdd, Nat.reduceMul, Nat.reduceSub, Nat.reduceBEq, Int.reduceToNat, List.reduceReplicate, reduceCtorEq]
      refine Aw_frz hE rfl 415 7 rfl rfl ?_
      simp only [go_sem, reduceIte, Nat.reduceLT, Nat.reduceLeDiff, Nat.reduceEqDiff, Nat.reduceAdd, Nat.reduceMul, Nat.reduceSub, Nat.reduceBEq, Int.reduceToNat, List.reduceReplicate, reduceCtorEq]
      refine Aw_frz hE rfl 414 7 rfl rfl ?_
      simp only [go_sem, reduceIte, Nat.reduceLT, Nat.reduceLeDiff, Nat.reduceEqDiff, Nat.reduceAdd, Nat.reduceMul, Nat.reduceSub, Nat.reduceBEq, Int.reduceToNat, List.reduceReplicate, reduceCtorEq]
      refine Aw_frz hE rfl 413 7 rfl rfl ?_
      simp only [go_sem, reduceIte, Nat.reduceLT, Nat.reduceLeDiff, Nat.reduceEqDiff, Nat.reduceAdd, Nat.reduceMul, Nat.reduceSub, Nat.reduceBEq, Int.reduceToNat, List.reduceReplicate, reduceCtorEq]
      refine Aw_frz hE rfl 412 4 rfl rfl ?_
      simp only [go_sem, reduceIte, Nat.reduceLT, Nat.reduceLeDiff, Nat.reduceEqDiff, Nat.reduceAdd, Nat.reduceMul, Nat.reduceSub, Nat.reduceBEq, Int.reduceToNat, List.reduceReplicate, reduceCtorEq]
      refine Aw_st hE [4] [2, 4, 412, 413, 414, 415, 416, 417, 418] fun K hK => ?_
      simp only [go_sem, reduceIte, Nat.reduceLT, Nat.reduceLeDiff, Nat.reduceEqDiff, Nat.reduceAdd, Nat.reduceMul, Nat.reduceSub, Nat.reduceBEq, Int.reduceToNat, List.reduceReplicate, reduceCtorEq]
      refine ⟨ribL_p [oldG g1, oldG g2, oldG g3, oldG g4, oldG g5, oldG g6] (by simp), ribL_q [oldG g1, oldG g2, oldG g3, oldG g4, oldG g5, oldG g6] ?_⟩
      simp only [go_sem, reduceIte, Nat.reduceLT, Nat.reduceLeDiff, Nat.reduceEqDiff, Nat.reduceAdd, Nat.reduceMul, Nat.reduceSub, Nat.reduceBEq, Int.reduceToNat, List.reduceReplicate, reduceCtorEq]
      refine hK _ (Aw_ret (hQ _ ?_))
      simp only [go_sem, reduceIte, Nat.reduceLT, Nat.reduceLeDiff, Nat.reduceEqDiff, Nat.reduceAdd, Nat.reduceMul, Nat.reduceSub, Nat.reduceBEq, Int.reduceToNat, List.reduceReplicate, reduceCtorEq]
      all_goals rfl
end Go.Proofs.W
end
section
namespace Go.Proofs.W
open Go Go.Eng Go.RowKit
set_option linter.unusedSimpArgs false
set_option maxRecDepth 100000

theorem gotsL_nil : gotsL [] = some [] := rfl
theorem lensG_nil : lensG [] := by intro g hg; cases hg
theorem old_old (l : List Gt) : (l.map oldG).map oldG = l.map oldG := by
  rw [List.map_map]; rfl
set_option maxHeartbeats 4000000 in
theorem fnDown_ok (pb : Addr) : Fine Tryd.prog 5 (cLawP pb) := by
  refine fine_of (T := TT) Tryd.func5 rfl Tryd.ntmps5 (by rw [Tryd.results5]) rfl rfl tt (gs_cons drawRibDown_ok gs_nil) (ds_cons ribDown_ok (ds_cons (iRibDown_ok pb) (ds_cons lyRib_ok (ds_cons lyRoute_ok (ds_cons sRibOk_ok (ds_cons (iRibOk_ok pb) ds_nil (wp_inh pb))))) (wp_inh pb))) ?_
  rintro args ⟨bs, hbs, rfl⟩
  refine ⟨by simp, fun k hk E hE Q hQ => ?_⟩
  refine Aw_st hE [0] [] fun K hK => ?_
  simp only [go_sem, reduceIte, Nat.reduceLT, Nat.reduceLeDiff, Nat.reduceEqDiff, Nat.reduceAdd, Nat.reduceMul, Nat.reduceSub, Nat.reduceBEq, Int.reduceToNat, List.reduceReplicate, reduceCtorEq]
  refine hK _ ?_; clear hK K
  refine Aw_sq fun B1 hB1 hR1 hX1 => ?_
  refine Aw_st hE [0, 9] [] fun K hK => ?_
  simp only [go_sem, reduceIte, Nat.reduceLT, Nat.reduceLeDiff, Nat.reduceEqDiff, Nat.reduceAdd, Nat.reduceMul, Nat.reduceSub, Nat.reduceBEq, Int.reduceToNat, List.reduceReplicate, reduceCtorEq]
  refine hK _ (Aw_cond rfl (fun hc2 => ?_) (fun hc2 => ?_))
  · refine Aw_st hE [2] [] fun K hK => ?_
    simp only [go_sem, reduceIte, Nat.reduceLT, Nat.reduceLeDiff, Nat.reduceEqDiff, Nat.reduceAdd, Nat.reduceMul, Nat.reduceSub, Nat.reduceBEq, Int.reduceToNat, List.reduceReplicate, reduceCtorEq]
    refine hK _ (Aw_ret (hR1 _ (hQ _ ?_)))
    simp only [go_sem, reduceIte, Nat.reduceLT, Nat.reduceLeDiff, Nat.reduceEqDiff, Nat.reduceAdd, Nat.reduceMul, Nat.reduceSub, Nat.reduceBEq, Int.reduceToNat, List.reduceReplicate, reduceCtorEq]
  refine Aw_skip (hB1 _ ?_)
  refine Aw_st hE [3, 4] [3] fun K hK => ?_
  simp only [go_sem, reduceIte, Nat.reduceLT, Nat.reduceLeDiff, Nat.reduceEqDiff, Nat.reduceAdd, Nat.reduceMul, Nat.reduceSub, Nat.reduceBEq, Int.reduceToNat, List.reduceReplicate, reduceCtorEq]
  refine ⟨drw_pre bs hbs, fun b g hb => ?_⟩
  obtain ⟨h0, up, l⟩ := b
  obtain ⟨hb1, hlg⟩ := hb
  simp only at hb1 hlg
  refine hK _ ?_; clear hK K
  cases hok : ribOk ⟨h0, up, l⟩ with
  | false =>
    refine Aw_st hE [3, 4, 5] [3, 5] fun K hK => ?_
    simp only [go_sem, reduceIte, Nat.reduceLT, Nat.reduceLeDiff, Nat.reduceEqDiff, Nat.reduceAdd, Nat.reduceMul, Nat.reduceSub, Nat.reduceBEq, Int.reduceToNat, List.reduceReplicate, reduceCtorEq, hok, Bool.false_eq_true, if_false]
    refine ⟨⟨by omega, hlg⟩, ?_⟩
    refine hK _ ?_; clear hK K
    refine Aw_sq fun B3 hB3 hR3 hX3 => ?_
    refine Aw_sd hE [3, 4, 5, 28] [3, 5] 6 (by kernel_rfl) fun K hK => ?_
    simp only [go_sem, reduceIte, Nat.reduceLT, Nat.reduceLeDiff, Nat.reduceEqDiff, Nat.reduceAdd, Nat.reduceMul, Nat.reduceSub, Nat.reduceBEq, Int.reduceToNat, List.reduceReplicate, reduceCtorEq, hok, Bool.false_eq_true, if_false, gotsL_nil, eqGs_refl, decide_true, Bool.and_self]
    repeat (refine And.intro (by first | omega | exact hlg | exact lensG_nil | (and_intros <;> first | omega | exact hlg | exact lensG_nil | fail) | fail) ?_)
    refine hK _ (Aw_yes rfl ?_)
    refine Aw_sd hE [2] [] 6 (by kernel_rfl) fun K hK => ?_
    simp only [go_sem, reduceIte, Nat.reduceLT, Nat.reduceLeDiff, Nat.reduceEqDiff, Nat.reduceAdd, Nat.reduceMul, Nat.reduceSub, Nat.reduceBEq, Int.reduceToNat, List.reduceReplicate, reduceCtorEq, hok, Bool.false_eq_true, if_false, gotsL_nil, eqGs_refl, decide_true, Bool.and_self]
    repeat (refine And.intro (by first | omega | exact hlg | exact lensG_nil | (and_intros <;> first | omega | exact hlg | exact lensG_nil | fail) | fail) ?_)
    refine hK _ (Aw_ret (hR3 _ (hQ _ ?_)))
    simp only [go_sem, reduceIte, Nat.reduceLT, Nat.reduceLeDiff, Nat.reduceEqDiff, Nat.reduceAdd, Nat.reduceMul, Nat.reduceSub, Nat.reduceBEq, Int.reduceToNat, List.reduceReplicate, reduceCtorEq]
  | true =>
    refine Aw_st hE [3, 4, 5] [3, 5] fun K hK => ?_
    simp only [go_sem, reduceIte, Nat.reduceLT, Nat.reduceLeDiff, Nat.reduceEqDiff, Nat.reduceAdd, Nat.reduceMul, Nat.reduceSub, Nat.reduceBEq, Int.reduceToNat, List.reduceReplicate, reduceCtorEq, hok, if_true]
    refine ⟨⟨by omega, hlg⟩, ?_⟩
    refine hK _ ?_; clear hK K
    refine Aw_sq fun B3 hB3 hR3 hX3 => ?_
    have hlg2 := lensG_down (g := g) hlg
    have hlen2 : (if g = true then l.map oldG else []).length ≤ 7 := by cases g <;> simp <;> omega
    have hrk := eqGs_refl (if g = true then l.map oldG else [])
    have hok2 := ribOk_down (g := g) hok
    refine Aw_sd hE [3, 4, 5, 28] [3, 5] 6 (by kernel_rfl) fun K hK => ?_
    simp only [go_sem, reduceIte, Nat.reduceLT, Nat.reduceLeDiff, Nat.reduceEqDiff, Nat.reduceAdd, Nat.reduceMul, Nat.reduceSub, Nat.reduceBEq, Int.reduceToNat, List.reduceReplicate, reduceCtorEq, hok, if_true, hrk, decide_true, Bool.and_self]
    refine ⟨⟨by omega, hlg⟩, ⟨⟨by omega, hlg2⟩, by omega, hlg2⟩, ⟨by omega, hlg⟩, ?_⟩
    refine hK _ (Aw_no rfl (Aw_skip (hB3 _ ?_)))
    refine Aw_sq fun B7 hB7 hR7 hX7 => ?_
    cases g with
    | false =>
      refine Aw_st hE [3, 5, 35] [3, 5] fun K hK => ?_
      simp only [go_sem, reduceIte, Nat.reduceLT, Nat.reduceLeDiff, Nat.reduceEqDiff, Nat.reduceAdd, Nat.reduceMul, Nat.reduceSub, Nat.reduceBEq, Int.reduceToNat, List.reduceReplicate, reduceCtorEq, Bool.false_eq_true, if_false]
      refine hK _ (Aw_yes rfl ?_)
      refine Aw_st hE [2] [] fun K hK => ?_
      simp only [go_sem, reduceIte, Nat.reduceLT, Nat.reduceLeDiff, Nat.reduceEqDiff, Nat.reduceAdd, Nat.reduceMul, Nat.reduceSub, Nat.reduceBEq, Int.reduceToNat, List.reduceReplicate, reduceCtorEq]
      refine hK _ (Aw_ret (hR7 _ (hQ _ ?_)))
      simp only [go_sem, reduceIte, Nat.reduceLT, Nat.reduceLeDiff, Nat.reduceEqDiff, Nat.reduceAdd, Nat.reduceMul, Nat.reduceSub, Nat.reduceBEq, Int.reduceToNat, List.reduceReplicate, reduceCtorEq]
      rfl
    | true =>
      simp only [if_true] at hlg2 hlen2 hok2 ⊢
      refine Aw_st hE [3, 5, 35] [3, 5] fun K hK => ?_
      simp only [go_sem, reduceIte, Nat.reduceLT, Nat.reduceLeDiff, Nat.reduceEqDiff, Nat.reduceAdd, Nat.reduceMul, Nat.reduceSub, Nat.reduceBEq, Int.reduceToNat, List.reduceReplicate, reduceCtorEq]
      refine hK _ (Aw_no rfl (Aw_skip (hB7 _ ?_)))
      refine Aw_sq fun B9 hB9 hR9 hX9 => ?_
      refine Aw_st hE [3, 5, 6] [3, 5] fun K hK => ?_
      simp only [go_sem, reduceIte, Nat.reduceLT, Nat.reduceLeDiff, Nat.reduceEqDiff, Nat.reduceAdd, Nat.reduceMul, Nat.reduceSub, Nat.reduceBEq, Int.reduceToNat, List.reduceReplicate, reduceCtorEq]
      refine hK _ ?_; clear hK K
      refine Aw_bk fun B10 hN10 hE10 hR10 hX10 => ?_
      refine Aw_lp (fun i : Nat => ⟨97, [(3, .loc 3 0), (5, .loc 5 0), (6, iv i)], [(3, [iv h0, bv up, .sl none (grows l)]), (5, [iv h0, bv false, .sl none (grows (l.map oldG))])], k⟩) (fun i => i ≤ l.length) (fun i => l.length - i) 0 (Le.refl _) (by omega) fun i hi B11 hN11 hR11 hX11 => ?_
      have hml : (l.map oldG).length = l.length := List.length_map _
      refine Aw_sq fun B12 hB12 hR12 hX12 => ?_
      refine Aw_st hE [3, 5, 6, 49] [3, 5] fun K hK => ?_
      simp only [go_sem, reduceIte, Nat.reduceLT, Nat.reduceLeDiff, Nat.reduceEqDiff, Nat.reduceAdd, Nat.reduceMul, Nat.reduceSub, Nat.reduceBEq, Int.reduceToNat, List.reduceReplicate, reduceCtorEq, hml]
      refine hK _ (Aw_cond rfl (fun hc13 => ?_) (fun hc13 => ?_))
      · simp only [decide_eq_true_eq] at hc13
        have hil : i < l.length := by omega
        have hget := grows_get l i hil
        have hget2 := grows_get (l.map oldG) i (by omega)
        rw [List.getElem_map] at hget2
        have hln := hlg _ (List.getElem_mem hil)
        generalize l[i] = x at hget hget2 hln
        obtain ⟨⟨rf, rb, p, rk, m⟩, old⟩ := x
        simp only [oldG] at hget2
        simp only at hln
        refine Aw_skip (hB12 _ ?_)
        refine Aw_sq fun B14 hB14 hR14 hX14 => ?_
        refine Aw_bk fun B15 hN15 hE15 hR15 hX15 => ?_
        refine Aw_se hE [0, 2, 1, 3, 4, 5, 6, 7, 8, 9, 10, 11, 12, 13, 14, 15, 16, 17, 18, 19, 20, 21, 22] [0, 1, 0, 7, 15, 31, 63, 127, 255, 511, 255, 2047, 4095, 8191, 255, 16639, 255, 114943, 246015, 508159, 1048575, 2097151, 4194303] [3, 5, 6, 74] [3, 5] (by kernel_rfl) fun K hK => ?_
        refine daopsE_cut 6 fun K1 hK1 => ?_
        simp only [go_sem, reduceIte, Nat.reduceLT, Nat.reduceLeDiff, Nat.reduceEqDiff, Nat.reduceAdd, Nat.reduceMul, Nat.reduceSub, Nat.reduceBEq, Int.reduceToNat, List.reduceReplicate, reduceCtorEq, hget, hget2, Bool.not_true, Bool.not_false, and_self, decide_true]
        repeat (refine And.intro (by first | omega | (and_intros <;> first | omega | exact rows_row _ | decide | (simp; done) | (simp; omega)) | fail) ?_)
        refine hK1 _ ?_
        clear hK1
        refine daopsE_cut 6 fun K1 hK1 => ?_
        simp only [go_sem, reduceIte, Nat.reduceLT, Nat.reduceLeDiff, Nat.reduceEqDiff, Nat.reduceAdd, Nat.reduceMul, Nat.reduceSub, Nat.reduceBEq, Int.reduceToNat, List.reduceReplicate, reduceCtorEq, hget, hget2, Bool.not_true, Bool.not_false, and_self, decide_true]
        repeat (refine And.intro (by first | omega | (and_intros <;> first | omega | exact rows_row _ | decide | (simp; done) | (simp; omega)) | fail) ?_)
        refine hK1 _ ?_
        clear hK1
        refine daopsE_cut 6 fun K1 hK1 => ?_
        simp only [go_sem, reduceIte, Nat.reduceLT, Nat.reduceLeDiff, Nat.reduceEqDiff, Nat.reduceAdd, Nat.reduceMul, Nat.reduceSub, Nat.reduceBEq, Int.reduceToNat, List.reduceReplicate, reduceCtorEq, hget, hget2, Bool.not_true, Bool.not_false, and_self, decide_true]
        repeat (refine And.intro (by first | omega | (and_intros <;> first | omega | exact rows_row _ | decide | (simp; done) | (simp; omega)) | fail) ?_)
        refine hK1 _ ?_
        clear hK1
        simp only [go_sem, reduceIte, Nat.reduceLT, Nat.reduceLeDiff, Nat.reduceEqDiff, Nat.reduceAdd, Nat.reduceMul, Nat.reduceSub, Nat.reduceBEq, Int.reduceToNat, List.reduceReplicate, reduceCtorEq, hget, hget2, Bool.not_true, Bool.not_false, and_self, decide_true]
        repeat (refine And.intro (by first | omega | (and_intros <;> first | omega | exact rows_row _ | decide | (simp; done) | (simp; omega)) | fail) ?_)
        refine hK _ (Aw_no rfl (Aw_skip (hN15 _ (hB14 _ ?_))))
        refine Aw_tx hE [3, 5, 6] [3, 5] fun K hK => ?_
        simp only [go_sem, reduceIte, Nat.reduceLT, Nat.reduceLeDiff, Nat.reduceEqDiff, Nat.reduceAdd, Nat.reduceMul, Nat.reduceSub, Nat.reduceBEq, Int.reduceToNat, List.reduceReplicate, reduceCtorEq]
        repeat (refine And.intro (by first | omega | (and_intros <;> first | omega | exact rows_row _ | decide | (simp; done) | (simp; omega)) | fail) ?_)
        refine hK _ (hN11 (i + 1) _ (by omega) (by omega) (Le.refl _))
      · refine Aw_exit (hX12 _ _ (hX11 _ _ (hE10 _ (hB9 _ ?_))))
        have hrk2 := eqGs_refl (l.map oldG)
        have hml2 : ((l.map oldG).map oldG).length = l.length := by simp
        refine Aw_sd hE [2] [] 6 (by kernel_rfl) fun K hK => ?_
        simp only [go_sem, reduceIte, Nat.reduceLT, Nat.reduceLeDiff, Nat.reduceEqDiff, Nat.reduceAdd, Nat.reduceMul, Nat.reduceSub, Nat.reduceBEq, Int.reduceToNat, List.reduceReplicate, reduceCtorEq, hml, hok2, if_true, old_old, hrk2, decide_true, Bool.and_self]
        refine ⟨⟨by omega, hlg2⟩, ⟨by omega, hlg2⟩, ⟨⟨by omega, hlg2⟩, by omega, hlg2⟩, ?_⟩
        refine hK _ (Aw_ret (hQ _ ?_))
        simp only [go_sem, reduceIte, Nat.reduceLT, Nat.reduceLeDiff, Nat.reduceEqDiff, Nat.reduceAdd, Nat.reduceMul, Nat.reduceSub, Nat.reduceBEq, Int.reduceToNat, List.reduceReplicate, reduceCtorEq]
end Go.Proofs.W
end
