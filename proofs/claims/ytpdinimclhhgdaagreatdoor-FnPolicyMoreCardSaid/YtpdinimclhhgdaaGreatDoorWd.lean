/- YtpdinimclhhgdaaGreatDoorWd: part of the proof that a clause behind all changes just what no other one fits, for every input that the row speaks of (no condition of ours). -/
import Derived.Test.YtpdinimclhhgdaaGreatDoorWc
import Derived.Test.YtpdinimclhhgdaaGreatDoorWb
import Derived.Test.YtpdinimclhhgdaaGreatDoorEc
set_option linter.unusedVariables false
set_option linter.unusedSimpArgs false
section
namespace Go.Proofs.W
open Go Go.Eng Go.RowKit
set_option linter.unusedSimpArgs false
set_option maxRecDepth 100000

theorem polDo_skip {r : Rt} : ∀ {l : List Cl} (i : Nat), (∀ x ∈ l.take i, fitsB x r = false) → polDo l r = polDo (l.drop i) r
  | [], _, _ => by simp
  | _ :: _, 0, _ => by simp
  | c :: l, i + 1, h => by
    rw [List.drop_succ_cons, polDo, h c (by simp)]
    exact polDo_skip i fun x hx => h x (by simp [hx])
theorem polDo_idx {l : List Cl} {r : Rt} (h1 : polOk l = true) (h2 : okR r = true) : (idxB (fun c => clOk c && (okR r && fitsB c r)) l 0 = -1 ∧ polDo l r = none) ∨ ∃ i, ∃ h : i < l.length, idxB (fun c => clOk c && (okR r && fitsB c r)) l 0 = (i : Int) ∧ polDo l r = if l[i].ref then none else some (doC l[i] r) := by
  have hall := polOk_mem h1
  have hf : ∀ c ∈ l, (clOk c && (okR r && fitsB c r)) = fitsB c r := fun c hc => by rw [hall c hc, h2]; simp
  rcases idxB_some (f := fun c => clOk c && (okR r && fitsB c r)) (l := l) (k := 0) with ⟨e1, e2⟩ | ⟨i, h, e1, e2, e3⟩
  · refine .inl ⟨e1, ?_⟩
    rw [polDo_skip l.length fun x hx => by
      have hx' := List.mem_of_mem_take hx
      rw [← hf x hx']; exact e2 x hx', List.drop_length]
    rfl
  · refine .inr ⟨i, h, by simpa using e1, ?_⟩
    rw [polDo_skip i fun x hx => by
      have hx' := List.mem_of_mem_take hx
      rw [← hf x hx']; exact e3 x hx, polDo_drop h, ← hf _ (List.getElem_mem h), e2]
    rfl
theorem rtOk_mk2 {f b : Int} {p : List Int} {k : Int} {m : List Int} (h : rtOk f b p k m = true) {x : Int} (hx : isM x = true) : rtOk f b p k (mkL m x) = true := by
  simp only [rtOk, Bool.and_eq_true] at h ⊢
  exact ⟨h.1, h.2.1, h.2.2.1, h.2.2.2.1, h.2.2.2.2.1, mkL_mOk h.2.2.2.2.2 hx⟩
theorem rtOk_lk {f b : Int} {p : List Int} {k : Int} {m : List Int} (h : rtOk f b p k m = true) {x : Int} (h1 : 0 ≤ x) (h2 : x ≤ 9) : rtOk f b p x m = true := by
  simp only [rtOk, Bool.and_eq_true, decide_eq_true_eq] at h ⊢
  exact ⟨h.1, h.2.1, h.2.2.1, h1, h2, h.2.2.2.2.2⟩
def dPDoI (pb : Addr) : DFn := { g := gPDo, inv := WP pb }
attribute [go_sem] dPDoI
theorem iPDo_ok (pb : Addr) : Fine Tryz.prog 14 (dPDoI pb).con := by
  refine fine_det (T := TT) Tryz.func14 rfl Tryz.ntmps14 (by rw [Tryz.results14]) rfl rfl tt gs_nil (ds_cons (iPolOk_ok pb) (ds_cons (iRtOk_ok pb) (ds_cons (idC_ok pb) (ds_cons copyD_ok (ds_cons (iMark_ok pb) (ds_cons (iClear_ok pb) ds_nil (wp_inh pb)) (wp_inh pb))) (wp_inh pb)) (wp_inh pb)) (wp_inh pb)) ?_
  intro args c r h hc
  simp only [dPDoI, gPDo] at h
  split at h
  rotate_left
  · cases h
  split at h
  rotate_left
  · cases h
  rename_i t els rf rb t1 e1 rk t2 e2 _ _ _ l p m hcl hl1 hl2
  obtain rfl := clsL_eq hcl
  obtain rfl := intsL_eq hl1
  obtain rfl := intsL_eq hl2
  obtain ⟨rfl, rfl⟩ := Prod.mk.inj (Option.some.inj h)
  refine ⟨by simp, fun k E hE Q hQ => ?_⟩
  obtain ⟨hll, hpl, hml⟩ := hc
  cases h1 : polOk l with
  | false =>
    have hres : policyDo l ⟨rf, rb, p, rk, m⟩ = none := by simp [policyDo, h1]
    refine Aw_st hE [0, 3, 4] [3, 4] fun K hK => ?_
    simp only [go_sem, reduceIte, Nat.reduceLT, Nat.reduceLeDiff, Nat.reduceEqDiff, Nat.reduceAdd, Nat.reduceMul, Nat.reduceSub, Nat.reduceBEq, Int.reduceToNat, List.reduceReplicate, reduceCtorEq]
    repeat (refine And.intro (by first | omega | (and_intros <;> first | omega | exact rows_row _ | decide | (simp; done) | (simp; omega)) | fail) ?_)
    refine hK _ ?_; clear hK K
    refine Aw_sq fun B1 hB1 hR1 hX1 => ?_
    refine Aw_st hE [0, 3, 4, 15] [3, 4] fun K hK => ?_
    simp only [go_sem, reduceIte, Nat.reduceLT, Nat.reduceLeDiff, Nat.reduceEqDiff, Nat.reduceAdd, Nat.reduceMul, Nat.reduceSub, Nat.reduceBEq, Int.reduceToNat, List.reduceReplicate, reduceCtorEq, h1]
    repeat (refine And.intro (by first | omega | (and_intros <;> first | omega | exact rows_row _ | decide | (simp; done) | (simp; omega)) | fail) ?_)
    refine hK _ (Aw_yes rfl ?_)
    refine Aw_st hE [4, 5] [4] fun K hK => ?_
    simp only [go_sem, reduceIte, Nat.reduceLT, Nat.reduceLeDiff, Nat.reduceEqDiff, Nat.reduceAdd, Nat.reduceMul, Nat.reduceSub, Nat.reduceBEq, Int.reduceToNat, List.reduceReplicate, reduceCtorEq]
    repeat (refine And.intro (by first | omega | (and_intros <;> first | omega | exact rows_row _ | decide | (simp; done) | (simp; omega)) | fail) ?_)
    refine hK _ (Aw_ret (hR1 _ (hQ _ ?_)))
    simp only [go_sem, reduceIte, Nat.reduceLT, Nat.reduceLeDiff, Nat.reduceEqDiff, Nat.reduceAdd, Nat.reduceMul, Nat.reduceSub, Nat.reduceBEq, Int.reduceToNat, List.reduceReplicate, reduceCtorEq, hres, resR, rt0]
    rfl
  | true =>
  cases h2 : okR ⟨rf, rb, p, rk, m⟩ with
  | false =>
    have hres : policyDo l ⟨rf, rb, p, rk, m⟩ = none := by simp [policyDo, h1, h2]
    have h3 : rtOk rf rb p rk m = false := h2
    refine Aw_st hE [0, 3, 4] [3, 4] fun K hK => ?_
    simp only [go_sem, reduceIte, Nat.reduceLT, Nat.reduceLeDiff, Nat.reduceEqDiff, Nat.reduceAdd, Nat.reduceMul, Nat.reduceSub, Nat.reduceBEq, Int.reduceToNat, List.reduceReplicate, reduceCtorEq]
    repeat (refine And.intro (by first | omega | (and_intros <;> first | omega | exact rows_row _ | decide | (simp; done) | (simp; omega)) | fail) ?_)
    refine hK _ ?_; clear hK K
    refine Aw_sq fun B1 hB1 hR1 hX1 => ?_
    refine Aw_st hE [0, 3, 4, 15] [3, 4] fun K hK => ?_
    simp only [go_sem, reduceIte, Nat.reduceLT, Nat.reduceLeDiff, Nat.reduceEqDiff, Nat.reduceAdd, Nat.reduceMul, Nat.reduceSub, Nat.reduceBEq, Int.reduceToNat, List.reduceReplicate, reduceCtorEq, h1, h3]
    repeat (refine And.intro (by first | omega | (and_intros <;> first | omega | exact rows_row _ | decide | (simp; done) | (simp; omega)) | fail) ?_)
    refine hK _ (Aw_yes rfl ?_)
    refine Aw_st hE [4, 5] [4] fun K hK => ?_
    simp only [go_sem, reduceIte, Nat.reduceLT, Nat.reduceLeDiff, Nat.reduceEqDiff, Nat.reduceAdd, Nat.reduceMul, Nat.reduceSub, Nat.reduceBEq, Int.reduceToNat, List.reduceReplicate, reduceCtorEq]
    repeat (refine And.intro (by first | omega | (and_intros <;> first | omega | exact rows_row _ | decide | (simp; done) | (simp; omega)) | fail) ?_)
    refine hK _ (Aw_ret (hR1 _ (hQ _ ?_)))
    simp only [go_sem, reduceIte, Nat.reduceLT, Nat.reduceLeDiff, Nat.reduceEqDiff, Nat.reduceAdd, Nat.reduceMul, Nat.reduceSub, Nat.reduceBEq, Int.reduceToNat, List.reduceReplicate, reduceCtorEq, hres, resR, rt0]
    rfl
  | true =>
  have h2r : rtOk rf rb p rk m = true := h2
  have hpol : policyDo l ⟨rf, rb, p, rk, m⟩ = polDo l ⟨rf, rb, p, rk, m⟩ := by simp [policyDo, h1, h2]
  have hl5 := polOk_len h1
  rcases polDo_idx h1 h2 with ⟨hidx, hst⟩ | ⟨i, hil, hidx, hst⟩
  · have e9 : decide ((-1 : Int) < 0) = true := rfl
    refine Aw_st hE [0, 3, 4] [3, 4] fun K hK => ?_
    simp only [go_sem, reduceIte, Nat.reduceLT, Nat.reduceLeDiff, Nat.reduceEqDiff, Nat.reduceAdd, Nat.reduceMul, Nat.reduceSub, Nat.reduceBEq, Int.reduceToNat, List.reduceReplicate, reduceCtorEq]
    repeat (refine And.intro (by first | omega | (and_intros <;> first | omega | exact rows_row _ | decide | (simp; done) | (simp; omega)) | fail) ?_)
    refine hK _ ?_; clear hK K
    refine Aw_sq fun B1 hB1 hR1 hX1 => ?_
    refine Aw_st hE [0, 3, 4, 15] [3, 4] fun K hK => ?_
    simp only [go_sem, reduceIte, Nat.reduceLT, Nat.reduceLeDiff, Nat.reduceEqDiff, Nat.reduceAdd, Nat.reduceMul, Nat.reduceSub, Nat.reduceBEq, Int.reduceToNat, List.reduceReplicate, reduceCtorEq, h1, h2r]
    repeat (refine And.intro (by first | omega | (and_intros <;> first | omega | exact rows_row _ | decide | (simp; done) | (simp; omega)) | fail) ?_)
    refine hK _ (Aw_no rfl ?_)
    refine Aw_skip (hB1 _ ?_)
    refine Aw_st hE [0, 3, 4, 6] [3, 4] fun K hK => ?_
    simp only [go_sem, reduceIte, Nat.reduceLT, Nat.reduceLeDiff, Nat.reduceEqDiff, Nat.reduceAdd, Nat.reduceMul, Nat.reduceSub, Nat.reduceBEq, Int.reduceToNat, List.reduceReplicate, reduceCtorEq, hidx]
    repeat (refine And.intro (by first | omega | (and_intros <;> first | omega | exact rows_row _ | decide | (simp; done) | (simp; omega)) | fail) ?_)
    skip
    refine hK _ ?_; clear hK K
    refine Aw_sq fun B3 hB3 hR3 hX3 => ?_
    refine Aw_st hE [0, 3, 4, 6, 28] [3, 4] fun K hK => ?_
    simp only [go_sem, reduceIte, Nat.reduceLT, Nat.reduceLeDiff, Nat.reduceEqDiff, Nat.reduceAdd, Nat.reduceMul, Nat.reduceSub, Nat.reduceBEq, Int.reduceToNat, List.reduceReplicate, reduceCtorEq, e9]
    repeat (refine And.intro (by first | omega | (and_intros <;> first | omega | exact rows_row _ | decide | (simp; done) | (simp; omega)) | fail) ?_)
    skip
    refine hK _ (Aw_yes rfl ?_)
    refine Aw_st hE [4, 5] [4] fun K hK => ?_
    simp only [go_sem, reduceIte, Nat.reduceLT, Nat.reduceLeDiff, Nat.reduceEqDiff, Nat.reduceAdd, Nat.reduceMul, Nat.reduceSub, Nat.reduceBEq, Int.reduceToNat, List.reduceReplicate, reduceCtorEq]
    repeat (refine And.intro (by first | omega | (and_intros <;> first | omega | exact rows_row _ | decide | (simp; done) | (simp; omega)) | fail) ?_)
    refine hK _ (Aw_ret (hR3 _ (hQ _ ?_)))
    simp only [go_sem, reduceIte, Nat.reduceLT, Nat.reduceLeDiff, Nat.reduceEqDiff, Nat.reduceAdd, Nat.reduceMul, Nat.reduceSub, Nat.reduceBEq, Int.reduceToNat, List.reduceReplicate, reduceCtorEq, hpol, hst, resR, rt0]
    rfl
  have e9 : decide ((i : Int) < 0) = false := decide_eq_false (by omega)
  have hget := crows_get l i hil
  have hco := polOk_mem h1 _ (List.getElem_mem hil)
  generalize l[i] = c at hget hst hco
  obtain ⟨ci, n, f, b, ref, like, mark, clear⟩ := c
  obtain ⟨hlk, hmk, hclr, _⟩ := clOk_parts hco
  simp only at hlk hmk hclr hst
  have hsr := mOk_srt (okR_parts h2).2.2.2.2
  simp only at hsr
  cases ref with
  | true =>
    rw [if_pos rfl] at hst
    refine Aw_st hE [0, 3, 4] [3, 4] fun K hK => ?_
    simp only [go_sem, reduceIte, Nat.reduceLT, Nat.reduceLeDiff, Nat.reduceEqDiff, Nat.reduceAdd, Nat.reduceMul, Nat.reduceSub, Nat.reduceBEq, Int.reduceToNat, List.reduceReplicate, reduceCtorEq]
    repeat (refine And.intro (by first | omega | (and_intros <;> first | omega | exact rows_row _ | decide | (simp; done) | (simp; omega)) | fail) ?_)
    refine hK _ ?_; clear hK K
    refine Aw_sq fun B1 hB1 hR1 hX1 => ?_
    refine Aw_st hE [0, 3, 4, 15] [3, 4] fun K hK => ?_
    simp only [go_sem, reduceIte, Nat.reduceLT, Nat.reduceLeDiff, Nat.reduceEqDiff, Nat.reduceAdd, Nat.reduceMul, Nat.reduceSub, Nat.reduceBEq, Int.reduceToNat, List.reduceReplicate, reduceCtorEq, h1, h2r]
    repeat (refine And.intro (by first | omega | (and_intros <;> first | omega | exact rows_row _ | decide | (simp; done) | (simp; omega)) | fail) ?_)
    refine hK _ (Aw_no rfl ?_)
    refine Aw_skip (hB1 _ ?_)
    refine Aw_st hE [0, 3, 4, 6] [3, 4] fun K hK => ?_
    simp only [go_sem, reduceIte, Nat.reduceLT, Nat.reduceLeDiff, Nat.reduceEqDiff, Nat.reduceAdd, Nat.reduceMul, Nat.reduceSub, Nat.reduceBEq, Int.reduceToNat, List.reduceReplicate, reduceCtorEq, hidx]
    repeat (refine And.intro (by first | omega | (and_intros <;> first | omega | exact rows_row _ | decide | (simp; done) | (simp; omega)) | fail) ?_)
    skip
    refine hK _ ?_; clear hK K
    refine Aw_sq fun B3 hB3 hR3 hX3 => ?_
    refine Aw_st hE [0, 3, 4, 6, 28] [3, 4] fun K hK => ?_
    simp only [go_sem, reduceIte, Nat.reduceLT, Nat.reduceLeDiff, Nat.reduceEqDiff, Nat.reduceAdd, Nat.reduceMul, Nat.reduceSub, Nat.reduceBEq, Int.reduceToNat, List.reduceReplicate, reduceCtorEq, e9, hget]
    repeat (refine And.intro (by first | omega | (and_intros <;> first | omega | exact rows_row _ | decide | (simp; done) | (simp; omega)) | fail) ?_)
    skip
    refine hK _ (Aw_yes rfl ?_)
    refine Aw_st hE [4, 5] [4] fun K hK => ?_
    simp only [go_sem, reduceIte, Nat.reduceLT, Nat.reduceLeDiff, Nat.reduceEqDiff, Nat.reduceAdd, Nat.reduceMul, Nat.reduceSub, Nat.reduceBEq, Int.reduceToNat, List.reduceReplicate, reduceCtorEq]
    repeat (refine And.intro (by first | omega | (and_intros <;> first | omega | exact rows_row _ | decide | (simp; done) | (simp; omega)) | fail) ?_)
    refine hK _ (Aw_ret (hR3 _ (hQ _ ?_)))
    simp only [go_sem, reduceIte, Nat.reduceLT, Nat.reduceLeDiff, Nat.reduceEqDiff, Nat.reduceAdd, Nat.reduceMul, Nat.reduceSub, Nat.reduceBEq, Int.reduceToNat, List.reduceReplicate, reduceCtorEq, hpol, hst, resR, rt0]
    rfl
  | false =>
  rw [if_neg (by simp)] at hst
  have hokL : 0 ≤ like → rtOk rf rb p like m = true := fun h => rtOk_lk h2r h hlk.2
  have hlm : (mkL m mark).length ≤ 100000 := by have := mkL_len hsr mark; omega
  refine Aw_st hE [0, 3, 4] [3, 4] fun K hK => ?_
  simp only [go_sem, reduceIte, Nat.reduceLT, Nat.reduceLeDiff, Nat.reduceEqDiff, Nat.reduceAdd, Nat.reduceMul, Nat.reduceSub, Nat.reduceBEq, Int.reduceToNat, List.reduceReplicate, reduceCtorEq]
  repeat (refine And.intro (by first | omega | (and_intros <;> first | omega | exact rows_row _ | decide | (simp; done) | (simp; omega)) | fail) ?_)
  refine hK _ ?_; clear hK K
  refine Aw_sq fun B1 hB1 hR1 hX1 => ?_
  refine Aw_st hE [0, 3, 4, 15] [3, 4] fun K hK => ?_
  simp only [go_sem, reduceIte, Nat.reduceLT, Nat.reduceLeDiff, Nat.reduceEqDiff, Nat.reduceAdd, Nat.reduceMul, Nat.reduceSub, Nat.reduceBEq, Int.reduceToNat, List.reduceReplicate, reduceCtorEq, h1, h2r]
  repeat (refine And.intro (by first | omega | (and_intros <;> first | omega | exact rows_row _ | decide | (simp; done) | (simp; omega)) | fail) ?_)
  refine hK _ (Aw_no rfl ?_)
  refine Aw_skip (hB1 _ ?_)
  refine Aw_st hE [0, 3, 4, 6] [3, 4] fun K hK => ?_
  simp only [go_sem, reduceIte, Nat.reduceLT, Nat.reduceLeDiff, Nat.reduceEqDiff, Nat.reduceAdd, Nat.reduceMul, Nat.reduceSub, Nat.reduceBEq, Int.reduceToNat, List.reduceReplicate, reduceCtorEq, hidx]
  repeat (refine And.intro (by first | omega | (and_intros <;> first | omega | exact rows_row _ | decide | (simp; done) | (simp; omega)) | fail) ?_)
  skip
  refine hK _ ?_; clear hK K
  refine Aw_sq fun B3 hB3 hR3 hX3 => ?_
  refine Aw_st hE [0, 3, 4, 6, 28] [3, 4] fun K hK => ?_
  simp only [go_sem, reduceIte, Nat.reduceLT, Nat.reduceLeDiff, Nat.reduceEqDiff, Nat.reduceAdd, Nat.reduceMul, Nat.reduceSub, Nat.reduceBEq, Int.reduceToNat, List.reduceReplicate, reduceCtorEq, e9, hget]
  repeat (refine And.intro (by first | omega | (and_intros <;> first | omega | exact rows_row _ | decide | (simp; done) | (simp; omega)) | fail) ?_)
  skip
  refine hK _ (Aw_no rfl ?_)
  refine Aw_skip (hB3 _ ?_)
  refine Aw_st hE [0, 4, 6, 7] [4, 7] fun K hK => ?_
  simp only [go_sem, reduceIte, Nat.reduceLT, Nat.reduceLeDiff, Nat.reduceEqDiff, Nat.reduceAdd, Nat.reduceMul, Nat.reduceSub, Nat.reduceBEq, Int.reduceToNat, List.reduceReplicate, reduceCtorEq]
  repeat (refine And.intro (by first | omega | (and_intros <;> first | omega | exact rows_row _ | decide | (simp; done) | (simp; omega)) | fail) ?_)
  refine hK _ ?_; clear hK K
  refine Aw_sq fun B5 hB5 hR5 hX5 => ?_
  refine Aw_st hE [0, 4, 6, 7, 37] [4, 7] fun K hK => ?_
  simp only [go_sem, reduceIte, Nat.reduceLT, Nat.reduceLeDiff, Nat.reduceEqDiff, Nat.reduceAdd, Nat.reduceMul, Nat.reduceSub, Nat.reduceBEq, Int.reduceToNat, List.reduceReplicate, reduceCtorEq, hget]
  repeat (refine And.intro (by first | omega | (and_intros <;> first | omega | exact rows_row _ | decide | (simp; done) | (simp; omega)) | fail) ?_)
  skip
  refine hK _ (Aw_cond rfl (fun hc6 => ?_) (fun hc6 => ?_))
  · simp only [decide_eq_true_eq] at hc6
    have hk := hokL hc6
    refine Aw_tx hE [0, 4, 6, 7] [4, 7] fun K hK => ?_
    simp only [go_sem, reduceIte, Nat.reduceLT, Nat.reduceLeDiff, Nat.reduceEqDiff, Nat.reduceAdd, Nat.reduceMul, Nat.reduceSub, Nat.reduceBEq, Int.reduceToNat, List.reduceReplicate, reduceCtorEq, hget]
    repeat (refine And.intro (by first | omega | (and_intros <;> first | omega | exact rows_row _ | decide | (simp; done) | (simp; omega)) | fail) ?_)
    skip
    refine hK _ (hB5 _ ?_)
    refine Aw_sq fun B7 hB7 hR7 hX7 => ?_
    refine Aw_st hE [0, 4, 6, 7, 49] [4, 7] fun K hK => ?_
    simp only [go_sem, reduceIte, Nat.reduceLT, Nat.reduceLeDiff, Nat.reduceEqDiff, Nat.reduceAdd, Nat.reduceMul, Nat.reduceSub, Nat.reduceBEq, Int.reduceToNat, List.reduceReplicate, reduceCtorEq, hget]
    repeat (refine And.intro (by first | omega | (and_intros <;> first | omega | exact rows_row _ | decide | (simp; done) | (simp; omega)) | fail) ?_)
    skip
    refine hK _ (Aw_cond rfl (fun hc8 => ?_) (fun hc8 => ?_))
    · simp only [Bool.not_eq_true', decide_eq_false_iff_not] at hc8
      have hm : 0 < mark := by omega
      have hM : isM mark = true := isM_of hm hmk.2
      have hk2 := rtOk_mk2 hk hM
      refine Aw_tz hE [7,999999] [0, 4, 6, 7] [4, 7] 6 (by kernel_rfl) fun K hK => ?_
      simp only [go_sem, reduceIte, Nat.reduceLT, Nat.reduceLeDiff, Nat.reduceEqDiff, Nat.reduceAdd, Nat.reduceMul, Nat.reduceSub, Nat.reduceBEq, Int.reduceToNat, List.reduceReplicate, reduceCtorEq, hget, hk, hM]
      repeat (refine And.intro (by first | omega | (and_intros <;> first | omega | exact rows_row _ | decide | (simp; done) | (simp; omega)) | fail) ?_)
      skip
      refine hK _ (hB7 _ ?_)
      refine Aw_sq fun B9 hB9 hR9 hX9 => ?_
      refine Aw_st hE [0, 4, 6, 7, 65] [4, 7] fun K hK => ?_
      simp only [go_sem, reduceIte, Nat.reduceLT, Nat.reduceLeDiff, Nat.reduceEqDiff, Nat.reduceAdd, Nat.reduceMul, Nat.reduceSub, Nat.reduceBEq, Int.reduceToNat, List.reduceReplicate, reduceCtorEq, hget]
      repeat (refine And.intro (by first | omega | (and_intros <;> first | omega | exact rows_row _ | decide | (simp; done) | (simp; omega)) | fail) ?_)
      skip
      refine hK _ (Aw_cond rfl (fun hc10 => ?_) (fun hc10 => ?_))
      · simp only [Bool.not_eq_true', decide_eq_false_iff_not] at hc10
        have hcc : 0 < clear := by omega
        have hC : isM clear = true := isM_of hcc hclr.2
        refine Aw_tz hE [7,999999] [4, 7] [4, 7] 6 (by kernel_rfl) fun K hK => ?_
        simp only [go_sem, reduceIte, Nat.reduceLT, Nat.reduceLeDiff, Nat.reduceEqDiff, Nat.reduceAdd, Nat.reduceMul, Nat.reduceSub, Nat.reduceBEq, Int.reduceToNat, List.reduceReplicate, reduceCtorEq, hget, hk2, hC]
        repeat (refine And.intro (by first | omega | (and_intros <;> first | omega | exact rows_row _ | decide | (simp; done) | (simp; omega)) | fail) ?_)
        skip
        refine hK _ (hB9 _ ?_)
        refine Aw_st hE [4, 5] [4] fun K hK => ?_
        simp only [go_sem, reduceIte, Nat.reduceLT, Nat.reduceLeDiff, Nat.reduceEqDiff, Nat.reduceAdd, Nat.reduceMul, Nat.reduceSub, Nat.reduceBEq, Int.reduceToNat, List.reduceReplicate, reduceCtorEq]
        repeat (refine And.intro (by first | omega | (and_intros <;> first | omega | exact rows_row _ | decide | (simp; done) | (simp; omega)) | fail) ?_)
        refine hK _ (Aw_ret (hQ _ ?_))
        simp only [go_sem, reduceIte, Nat.reduceLT, Nat.reduceLeDiff, Nat.reduceEqDiff, Nat.reduceAdd, Nat.reduceMul, Nat.reduceSub, Nat.reduceBEq, Int.reduceToNat, List.reduceReplicate, reduceCtorEq]
        simp [hpol, hst, resR, doC, marksC, hm, hcc, hc6]
      · simp only [Bool.not_eq_false', decide_eq_true_eq] at hc10
        have hcc : ¬ 0 < clear := by omega
        refine Aw_skip (hB9 _ ?_)
        refine Aw_st hE [4, 5] [4] fun K hK => ?_
        simp only [go_sem, reduceIte, Nat.reduceLT, Nat.reduceLeDiff, Nat.reduceEqDiff, Nat.reduceAdd, Nat.reduceMul, Nat.reduceSub, Nat.reduceBEq, Int.reduceToNat, List.reduceReplicate, reduceCtorEq]
        repeat (refine And.intro (by first | omega | (and_intros <;> first | omega | exact rows_row _ | decide | (simp; done) | (simp; omega)) | fail) ?_)
        refine hK _ (Aw_ret (hQ _ ?_))
        simp only [go_sem, reduceIte, Nat.reduceLT, Nat.reduceLeDiff, Nat.reduceEqDiff, Nat.reduceAdd, Nat.reduceMul, Nat.reduceSub, Nat.reduceBEq, Int.reduceToNat, List.reduceReplicate, reduceCtorEq]
        simp [hpol, hst, resR, doC, marksC, hm, hcc, hc6]
    · simp only [Bool.not_eq_false', decide_eq_true_eq] at hc8
      have hm : ¬ 0 < mark := by omega
      have hk2 := hk
      refine Aw_skip (hB7 _ ?_)
      refine Aw_sq fun B11 hB11 hR11 hX11 => ?_
      refine Aw_st hE [0, 4, 6, 7, 65] [4, 7] fun K hK => ?_
      simp only [go_sem, reduceIte, Nat.reduceLT, Nat.reduceLeDiff, Nat.reduceEqDiff, Nat.reduceAdd, Nat.reduceMul, Nat.reduceSub, Nat.reduceBEq, Int.reduceToNat, List.reduceReplicate, reduceCtorEq, hget]
      repeat (refine And.intro (by first | omega | (and_intros <;> first | omega | exact rows_row _ | decide | (simp; done) | (simp; omega)) | fail) ?_)
      skip
      refine hK _ (Aw_cond rfl (fun hc12 => ?_) (fun hc12 => ?_))
      · simp only [Bool.not_eq_true', decide_eq_false_iff_not] at hc12
        have hcc : 0 < clear := by omega
        have hC : isM clear = true := isM_of hcc hclr.2
        refine Aw_tz hE [7,999999] [4, 7] [4, 7] 6 (by kernel_rfl) fun K hK => ?_
        simp only [go_sem, reduceIte, Nat.reduceLT, Nat.reduceLeDiff, Nat.reduceEqDiff, Nat.reduceAdd, Nat.reduceMul, Nat.reduceSub, Nat.reduceBEq, Int.reduceToNat, List.reduceReplicate, reduceCtorEq, hget, hk2, hC]
        repeat (refine And.intro (by first | omega | (and_intros <;> first | omega | exact rows_row _ | decide | (simp; done) | (simp; omega)) | fail) ?_)
        skip
        refine hK _ (hB11 _ ?_)
        refine Aw_st hE [4, 5] [4] fun K hK => ?_
        simp only [go_sem, reduceIte, Nat.reduceLT, Nat.reduceLeDiff, Nat.reduceEqDiff, Nat.reduceAdd, Nat.reduceMul, Nat.reduceSub, Nat.reduceBEq, Int.reduceToNat, List.reduceReplicate, reduceCtorEq]
        repeat (refine And.intro (by first | omega | (and_intros <;> first | omega | exact rows_row _ | decide | (simp; done) | (simp; omega)) | fail) ?_)
        refine hK _ (Aw_ret (hQ _ ?_))
        simp only [go_sem, reduceIte, Nat.reduceLT, Nat.reduceLeDiff, Nat.reduceEqDiff, Nat.reduceAdd, Nat.reduceMul, Nat.reduceSub, Nat.reduceBEq, Int.reduceToNat, List.reduceReplicate, reduceCtorEq]
        simp [hpol, hst, resR, doC, marksC, hm, hcc, hc6]
      · simp only [Bool.not_eq_false', decide_eq_true_eq] at hc12
        have hcc : ¬ 0 < clear := by omega
        refine Aw_skip (hB11 _ ?_)
        refine Aw_st hE [4, 5] [4] fun K hK => ?_
        simp only [go_sem, reduceIte, Nat.reduceLT, Nat.reduceLeDiff, Nat.reduceEqDiff, Nat.reduceAdd, Nat.reduceMul, Nat.reduceSub, Nat.reduceBEq, Int.reduceToNat, List.reduceReplicate, reduceCtorEq]
        repeat (refine And.intro (by first | omega | (and_intros <;> first | omega | exact rows_row _ | decide | (simp; done) | (simp; omega)) | fail) ?_)
        refine hK _ (Aw_ret (hQ _ ?_))
        simp only [go_sem, reduceIte, Nat.reduceLT, Nat.reduceLeDiff, Nat.reduceEqDiff, Nat.reduceAdd, Nat.reduceMul, Nat.reduceSub, Nat.reduceBEq, Int.reduceToNat, List.reduceReplicate, reduceCtorEq]
        simp [hpol, hst, resR, doC, marksC, hm, hcc, hc6]
  · simp only [decide_eq_false_iff_not] at hc6
    have hk := h2r
    refine Aw_skip (hB5 _ ?_)
    refine Aw_sq fun B13 hB13 hR13 hX13 => ?_
    refine Aw_st hE [0, 4, 6, 7, 49] [4, 7] fun K hK => ?_
    simp only [go_sem, reduceIte, Nat.reduceLT, Nat.reduceLeDiff, Nat.reduceEqDiff, Nat.reduceAdd, Nat.reduceMul, Nat.reduceSub, Nat.reduceBEq, Int.reduceToNat, List.reduceReplicate, reduceCtorEq, hget]
    repeat (refine And.intro (by first | omega | (and_intros <;> first | omega | exact rows_row _ | decide | (simp; done) | (simp; omega)) | fail) ?_)
    skip
    refine hK _ (Aw_cond rfl (fun hc14 => ?_) (fun hc14 => ?_))
    · simp only [Bool.not_eq_true', decide_eq_false_iff_not] at hc14
      have hm : 0 < mark := by omega
      have hM : isM mark = true := isM_of hm hmk.2
      have hk2 := rtOk_mk2 hk hM
      refine Aw_tz hE [7,999999] [0, 4, 6, 7] [4, 7] 6 (by kernel_rfl) fun K hK => ?_
      simp only [go_sem, reduceIte, Nat.reduceLT, Nat.reduceLeDiff, Nat.reduceEqDiff, Nat.reduceAdd, Nat.reduceMul, Nat.reduceSub, Nat.reduceBEq, Int.reduceToNat, List.reduceReplicate, reduceCtorEq, hget, hk, hM]
      repeat (refine And.intro (by first | omega | (and_intros <;> first | omega | exact rows_row _ | decide | (simp; done) | (simp; omega)) | fail) ?_)
      skip
      refine hK _ (hB13 _ ?_)
      refine Aw_sq fun B15 hB15 hR15 hX15 => ?_
      refine Aw_st hE [0, 4, 6, 7, 65] [4, 7] fun K hK => ?_
      simp only [go_sem, reduceIte, Nat.reduceLT, Nat.reduceLeDiff, Nat.reduceEqDiff, Nat.reduceAdd, Nat.reduceMul, Nat.reduceSub, Nat.reduceBEq, Int.reduceToNat, List.reduceReplicate, reduceCtorEq, hget]
      repeat (refine And.intro (by first | omega | (and_intros <;> first | omega | exact rows_row _ | decide | (simp; done) | (simp; omega)) | fail) ?_)
      skip
      refine hK _ (Aw_cond rfl (fun hc16 => ?_) (fun hc16 => ?_))
      · simp only [Bool.not_eq_true', decide_eq_false_iff_not] at hc16
        have hcc : 0 < clear := by omega
        have hC : isM clear = true := isM_of hcc hclr.2
        refine Aw_tz hE [7,999999] [4, 7] [4, 7] 6 (by kernel_rfl) fun K hK => ?_
        simp only [go_sem, reduceIte, Nat.reduceLT, Nat.reduceLeDiff, Nat.reduceEqDiff, Nat.reduceAdd, Nat.reduceMul, Nat.reduceSub, Nat.reduceBEq, Int.reduceToNat, List.reduceReplicate, reduceCtorEq, hget, hk2, hC]
        repeat (refine And.intro (by first | omega | (and_intros <;> first | omega | exact rows_row _ | decide | (simp; done) | (simp; omega)) | fail) ?_)
        skip
        refine hK _ (hB15 _ ?_)
        refine Aw_st hE [4, 5] [4] fun K hK => ?_
        simp only [go_sem, reduceIte, Nat.reduceLT, Nat.reduceLeDiff, Nat.reduceEqDiff, Nat.reduceAdd, Nat.reduceMul, Nat.reduceSub, Nat.reduceBEq, Int.reduceToNat, List.reduceReplicate, reduceCtorEq]
        repeat (refine And.intro (by first | omega | (and_intros <;> first | omega | exact rows_row _ | decide | (simp; done) | (simp; omega)) | fail) ?_)
        refine hK _ (Aw_ret (hQ _ ?_))
        simp only [go_sem, reduceIte, Nat.reduceLT, Nat.reduceLeDiff, Nat.reduceEqDiff, Nat.reduceAdd, Nat.reduceMul, Nat.reduceSub, Nat.reduceBEq, Int.reduceToNat, List.reduceReplicate, reduceCtorEq]
        simp [hpol, hst, resR, doC, marksC, hm, hcc, hc6]
      · simp only [Bool.not_eq_false', decide_eq_true_eq] at hc16
        have hcc : ¬ 0 < clear := by omega
        refine Aw_skip (hB15 _ ?_)
        refine Aw_st hE [4, 5] [4] fun K hK => ?_
        simp only [go_sem, reduceIte, Nat.reduceLT, Nat.reduceLeDiff, Nat.reduceEqDiff, Nat.reduceAdd, Nat.reduceMul, Nat.reduceSub, Nat.reduceBEq, Int.reduceToNat, List.reduceReplicate, reduceCtorEq]
        repeat (refine And.intro (by first | omega | (and_intros <;> first | omega | exact rows_row _ | decide | (simp; done) | (simp; omega)) | fail) ?_)
        refine hK _ (Aw_ret (hQ _ ?_))
        simp only [go_sem, reduceIte, Nat.reduceLT, Nat.reduceLeDiff, Nat.reduceEqDiff, Nat.reduceAdd, Nat.reduceMul, Nat.reduceSub, Nat.reduceBEq, Int.reduceToNat, List.reduceReplicate, reduceCtorEq]
        simp [hpol, hst, resR, doC, marksC, hm, hcc, hc6]
    · simp only [Bool.not_eq_false', decide_eq_true_eq] at hc14
      have hm : ¬ 0 < mark := by omega
      have hk2 := hk
      refine Aw_skip (hB13 _ ?_)
      refine Aw_sq fun B17 hB17 hR17 hX17 => ?_
      refine Aw_st hE [0, 4, 6, 7, 65] [4, 7] fun K hK => ?_
      simp only [go_sem, reduceIte, Nat.reduceLT, Nat.reduceLeDiff, Nat.reduceEqDiff, Nat.reduceAdd, Nat.reduceMul, Nat.reduceSub, Nat.reduceBEq, Int.reduceToNat, List.reduceReplicate, reduceCtorEq, hget]
      repeat (refine And.intro (by first | omega | (and_intros <;> first | omega | exact rows_row _ | decide | (simp; done) | (simp; omega)) | fail) ?_)
      skip
      refine hK _ (Aw_cond rfl (fun hc18 => ?_) (fun hc18 => ?_))
      · simp only [Bool.not_eq_true', decide_eq_false_iff_not] at hc18
        have hcc : 0 < clear := by omega
        have hC : isM clear = true := isM_of hcc hclr.2
        refine Aw_tz hE [7,999999] [4, 7] [4, 7] 6 (by kernel_rfl) fun K hK => ?_
        simp only [go_sem, reduceIte, Nat.reduceLT, Nat.reduceLeDiff, Nat.reduceEqDiff, Nat.reduceAdd, Nat.reduceMul, Nat.reduceSub, Nat.reduceBEq, Int.reduceToNat, List.reduceReplicate, reduceCtorEq, hget, hk2, hC]
        repeat (refine And.intro (by first | omega | (and_intros <;> first | omega | exact rows_row _ | decide | (simp; done) | (simp; omega)) | fail) ?_)
        skip
        refine hK _ (hB17 _ ?_)
        refine Aw_st hE [4, 5] [4] fun K hK => ?_
        simp only [go_sem, reduceIte, Nat.reduceLT, Nat.reduceLeDiff, Nat.reduceEqDiff, Nat.reduceAdd, Nat.reduceMul, Nat.reduceSub, Nat.reduceBEq, Int.reduceToNat, List.reduceReplicate, reduceCtorEq]
        repeat (refine And.intro (by first | omega | (and_intros <;> first | omega | exact rows_row _ | decide | (simp; done) | (simp; omega)) | fail) ?_)
        refine hK _ (Aw_ret (hQ _ ?_))
        simp only [go_sem, reduceIte, Nat.reduceLT, Nat.reduceLeDiff, Nat.reduceEqDiff, Nat.reduceAdd, Nat.reduceMul, Nat.reduceSub, Nat.reduceBEq, Int.reduceToNat, List.reduceReplicate, reduceCtorEq]
        simp [hpol, hst, resR, doC, marksC, hm, hcc, hc6]
      · simp only [Bool.not_eq_false', decide_eq_true_eq] at hc18
        have hcc : ¬ 0 < clear := by omega
        refine Aw_skip (hB17 _ ?_)
        refine Aw_st hE [4, 5] [4] fun K hK => ?_
        simp only [go_sem, reduceIte, Nat.reduceLT, Nat.reduceLeDiff, Nat.reduceEqDiff, Nat.reduceAdd, Nat.reduceMul, Nat.reduceSub, Nat.reduceBEq, Int.reduceToNat, List.reduceReplicate, reduceCtorEq]
        repeat (refine And.intro (by first | omega | (and_intros <;> first | omega | exact rows_row _ | decide | (simp; done) | (simp; omega)) | fail) ?_)
        refine hK _ (Aw_ret (hQ _ ?_))
        simp only [go_sem, reduceIte, Nat.reduceLT, Nat.reduceLeDiff, Nat.reduceEqDiff, Nat.reduceAdd, Nat.reduceMul, Nat.reduceSub, Nat.reduceBEq, Int.reduceToNat, List.reduceReplicate, reduceCtorEq]
        simp [hpol, hst, resR, doC, marksC, hm, hcc, hc6]
end Go.Proofs.W
end
section
namespace Go.Proofs.W
open Go Go.Eng Go.RowKit
set_option linter.unusedSimpArgs false
set_option maxRecDepth 100000

def gC3 : List AV → Option (Prop × AV)
  | [.agg [.v (.int .i64 rf), .v (.int .i64 rb), .sl _ e1, .v (.int .i64 rk), .sl _ e2]] => (match intsL e1, intsL e2 with
    | some p, some m => some (p.length ≤ 1000000 ∧ m.length ≤ 1000000, bv (!okR ⟨rf, rb, p, rk, m⟩))
    | _, _ => none)
  | _ => none
def dC3 (pb : Addr) : DFn := { g := gC3, inv := WP pb }
attribute [go_sem] gC3 dC3
theorem polC3_ok (pb : Addr) : Fine Tryz.prog 61 (dC3 pb).con := by
  refine fine_det (T := TT) Tryz.func61 rfl Tryz.ntmps61 (by rw [Tryz.results61]) rfl rfl tt (gs_nil) (ds_cons (iRtOk_ok pb) ds_nil (wp_inh pb)) ?_
  intro args c r h hc
  simp only [dC3, gC3] at h
  split at h
  rotate_left
  · cases h
  split at h
  rotate_left
  · cases h
  rename_i rf rb t1 e1 rk t2 e2 _ _ p m hl1 hl2
  obtain rfl := intsL_eq hl1
  obtain rfl := intsL_eq hl2
  obtain ⟨rfl, rfl⟩ := Prod.mk.inj (Option.some.inj h)
  refine ⟨by simp, fun k E hE Q hQ => ?_⟩
  refine Aw_st hE [1] [1] fun K hK => ?_
  simp only [go_sem, reduceIte, Nat.reduceLT, Nat.reduceLeDiff, Nat.reduceEqDiff, Nat.reduceAdd, Nat.reduceMul, Nat.reduceSub, Nat.reduceBEq, Int.reduceToNat, List.reduceReplicate, reduceCtorEq]
  repeat (refine And.intro (by first | omega | (and_intros <;> first | omega | exact rows_row _ | decide | (simp; done) | (simp; omega)) | fail) ?_)
  refine hK _ ?_; clear hK K
  refine Aw_st hE [2] [] fun K hK => ?_
  simp only [go_sem, reduceIte, Nat.reduceLT, Nat.reduceLeDiff, Nat.reduceEqDiff, Nat.reduceAdd, Nat.reduceMul, Nat.reduceSub, Nat.reduceBEq, Int.reduceToNat, List.reduceReplicate, reduceCtorEq]
  repeat (refine And.intro (by first | omega | (and_intros <;> first | omega | exact rows_row _ | decide | (simp; done) | (simp; omega)) | fail) ?_)
  refine hK _ (Aw_ret (hQ _ ?_))
  simp only [go_sem, reduceIte, Nat.reduceLT, Nat.reduceLeDiff, Nat.reduceEqDiff, Nat.reduceAdd, Nat.reduceMul, Nat.reduceSub, Nat.reduceBEq, Int.reduceToNat, List.reduceReplicate, reduceCtorEq]
  rfl
def gIdR : List AV → Option (Prop × AV)
  | [.sl _ els, y] => (match fnOf y, rtsL els with
    | some g, some l => if g = 61 then some (l.length ≤ 4294967296 ∧ ∀ r ∈ l, r.path.length ≤ 1000000 ∧ r.marks.length ≤ 1000, iv (idxB (fun c => !okR c) l 0)) else none
    | _, _ => none)
  | _ => none
def dIdR (pb : Addr) : DFn := { g := gIdR, inv := WP pb }
def gCtR : List AV → Option (Prop × AV)
  | [.sl _ els, y] => (match fnOf y, rtsL els with
    | some g, some l => if g = 61 then some (l.length ≤ 4294967296 ∧ ∀ r ∈ l, r.path.length ≤ 1000000 ∧ r.marks.length ≤ 1000, bv (l.any fun c => !okR c)) else none
    | _, _ => none)
  | _ => none
def dCtR (pb : Addr) : DFn := { g := gCtR, inv := WP pb }
attribute [go_sem] gIdR dIdR gCtR dCtR
theorem idR_ok (pb : Addr) : Fine Tryz.prog 96 (dIdR pb).con := by
  refine fine_det (T := TT) Tryz.func96 rfl Tryz.ntmps96 (by rw [Tryz.results96]) rfl rfl tt gs_nil (ds_cons (polC3_ok pb) ds_nil (wp_inh pb)) ?_
  intro args c r h hc
  simp only [dIdR, gIdR] at h
  split at h
  rotate_left
  · cases h
  split at h
  rotate_left
  · cases h
  split at h
  rotate_left
  · cases h
  rename_i t els y _ _ g l hf hrt hg
  obtain rfl := rtsL_eq hrt
  subst hg
  obtain rfl := fnOf_ok hf
  obtain ⟨rfl, rfl⟩ := Prod.mk.inj (Option.some.inj h)
  refine ⟨by simp, fun k E hE Q hQ => ?_⟩
  obtain ⟨hll, hlen⟩ := hc
  refine Aw_st hE [0, 1] [] fun K hK => ?_
  simp only [go_sem, reduceIte, Nat.reduceLT, Nat.reduceLeDiff, Nat.reduceEqDiff, Nat.reduceAdd, Nat.reduceMul, Nat.reduceSub, Nat.reduceBEq, Int.reduceToNat, List.reduceReplicate, reduceCtorEq]
  repeat (refine And.intro (by first | omega | (and_intros <;> first | omega | exact rows_row _ | decide | (simp; done) | (simp; omega)) | fail) ?_)
  refine hK _ ?_; clear hK K
  refine Aw_sq fun B1 hB1 hR1 hX1 => ?_
  refine Aw_st hE [0, 1, 7, 8] [] fun K hK => ?_
  simp only [go_sem, reduceIte, Nat.reduceLT, Nat.reduceLeDiff, Nat.reduceEqDiff, Nat.reduceAdd, Nat.reduceMul, Nat.reduceSub, Nat.reduceBEq, Int.reduceToNat, List.reduceReplicate, reduceCtorEq]
  repeat (refine And.intro (by first | omega | (and_intros <;> first | omega | exact rows_row _ | decide | (simp; done) | (simp; omega)) | fail) ?_)
  refine hK _ ?_; clear hK K
  refine Aw_bk fun B2 hN2 hE2 hR2 hX2 => ?_
  refine Aw_lp (fun i : Nat => ⟨19, [(0, .sl t (rrows l)), (1, .v (.func (.func 61) #[] #[])), (7, iv l.length), (8, iv i)], [], k⟩) (fun i : Nat => i ≤ l.length ∧ idxB (fun c => !okR c) l 0 = idxB (fun c => !okR c) (l.drop i) i) (fun i : Nat => l.length - i) (0) (Le.refl _) (⟨by omega, rfl⟩) fun i hi B3 hN3 hR3 hX3 => ?_
  refine Aw_st hE [0, 1, 7, 8, 9] [] fun K hK => ?_
  simp only [go_sem, reduceIte, Nat.reduceLT, Nat.reduceLeDiff, Nat.reduceEqDiff, Nat.reduceAdd, Nat.reduceMul, Nat.reduceSub, Nat.reduceBEq, Int.reduceToNat, List.reduceReplicate, reduceCtorEq]
  repeat (refine And.intro (by first | omega | (and_intros <;> first | omega | exact rows_row _ | decide | (simp; done) | (simp; omega)) | fail) ?_)
  refine hK _ ?_; clear hK K
  refine Aw_sq fun B4 hB4 hR4 hX4 => ?_
  refine Aw_cond rfl (fun hc5 => ?_) (fun hc5 => ?_)
  · simp only [decide_eq_true_eq] at hc5
    have hil : i < l.length := by omega
    have hs := hi.2.trans (idxB_drop hil)
    have hget := rrows_get l i hil
    have hln := hlen _ (List.getElem_mem hil)
    generalize l[i] = x at hget hs hln
    obtain ⟨rf, rb, p, rk, m⟩ := x
    simp only at hln
    refine Aw_skip (hB4 _ ?_)
    refine Aw_sq fun B6 hB6 hR6 hX6 => ?_
    refine Aw_bk fun B7 hN7 hE7 hR7 hX7 => ?_
    refine Aw_st hE [0, 1, 5, 7, 8] [] fun K hK => ?_
    simp only [go_sem, reduceIte, Nat.reduceLT, Nat.reduceLeDiff, Nat.reduceEqDiff, Nat.reduceAdd, Nat.reduceMul, Nat.reduceSub, Nat.reduceBEq, Int.reduceToNat, List.reduceReplicate, reduceCtorEq]
    repeat (refine And.intro (by first | omega | (and_intros <;> first | omega | exact rows_row _ | decide | (simp; done) | (simp; omega)) | fail) ?_)
    refine hK _ ?_; clear hK K
    refine Aw_st hE [0, 1, 5, 7, 8, 16] [] fun K hK => ?_
    simp only [go_sem, reduceIte, Nat.reduceLT, Nat.reduceLeDiff, Nat.reduceEqDiff, Nat.reduceAdd, Nat.reduceMul, Nat.reduceSub, Nat.reduceBEq, Int.reduceToNat, List.reduceReplicate, reduceCtorEq, hget]
    repeat (refine And.intro (by first | omega | (and_intros <;> first | omega | exact rows_row _ | decide | (simp; done) | (simp; omega)) | fail) ?_)
    refine hK _ (Aw_cond rfl (fun hc8 => ?_) (fun hc8 => ?_))
    · rw [hc8] at hs
      refine Aw_st hE [4] [] fun K hK => ?_
      simp only [go_sem, reduceIte, Nat.reduceLT, Nat.reduceLeDiff, Nat.reduceEqDiff, Nat.reduceAdd, Nat.reduceMul, Nat.reduceSub, Nat.reduceBEq, Int.reduceToNat, List.reduceReplicate, reduceCtorEq]
      repeat (refine And.intro (by first | omega | (and_intros <;> first | omega | exact rows_row _ | decide | (simp; done) | (simp; omega)) | fail) ?_)
      refine hK _ (Aw_ret (hR7 _ (hR6 _ (hR3 _ (hR2 _ (hR1 _ (hQ _ ?_)))))))
      simp only [go_sem, reduceIte, Nat.reduceLT, Nat.reduceLeDiff, Nat.reduceEqDiff, Nat.reduceAdd, Nat.reduceMul, Nat.reduceSub, Nat.reduceBEq, Int.reduceToNat, List.reduceReplicate, reduceCtorEq, hs]
    · rw [hc8] at hs
      refine Aw_skip (hN7 _ (hB6 _ ?_))
      refine Aw_tx hE [0, 1, 7, 8] [] fun K hK => ?_
      simp only [go_sem, reduceIte, Nat.reduceLT, Nat.reduceLeDiff, Nat.reduceEqDiff, Nat.reduceAdd, Nat.reduceMul, Nat.reduceSub, Nat.reduceBEq, Int.reduceToNat, List.reduceReplicate, reduceCtorEq]
      repeat (refine And.intro (by first | omega | (and_intros <;> first | omega | exact rows_row _ | decide | (simp; done) | (simp; omega)) | fail) ?_)
      refine hK _ (hN3 (i + 1) _ (⟨by omega, hs⟩) (by omega) (Le.refl _))
  · simp only [decide_eq_false_iff_not] at hc5
    refine Aw_exit (hX4 _ _ (hX3 _ _ (hE2 _ (hB1 _ ?_))))
    refine Aw_st hE [4] [] fun K hK => ?_
    simp only [go_sem, reduceIte, Nat.reduceLT, Nat.reduceLeDiff, Nat.reduceEqDiff, Nat.reduceAdd, Nat.reduceMul, Nat.reduceSub, Nat.reduceBEq, Int.reduceToNat, List.reduceReplicate, reduceCtorEq]
    repeat (refine And.intro (by first | omega | (and_intros <;> first | omega | exact rows_row _ | decide | (simp; done) | (simp; omega)) | fail) ?_)
    refine hK _ (Aw_ret (hQ _ ?_))
    simp only [go_sem, reduceIte, Nat.reduceLT, Nat.reduceLeDiff, Nat.reduceEqDiff, Nat.reduceAdd, Nat.reduceMul, Nat.reduceSub, Nat.reduceBEq, Int.reduceToNat, List.reduceReplicate, reduceCtorEq]
    rw [hi.2, List.drop_eq_nil_of_le (by omega)]
    rfl
theorem ctR_ok (pb : Addr) : Fine Tryz.prog 60 (dCtR pb).con := by
  refine fine_det (T := TT) Tryz.func60 rfl Tryz.ntmps60 (by rw [Tryz.results60]) rfl rfl tt gs_nil (ds_cons (idR_ok pb) ds_nil (wp_inh pb)) ?_
  intro args c r h hc
  simp only [dCtR, gCtR] at h
  split at h
  rotate_left
  · cases h
  split at h
  rotate_left
  · cases h
  split at h
  rotate_left
  · cases h
  rename_i t els y _ _ g l hf hrt hg
  obtain rfl := rtsL_eq hrt
  subst hg
  obtain rfl := fnOf_ok hf
  obtain ⟨rfl, rfl⟩ := Prod.mk.inj (Option.some.inj h)
  refine ⟨by simp, fun k E hE Q hQ => ?_⟩
  obtain ⟨hll, hlen⟩ := hc
  refine Aw_st hE [0, 1] [] fun K hK => ?_
  simp only [go_sem, reduceIte, Nat.reduceLT, Nat.reduceLeDiff, Nat.reduceEqDiff, Nat.reduceAdd, Nat.reduceMul, Nat.reduceSub, Nat.reduceBEq, Int.reduceToNat, List.reduceReplicate, reduceCtorEq]
  repeat (refine And.intro (by first | omega | (and_intros <;> first | omega | exact rows_row _ | decide | (simp; done) | (simp; omega)) | fail) ?_)
  refine hK _ ?_; clear hK K
  refine Aw_st hE [4] [] fun K hK => ?_
  simp only [go_sem, reduceIte, Nat.reduceLT, Nat.reduceLeDiff, Nat.reduceEqDiff, Nat.reduceAdd, Nat.reduceMul, Nat.reduceSub, Nat.reduceBEq, Int.reduceToNat, List.reduceReplicate, reduceCtorEq]
  repeat (refine And.intro (by first | omega | (and_intros <;> first | omega | exact rows_row _ | decide | (simp; done) | (simp; omega)) | fail) ?_)
  skip
  refine hK _ (Aw_ret (hQ _ ?_))
  simp only [go_sem, reduceIte, Nat.reduceLT, Nat.reduceLeDiff, Nat.reduceEqDiff, Nat.reduceAdd, Nat.reduceMul, Nat.reduceSub, Nat.reduceBEq, Int.reduceToNat, List.reduceReplicate, reduceCtorEq]
  exact idxB_any l 0
theorem any_not_allR (l : List Rt) : (l.any fun c => !okR c) = !l.all okR := by
  induction l with
  | nil => rfl
  | cons c l ih => rw [List.any_cons, List.all_cons, ih]; cases okR c <;> simp
def dPAllI (pb : Addr) : DFn := { g := gPAll, inv := WP pb }
attribute [go_sem] dPAllI
theorem iPAll_ok (pb : Addr) : Fine Tryz.prog 25 (dPAllI pb).con := by
  refine fine_det (T := TT) Tryz.func25 rfl Tryz.ntmps25 (by rw [Tryz.results25]) rfl rfl tt gs_nil (ds_cons (iPolOk_ok pb) (ds_cons (ctR_ok pb) (ds_cons (iPDo_ok pb) ds_nil (wp_inh pb)) (wp_inh pb)) (wp_inh pb)) ?_
  intro args c r h hc
  simp only [dPAllI, gPAll] at h
  split at h
  rotate_left
  · cases h
  split at h
  rotate_left
  · cases h
  rename_i t els t2 e2 _ _ l rs hcl hrt
  obtain rfl := clsL_eq hcl
  obtain rfl := rtsL_eq hrt
  obtain ⟨rfl, rfl⟩ := Prod.mk.inj (Option.some.inj h)
  refine ⟨by simp, fun k E hE Q hQ => ?_⟩
  obtain ⟨⟨hll, hrl⟩, hlen⟩ := hc
  cases h1 : polOk l with
  | false =>
    refine Aw_st hE [0, 1] [] fun K hK => ?_
    simp only [go_sem, reduceIte, Nat.reduceLT, Nat.reduceLeDiff, Nat.reduceEqDiff, Nat.reduceAdd, Nat.reduceMul, Nat.reduceSub, Nat.reduceBEq, Int.reduceToNat, List.reduceReplicate, reduceCtorEq]
    repeat (refine And.intro (by first | omega | (and_intros <;> first | omega | exact rows_row _ | decide | (simp; done) | (simp; omega)) | fail) ?_)
    refine hK _ ?_; clear hK K
    refine Aw_sq fun B1 hB1 hR1 hX1 => ?_
    refine Aw_st hE [0, 1, 16] [] fun K hK => ?_
    simp only [go_sem, reduceIte, Nat.reduceLT, Nat.reduceLeDiff, Nat.reduceEqDiff, Nat.reduceAdd, Nat.reduceMul, Nat.reduceSub, Nat.reduceBEq, Int.reduceToNat, List.reduceReplicate, reduceCtorEq, h1]
    repeat (refine And.intro (by first | omega | (and_intros <;> first | omega | exact rows_row _ | decide | (simp; done) | (simp; omega)) | fail) ?_)
    refine hK _ (Aw_yes rfl ?_)
    refine Aw_st hE [4] [] fun K hK => ?_
    simp only [go_sem, reduceIte, Nat.reduceLT, Nat.reduceLeDiff, Nat.reduceEqDiff, Nat.reduceAdd, Nat.reduceMul, Nat.reduceSub, Nat.reduceBEq, Int.reduceToNat, List.reduceReplicate, reduceCtorEq]
    repeat (refine And.intro (by first | omega | (and_intros <;> first | omega | exact rows_row _ | decide | (simp; done) | (simp; omega)) | fail) ?_)
    refine hK _ (Aw_ret (hR1 _ (hQ _ ?_)))
    simp only [go_sem, reduceIte, Nat.reduceLT, Nat.reduceLeDiff, Nat.reduceEqDiff, Nat.reduceAdd, Nat.reduceMul, Nat.reduceSub, Nat.reduceBEq, Int.reduceToNat, List.reduceReplicate, reduceCtorEq]
    simp [polAll, h1, rrows]
  | true =>
  cases h2 : rs.all okR with
  | false =>
    have h3 : (rs.any fun c => !okR c) = true := by rw [any_not_allR, h2]; rfl
    refine Aw_st hE [0, 1] [] fun K hK => ?_
    simp only [go_sem, reduceIte, Nat.reduceLT, Nat.reduceLeDiff, Nat.reduceEqDiff, Nat.reduceAdd, Nat.reduceMul, Nat.reduceSub, Nat.reduceBEq, Int.reduceToNat, List.reduceReplicate, reduceCtorEq]
    repeat (refine And.intro (by first | omega | (and_intros <;> first | omega | exact rows_row _ | decide | (simp; done) | (simp; omega)) | fail) ?_)
    refine hK _ ?_; clear hK K
    refine Aw_sq fun B1 hB1 hR1 hX1 => ?_
    refine Aw_st hE [0, 1, 16] [] fun K hK => ?_
    simp only [go_sem, reduceIte, Nat.reduceLT, Nat.reduceLeDiff, Nat.reduceEqDiff, Nat.reduceAdd, Nat.reduceMul, Nat.reduceSub, Nat.reduceBEq, Int.reduceToNat, List.reduceReplicate, reduceCtorEq, h1, h3]
    refine ⟨by omega, ⟨by omega, hlen⟩, ?_⟩
    refine hK _ (Aw_yes rfl ?_)
    refine Aw_st hE [4] [] fun K hK => ?_
    simp only [go_sem, reduceIte, Nat.reduceLT, Nat.reduceLeDiff, Nat.reduceEqDiff, Nat.reduceAdd, Nat.reduceMul, Nat.reduceSub, Nat.reduceBEq, Int.reduceToNat, List.reduceReplicate, reduceCtorEq]
    repeat (refine And.intro (by first | omega | (and_intros <;> first | omega | exact rows_row _ | decide | (simp; done) | (simp; omega)) | fail) ?_)
    refine hK _ (Aw_ret (hR1 _ (hQ _ ?_)))
    simp only [go_sem, reduceIte, Nat.reduceLT, Nat.reduceLeDiff, Nat.reduceEqDiff, Nat.reduceAdd, Nat.reduceMul, Nat.reduceSub, Nat.reduceBEq, Int.reduceToNat, List.reduceReplicate, reduceCtorEq]
    simp [polAll, h2, rrows]
  | true =>
  have h3 : (rs.any fun c => !okR c) = false := by rw [any_not_allR, h2]; rfl
  have hres : polAll l rs = rs.filterMap (polDo l) := by simp [polAll, h1, h2]
  refine Aw_st hE [0, 1] [] fun K hK => ?_
  simp only [go_sem, reduceIte, Nat.reduceLT, Nat.reduceLeDiff, Nat.reduceEqDiff, Nat.reduceAdd, Nat.reduceMul, Nat.reduceSub, Nat.reduceBEq, Int.reduceToNat, List.reduceReplicate, reduceCtorEq]
  repeat (refine And.intro (by first | omega | (and_intros <;> first | omega | exact rows_row _ | decide | (simp; done) | (simp; omega)) | fail) ?_)
  refine hK _ ?_; clear hK K
  refine Aw_sq fun B1 hB1 hR1 hX1 => ?_
  refine Aw_st hE [0, 1, 16] [] fun K hK => ?_
  simp only [go_sem, reduceIte, Nat.reduceLT, Nat.reduceLeDiff, Nat.reduceEqDiff, Nat.reduceAdd, Nat.reduceMul, Nat.reduceSub, Nat.reduceBEq, Int.reduceToNat, List.reduceReplicate, reduceCtorEq, h1, h3]
  refine ⟨by omega, ⟨by omega, hlen⟩, ?_⟩
  refine hK _ (Aw_no rfl ?_)
  refine Aw_skip (hB1 _ ?_)
  refine Aw_st hE [0, 1, 5] [] fun K hK => ?_
  simp only [go_sem, reduceIte, Nat.reduceLT, Nat.reduceLeDiff, Nat.reduceEqDiff, Nat.reduceAdd, Nat.reduceMul, Nat.reduceSub, Nat.reduceBEq, Int.reduceToNat, List.reduceReplicate, reduceCtorEq]
  repeat (refine And.intro (by first | omega | (and_intros <;> first | omega | exact rows_row _ | decide | (simp; done) | (simp; omega)) | fail) ?_)
  refine hK _ ?_; clear hK K
  refine Aw_sq fun B3 hB3 hR3 hX3 => ?_
  refine Aw_st hE [0, 5, 17, 18, 19] [] fun K hK => ?_
  simp only [go_sem, reduceIte, Nat.reduceLT, Nat.reduceLeDiff, Nat.reduceEqDiff, Nat.reduceAdd, Nat.reduceMul, Nat.reduceSub, Nat.reduceBEq, Int.reduceToNat, List.reduceReplicate, reduceCtorEq]
  repeat (refine And.intro (by first | omega | (and_intros <;> first | omega | exact rows_row _ | decide | (simp; done) | (simp; omega)) | fail) ?_)
  refine hK _ ?_; clear hK K
  refine Aw_bk fun B4 hN4 hE4 hR4 hX4 => ?_
  refine Aw_lp (fun i : Nat × List Rt => ⟨36, [(0, .sl none (crows l)), (5, .sl (some (33, 0, 28)) (rrows i.2)), (17, .sl none (rrows rs)), (18, iv rs.length), (19, iv i.1)], [], k⟩) (fun i : Nat × List Rt => i.1 ≤ rs.length ∧ i.2 = (rs.take i.1).filterMap (polDo l) ∧ i.2.length ≤ i.1) (fun i : Nat × List Rt => rs.length - i.1) ((0, [])) ((Le_own 33 28 5 rfl).trans (Le_wk (Nat.le_refl _) (by simp only [go_sem, reduceIte, Nat.reduceLT, Nat.reduceLeDiff, Nat.reduceEqDiff, Nat.reduceAdd, Nat.reduceMul, Nat.reduceSub, Nat.reduceBEq, Int.reduceToNat, List.reduceReplicate, reduceCtorEq]; rfl) trivial)) (⟨by simp, by simp, by simp⟩) fun i hi B5 hN5 hR5 hX5 => ?_
  refine Aw_st hE [0, 5, 17, 18, 19, 20] [] fun K hK => ?_
  simp only [go_sem, reduceIte, Nat.reduceLT, Nat.reduceLeDiff, Nat.reduceEqDiff, Nat.reduceAdd, Nat.reduceMul, Nat.reduceSub, Nat.reduceBEq, Int.reduceToNat, List.reduceReplicate, reduceCtorEq]
  repeat (refine And.intro (by first | omega | (and_intros <;> first | omega | exact rows_row _ | decide | (simp; done) | (simp; omega)) | fail) ?_)
  refine hK _ ?_; clear hK K
  refine Aw_sq fun B6 hB6 hR6 hX6 => ?_
  refine Aw_cond rfl (fun hc7 => ?_) (fun hc7 => ?_)
  · simp only [decide_eq_true_eq] at hc7
    obtain ⟨i, out⟩ := i
    obtain ⟨hi1, hi3, hi4⟩ := hi
    simp only at hi1 hi3 hi4 hc7 ⊢
    have hil : i < rs.length := by omega
    have hget := rrows_get rs i hil
    have hst2 := fm_take hil (polDo l)
    have hln := hlen _ (List.getElem_mem hil)
    have hokr := List.all_eq_true.1 h2 _ (List.getElem_mem hil)
    generalize rs[i] = r at hget hst2 hln hokr
    obtain ⟨rf, rb, p, rk, m⟩ := r
    simp only at hln
    have hpd : policyDo l ⟨rf, rb, p, rk, m⟩ = polDo l ⟨rf, rb, p, rk, m⟩ := by simp [policyDo, h1, hokr]
    obtain ⟨yf, yb, yp, yk, ym, z, hr, hz1, hz0⟩ := resR_ex (polDo l ⟨rf, rb, p, rk, m⟩)
    refine Aw_skip (hB6 _ ?_)
    refine Aw_sq fun B8 hB8 hR8 hX8 => ?_
    refine Aw_bk fun B9 hN9 hE9 hR9 hX9 => ?_
    refine Aw_st hE [0, 5, 7, 17, 18, 19] [7] fun K hK => ?_
    simp only [go_sem, reduceIte, Nat.reduceLT, Nat.reduceLeDiff, Nat.reduceEqDiff, Nat.reduceAdd, Nat.reduceMul, Nat.reduceSub, Nat.reduceBEq, Int.reduceToNat, List.reduceReplicate, reduceCtorEq, hget]
    repeat (refine And.intro (by first | omega | (and_intros <;> first | omega | exact rows_row _ | decide | (simp; done) | (simp; omega)) | fail) ?_)
    refine hK _ ?_; clear hK K
    refine Aw_st hE [0, 5, 8, 9, 17, 18, 19] [8] fun K hK => ?_
    simp only [go_sem, reduceIte, Nat.reduceLT, Nat.reduceLeDiff, Nat.reduceEqDiff, Nat.reduceAdd, Nat.reduceMul, Nat.reduceSub, Nat.reduceBEq, Int.reduceToNat, List.reduceReplicate, reduceCtorEq, hpd, hr]
    refine ⟨⟨hll, hln.1, hln.2⟩, ?_⟩
    refine hK _ ?_; clear hK K
    refine Aw_st hE [0, 5, 8, 17, 18, 19, 29] [8] fun K hK => ?_
    simp only [go_sem, reduceIte, Nat.reduceLT, Nat.reduceLeDiff, Nat.reduceEqDiff, Nat.reduceAdd, Nat.reduceMul, Nat.reduceSub, Nat.reduceBEq, Int.reduceToNat, List.reduceReplicate, reduceCtorEq]
    repeat (refine And.intro (by first | omega | (and_intros <;> first | omega | exact rows_row _ | decide | (simp; done) | (simp; omega)) | fail) ?_)
    refine hK _ (Aw_cond rfl (fun hc10 => ?_) (fun hc10 => ?_))
    · rw [hz1 hc10] at hst2
      refine Aw_tx hE [0, 5, 17, 18, 19] [] fun K hK => ?_
      simp only [go_sem, reduceIte, Nat.reduceLT, Nat.reduceLeDiff, Nat.reduceEqDiff, Nat.reduceAdd, Nat.reduceMul, Nat.reduceSub, Nat.reduceBEq, Int.reduceToNat, List.reduceReplicate, reduceCtorEq, rrows_one]
      refine ⟨⟨rrows_row _, by omega⟩, ?_⟩
      refine hK _ (hN9 _ (hB8 _ ?_))
      refine Aw_tx hE [0, 5, 17, 18, 19] [] fun K hK => ?_
      simp only [go_sem, reduceIte, Nat.reduceLT, Nat.reduceLeDiff, Nat.reduceEqDiff, Nat.reduceAdd, Nat.reduceMul, Nat.reduceSub, Nat.reduceBEq, Int.reduceToNat, List.reduceReplicate, reduceCtorEq]
      repeat (refine And.intro (by first | omega | (and_intros <;> first | omega | exact rows_row _ | decide | (simp; done) | (simp; omega)) | fail) ?_)
      refine hK _ (hN5 ((i + 1, out ++ [⟨yf, yb, yp, yk, ym⟩])) _ (⟨by omega, by rw [hst2, hi3]; rfl, by simp; omega⟩) (by omega) (Le.refl _))
    · rw [(hz0 hc10).1] at hst2
      refine Aw_skip (hN9 _ (hB8 _ ?_))
      refine Aw_tx hE [0, 5, 17, 18, 19] [] fun K hK => ?_
      simp only [go_sem, reduceIte, Nat.reduceLT, Nat.reduceLeDiff, Nat.reduceEqDiff, Nat.reduceAdd, Nat.reduceMul, Nat.reduceSub, Nat.reduceBEq, Int.reduceToNat, List.reduceReplicate, reduceCtorEq]
      repeat (refine And.intro (by first | omega | (and_intros <;> first | omega | exact rows_row _ | decide | (simp; done) | (simp; omega)) | fail) ?_)
      refine hK _ (hN5 ((i + 1, out)) _ (⟨by omega, by rw [hst2, hi3]; simp, by simp only; omega⟩) (by omega) (Le.refl _))
  · obtain ⟨i, out⟩ := i
    obtain ⟨hi1, hi3, hi4⟩ := hi
    simp only at hi1 hi3 hi4
    simp only [decide_eq_false_iff_not] at hc7
    rw [List.take_of_length_le (by omega)] at hi3
    refine Aw_exit (hX6 _ _ (hX5 _ _ (hE4 _ (hB3 _ ?_))))
    refine Aw_st hE [4] [] fun K hK => ?_
    simp only [go_sem, reduceIte, Nat.reduceLT, Nat.reduceLeDiff, Nat.reduceEqDiff, Nat.reduceAdd, Nat.reduceMul, Nat.reduceSub, Nat.reduceBEq, Int.reduceToNat, List.reduceReplicate, reduceCtorEq]
    repeat (refine And.intro (by first | omega | (and_intros <;> first | omega | exact rows_row _ | decide | (simp; done) | (simp; omega)) | fail) ?_)
    refine hK _ (Aw_ret (hQ _ ?_))
    simp only [go_sem, reduceIte, Nat.reduceLT, Nat.reduceLeDiff, Nat.reduceEqDiff, Nat.reduceAdd, Nat.reduceMul, Nat.reduceSub, Nat.reduceBEq, Int.reduceToNat, List.reduceReplicate, reduceCtorEq]
    rw [hres, hi3]
end Go.Proofs.W
end
section
namespace Go.Proofs.W
open Go Go.Eng Go.RowKit
set_option linter.unusedSimpArgs false
set_option maxRecDepth 100000

/-! laws over policies -/
def gLyRs : List AV → Option (Prop × AV)
  | [.sl _ e1, .sl _ e2] => (match rtsL e1, rtsL e2 with
    | some a, some b => some ((a = b ∧ a.length ≤ 1000000) ∧ ∀ r ∈ a, r.path.length ≤ 1000000 ∧ r.marks.length ≤ 1000000, bv true)
    | _, _ => none)
  | _ => none
def dLyRs : DFn := { g := gLyRs }
attribute [go_sem] gLyRs dLyRs
theorem lyRoutes_ok : Fine Tryz.prog 26 dLyRs.con := by
  refine fine_det (T := TT) Tryz.func26 rfl Tryz.ntmps26 (by rw [Tryz.results26]) rfl rfl tt gs_nil (ds_cons lyRoute_ok ds_nil) ?_
  intro args c r h hc
  simp only [dLyRs, gLyRs] at h
  split at h
  rotate_left
  · cases h
  split at h
  rotate_left
  · cases h
  rename_i t1 e1 t2 e2 _ _ l l2 hrt1 hrt2
  obtain rfl := rtsL_eq hrt1
  obtain rfl := rtsL_eq hrt2
  obtain ⟨rfl, rfl⟩ := Prod.mk.inj (Option.some.inj h)
  refine ⟨by simp, fun k E hE Q hQ => ?_⟩
  obtain ⟨⟨rfl, hll⟩, hlen⟩ := hc
  refine Aw_st hE [0, 1] [] fun K hK => ?_
  simp only [go_sem, reduceIte, Nat.reduceLT, Nat.reduceLeDiff, Nat.reduceEqDiff, Nat.reduceAdd, Nat.reduceMul, Nat.reduceSub, Nat.reduceBEq, Int.reduceToNat, List.reduceReplicate, reduceCtorEq]
  repeat (refine And.intro (by first | omega | (and_intros <;> first | omega | exact rows_row _ | decide | (simp; done) | (simp; omega)) | fail) ?_)
  refine hK _ ?_; clear hK K
  refine Aw_sq fun B1 hB1 hR1 hX1 => ?_
  refine Aw_st hE [0, 1, 10] [] fun K hK => ?_
  simp only [go_sem, reduceIte, Nat.reduceLT, Nat.reduceLeDiff, Nat.reduceEqDiff, Nat.reduceAdd, Nat.reduceMul, Nat.reduceSub, Nat.reduceBEq, Int.reduceToNat, List.reduceReplicate, reduceCtorEq, decide_true, Bool.not_true]
  repeat (refine And.intro (by first | omega | (and_intros <;> first | omega | exact rows_row _ | decide | (simp; done) | (simp; omega)) | fail) ?_)
  skip
  refine hK _ (Aw_no rfl ?_)
  refine Aw_skip (hB1 _ ?_)
  refine Aw_sq fun B3 hB3 hR3 hX3 => ?_
  refine Aw_st hE [0, 1, 5] [] fun K hK => ?_
  simp only [go_sem, reduceIte, Nat.reduceLT, Nat.reduceLeDiff, Nat.reduceEqDiff, Nat.reduceAdd, Nat.reduceMul, Nat.reduceSub, Nat.reduceBEq, Int.reduceToNat, List.reduceReplicate, reduceCtorEq]
  repeat (refine And.intro (by first | omega | (and_intros <;> first | omega | exact rows_row _ | decide | (simp; done) | (simp; omega)) | fail) ?_)
  refine hK _ ?_; clear hK K
  refine Aw_bk fun B4 hN4 hE4 hR4 hX4 => ?_
  refine Aw_lp (fun i : Nat => ⟨27, [(0, .sl t1 (rrows l)), (1, .sl t2 (rrows l)), (5, iv i)], [], k⟩) (fun i : Nat => i ≤ l.length) (fun i : Nat => l.length - i) (0) (Le.refl _) (by omega) fun i hi B5 hN5 hR5 hX5 => ?_
  refine Aw_sq fun B6 hB6 hR6 hX6 => ?_
  refine Aw_st hE [0, 1, 5, 14] [] fun K hK => ?_
  simp only [go_sem, reduceIte, Nat.reduceLT, Nat.reduceLeDiff, Nat.reduceEqDiff, Nat.reduceAdd, Nat.reduceMul, Nat.reduceSub, Nat.reduceBEq, Int.reduceToNat, List.reduceReplicate, reduceCtorEq]
  repeat (refine And.intro (by first | omega | (and_intros <;> first | omega | exact rows_row _ | decide | (simp; done) | (simp; omega)) | fail) ?_)
  refine hK _ (Aw_cond rfl (fun hc7 => ?_) (fun hc7 => ?_))
  · simp only [decide_eq_true_eq] at hc7
    have hil : i < l.length := by omega
    have hget := rrows_get l i hil
    have hln := hlen _ (List.getElem_mem hil)
    generalize l[i] = x at hget hln
    obtain ⟨rf, rb, p, rk, m⟩ := x
    simp only at hln
    refine Aw_skip (hB6 _ ?_)
    refine Aw_sq fun B8 hB8 hR8 hX8 => ?_
    refine Aw_bk fun B9 hN9 hE9 hR9 hX9 => ?_
    refine Aw_sd hE [0, 1, 5, 26] [] 6 (by kernel_rfl) fun K hK => ?_
    simp only [go_sem, reduceIte, Nat.reduceLT, Nat.reduceLeDiff, Nat.reduceEqDiff, Nat.reduceAdd, Nat.reduceMul, Nat.reduceSub, Nat.reduceBEq, Int.reduceToNat, List.reduceReplicate, reduceCtorEq, hget, and_self, decide_true]
    repeat (refine And.intro (by first | omega | (and_intros <;> first | omega | exact rows_row _ | decide | (simp; done) | (simp; omega)) | fail) ?_)
    skip
    refine hK _ (Aw_no rfl ?_)
    refine Aw_skip (hN9 _ (hB8 _ ?_))
    refine Aw_tx hE [0, 1, 5] [] fun K hK => ?_
    simp only [go_sem, reduceIte, Nat.reduceLT, Nat.reduceLeDiff, Nat.reduceEqDiff, Nat.reduceAdd, Nat.reduceMul, Nat.reduceSub, Nat.reduceBEq, Int.reduceToNat, List.reduceReplicate, reduceCtorEq]
    repeat (refine And.intro (by first | omega | (and_intros <;> first | omega | exact rows_row _ | decide | (simp; done) | (simp; omega)) | fail) ?_)
    refine hK _ (hN5 (i + 1) _ (by omega) (by omega) (Le.refl _))
  · refine Aw_exit (hX6 _ _ (hX5 _ _ (hE4 _ (hB3 _ ?_))))
    refine Aw_st hE [4] [] fun K hK => ?_
    simp only [go_sem, reduceIte, Nat.reduceLT, Nat.reduceLeDiff, Nat.reduceEqDiff, Nat.reduceAdd, Nat.reduceMul, Nat.reduceSub, Nat.reduceBEq, Int.reduceToNat, List.reduceReplicate, reduceCtorEq]
    repeat (refine And.intro (by first | omega | (and_intros <;> first | omega | exact rows_row _ | decide | (simp; done) | (simp; omega)) | fail) ?_)
    refine hK _ (Aw_ret (hQ _ ?_))
    simp only [go_sem, reduceIte, Nat.reduceLT, Nat.reduceLeDiff, Nat.reduceEqDiff, Nat.reduceAdd, Nat.reduceMul, Nat.reduceSub, Nat.reduceBEq, Int.reduceToNat, List.reduceReplicate, reduceCtorEq]

theorem mkL_len2 {m : List Int} (h : mOk m = true) (x : Int) : (mkL m x).length ≤ m.length + 1 := mkL_len (mOk_srt h) x
theorem policyDo_len {l : List Cl} {r x : Rt} (h : policyDo l r = some x) : x.f = r.f ∧ x.b = r.b ∧ x.path = r.path ∧ x.marks.length ≤ r.marks.length + 1 ∧ okR x = true := by
  obtain ⟨h1, h2, h3⟩ := policyDo_some h
  obtain ⟨k1, k2, k3, k4⟩ := polDo_ok (polOk_mem h1) h2 h3
  obtain ⟨c, hc, _, _, e⟩ := polDo_some h3
  refine ⟨k2, k3, k4, ?_, k1⟩
  have hm := (okR_parts h2).2.2.2.2
  rw [e]
  show (marksC c r.marks).length ≤ _
  unfold marksC
  have h4 := mkL_len2 hm c.mark
  split
  · have := clL_len (if 0 < c.mark then mkL r.marks c.mark else r.marks) c.clear
    split at this <;> (split <;> omega)
  · split <;> omega
theorem res_ex (l : List Cl) (r : Rt) (hp : r.path.length ≤ 1000) (hm : r.marks.length ≤ 900) : ∃ f b p k m z, resR (policyDo l r) = .tup [.agg [iv f, iv b, isl p, iv k, isl m], bv z] ∧ (z = true → policyDo l r = some ⟨f, b, p, k, m⟩) ∧ (z = false → policyDo l r = none) ∧ p.length ≤ 1000 ∧ m.length ≤ 901 := by
  obtain ⟨f, b, p, k, m, z, h1, h2, h3⟩ := resR_ex (policyDo l r)
  refine ⟨f, b, p, k, m, z, h1, h2, fun hz => (h3 hz).1, ?_⟩
  cases z with
  | false => obtain ⟨_, _, _, rfl, _, rfl⟩ := h3 rfl; simp
  | true =>
    obtain ⟨_, _, e3, e4, _⟩ := policyDo_len (h2 rfl)
    simp only at e3 e4
    exact ⟨by rw [e3]; exact hp, by omega⟩

theorem polAll_mem {l : List Cl} {rs : List Rt} {x : Rt} (h : x ∈ polAll l rs) : ∃ r ∈ rs, policyDo l r = some x := by
  unfold polAll at h
  split at h
  · rename_i hc
    simp only [Bool.and_eq_true, List.all_eq_true] at hc
    obtain ⟨r, hr, hx⟩ := List.mem_filterMap.1 h
    exact ⟨r, hr, by simp [policyDo, hc.1, hc.2 r hr, hx]⟩
  · cases h
theorem polAll_len {l : List Cl} {rs : List Rt} (h : ∀ r ∈ rs, r.path.length ≤ 1000000 ∧ r.marks.length ≤ 1000) : (polAll l rs).length ≤ rs.length ∧ ∀ r ∈ polAll l rs, r.path.length ≤ 1000000 ∧ r.marks.length ≤ 1000000 := by
  refine ⟨?_, fun x hx => ?_⟩
  · unfold polAll
    split
    · exact List.length_filterMap_le _ _
    · simp
  · obtain ⟨r, hr, hx⟩ := polAll_mem hx
    obtain ⟨_, _, e3, e4, _⟩ := policyDo_len hx
    have := h r hr
    rw [e3]
    omega
theorem polAll_ref {rs : List Rt} (h : rs.all okR = true) : polAll [⟨1, 0, 0, 0, true, 0, 0, 0⟩] rs = [] := by
  have h1 : polOk [⟨1, 0, 0, 0, true, 0, 0, 0⟩] = true := by decide
  unfold polAll
  rw [h1, h, Bool.and_self, if_pos rfl]
  clear h
  induction rs with
  | nil => rfl
  | cons r rs ih => simp [polDo, fitsB]
theorem polAll_id {rs : List Rt} (h : rs.all okR = true) : polAll [⟨1, 0, 0, 0, false, -1, 0, 0⟩] rs = rs := by
  have h1 : polOk [⟨1, 0, 0, 0, false, -1, 0, 0⟩] = true := by decide
  unfold polAll
  rw [h1, h, Bool.and_self, if_pos rfl]
  clear h
  induction rs with
  | nil => rfl
  | cons r rs ih =>
    have e : polDo [⟨1, 0, 0, 0, false, -1, 0, 0⟩] r = some r := by simp [polDo, fitsB, doC, marksC]
    rw [List.filterMap_cons, e]
    simp only
    rw [ih]
end Go.Proofs.W
end
section
namespace Go.Proofs.W
open Go Go.Eng Go.RowKit
set_option linter.unusedSimpArgs false
set_option maxRecDepth 100000

set_option maxHeartbeats 2000000 in
theorem fnPolicyMore_ok (pb : Addr) : Fine Tryz.prog 5 (cLawP2 pb) := by
  refine fine_of (T := TT) Tryz.func5 rfl Tryz.ntmps5 (by rw [Tryz.results5]) rfl rfl tt (gs_cons drawPolicyDo_ok gs_nil) (ds_cons sPDo_ok (ds_cons (iPDo_ok pb) (ds_cons lyRoute_ok (ds_cons sPolOk_ok (ds_cons sRtOk_ok (ds_cons (iFits_ok pb) ds_nil (wp_inh pb))))) (wp_inh pb))) ?_
  rintro args ⟨bs, bs2, hbs, hbs2, rfl⟩
  refine ⟨by simp, fun k hk E hE Q hQ => ?_⟩
  refine Aw_st hE [0, 1] [] fun K hK => ?_
  simp only [go_sem, reduceIte, Nat.reduceLT, Nat.reduceLeDiff, Nat.reduceEqDiff, Nat.reduceAdd, Nat.reduceMul, Nat.reduceSub, Nat.reduceBEq, Int.reduceToNat, List.reduceReplicate, reduceCtorEq]
  refine hK _ ?_; clear hK K
  refine Aw_sq fun B1 hB1 hR1 hX1 => ?_
  refine Aw_st hE [0, 1, 24] [] fun K hK => ?_
  simp only [go_sem, reduceIte, Nat.reduceLT, Nat.reduceLeDiff, Nat.reduceEqDiff, Nat.reduceAdd, Nat.reduceMul, Nat.reduceSub, Nat.reduceBEq, Int.reduceToNat, List.reduceReplicate, reduceCtorEq]
  refine ⟨fun hg => ?_, fun hg => ?_⟩
  · refine hK _ (Aw_yes rfl ?_)
    refine Aw_st hE [4] [] fun K hK => ?_
    simp only [go_sem, reduceIte, Nat.reduceLT, Nat.reduceLeDiff, Nat.reduceEqDiff, Nat.reduceAdd, Nat.reduceMul, Nat.reduceSub, Nat.reduceBEq, Int.reduceToNat, List.reduceReplicate, reduceCtorEq]
    refine hK _ (Aw_ret (hR1 _ (hQ _ ?_)))
    simp only [go_sem, reduceIte, Nat.reduceLT, Nat.reduceLeDiff, Nat.reduceEqDiff, Nat.reduceAdd, Nat.reduceMul, Nat.reduceSub, Nat.reduceBEq, Int.reduceToNat, List.reduceReplicate, reduceCtorEq]
  refine hK _ (Aw_cond rfl (fun hc2 => ?_) (fun hc2 => ?_))
  · refine Aw_st hE [4] [] fun K hK => ?_
    simp only [go_sem, reduceIte, Nat.reduceLT, Nat.reduceLeDiff, Nat.reduceEqDiff, Nat.reduceAdd, Nat.reduceMul, Nat.reduceSub, Nat.reduceBEq, Int.reduceToNat, List.reduceReplicate, reduceCtorEq]
    refine hK _ (Aw_ret (hR1 _ (hQ _ ?_)))
    simp only [go_sem, reduceIte, Nat.reduceLT, Nat.reduceLeDiff, Nat.reduceEqDiff, Nat.reduceAdd, Nat.reduceMul, Nat.reduceSub, Nat.reduceBEq, Int.reduceToNat, List.reduceReplicate, reduceCtorEq]
  refine Aw_skip (hB1 _ ?_)
  refine Aw_st hE [1, 5, 6] [6] fun K hK => ?_
  simp only [go_sem, reduceIte, Nat.reduceLT, Nat.reduceLeDiff, Nat.reduceEqDiff, Nat.reduceAdd, Nat.reduceMul, Nat.reduceSub, Nat.reduceBEq, Int.reduceToNat, List.reduceReplicate, reduceCtorEq]
  refine ⟨dpd_pre bs hbs, fun l x hl hx => ?_⟩
  obtain ⟨rf, rb, p, rk, m⟩ := x
  obtain ⟨_, hp1, _, _, _, hm1⟩ := hx
  simp only at hp1 hm1
  obtain ⟨yf, yb, yp, yk, ym, z, hres, hz1, hz0, hyp, hym⟩ := res_ex l ⟨rf, rb, p, rk, m⟩ (by simp only; omega) (by simp only; omega)
  refine hK _ ?_; clear hK K
  refine Aw_st hE [1, 5, 6, 7, 8] [6, 7] fun K hK => ?_
  simp only [go_sem, reduceIte, Nat.reduceLT, Nat.reduceLeDiff, Nat.reduceEqDiff, Nat.reduceAdd, Nat.reduceMul, Nat.reduceSub, Nat.reduceBEq, Int.reduceToNat, List.reduceReplicate, reduceCtorEq, hres]
  refine ⟨⟨by omega, by omega, by omega⟩, ?_⟩
  refine hK _ ?_; clear hK K
  refine Aw_st hE [1, 5, 6, 7, 8, 9, 10] [6, 7, 9] fun K hK => ?_
  simp only [go_sem, reduceIte, Nat.reduceLT, Nat.reduceLeDiff, Nat.reduceEqDiff, Nat.reduceAdd, Nat.reduceMul, Nat.reduceSub, Nat.reduceBEq, Int.reduceToNat, List.reduceReplicate, reduceCtorEq, hres]
  refine ⟨⟨by omega, by omega, by omega⟩, ?_⟩
  refine hK _ ?_; clear hK K
  refine Aw_sq fun B3 hB3 hR3 hX3 => ?_
  have hrt : okR ⟨rf, rb, p, rk, m⟩ = rtOk rf rb p rk m := rfl
  cases hpo : polOk l with
  | false =>
    refine Aw_st hE [1, 5, 6, 7, 8, 9, 10, 60] [6, 7, 9] fun K hK => ?_
    simp only [go_sem, reduceIte, Nat.reduceLT, Nat.reduceLeDiff, Nat.reduceEqDiff, Nat.reduceAdd, Nat.reduceMul, Nat.reduceSub, Nat.reduceBEq, Int.reduceToNat, List.reduceReplicate, reduceCtorEq, hpo, bne_self_eq_false, and_self, decide_true]
    repeat (refine And.intro (by first | omega | (and_intros <;> first | omega | exact rows_row _ | decide | (simp; done) | (simp; omega)) | fail) ?_)
    refine hK _ (Aw_yes rfl ?_)
    refine Aw_st hE [4] [] fun K hK => ?_
    simp only [go_sem, reduceIte, Nat.reduceLT, Nat.reduceLeDiff, Nat.reduceEqDiff, Nat.reduceAdd, Nat.reduceMul, Nat.reduceSub, Nat.reduceBEq, Int.reduceToNat, List.reduceReplicate, reduceCtorEq, beq_self_eq_true, and_self, decide_true]
    repeat (refine And.intro (by first | omega | (and_intros <;> first | omega | exact rows_row _ | decide | (simp; done) | (simp; omega)) | fail) ?_)
    refine hK _ (Aw_ret (hR3 _ (hQ _ ?_)))
    simp only [go_sem, reduceIte, Nat.reduceLT, Nat.reduceLeDiff, Nat.reduceEqDiff, Nat.reduceAdd, Nat.reduceMul, Nat.reduceSub, Nat.reduceBEq, Int.reduceToNat, List.reduceReplicate, reduceCtorEq]
  | true =>
  cases hok : rtOk rf rb p rk m with
  | false =>
    refine Aw_st hE [1, 5, 6, 7, 8, 9, 10, 60] [6, 7, 9] fun K hK => ?_
    simp only [go_sem, reduceIte, Nat.reduceLT, Nat.reduceLeDiff, Nat.reduceEqDiff, Nat.reduceAdd, Nat.reduceMul, Nat.reduceSub, Nat.reduceBEq, Int.reduceToNat, List.reduceReplicate, reduceCtorEq, hpo, hok, bne_self_eq_false, and_self, decide_true]
    repeat (refine And.intro (by first | omega | (and_intros <;> first | omega | exact rows_row _ | decide | (simp; done) | (simp; omega)) | fail) ?_)
    refine hK _ (Aw_yes rfl ?_)
    refine Aw_st hE [4] [] fun K hK => ?_
    simp only [go_sem, reduceIte, Nat.reduceLT, Nat.reduceLeDiff, Nat.reduceEqDiff, Nat.reduceAdd, Nat.reduceMul, Nat.reduceSub, Nat.reduceBEq, Int.reduceToNat, List.reduceReplicate, reduceCtorEq, beq_self_eq_true, and_self, decide_true]
    repeat (refine And.intro (by first | omega | (and_intros <;> first | omega | exact rows_row _ | decide | (simp; done) | (simp; omega)) | fail) ?_)
    refine hK _ (Aw_ret (hR3 _ (hQ _ ?_)))
    simp only [go_sem, reduceIte, Nat.reduceLT, Nat.reduceLeDiff, Nat.reduceEqDiff, Nat.reduceAdd, Nat.reduceMul, Nat.reduceSub, Nat.reduceBEq, Int.reduceToNat, List.reduceReplicate, reduceCtorEq]
  | true =>
  refine Aw_st hE [1, 5, 6, 7, 8, 9, 10, 60] [6, 7, 9] fun K hK => ?_
  simp only [go_sem, reduceIte, Nat.reduceLT, Nat.reduceLeDiff, Nat.reduceEqDiff, Nat.reduceAdd, Nat.reduceMul, Nat.reduceSub, Nat.reduceBEq, Int.reduceToNat, List.reduceReplicate, reduceCtorEq, hpo, hok, bne_self_eq_false, and_self, decide_true]
  repeat (refine And.intro (by first | omega | (and_intros <;> first | omega | exact rows_row _ | decide | (simp; done) | (simp; omega)) | fail) ?_)
  refine hK _ (Aw_no rfl (Aw_skip (hB3 _ ?_)))
  have hokR : okR ⟨rf, rb, p, rk, m⟩ = true := hok
  have hpd : policyDo l ⟨rf, rb, p, rk, m⟩ = polDo l ⟨rf, rb, p, rk, m⟩ := by simp [policyDo, hpo, hokR]
  rw [hpd] at hz1 hz0
  refine Aw_sq fun B11 hB11 hR11 hX11 => ?_
  refine Aw_st hE [1, 5, 6, 9, 10, 71] [6, 9] fun K hK => ?_
  simp only [go_sem, reduceIte, Nat.reduceLT, Nat.reduceLeDiff, Nat.reduceEqDiff, Nat.reduceAdd, Nat.reduceMul, Nat.reduceSub, Nat.reduceBEq, Int.reduceToNat, List.reduceReplicate, reduceCtorEq]
  refine hK _ (Aw_cond rfl (fun hc12 => ?_) (fun hc12 => ?_))
  · refine Aw_st hE [4] [] fun K hK => ?_
    simp only [go_sem, reduceIte, Nat.reduceLT, Nat.reduceLeDiff, Nat.reduceEqDiff, Nat.reduceAdd, Nat.reduceMul, Nat.reduceSub, Nat.reduceBEq, Int.reduceToNat, List.reduceReplicate, reduceCtorEq]
    refine hK _ (Aw_ret (hR11 _ (hQ _ ?_)))
    simp only [go_sem, reduceIte, Nat.reduceLT, Nat.reduceLeDiff, Nat.reduceEqDiff, Nat.reduceAdd, Nat.reduceMul, Nat.reduceSub, Nat.reduceBEq, Int.reduceToNat, List.reduceReplicate, reduceCtorEq]
  refine Aw_skip (hB11 _ ?_)
  obtain ⟨n0, hn0⟩ : ∃ n0, n0 = 1 + ((byteRows bs2).length : Int).tmod 4 := ⟨_, rfl⟩
  have hn1 : 1 ≤ n0 ∧ n0 ≤ 4 := by
    have := Int.emod_nonneg ((byteRows bs2).length : Int) (show (4 : Int) ≠ 0 by decide)
    have := Int.emod_lt_of_pos ((byteRows bs2).length : Int) (show (0 : Int) < 4 by decide)
    rw [hn0, Int.tmod_eq_emod_of_nonneg (by omega)]
    omega
  have hH : isH n0 = true := by simp [isH]; omega
  have hco : clOk ⟨5, n0, 0, 0, false, 7, 0, 0⟩ = true := by simp [clOk, subOk, hH]
  have hpol2 : polOk (l ++ [⟨5, n0, 0, 0, false, 7, 0, 0⟩]) = true := by
    simp only [polOk, Bool.and_eq_true, decide_eq_true_eq, List.length_append, List.all_append, List.all_cons, List.all_nil] at hpo ⊢
    exact ⟨by simp; omega, hpo.2, hco, trivial⟩
  have hpol3 : polOk [⟨5, n0, 0, 0, false, 7, 0, 0⟩] = true := by
    simp only [polOk, Bool.and_eq_true, decide_eq_true_eq, List.all_cons, List.all_nil]
    exact ⟨by simp, hco, trivial⟩
  have hpd2 : policyDo (l ++ [⟨5, n0, 0, 0, false, 7, 0, 0⟩]) ⟨rf, rb, p, rk, m⟩ = if (l.any fun d => fitsB d ⟨rf, rb, p, rk, m⟩) = true then polDo l ⟨rf, rb, p, rk, m⟩ else policyDo [⟨5, n0, 0, 0, false, 7, 0, 0⟩] ⟨rf, rb, p, rk, m⟩ := by
    simp only [policyDo, hpol2, hpol3, hokR, Bool.and_self, if_true, polDo_snoc]
  refine Aw_st hE [5, 6, 9, 10, 11] [6, 9, 11] fun K hK => ?_
  simp only [go_sem, reduceIte, Nat.reduceLT, Nat.reduceLeDiff, Nat.reduceEqDiff, Nat.reduceAdd, Nat.reduceMul, Nat.reduceSub, Nat.reduceBEq, Int.reduceToNat, List.reduceReplicate, reduceCtorEq]
  rw [← hn0]
  refine ⟨by omega, ⟨by omega, by omega⟩, ?_⟩
  refine hK _ ?_; clear hK K
  have hclall : ∀ d ∈ l, clOk d = true := by
    simp only [polOk, Bool.and_eq_true, List.all_eq_true] at hpo
    exact hpo.2
  cases hany : (l.any fun d => fitsB d ⟨rf, rb, p, rk, m⟩) with
  | true =>
    have hres2 : resR (policyDo (l ++ [⟨5, n0, 0, 0, false, 7, 0, 0⟩]) ⟨rf, rb, p, rk, m⟩) = .tup [.agg [iv yf, iv yb, isl yp, iv yk, isl ym], bv z] := by
      rw [hpd2, hany, if_pos rfl, ← hpd]; exact hres
    apply (fun F0 F1 F2 F3 F4 F5 F6 F7 F8 F9 F10 F11 F12 F13 F14 F15 F16 F17 F18 F19 F20 F21 F22 F23 F24 F25 F26 F27 F28 F29 F30 F31 F32 => Aw_sD hE [([0, 1, 3], (.alt 2 (.ref 6) (.alt 4 (.ref 9) (.alt 6 (.ref 10) (.alt 11 (.ref 11) .non))))), ([0, 1, 6], (.alt 2 (.ref 7) (.alt 3 (.ref 10) (.alt 11 (.ref 12) .non)))), ([0, 1, 11], (.alt 2 (.ref 8) (.alt 3 (.ref 11) (.alt 6 (.ref 12) .non)))), ([1, 3, 6], (.alt 0 (.ref 10) (.alt 4 (.ref 13) (.alt 11 (.ref 15) .non)))), ([1, 3, 11], (.alt 0 (.ref 11) (.alt 4 (.ref 14) (.alt 6 (.ref 15) .non)))), ([1, 6, 11], (.alt 0 (.ref 12) (.alt 3 (.ref 15) .non))), ([0, 1, 2, 3], (.alt 4 (.ref 16) (.alt 6 (.ref 17) (.alt 11 (.ref 18) .non)))), ([0, 1, 2, 6], (.alt 3 (.ref 17) (.alt 11 (.ref 19) .non))), ([0, 1, 2, 11], (.alt 3 (.ref 18) (.alt 6 (.ref 19) .non))), ([0, 1, 3, 4], (.alt 2 (.ref 16) (.alt 6 (.ref 20) (.alt 11 (.ref 21) .non)))), ([0, 1, 3, 6], (.alt 2 (.ref 17) (.alt 4 (.ref 20) (.alt 11 (.ref 22) .non)))), ([0, 1, 3, 11], (.alt 2 (.ref 18) (.alt 4 (.ref 21) (.alt 6 (.ref 22) .non)))), ([0, 1, 6, 11], (.alt 2 (.ref 19) (.alt 3 (.ref 22) .non))), ([1, 3, 4, 6], (.alt 0 (.ref 20) (.alt 11 (.ref 23) .non))), ([1, 3, 4, 11], (.alt 0 (.ref 21) (.alt 6 (.ref 23) .non))), ([1, 3, 6, 11], (.alt 0 (.ref 22) (.alt 4 (.ref 23) .non))), ([0, 1, 2, 3, 4], (.alt 5 (.alt 6 (.ref 28) (.alt 11 (.ref 29) .non)) (.alt 6 (.ref 24) (.alt 11 (.ref 25) .non)))), ([0, 1, 2, 3, 6], (.alt 4 (.ref 24) (.alt 11 (.ref 26) .non))), ([0, 1, 2, 3, 11], (.alt 4 (.ref 25) (.alt 6 (.ref 26) .non))), ([0, 1, 2, 6, 11], (.alt 3 (.ref 26) .non)), ([0, 1, 3, 4, 6], (.alt 2 (.ref 24) (.alt 11 (.ref 27) .non))), ([0, 1, 3, 4, 11], (.alt 2 (.ref 25) (.alt 6 (.ref 27) .non))), ([0, 1, 3, 6, 11], (.alt 2 (.ref 26) (.alt 4 (.ref 27) .non))), ([1, 3, 4, 6, 11], (.alt 0 (.ref 27) .non)), ([0, 1, 2, 3, 4, 6], (.alt 5 (.ref 28) (.alt 11 (.ref 30) .non))), ([0, 1, 2, 3, 4, 11], (.alt 5 (.ref 29) (.alt 6 (.ref 30) .non))), ([0, 1, 2, 3, 6, 11], (.alt 4 (.ref 30) .non)), ([0, 1, 3, 4, 6, 11], (.alt 2 (.ref 30) .non)), ([0, 1, 2, 3, 4, 5, 6], (.alt 7 (.fst 8 (.fst 9 (.fst 10 (.alt 11 (.ref 32) .non)))) (.alt 11 (.ref 31) .non))), ([0, 1, 2, 3, 4, 5, 11], (.alt 6 (.ref 31) .non)), ([0, 1, 2, 3, 4, 6, 11], (.alt 5 (.ref 31) .non)), ([0, 1, 2, 3, 4, 5, 6, 11], (.alt 7 (.fst 8 (.fst 9 (.fst 10 (.ref 32)))) .non)), ([0, 1, 2, 3, 4, 5, 6, 7, 8, 9, 10, 11], (.alt 12 (.fst 13 .done) .non))] (.fst 1 (.alt 0 (.alt 2 (.alt 3 (.ref 6) (.alt 6 (.ref 7) (.alt 11 (.ref 8) .non))) (.alt 3 (.ref 0) (.alt 6 (.ref 1) (.alt 11 (.ref 2) .non)))) (.alt 3 (.alt 0 (.ref 0) (.alt 4 (.alt 0 (.ref 9) (.alt 6 (.ref 13) (.alt 11 (.ref 14) .non))) (.alt 6 (.ref 3) (.alt 11 (.ref 4) .non)))) (.alt 6 (.alt 0 (.ref 1) (.alt 3 (.ref 3) (.alt 11 (.ref 5) .non))) (.alt 11 (.alt 0 (.ref 2) (.alt 3 (.ref 4) (.alt 6 (.ref 5) .non))) .non))))) [F0, F1, F2, F3, F4, F5, F6, F7, F8, F9, F10, F11, F12, F13, F14, F15, F16, F17, F18, F19, F20, F21, F22, F23, F24, F25, F26, F27, F28, F29, F30, F31, F32] [5, 6, 9, 10, 11, 12, 13] [6, 9, 11, 12])
    · kernel_rfl
    intro K hK
    refine And.intro ?_ ?_
    · simp only [go_sem, reduceIte, Nat.reduceLT, Nat.reduceLeDiff, Nat.reduceEqDiff, Nat.reduceAdd, Nat.reduceMul, Nat.reduceSub, Nat.reduceBEq, Int.reduceToNat, List.reduceReplicate, reduceCtorEq, crows_one, hres2]
      repeat' (first | exact (fun _ _ r => r) | exact LeE_wk (by simp only [go_sem, reduceIte, Nat.reduceLT, Nat.reduceLeDiff, Nat.reduceEqDiff, Nat.reduceAdd, Nat.reduceMul, Nat.reduceSub, Nat.reduceBEq, Int.reduceToNat, List.reduceReplicate, reduceCtorEq, crows_one, hres2]) (by simp only [go_sem, reduceIte, Nat.reduceLT, Nat.reduceLeDiff, Nat.reduceEqDiff, Nat.reduceAdd, Nat.reduceMul, Nat.reduceSub, Nat.reduceBEq, Int.reduceToNat, List.reduceReplicate, reduceCtorEq, crows_one, hres2]) | refine And.intro (by first | omega | exact crows_row _ | exact rrows_row _ | exact rows_row _ | (and_intros <;> first | omega | exact crows_row _ | exact rrows_row _ | exact rows_row _ | decide | (simp; done) | (simp; omega)) | fail) ?_ | refine And.intro ?_ ?_)
    refine And.intro ?_ ?_
    · simp only [go_sem, reduceIte, Nat.reduceLT, Nat.reduceLeDiff, Nat.reduceEqDiff, Nat.reduceAdd, Nat.reduceMul, Nat.reduceSub, Nat.reduceBEq, Int.reduceToNat, List.reduceReplicate, reduceCtorEq, crows_one, hres2]
      repeat' (first | exact (fun _ _ r => r) | exact LeE_wk (by simp only [go_sem, reduceIte, Nat.reduceLT, Nat.reduceLeDiff, Nat.reduceEqDiff, Nat.reduceAdd, Nat.reduceMul, Nat.reduceSub, Nat.reduceBEq, Int.reduceToNat, List.reduceReplicate, reduceCtorEq, crows_one, hres2]) (by simp only [go_sem, reduceIte, Nat.reduceLT, Nat.reduceLeDiff, Nat.reduceEqDiff, Nat.reduceAdd, Nat.reduceMul, Nat.reduceSub, Nat.reduceBEq, Int.reduceToNat, List.reduceReplicate, reduceCtorEq, crows_one, hres2]) | refine And.intro (by first | omega | exact crows_row _ | exact rrows_row _ | exact rows_row _ | (and_intros <;> first | omega | exact crows_row _ | exact rrows_row _ | exact rows_row _ | decide | (simp; done) | (simp; omega)) | fail) ?_ | refine And.intro ?_ ?_)
    refine And.intro ?_ ?_
    · simp only [go_sem, reduceIte, Nat.reduceLT, Nat.reduceLeDiff, Nat.reduceEqDiff, Nat.reduceAdd, Nat.reduceMul, Nat.reduceSub, Nat.reduceBEq, Int.reduceToNat, List.reduceReplicate, reduceCtorEq, crows_one, hres2]
      repeat' (first | exact (fun _ _ r => r) | exact LeE_wk (by simp only [go_sem, reduceIte, Nat.reduceLT, Nat.reduceLeDiff, Nat.reduceEqDiff, Nat.reduceAdd, Nat.reduceMul, Nat.reduceSub, Nat.reduceBEq, Int.reduceToNat, List.reduceReplicate, reduceCtorEq, crows_one, hres2]) (by simp only [go_sem, reduceIte, Nat.reduceLT, Nat.reduceLeDiff, Nat.reduceEqDiff, Nat.reduceAdd, Nat.reduceMul, Nat.reduceSub, Nat.reduceBEq, Int.reduceToNat, List.reduceReplicate, reduceCtorEq, crows_one, hres2]) | refine And.intro (by first | omega | exact crows_row _ | exact rrows_row _ | exact rows_row _ | (and_intros <;> first | omega | exact crows_row _ | exact rrows_row _ | exact rows_row _ | decide | (simp; done) | (simp; omega)) | fail) ?_ | refine And.intro ?_ ?_)
    refine And.intro ?_ ?_
    · simp only [go_sem, reduceIte, Nat.reduceLT, Nat.reduceLeDiff, Nat.reduceEqDiff, Nat.reduceAdd, Nat.reduceMul, Nat.reduceSub, Nat.reduceBEq, Int.reduceToNat, List.reduceReplicate, reduceCtorEq, crows_one, hres2]
      repeat' (first | exact (fun _ _ r => r) | exact LeE_wk (by simp only [go_sem, reduceIte, Nat.reduceLT, Nat.reduceLeDiff, Nat.reduceEqDiff, Nat.reduceAdd, Nat.reduceMul, Nat.reduceSub, Nat.reduceBEq, Int.reduceToNat, List.reduceReplicate, reduceCtorEq, crows_one, hres2]) (by simp only [go_sem, reduceIte, Nat.reduceLT, Nat.reduceLeDiff, Nat.reduceEqDiff, Nat.reduceAdd, Nat.reduceMul, Nat.reduceSub, Nat.reduceBEq, Int.reduceToNat, List.reduceReplicate, reduceCtorEq, crows_one, hres2]) | refine And.intro (by first | omega | exact crows_row _ | exact rrows_row _ | exact rows_row _ | (and_intros <;> first | omega | exact crows_row _ | exact rrows_row _ | exact rows_row _ | decide | (simp; done) | (simp; omega)) | fail) ?_ | refine And.intro ?_ ?_)
    refine And.intro ?_ ?_
    · simp only [go_sem, reduceIte, Nat.reduceLT, Nat.reduceLeDiff, Nat.reduceEqDiff, Nat.reduceAdd, Nat.reduceMul, Nat.reduceSub, Nat.reduceBEq, Int.reduceToNat, List.reduceReplicate, reduceCtorEq, crows_one, hres2]
      repeat' (first | exact (fun _ _ r => r) | exact LeE_wk (by simp only [go_sem, reduceIte, Nat.reduceLT, Nat.reduceLeDiff, Nat.reduceEqDiff, Nat.reduceAdd, Nat.reduceMul, Nat.reduceSub, Nat.reduceBEq, Int.reduceToNat, List.reduceReplicate, reduceCtorEq, crows_one, hres2]) (by simp only [go_sem, reduceIte, Nat.reduceLT, Nat.reduceLeDiff, Nat.reduceEqDiff, Nat.reduceAdd, Nat.reduceMul, Nat.reduceSub, Nat.reduceBEq, Int.reduceToNat, List.reduceReplicate, reduceCtorEq, crows_one, hres2]) | refine And.intro (by first | omega | exact crows_row _ | exact rrows_row _ | exact rows_row _ | (and_intros <;> first | omega | exact crows_row _ | exact rrows_row _ | exact rows_row _ | decide | (simp; done) | (simp; omega)) | fail) ?_ | refine And.intro ?_ ?_)
    refine And.intro ?_ ?_
    · simp only [go_sem, reduceIte, Nat.reduceLT, Nat.reduceLeDiff, Nat.reduceEqDiff, Nat.reduceAdd, Nat.reduceMul, Nat.reduceSub, Nat.reduceBEq, Int.reduceToNat, List.reduceReplicate, reduceCtorEq, crows_one, hres2]
      repeat' (first | exact (fun _ _ r => r) | exact LeE_wk (by simp only [go_sem, reduceIte, Nat.reduceLT, Nat.reduceLeDiff, Nat.reduceEqDiff, Nat.reduceAdd, Nat.reduceMul, Nat.reduceSub, Nat.reduceBEq, Int.reduceToNat, List.reduceReplicate, reduceCtorEq, crows_one, hres2]) (by simp only [go_sem, reduceIte, Nat.reduceLT, Nat.reduceLeDiff, Nat.reduceEqDiff, Nat.reduceAdd, Nat.reduceMul, Nat.reduceSub, Nat.reduceBEq, Int.reduceToNat, List.reduceReplicate, reduceCtorEq, crows_one, hres2]) | refine And.intro (by first | omega | exact crows_row _ | exact rrows_row _ | exact rows_row _ | (and_intros <;> first | omega | exact crows_row _ | exact rrows_row _ | exact rows_row _ | decide | (simp; done) | (simp; omega)) | fail) ?_ | refine And.intro ?_ ?_)
    refine And.intro ?_ ?_
    · simp only [go_sem, reduceIte, Nat.reduceLT, Nat.reduceLeDiff, Nat.reduceEqDiff, Nat.reduceAdd, Nat.reduceMul, Nat.reduceSub, Nat.reduceBEq, Int.reduceToNat, List.reduceReplicate, reduceCtorEq, crows_one, hres2]
      repeat' (first | exact (fun _ _ r => r) | exact LeE_wk (by simp only [go_sem, reduceIte, Nat.reduceLT, Nat.reduceLeDiff, Nat.reduceEqDiff, Nat.reduceAdd, Nat.reduceMul, Nat.reduceSub, Nat.reduceBEq, Int.reduceToNat, List.reduceReplicate, reduceCtorEq, crows_one, hres2]) (by simp only [go_sem, reduceIte, Nat.reduceLT, Nat.reduceLeDiff, Nat.reduceEqDiff, Nat.reduceAdd, Nat.reduceMul, Nat.reduceSub, Nat.reduceBEq, Int.reduceToNat, List.reduceReplicate, reduceCtorEq, crows_one, hres2]) | refine And.intro (by first | omega | exact crows_row _ | exact rrows_row _ | exact rows_row _ | (and_intros <;> first | omega | exact crows_row _ | exact rrows_row _ | exact rows_row _ | decide | (simp; done) | (simp; omega)) | fail) ?_ | refine And.intro ?_ ?_)
    refine And.intro ?_ ?_
    · simp only [go_sem, reduceIte, Nat.reduceLT, Nat.reduceLeDiff, Nat.reduceEqDiff, Nat.reduceAdd, Nat.reduceMul, Nat.reduceSub, Nat.reduceBEq, Int.reduceToNat, List.reduceReplicate, reduceCtorEq, crows_one, hres2]
      repeat' (first | exact (fun _ _ r => r) | exact LeE_wk (by simp only [go_sem, reduceIte, Nat.reduceLT, Nat.reduceLeDiff, Nat.reduceEqDiff, Nat.reduceAdd, Nat.reduceMul, Nat.reduceSub, Nat.reduceBEq, Int.reduceToNat, List.reduceReplicate, reduceCtorEq, crows_one, hres2]) (by simp only [go_sem, reduceIte, Nat.reduceLT, Nat.reduceLeDiff, Nat.reduceEqDiff, Nat.reduceAdd, Nat.reduceMul, Nat.reduceSub, Nat.reduceBEq, Int.reduceToNat, List.reduceReplicate, reduceCtorEq, crows_one, hres2]) | refine And.intro (by first | omega | exact crows_row _ | exact rrows_row _ | exact rows_row _ | (and_intros <;> first | omega | exact crows_row _ | exact rrows_row _ | exact rows_row _ | decide | (simp; done) | (simp; omega)) | fail) ?_ | refine And.intro ?_ ?_)
    refine And.intro ?_ ?_
    · simp only [go_sem, reduceIte, Nat.reduceLT, Nat.reduceLeDiff, Nat.reduceEqDiff, Nat.reduceAdd, Nat.reduceMul, Nat.reduceSub, Nat.reduceBEq, Int.reduceToNat, List.reduceReplicate, reduceCtorEq, crows_one, hres2]
      repeat' (first | exact (fun _ _ r => r) | exact LeE_wk (by simp only [go_sem, reduceIte, Nat.reduceLT, Nat.reduceLeDiff, Nat.reduceEqDiff, Nat.reduceAdd, Nat.reduceMul, Nat.reduceSub, Nat.reduceBEq, Int.reduceToNat, List.reduceReplicate, reduceCtorEq, crows_one, hres2]) (by simp only [go_sem, reduceIte, Nat.reduceLT, Nat.reduceLeDiff, Nat.reduceEqDiff, Nat.reduceAdd, Nat.reduceMul, Nat.reduceSub, Nat.reduceBEq, Int.reduceToNat, List.reduceReplicate, reduceCtorEq, crows_one, hres2]) | refine And.intro (by first | omega | exact crows_row _ | exact rrows_row _ | exact rows_row _ | (and_intros <;> first | omega | exact crows_row _ | exact rrows_row _ | exact rows_row _ | decide | (simp; done) | (simp; omega)) | fail) ?_ | refine And.intro ?_ ?_)
    refine And.intro ?_ ?_
    · simp only [go_sem, reduceIte, Nat.reduceLT, Nat.reduceLeDiff, Nat.reduceEqDiff, Nat.reduceAdd, Nat.reduceMul, Nat.reduceSub, Nat.reduceBEq, Int.reduceToNat, List.reduceReplicate, reduceCtorEq, crows_one, hres2]
      repeat' (first | exact (fun _ _ r => r) | exact LeE_wk (by simp only [go_sem, reduceIte, Nat.reduceLT, Nat.reduceLeDiff, Nat.reduceEqDiff, Nat.reduceAdd, Nat.reduceMul, Nat.reduceSub, Nat.reduceBEq, Int.reduceToNat, List.reduceReplicate, reduceCtorEq, crows_one, hres2]) (by simp only [go_sem, reduceIte, Nat.reduceLT, Nat.reduceLeDiff, Nat.reduceEqDiff, Nat.reduceAdd, Nat.reduceMul, Nat.reduceSub, Nat.reduceBEq, Int.reduceToNat, List.reduceReplicate, reduceCtorEq, crows_one, hres2]) | refine And.intro (by first | omega | exact crows_row _ | exact rrows_row _ | exact rows_row _ | (and_intros <;> first | omega | exact crows_row _ | exact rrows_row _ | exact rows_row _ | decide | (simp; done) | (simp; omega)) | fail) ?_ | refine And.intro ?_ ?_)
    refine And.intro ?_ ?_
    · simp only [go_sem, reduceIte, Nat.reduceLT, Nat.reduceLeDiff, Nat.reduceEqDiff, Nat.reduceAdd, Nat.reduceMul, Nat.reduceSub, Nat.reduceBEq, Int.reduceToNat, List.reduceReplicate, reduceCtorEq, crows_one, hres2]
      repeat' (first | exact (fun _ _ r => r) | exact LeE_wk (by simp only [go_sem, reduceIte, Nat.reduceLT, Nat.reduceLeDiff, Nat.reduceEqDiff, Nat.reduceAdd, Nat.reduceMul, Nat.reduceSub, Nat.reduceBEq, Int.reduceToNat, List.reduceReplicate, reduceCtorEq, crows_one, hres2]) (by simp only [go_sem, reduceIte, Nat.reduceLT, Nat.reduceLeDiff, Nat.reduceEqDiff, Nat.reduceAdd, Nat.reduceMul, Nat.reduceSub, Nat.reduceBEq, Int.reduceToNat, List.reduceReplicate, reduceCtorEq, crows_one, hres2]) | refine And.intro (by first | omega | exact crows_row _ | exact rrows_row _ | exact rows_row _ | (and_intros <;> first | omega | exact crows_row _ | exact rrows_row _ | exact rows_row _ | decide | (simp; done) | (simp; omega)) | fail) ?_ | refine And.intro ?_ ?_)
    refine And.intro ?_ ?_
    · simp only [go_sem, reduceIte, Nat.reduceLT, Nat.reduceLeDiff, Nat.reduceEqDiff, Nat.reduceAdd, Nat.reduceMul, Nat.reduceSub, Nat.reduceBEq, Int.reduceToNat, List.reduceReplicate, reduceCtorEq, crows_one, hres2]
      repeat' (first | exact (fun _ _ r => r) | exact LeE_wk (by simp only [go_sem, reduceIte, Nat.reduceLT, Nat.reduceLeDiff, Nat.reduceEqDiff, Nat.reduceAdd, Nat.reduceMul, Nat.reduceSub, Nat.reduceBEq, Int.reduceToNat, List.reduceReplicate, reduceCtorEq, crows_one, hres2]) (by simp only [go_sem, reduceIte, Nat.reduceLT, Nat.reduceLeDiff, Nat.reduceEqDiff, Nat.reduceAdd, Nat.reduceMul, Nat.reduceSub, Nat.reduceBEq, Int.reduceToNat, List.reduceReplicate, reduceCtorEq, crows_one, hres2]) | refine And.intro (by first | omega | exact crows_row _ | exact rrows_row _ | exact rows_row _ | (and_intros <;> first | omega | exact crows_row _ | exact rrows_row _ | exact rows_row _ | decide | (simp; done) | (simp; omega)) | fail) ?_ | refine And.intro ?_ ?_)
    refine And.intro ?_ ?_
    · simp only [go_sem, reduceIte, Nat.reduceLT, Nat.reduceLeDiff, Nat.reduceEqDiff, Nat.reduceAdd, Nat.reduceMul, Nat.reduceSub, Nat.reduceBEq, Int.reduceToNat, List.reduceReplicate, reduceCtorEq, crows_one, hres2]
      repeat' (first | exact (fun _ _ r => r) | exact LeE_wk (by simp only [go_sem, reduceIte, Nat.reduceLT, Nat.reduceLeDiff, Nat.reduceEqDiff, Nat.reduceAdd, Nat.reduceMul, Nat.reduceSub, Nat.reduceBEq, Int.reduceToNat, List.reduceReplicate, reduceCtorEq, crows_one, hres2]) (by simp only [go_sem, reduceIte, Nat.reduceLT, Nat.reduceLeDiff, Nat.reduceEqDiff, Nat.reduceAdd, Nat.reduceMul, Nat.reduceSub, Nat.reduceBEq, Int.reduceToNat, List.reduceReplicate, reduceCtorEq, crows_one, hres2]) | refine And.intro (by first | omega | exact crows_row _ | exact rrows_row _ | exact rows_row _ | (and_intros <;> first | omega | exact crows_row _ | exact rrows_row _ | exact rows_row _ | decide | (simp; done) | (simp; omega)) | fail) ?_ | refine And.intro ?_ ?_)
    refine And.intro ?_ ?_
    · simp only [go_sem, reduceIte, Nat.reduceLT, Nat.reduceLeDiff, Nat.reduceEqDiff, Nat.reduceAdd, Nat.reduceMul, Nat.reduceSub, Nat.reduceBEq, Int.reduceToNat, List.reduceReplicate, reduceCtorEq, crows_one, hres2]
      repeat' (first | exact (fun _ _ r => r) | exact LeE_wk (by simp only [go_sem, reduceIte, Nat.reduceLT, Nat.reduceLeDiff, Nat.reduceEqDiff, Nat.reduceAdd, Nat.reduceMul, Nat.reduceSub, Nat.reduceBEq, Int.reduceToNat, List.reduceReplicate, reduceCtorEq, crows_one, hres2]) (by simp only [go_sem, reduceIte, Nat.reduceLT, Nat.reduceLeDiff, Nat.reduceEqDiff, Nat.reduceAdd, Nat.reduceMul, Nat.reduceSub, Nat.reduceBEq, Int.reduceToNat, List.reduceReplicate, reduceCtorEq, crows_one, hres2]) | refine And.intro (by first | omega | exact crows_row _ | exact rrows_row _ | exact rows_row _ | (and_intros <;> first | omega | exact crows_row _ | exact rrows_row _ | exact rows_row _ | decide | (simp; done) | (simp; omega)) | fail) ?_ | refine And.intro ?_ ?_)
    refine And.intro ?_ ?_
    · simp only [go_sem, reduceIte, Nat.reduceLT, Nat.reduceLeDiff, Nat.reduceEqDiff, Nat.reduceAdd, Nat.reduceMul, Nat.reduceSub, Nat.reduceBEq, Int.reduceToNat, List.reduceReplicate, reduceCtorEq, crows_one, hres2]
      repeat' (first | exact (fun _ _ r => r) | exact LeE_wk (by simp only [go_sem, reduceIte, Nat.reduceLT, Nat.reduceLeDiff, Nat.reduceEqDiff, Nat.reduceAdd, Nat.reduceMul, Nat.reduceSub, Nat.reduceBEq, Int.reduceToNat, List.reduceReplicate, reduceCtorEq, crows_one, hres2]) (by simp only [go_sem, reduceIte, Nat.reduceLT, Nat.reduceLeDiff, Nat.reduceEqDiff, Nat.reduceAdd, Nat.reduceMul, Nat.reduceSub, Nat.reduceBEq, Int.reduceToNat, List.reduceReplicate, reduceCtorEq, crows_one, hres2]) | refine And.intro (by first | omega | exact crows_row _ | exact rrows_row _ | exact rows_row _ | (and_intros <;> first | omega | exact crows_row _ | exact rrows_row _ | exact rows_row _ | decide | (simp; done) | (simp; omega)) | fail) ?_ | refine And.intro ?_ ?_)
    refine And.intro ?_ ?_
    · simp only [go_sem, reduceIte, Nat.reduceLT, Nat.reduceLeDiff, Nat.reduceEqDiff, Nat.reduceAdd, Nat.reduceMul, Nat.reduceSub, Nat.reduceBEq, Int.reduceToNat, List.reduceReplicate, reduceCtorEq, crows_one, hres2]
      repeat' (first | exact (fun _ _ r => r) | exact LeE_wk (by simp only [go_sem, reduceIte, Nat.reduceLT, Nat.reduceLeDiff, Nat.reduceEqDiff, Nat.reduceAdd, Nat.reduceMul, Nat.reduceSub, Nat.reduceBEq, Int.reduceToNat, List.reduceReplicate, reduceCtorEq, crows_one, hres2]) (by simp only [go_sem, reduceIte, Nat.reduceLT, Nat.reduceLeDiff, Nat.reduceEqDiff, Nat.reduceAdd, Nat.reduceMul, Nat.reduceSub, Nat.reduceBEq, Int.reduceToNat, List.reduceReplicate, reduceCtorEq, crows_one, hres2]) | refine And.intro (by first | omega | exact crows_row _ | exact rrows_row _ | exact rows_row _ | (and_intros <;> first | omega | exact crows_row _ | exact rrows_row _ | exact rows_row _ | decide | (simp; done) | (simp; omega)) | fail) ?_ | refine And.intro ?_ ?_)
    refine And.intro ?_ ?_
    · simp only [go_sem, reduceIte, Nat.reduceLT, Nat.reduceLeDiff, Nat.reduceEqDiff, Nat.reduceAdd, Nat.reduceMul, Nat.reduceSub, Nat.reduceBEq, Int.reduceToNat, List.reduceReplicate, reduceCtorEq, crows_one, hres2]
      repeat' (first | exact (fun _ _ r => r) | exact LeE_wk (by simp only [go_sem, reduceIte, Nat.reduceLT, Nat.reduceLeDiff, Nat.reduceEqDiff, Nat.reduceAdd, Nat.reduceMul, Nat.reduceSub, Nat.reduceBEq, Int.reduceToNat, List.reduceReplicate, reduceCtorEq, crows_one, hres2]) (by simp only [go_sem, reduceIte, Nat.reduceLT, Nat.reduceLeDiff, Nat.reduceEqDiff, Nat.reduceAdd, Nat.reduceMul, Nat.reduceSub, Nat.reduceBEq, Int.reduceToNat, List.reduceReplicate, reduceCtorEq, crows_one, hres2]) | refine And.intro (by first | omega | exact crows_row _ | exact rrows_row _ | exact rows_row _ | (and_intros <;> first | omega | exact crows_row _ | exact rrows_row _ | exact rows_row _ | decide | (simp; done) | (simp; omega)) | fail) ?_ | refine And.intro ?_ ?_)
    refine And.intro ?_ ?_
    · simp only [go_sem, reduceIte, Nat.reduceLT, Nat.reduceLeDiff, Nat.reduceEqDiff, Nat.reduceAdd, Nat.reduceMul, Nat.reduceSub, Nat.reduceBEq, Int.reduceToNat, List.reduceReplicate, reduceCtorEq, crows_one, hres2]
      repeat' (first | exact (fun _ _ r => r) | exact LeE_wk (by simp only [go_sem, reduceIte, Nat.reduceLT, Nat.reduceLeDiff, Nat.reduceEqDiff, Nat.reduceAdd, Nat.reduceMul, Nat.reduceSub, Nat.reduceBEq, Int.reduceToNat, List.reduceReplicate, reduceCtorEq, crows_one, hres2]) (by simp only [go_sem, reduceIte, Nat.reduceLT, Nat.reduceLeDiff, Nat.reduceEqDiff, Nat.reduceAdd, Nat.reduceMul, Nat.reduceSub, Nat.reduceBEq, Int.reduceToNat, List.reduceReplicate, reduceCtorEq, crows_one, hres2]) | refine And.intro (by first | omega | exact crows_row _ | exact rrows_row _ | exact rows_row _ | (and_intros <;> first | omega | exact crows_row _ | exact rrows_row _ | exact rows_row _ | decide | (simp; done) | (simp; omega)) | fail) ?_ | refine And.intro ?_ ?_)
    refine And.intro ?_ ?_
    · simp only [go_sem, reduceIte, Nat.reduceLT, Nat.reduceLeDiff, Nat.reduceEqDiff, Nat.reduceAdd, Nat.reduceMul, Nat.reduceSub, Nat.reduceBEq, Int.reduceToNat, List.reduceReplicate, reduceCtorEq, crows_one, hres2]
      repeat' (first | exact (fun _ _ r => r) | exact LeE_wk (by simp only [go_sem, reduceIte, Nat.reduceLT, Nat.reduceLeDiff, Nat.reduceEqDiff, Nat.reduceAdd, Nat.reduceMul, Nat.reduceSub, Nat.reduceBEq, Int.reduceToNat, List.reduceReplicate, reduceCtorEq, crows_one, hres2]) (by simp only [go_sem, reduceIte, Nat.reduceLT, Nat.reduceLeDiff, Nat.reduceEqDiff, Nat.reduceAdd, Nat.reduceMul, Nat.reduceSub, Nat.reduceBEq, Int.reduceToNat, List.reduceReplicate, reduceCtorEq, crows_one, hres2]) | refine And.intro (by first | omega | exact crows_row _ | exact rrows_row _ | exact rows_row _ | (and_intros <;> first | omega | exact crows_row _ | exact rrows_row _ | exact rows_row _ | decide | (simp; done) | (simp; omega)) | fail) ?_ | refine And.intro ?_ ?_)
    refine And.intro ?_ ?_
    · simp only [go_sem, reduceIte, Nat.reduceLT, Nat.reduceLeDiff, Nat.reduceEqDiff, Nat.reduceAdd, Nat.reduceMul, Nat.reduceSub, Nat.reduceBEq, Int.reduceToNat, List.reduceReplicate, reduceCtorEq, crows_one, hres2]
      repeat' (first | exact (fun _ _ r => r) | exact LeE_wk (by simp only [go_sem, reduceIte, Nat.reduceLT, Nat.reduceLeDiff, Nat.reduceEqDiff, Nat.reduceAdd, Nat.reduceMul, Nat.reduceSub, Nat.reduceBEq, Int.reduceToNat, List.reduceReplicate, reduceCtorEq, crows_one, hres2]) (by simp only [go_sem, reduceIte, Nat.reduceLT, Nat.reduceLeDiff, Nat.reduceEqDiff, Nat.reduceAdd, Nat.reduceMul, Nat.reduceSub, Nat.reduceBEq, Int.reduceToNat, List.reduceReplicate, reduceCtorEq, crows_one, hres2]) | refine And.intro (by first | omega | exact crows_row _ | exact rrows_row _ | exact rows_row _ | (and_intros <;> first | omega | exact crows_row _ | exact rrows_row _ | exact rows_row _ | decide | (simp; done) | (simp; omega)) | fail) ?_ | refine And.intro ?_ ?_)
    refine And.intro ?_ ?_
    · simp only [go_sem, reduceIte, Nat.reduceLT, Nat.reduceLeDiff, Nat.reduceEqDiff, Nat.reduceAdd, Nat.reduceMul, Nat.reduceSub, Nat.reduceBEq, Int.reduceToNat, List.reduceReplicate, reduceCtorEq, crows_one, hres2]
      repeat' (first | exact (fun _ _ r => r) | exact LeE_wk (by simp only [go_sem, reduceIte, Nat.reduceLT, Nat.reduceLeDiff, Nat.reduceEqDiff, Nat.reduceAdd, Nat.reduceMul, Nat.reduceSub, Nat.reduceBEq, Int.reduceToNat, List.reduceReplicate, reduceCtorEq, crows_one, hres2]) (by simp only [go_sem, reduceIte, Nat.reduceLT, Nat.reduceLeDiff, Nat.reduceEqDiff, Nat.reduceAdd, Nat.reduceMul, Nat.reduceSub, Nat.reduceBEq, Int.reduceToNat, List.reduceReplicate, reduceCtorEq, crows_one, hres2]) | refine And.intro (by first | omega | exact crows_row _ | exact rrows_row _ | exact rows_row _ | (and_intros <;> first | omega | exact crows_row _ | exact rrows_row _ | exact rows_row _ | decide | (simp; done) | (simp; omega)) | fail) ?_ | refine And.intro ?_ ?_)
    refine And.intro ?_ ?_
    · simp only [go_sem, reduceIte, Nat.reduceLT, Nat.reduceLeDiff, Nat.reduceEqDiff, Nat.reduceAdd, Nat.reduceMul, Nat.reduceSub, Nat.reduceBEq, Int.reduceToNat, List.reduceReplicate, reduceCtorEq, crows_one, hres2]
      repeat' (first | exact (fun _ _ r => r) | exact LeE_wk (by simp only [go_sem, reduceIte, Nat.reduceLT, Nat.reduceLeDiff, Nat.reduceEqDiff, Nat.reduceAdd, Nat.reduceMul, Nat.reduceSub, Nat.reduceBEq, Int.reduceToNat, List.reduceReplicate, reduceCtorEq, crows_one, hres2]) (by simp only [go_sem, reduceIte, Nat.reduceLT, Nat.reduceLeDiff, Nat.reduceEqDiff, Nat.reduceAdd, Nat.reduceMul, Nat.reduceSub, Nat.reduceBEq, Int.reduceToNat, List.reduceReplicate, reduceCtorEq, crows_one, hres2]) | refine And.intro (by first | omega | exact crows_row _ | exact rrows_row _ | exact rows_row _ | (and_intros <;> first | omega | exact crows_row _ | exact rrows_row _ | exact rows_row _ | decide | (simp; done) | (simp; omega)) | fail) ?_ | refine And.intro ?_ ?_)
    refine And.intro ?_ ?_
    · simp only [go_sem, reduceIte, Nat.reduceLT, Nat.reduceLeDiff, Nat.reduceEqDiff, Nat.reduceAdd, Nat.reduceMul, Nat.reduceSub, Nat.reduceBEq, Int.reduceToNat, List.reduceReplicate, reduceCtorEq, crows_one, hres2]
      repeat' (first | exact (fun _ _ r => r) | exact LeE_wk (by simp only [go_sem, reduceIte, Nat.reduceLT, Nat.reduceLeDiff, Nat.reduceEqDiff, Nat.reduceAdd, Nat.reduceMul, Nat.reduceSub, Nat.reduceBEq, Int.reduceToNat, List.reduceReplicate, reduceCtorEq, crows_one, hres2]) (by simp only [go_sem, reduceIte, Nat.reduceLT, Nat.reduceLeDiff, Nat.reduceEqDiff, Nat.reduceAdd, Nat.reduceMul, Nat.reduceSub, Nat.reduceBEq, Int.reduceToNat, List.reduceReplicate, reduceCtorEq, crows_one, hres2]) | refine And.intro (by first | omega | exact crows_row _ | exact rrows_row _ | exact rows_row _ | (and_intros <;> first | omega | exact crows_row _ | exact rrows_row _ | exact rows_row _ | decide | (simp; done) | (simp; omega)) | fail) ?_ | refine And.intro ?_ ?_)
    refine And.intro ?_ ?_
    · simp only [go_sem, reduceIte, Nat.reduceLT, Nat.reduceLeDiff, Nat.reduceEqDiff, Nat.reduceAdd, Nat.reduceMul, Nat.reduceSub, Nat.reduceBEq, Int.reduceToNat, List.reduceReplicate, reduceCtorEq, crows_one, hres2]
      repeat' (first | exact (fun _ _ r => r) | exact LeE_wk (by simp only [go_sem, reduceIte, Nat.reduceLT, Nat.reduceLeDiff, Nat.reduceEqDiff, Nat.reduceAdd, Nat.reduceMul, Nat.reduceSub, Nat.reduceBEq, Int.reduceToNat, List.reduceReplicate, reduceCtorEq, crows_one, hres2]) (by simp only [go_sem, reduceIte, Nat.reduceLT, Nat.reduceLeDiff, Nat.reduceEqDiff, Nat.reduceAdd, Nat.reduceMul, Nat.reduceSub, Nat.reduceBEq, Int.reduceToNat, List.reduceReplicate, reduceCtorEq, crows_one, hres2]) | refine And.intro (by first | omega | exact crows_row _ | exact rrows_row _ | exact rows_row _ | (and_intros <;> first | omega | exact crows_row _ | exact rrows_row _ | exact rows_row _ | decide | (simp; done) | (simp; omega)) | fail) ?_ | refine And.intro ?_ ?_)
    refine And.intro ?_ ?_
    · simp only [go_sem, reduceIte, Nat.reduceLT, Nat.reduceLeDiff, Nat.reduceEqDiff, Nat.reduceAdd, Nat.reduceMul, Nat.reduceSub, Nat.reduceBEq, Int.reduceToNat, List.reduceReplicate, reduceCtorEq, crows_one, hres2]
      repeat' (first | exact (fun _ _ r => r) | exact LeE_wk (by simp only [go_sem, reduceIte, Nat.reduceLT, Nat.reduceLeDiff, Nat.reduceEqDiff, Nat.reduceAdd, Nat.reduceMul, Nat.reduceSub, Nat.reduceBEq, Int.reduceToNat, List.reduceReplicate, reduceCtorEq, crows_one, hres2]) (by simp only [go_sem, reduceIte, Nat.reduceLT, Nat.reduceLeDiff, Nat.reduceEqDiff, Nat.reduceAdd, Nat.reduceMul, Nat.reduceSub, Nat.reduceBEq, Int.reduceToNat, List.reduceReplicate, reduceCtorEq, crows_one, hres2]) | refine And.intro (by first | omega | exact crows_row _ | exact rrows_row _ | exact rows_row _ | (and_intros <;> first | omega | exact crows_row _ | exact rrows_row _ | exact rows_row _ | decide | (simp; done) | (simp; omega)) | fail) ?_ | refine And.intro ?_ ?_)
    refine And.intro ?_ ?_
    · simp only [go_sem, reduceIte, Nat.reduceLT, Nat.reduceLeDiff, Nat.reduceEqDiff, Nat.reduceAdd, Nat.reduceMul, Nat.reduceSub, Nat.reduceBEq, Int.reduceToNat, List.reduceReplicate, reduceCtorEq, crows_one, hres2]
      repeat' (first | exact (fun _ _ r => r) | exact LeE_wk (by simp only [go_sem, reduceIte, Nat.reduceLT, Nat.reduceLeDiff, Nat.reduceEqDiff, Nat.reduceAdd, Nat.reduceMul, Nat.reduceSub, Nat.reduceBEq, Int.reduceToNat, List.reduceReplicate, reduceCtorEq, crows_one, hres2]) (by simp only [go_sem, reduceIte, Nat.reduceLT, Nat.reduceLeDiff, Nat.reduceEqDiff, Nat.reduceAdd, Nat.reduceMul, Nat.reduceSub, Nat.reduceBEq, Int.reduceToNat, List.reduceReplicate, reduceCtorEq, crows_one, hres2]) | refine And.intro (by first | omega | exact crows_row _ | exact rrows_row _ | exact rows_row _ | (and_intros <;> first | omega | exact crows_row _ | exact rrows_row _ | exact rows_row _ | decide | (simp; done) | (simp; omega)) | fail) ?_ | refine And.intro ?_ ?_)
    refine And.intro ?_ ?_
    · simp only [go_sem, reduceIte, Nat.reduceLT, Nat.reduceLeDiff, Nat.reduceEqDiff, Nat.reduceAdd, Nat.reduceMul, Nat.reduceSub, Nat.reduceBEq, Int.reduceToNat, List.reduceReplicate, reduceCtorEq, crows_one, hres2]
      repeat' (first | exact (fun _ _ r => r) | exact LeE_wk (by simp only [go_sem, reduceIte, Nat.reduceLT, Nat.reduceLeDiff, Nat.reduceEqDiff, Nat.reduceAdd, Nat.reduceMul, Nat.reduceSub, Nat.reduceBEq, Int.reduceToNat, List.reduceReplicate, reduceCtorEq, crows_one, hres2]) (by simp only [go_sem, reduceIte, Nat.reduceLT, Nat.reduceLeDiff, Nat.reduceEqDiff, Nat.reduceAdd, Nat.reduceMul, Nat.reduceSub, Nat.reduceBEq, Int.reduceToNat, List.reduceReplicate, reduceCtorEq, crows_one, hres2]) | refine And.intro (by first | omega | exact crows_row _ | exact rrows_row _ | exact rows_row _ | (and_intros <;> first | omega | exact crows_row _ | exact rrows_row _ | exact rows_row _ | decide | (simp; done) | (simp; omega)) | fail) ?_ | refine And.intro ?_ ?_)
    refine And.intro ?_ ?_
    · simp only [go_sem, reduceIte, Nat.reduceLT, Nat.reduceLeDiff, Nat.reduceEqDiff, Nat.reduceAdd, Nat.reduceMul, Nat.reduceSub, Nat.reduceBEq, Int.reduceToNat, List.reduceReplicate, reduceCtorEq, crows_one, hres2]
      repeat' (first | exact (fun _ _ r => r) | exact LeE_wk (by simp only [go_sem, reduceIte, Nat.reduceLT, Nat.reduceLeDiff, Nat.reduceEqDiff, Nat.reduceAdd, Nat.reduceMul, Nat.reduceSub, Nat.reduceBEq, Int.reduceToNat, List.reduceReplicate, reduceCtorEq, crows_one, hres2]) (by simp only [go_sem, reduceIte, Nat.reduceLT, Nat.reduceLeDiff, Nat.reduceEqDiff, Nat.reduceAdd, Nat.reduceMul, Nat.reduceSub, Nat.reduceBEq, Int.reduceToNat, List.reduceReplicate, reduceCtorEq, crows_one, hres2]) | refine And.intro (by first | omega | exact crows_row _ | exact rrows_row _ | exact rows_row _ | (and_intros <;> first | omega | exact crows_row _ | exact rrows_row _ | exact rows_row _ | decide | (simp; done) | (simp; omega)) | fail) ?_ | refine And.intro ?_ ?_)
    refine And.intro ?_ ?_
    · simp only [go_sem, reduceIte, Nat.reduceLT, Nat.reduceLeDiff, Nat.reduceEqDiff, Nat.reduceAdd, Nat.reduceMul, Nat.reduceSub, Nat.reduceBEq, Int.reduceToNat, List.reduceReplicate, reduceCtorEq, crows_one, hres2]
      repeat' (first | exact (fun _ _ r => r) | exact LeE_wk (by simp only [go_sem, reduceIte, Nat.reduceLT, Nat.reduceLeDiff, Nat.reduceEqDiff, Nat.reduceAdd, Nat.reduceMul, Nat.reduceSub, Nat.reduceBEq, Int.reduceToNat, List.reduceReplicate, reduceCtorEq, crows_one, hres2]) (by simp only [go_sem, reduceIte, Nat.reduceLT, Nat.reduceLeDiff, Nat.reduceEqDiff, Nat.reduceAdd, Nat.reduceMul, Nat.reduceSub, Nat.reduceBEq, Int.reduceToNat, List.reduceReplicate, reduceCtorEq, crows_one, hres2]) | refine And.intro (by first | omega | exact crows_row _ | exact rrows_row _ | exact rows_row _ | (and_intros <;> first | omega | exact crows_row _ | exact rrows_row _ | exact rows_row _ | decide | (simp; done) | (simp; omega)) | fail) ?_ | refine And.intro ?_ ?_)
    refine And.intro ?_ ?_
    · simp only [go_sem, reduceIte, Nat.reduceLT, Nat.reduceLeDiff, Nat.reduceEqDiff, Nat.reduceAdd, Nat.reduceMul, Nat.reduceSub, Nat.reduceBEq, Int.reduceToNat, List.reduceReplicate, reduceCtorEq, crows_one, hres2]
      repeat' (first | exact (fun _ _ r => r) | exact LeE_wk (by simp only [go_sem, reduceIte, Nat.reduceLT, Nat.reduceLeDiff, Nat.reduceEqDiff, Nat.reduceAdd, Nat.reduceMul, Nat.reduceSub, Nat.reduceBEq, Int.reduceToNat, List.reduceReplicate, reduceCtorEq, crows_one, hres2]) (by simp only [go_sem, reduceIte, Nat.reduceLT, Nat.reduceLeDiff, Nat.reduceEqDiff, Nat.reduceAdd, Nat.reduceMul, Nat.reduceSub, Nat.reduceBEq, Int.reduceToNat, List.reduceReplicate, reduceCtorEq, crows_one, hres2]) | refine And.intro (by first | omega | exact crows_row _ | exact rrows_row _ | exact rows_row _ | (and_intros <;> first | omega | exact crows_row _ | exact rrows_row _ | exact rows_row _ | decide | (simp; done) | (simp; omega)) | fail) ?_ | refine And.intro ?_ ?_)
    refine And.intro ?_ ?_
    · simp only [go_sem, reduceIte, Nat.reduceLT, Nat.reduceLeDiff, Nat.reduceEqDiff, Nat.reduceAdd, Nat.reduceMul, Nat.reduceSub, Nat.reduceBEq, Int.reduceToNat, List.reduceReplicate, reduceCtorEq, crows_one, hres2]
      repeat' (first | exact (fun _ _ r => r) | exact LeE_wk (by simp only [go_sem, reduceIte, Nat.reduceLT, Nat.reduceLeDiff, Nat.reduceEqDiff, Nat.reduceAdd, Nat.reduceMul, Nat.reduceSub, Nat.reduceBEq, Int.reduceToNat, List.reduceReplicate, reduceCtorEq, crows_one, hres2]) (by simp only [go_sem, reduceIte, Nat.reduceLT, Nat.reduceLeDiff, Nat.reduceEqDiff, Nat.reduceAdd, Nat.reduceMul, Nat.reduceSub, Nat.reduceBEq, Int.reduceToNat, List.reduceReplicate, reduceCtorEq, crows_one, hres2]) | refine And.intro (by first | omega | exact crows_row _ | exact rrows_row _ | exact rows_row _ | (and_intros <;> first | omega | exact crows_row _ | exact rrows_row _ | exact rows_row _ | decide | (simp; done) | (simp; omega)) | fail) ?_ | refine And.intro ?_ ?_)
    refine And.intro ?_ ?_
    · simp only [go_sem, reduceIte, Nat.reduceLT, Nat.reduceLeDiff, Nat.reduceEqDiff, Nat.reduceAdd, Nat.reduceMul, Nat.reduceSub, Nat.reduceBEq, Int.reduceToNat, List.reduceReplicate, reduceCtorEq, crows_one, hres2]
      repeat' (first | exact (fun _ _ r => r) | exact LeE_wk (by simp only [go_sem, reduceIte, Nat.reduceLT, Nat.reduceLeDiff, Nat.reduceEqDiff, Nat.reduceAdd, Nat.reduceMul, Nat.reduceSub, Nat.reduceBEq, Int.reduceToNat, List.reduceReplicate, reduceCtorEq, crows_one, hres2]) (by simp only [go_sem, reduceIte, Nat.reduceLT, Nat.reduceLeDiff, Nat.reduceEqDiff, Nat.reduceAdd, Nat.reduceMul, Nat.reduceSub, Nat.reduceBEq, Int.reduceToNat, List.reduceReplicate, reduceCtorEq, crows_one, hres2]) | refine And.intro (by first | omega | exact crows_row _ | exact rrows_row _ | exact rows_row _ | (and_intros <;> first | omega | exact crows_row _ | exact rrows_row _ | exact rows_row _ | decide | (simp; done) | (simp; omega)) | fail) ?_ | refine And.intro ?_ ?_)
    refine And.intro ?_ ?_
    · simp only [go_sem, reduceIte, Nat.reduceLT, Nat.reduceLeDiff, Nat.reduceEqDiff, Nat.reduceAdd, Nat.reduceMul, Nat.reduceSub, Nat.reduceBEq, Int.reduceToNat, List.reduceReplicate, reduceCtorEq, crows_one, hres2]
      repeat' (first | exact (fun _ _ r => r) | exact LeE_wk (by simp only [go_sem, reduceIte, Nat.reduceLT, Nat.reduceLeDiff, Nat.reduceEqDiff, Nat.reduceAdd, Nat.reduceMul, Nat.reduceSub, Nat.reduceBEq, Int.reduceToNat, List.reduceReplicate, reduceCtorEq, crows_one, hres2]) (by simp only [go_sem, reduceIte, Nat.reduceLT, Nat.reduceLeDiff, Nat.reduceEqDiff, Nat.reduceAdd, Nat.reduceMul, Nat.reduceSub, Nat.reduceBEq, Int.reduceToNat, List.reduceReplicate, reduceCtorEq, crows_one, hres2]) | refine And.intro (by first | omega | exact crows_row _ | exact rrows_row _ | exact rows_row _ | (and_intros <;> first | omega | exact crows_row _ | exact rrows_row _ | exact rows_row _ | decide | (simp; done) | (simp; omega)) | fail) ?_ | refine And.intro ?_ ?_)
    refine And.intro ?_ trivial
    simp only [go_sem, reduceIte, Nat.reduceLT, Nat.reduceLeDiff, Nat.reduceEqDiff, Nat.reduceAdd, Nat.reduceMul, Nat.reduceSub, Nat.reduceBEq, Int.reduceToNat, List.reduceReplicate, reduceCtorEq, crows_one, hres2]
    refine hK _ ?_; clear hK K
    refine Aw_sq fun B13 hB13 hR13 hX13 => ?_
    refine Aw_st hE [5, 6, 9, 10, 11, 12, 13, 14] [6, 9, 11, 12] fun K hK => ?_
    simp only [go_sem, reduceIte, Nat.reduceLT, Nat.reduceLeDiff, Nat.reduceEqDiff, Nat.reduceAdd, Nat.reduceMul, Nat.reduceSub, Nat.reduceBEq, Int.reduceToNat, List.reduceReplicate, reduceCtorEq]
    refine hK _ ?_; clear hK K
    refine Aw_bk fun B14 hN14 hE14 hR14 hX14 => ?_
    refine Aw_lp (fun i : Nat => ⟨123, [(5, .sl none (crows l)), (6, .loc 6 0), (9, .loc 9 0), (10, bv z), (11, .loc 11 0), (12, .loc 12 0), (13, bv z), (14, iv i)], [(6, [iv rf, iv rb, isl p, iv rk, isl m]), (9, [iv yf, iv yb, isl yp, iv yk, isl ym]), (11, [iv 5, iv n0, iv 0, iv 0, bv false, iv 7, iv 0, iv 0]), (12, [iv yf, iv yb, isl yp, iv yk, isl ym])], k⟩) (fun i => i ≤ l.length ∧ ∀ d ∈ l.take i, fitsB d ⟨rf, rb, p, rk, m⟩ = false) (fun i => l.length - i) 0 (Le.refl _) ⟨by omega, by simp⟩ fun i hi B15 hN15 hR15 hX15 => ?_
    obtain ⟨hi1, hi2⟩ := hi
    refine Aw_sq fun B16 hB16 hR16 hX16 => ?_
    refine Aw_st hE [5, 6, 9, 10, 11, 12, 13, 14, 91] [6, 9, 11, 12] fun K hK => ?_
    simp only [go_sem, reduceIte, Nat.reduceLT, Nat.reduceLeDiff, Nat.reduceEqDiff, Nat.reduceAdd, Nat.reduceMul, Nat.reduceSub, Nat.reduceBEq, Int.reduceToNat, List.reduceReplicate, reduceCtorEq]
    refine hK _ (Aw_cond rfl (fun hc17 => ?_) (fun hc17 => ?_))
    · simp only [decide_eq_true_eq] at hc17
      have hil : i < l.length := by omega
      have hget := crows_get l i hil
      have hci := hclall _ (List.getElem_mem hil)
      have hmem := List.getElem_mem hil
      have htk : l.take (i + 1) = l.take i ++ [l[i]] := List.take_succ_eq_append_getElem hil
      generalize l[i] = d at hget hci hmem htk
      obtain ⟨ci, n, f, b, ref, like, mark, clear⟩ := d
      refine Aw_skip (hB16 _ ?_)
      refine Aw_sq fun B18 hB18 hR18 hX18 => ?_
      refine Aw_bk fun B19 hN19 hE19 hR19 hX19 => ?_
      cases hft : fitsB ⟨ci, n, f, b, ref, like, mark, clear⟩ ⟨rf, rb, p, rk, m⟩ with
      | true =>
        apply (fun F0 F1 => Aw_sD hE [([0, 1, 2, 4], (.alt 3 (.ref 1) .non)), ([0, 1, 2, 3, 4], (.alt 5 .done .non))] (.fst 0 (.fst 1 (.alt 2 (.alt 3 (.alt 4 (.ref 1) .non) (.alt 4 (.ref 0) .non)) (.alt 4 (.alt 2 (.ref 0) .non) .non)))) [F0, F1] [5, 6, 9, 10, 11, 12, 13, 14, 99] [6, 9, 11, 12])
        · kernel_rfl
        intro K hK
        refine And.intro ?_ ?_
        · simp only [go_sem, reduceIte, Nat.reduceLT, Nat.reduceLeDiff, Nat.reduceEqDiff, Nat.reduceAdd, Nat.reduceMul, Nat.reduceSub, Nat.reduceBEq, Int.reduceToNat, List.reduceReplicate, reduceCtorEq, hget, hci, hokR, hft, Bool.and_self]
          repeat' (first | exact (fun _ _ r => r) | exact LeE_wk (by simp only [go_sem, reduceIte, Nat.reduceLT, Nat.reduceLeDiff, Nat.reduceEqDiff, Nat.reduceAdd, Nat.reduceMul, Nat.reduceSub, Nat.reduceBEq, Int.reduceToNat, List.reduceReplicate, reduceCtorEq, hget, hci, hokR, hft, Bool.and_self]) (by simp only [go_sem, reduceIte, Nat.reduceLT, Nat.reduceLeDiff, Nat.reduceEqDiff, Nat.reduceAdd, Nat.reduceMul, Nat.reduceSub, Nat.reduceBEq, Int.reduceToNat, List.reduceReplicate, reduceCtorEq, hget, hci, hokR, hft, Bool.and_self]) | refine And.intro (by first | omega | exact crows_row _ | exact rrows_row _ | exact rows_row _ | (and_intros <;> first | omega | exact crows_row _ | exact rrows_row _ | exact rows_row _ | decide | (simp; done) | (simp; omega)) | fail) ?_ | refine And.intro ?_ ?_)
        refine And.intro ?_ ?_
        · simp only [go_sem, reduceIte, Nat.reduceLT, Nat.reduceLeDiff, Nat.reduceEqDiff, Nat.reduceAdd, Nat.reduceMul, Nat.reduceSub, Nat.reduceBEq, Int.reduceToNat, List.reduceReplicate, reduceCtorEq, hget, hci, hokR, hft, Bool.and_self]
          repeat' (first | exact (fun _ _ r => r) | exact LeE_wk (by simp only [go_sem, reduceIte, Nat.reduceLT, Nat.reduceLeDiff, Nat.reduceEqDiff, Nat.reduceAdd, Nat.reduceMul, Nat.reduceSub, Nat.reduceBEq, Int.reduceToNat, List.reduceReplicate, reduceCtorEq, hget, hci, hokR, hft, Bool.and_self]) (by simp only [go_sem, reduceIte, Nat.reduceLT, Nat.reduceLeDiff, Nat.reduceEqDiff, Nat.reduceAdd, Nat.reduceMul, Nat.reduceSub, Nat.reduceBEq, Int.reduceToNat, List.reduceReplicate, reduceCtorEq, hget, hci, hokR, hft, Bool.and_self]) | refine And.intro (by first | omega | exact crows_row _ | exact rrows_row _ | exact rows_row _ | (and_intros <;> first | omega | exact crows_row _ | exact rrows_row _ | exact rows_row _ | decide | (simp; done) | (simp; omega)) | fail) ?_ | refine And.intro ?_ ?_)
        refine And.intro ?_ trivial
        simp only [go_sem, reduceIte, Nat.reduceLT, Nat.reduceLeDiff, Nat.reduceEqDiff, Nat.reduceAdd, Nat.reduceMul, Nat.reduceSub, Nat.reduceBEq, Int.reduceToNat, List.reduceReplicate, reduceCtorEq, hget, hci, hokR, hft, Bool.and_self]
        refine ⟨by omega, ?_⟩
        refine hK _ (Aw_yes rfl ?_)
        refine Aw_st hE [4] [] fun K hK => ?_
        simp only [go_sem, reduceIte, Nat.reduceLT, Nat.reduceLeDiff, Nat.reduceEqDiff, Nat.reduceAdd, Nat.reduceMul, Nat.reduceSub, Nat.reduceBEq, Int.reduceToNat, List.reduceReplicate, reduceCtorEq, beq_self_eq_true, and_self, decide_true]
        refine ⟨by omega, ?_⟩
        refine hK _ (Aw_ret (hR19 _ (hR18 _ (hR15 _ (hR14 _ (hR13 _ (hQ _ ?_)))))))
        simp only [go_sem, reduceIte, Nat.reduceLT, Nat.reduceLeDiff, Nat.reduceEqDiff, Nat.reduceAdd, Nat.reduceMul, Nat.reduceSub, Nat.reduceBEq, Int.reduceToNat, List.reduceReplicate, reduceCtorEq]
      | false =>
        apply (fun F0 F1 => Aw_sD hE [([0, 1, 2, 4], (.alt 3 (.ref 1) .non)), ([0, 1, 2, 3, 4], (.alt 5 .done .non))] (.fst 0 (.fst 1 (.alt 2 (.alt 3 (.alt 4 (.ref 1) .non) (.alt 4 (.ref 0) .non)) (.alt 4 (.alt 2 (.ref 0) .non) .non)))) [F0, F1] [5, 6, 9, 10, 11, 12, 13, 14, 99] [6, 9, 11, 12])
        · kernel_rfl
        intro K hK
        refine And.intro ?_ ?_
        · simp only [go_sem, reduceIte, Nat.reduceLT, Nat.reduceLeDiff, Nat.reduceEqDiff, Nat.reduceAdd, Nat.reduceMul, Nat.reduceSub, Nat.reduceBEq, Int.reduceToNat, List.reduceReplicate, reduceCtorEq, hget, hci, hokR, hft, Bool.and_false]
          repeat' (first | exact (fun _ _ r => r) | exact LeE_wk (by simp only [go_sem, reduceIte, Nat.reduceLT, Nat.reduceLeDiff, Nat.reduceEqDiff, Nat.reduceAdd, Nat.reduceMul, Nat.reduceSub, Nat.reduceBEq, Int.reduceToNat, List.reduceReplicate, reduceCtorEq, hget, hci, hokR, hft, Bool.and_false]) (by simp only [go_sem, reduceIte, Nat.reduceLT, Nat.reduceLeDiff, Nat.reduceEqDiff, Nat.reduceAdd, Nat.reduceMul, Nat.reduceSub, Nat.reduceBEq, Int.reduceToNat, List.reduceReplicate, reduceCtorEq, hget, hci, hokR, hft, Bool.and_false]) | refine And.intro (by first | omega | exact crows_row _ | exact rrows_row _ | exact rows_row _ | (and_intros <;> first | omega | exact crows_row _ | exact rrows_row _ | exact rows_row _ | decide | (simp; done) | (simp; omega)) | fail) ?_ | refine And.intro ?_ ?_)
        refine And.intro ?_ ?_
        · simp only [go_sem, reduceIte, Nat.reduceLT, Nat.reduceLeDiff, Nat.reduceEqDiff, Nat.reduceAdd, Nat.reduceMul, Nat.reduceSub, Nat.reduceBEq, Int.reduceToNat, List.reduceReplicate, reduceCtorEq, hget, hci, hokR, hft, Bool.and_false]
          repeat' (first | exact (fun _ _ r => r) | exact LeE_wk (by simp only [go_sem, reduceIte, Nat.reduceLT, Nat.reduceLeDiff, Nat.reduceEqDiff, Nat.reduceAdd, Nat.reduceMul, Nat.reduceSub, Nat.reduceBEq, Int.reduceToNat, List.reduceReplicate, reduceCtorEq, hget, hci, hokR, hft, Bool.and_false]) (by simp only [go_sem, reduceIte, Nat.reduceLT, Nat.reduceLeDiff, Nat.reduceEqDiff, Nat.reduceAdd, Nat.reduceMul, Nat.reduceSub, Nat.reduceBEq, Int.reduceToNat, List.reduceReplicate, reduceCtorEq, hget, hci, hokR, hft, Bool.and_false]) | refine And.intro (by first | omega | exact crows_row _ | exact rrows_row _ | exact rows_row _ | (and_intros <;> first | omega | exact crows_row _ | exact rrows_row _ | exact rows_row _ | decide | (simp; done) | (simp; omega)) | fail) ?_ | refine And.intro ?_ ?_)
        refine And.intro ?_ trivial
        simp only [go_sem, reduceIte, Nat.reduceLT, Nat.reduceLeDiff, Nat.reduceEqDiff, Nat.reduceAdd, Nat.reduceMul, Nat.reduceSub, Nat.reduceBEq, Int.reduceToNat, List.reduceReplicate, reduceCtorEq, hget, hci, hokR, hft, Bool.and_false]
        refine ⟨by omega, ?_⟩
        refine hK _ (Aw_no rfl (Aw_skip (hN19 _ (hB18 _ ?_))))
        refine Aw_tx hE [5, 6, 9, 10, 11, 12, 13, 14] [6, 9, 11, 12] fun K hK => ?_
        simp only [go_sem, reduceIte, Nat.reduceLT, Nat.reduceLeDiff, Nat.reduceEqDiff, Nat.reduceAdd, Nat.reduceMul, Nat.reduceSub, Nat.reduceBEq, Int.reduceToNat, List.reduceReplicate, reduceCtorEq]
        repeat (refine And.intro (by first | omega | (and_intros <;> first | omega | exact rows_row _ | decide | (simp; done) | (simp; omega)) | fail) ?_)
        refine hK _ (hN15 (i + 1) _ ⟨by omega, fun d hd => ?_⟩ (by omega) (Le.refl _))
        rw [htk] at hd
        rcases List.mem_append.1 hd with hd | hd
        · exact hi2 d hd
        · rw [List.mem_singleton] at hd; rw [hd]; exact hft
    · simp only [decide_eq_false_iff_not] at hc17
      rw [List.take_of_length_le (by omega)] at hi2
      exfalso
      rw [List.any_eq_true] at hany
      obtain ⟨d, hd, hdf⟩ := hany
      rw [hi2 d hd] at hdf
      cases hdf
  | false =>
    obtain ⟨uf, ub, up, uk, um, w, hres2, hw1, hw0, hup, hum⟩ := res_ex (l ++ [⟨5, n0, 0, 0, false, 7, 0, 0⟩]) ⟨rf, rb, p, rk, m⟩ (by simp only; omega) (by simp only; omega)
    have hres3 : resR (policyDo [⟨5, n0, 0, 0, false, 7, 0, 0⟩] ⟨rf, rb, p, rk, m⟩) = .tup [.agg [iv uf, iv ub, isl up, iv uk, isl um], bv w] := by
      rw [hpd2, hany, if_neg (by simp)] at hres2; exact hres2
    apply (fun F0 F1 F2 F3 F4 F5 F6 F7 F8 F9 F10 F11 F12 F13 F14 F15 F16 F17 F18 F19 F20 F21 F22 F23 F24 F25 F26 F27 F28 F29 F30 F31 F32 => Aw_sD hE [([0, 1, 3], (.alt 2 (.ref 6) (.alt 4 (.ref 9) (.alt 6 (.ref 10) (.alt 11 (.ref 11) .non))))), ([0, 1, 6], (.alt 2 (.ref 7) (.alt 3 (.ref 10) (.alt 11 (.ref 12) .non)))), ([0, 1, 11], (.alt 2 (.ref 8) (.alt 3 (.ref 11) (.alt 6 (.ref 12) .non)))), ([1, 3, 6], (.alt 0 (.ref 10) (.alt 4 (.ref 13) (.alt 11 (.ref 15) .non)))), ([1, 3, 11], (.alt 0 (.ref 11) (.alt 4 (.ref 14) (.alt 6 (.ref 15) .non)))), ([1, 6, 11], (.alt 0 (.ref 12) (.alt 3 (.ref 15) .non))), ([0, 1, 2, 3], (.alt 4 (.ref 16) (.alt 6 (.ref 17) (.alt 11 (.ref 18) .non)))), ([0, 1, 2, 6], (.alt 3 (.ref 17) (.alt 11 (.ref 19) .non))), ([0, 1, 2, 11], (.alt 3 (.ref 18) (.alt 6 (.ref 19) .non))), ([0, 1, 3, 4], (.alt 2 (.ref 16) (.alt 6 (.ref 20) (.alt 11 (.ref 21) .non)))), ([0, 1, 3, 6], (.alt 2 (.ref 17) (.alt 4 (.ref 20) (.alt 11 (.ref 22) .non)))), ([0, 1, 3, 11], (.alt 2 (.ref 18) (.alt 4 (.ref 21) (.alt 6 (.ref 22) .non)))), ([0, 1, 6, 11], (.alt 2 (.ref 19) (.alt 3 (.ref 22) .non))), ([1, 3, 4, 6], (.alt 0 (.ref 20) (.alt 11 (.ref 23) .non))), ([1, 3, 4, 11], (.alt 0 (.ref 21) (.alt 6 (.ref 23) .non))), ([1, 3, 6, 11], (.alt 0 (.ref 22) (.alt 4 (.ref 23) .non))), ([0, 1, 2, 3, 4], (.alt 5 (.alt 6 (.ref 28) (.alt 11 (.ref 29) .non)) (.alt 6 (.ref 24) (.alt 11 (.ref 25) .non)))), ([0, 1, 2, 3, 6], (.alt 4 (.ref 24) (.alt 11 (.ref 26) .non))), ([0, 1, 2, 3, 11], (.alt 4 (.ref 25) (.alt 6 (.ref 26) .non))), ([0, 1, 2, 6, 11], (.alt 3 (.ref 26) .non)), ([0, 1, 3, 4, 6], (.alt 2 (.ref 24) (.alt 11 (.ref 27) .non))), ([0, 1, 3, 4, 11], (.alt 2 (.ref 25) (.alt 6 (.ref 27) .non))), ([0, 1, 3, 6, 11], (.alt 2 (.ref 26) (.alt 4 (.ref 27) .non))), ([1, 3, 4, 6, 11], (.alt 0 (.ref 27) .non)), ([0, 1, 2, 3, 4, 6], (.alt 5 (.ref 28) (.alt 11 (.ref 30) .non))), ([0, 1, 2, 3, 4, 11], (.alt 5 (.ref 29) (.alt 6 (.ref 30) .non))), ([0, 1, 2, 3, 6, 11], (.alt 4 (.ref 30) .non)), ([0, 1, 3, 4, 6, 11], (.alt 2 (.ref 30) .non)), ([0, 1, 2, 3, 4, 5, 6], (.alt 7 (.fst 8 (.fst 9 (.fst 10 (.alt 11 (.ref 32) .non)))) (.alt 11 (.ref 31) .non))), ([0, 1, 2, 3, 4, 5, 11], (.alt 6 (.ref 31) .non)), ([0, 1, 2, 3, 4, 6, 11], (.alt 5 (.ref 31) .non)), ([0, 1, 2, 3, 4, 5, 6, 11], (.alt 7 (.fst 8 (.fst 9 (.fst 10 (.ref 32)))) .non)), ([0, 1, 2, 3, 4, 5, 6, 7, 8, 9, 10, 11], (.alt 12 (.fst 13 .done) .non))] (.fst 1 (.alt 0 (.alt 2 (.alt 3 (.ref 6) (.alt 6 (.ref 7) (.alt 11 (.ref 8) .non))) (.alt 3 (.ref 0) (.alt 6 (.ref 1) (.alt 11 (.ref 2) .non)))) (.alt 3 (.alt 0 (.ref 0) (.alt 4 (.alt 0 (.ref 9) (.alt 6 (.ref 13) (.alt 11 (.ref 14) .non))) (.alt 6 (.ref 3) (.alt 11 (.ref 4) .non)))) (.alt 6 (.alt 0 (.ref 1) (.alt 3 (.ref 3) (.alt 11 (.ref 5) .non))) (.alt 11 (.alt 0 (.ref 2) (.alt 3 (.ref 4) (.alt 6 (.ref 5) .non))) .non))))) [F0, F1, F2, F3, F4, F5, F6, F7, F8, F9, F10, F11, F12, F13, F14, F15, F16, F17, F18, F19, F20, F21, F22, F23, F24, F25, F26, F27, F28, F29, F30, F31, F32] [5, 6, 9, 10, 11, 12, 13] [6, 9, 11, 12])
    · kernel_rfl
    intro K hK
    refine And.intro ?_ ?_
    · simp only [go_sem, reduceIte, Nat.reduceLT, Nat.reduceLeDiff, Nat.reduceEqDiff, Nat.reduceAdd, Nat.reduceMul, Nat.reduceSub, Nat.reduceBEq, Int.reduceToNat, List.reduceReplicate, reduceCtorEq, crows_one, hres2]
      repeat' (first | exact (fun _ _ r => r) | exact LeE_wk (by simp only [go_sem, reduceIte, Nat.reduceLT, Nat.reduceLeDiff, Nat.reduceEqDiff, Nat.reduceAdd, Nat.reduceMul, Nat.reduceSub, Nat.reduceBEq, Int.reduceToNat, List.reduceReplicate, reduceCtorEq, crows_one, hres2]) (by simp only [go_sem, reduceIte, Nat.reduceLT, Nat.reduceLeDiff, Nat.reduceEqDiff, Nat.reduceAdd, Nat.reduceMul, Nat.reduceSub, Nat.reduceBEq, Int.reduceToNat, List.reduceReplicate, reduceCtorEq, crows_one, hres2]) | refine And.intro (by first | omega | exact crows_row _ | exact rrows_row _ | exact rows_row _ | (and_intros <;> first | omega | exact crows_row _ | exact rrows_row _ | exact rows_row _ | decide | (simp; done) | (simp; omega)) | fail) ?_ | refine And.intro ?_ ?_)
    refine And.intro ?_ ?_
    · simp only [go_sem, reduceIte, Nat.reduceLT, Nat.reduceLeDiff, Nat.reduceEqDiff, Nat.reduceAdd, Nat.reduceMul, Nat.reduceSub, Nat.reduceBEq, Int.reduceToNat, List.reduceReplicate, reduceCtorEq, crows_one, hres2]
      repeat' (first | exact (fun _ _ r => r) | exact LeE_wk (by simp only [go_sem, reduceIte, Nat.reduceLT, Nat.reduceLeDiff, Nat.reduceEqDiff, Nat.reduceAdd, Nat.reduceMul, Nat.reduceSub, Nat.reduceBEq, Int.reduceToNat, List.reduceReplicate, reduceCtorEq, crows_one, hres2]) (by simp only [go_sem, reduceIte, Nat.reduceLT, Nat.reduceLeDiff, Nat.reduceEqDiff, Nat.reduceAdd, Nat.reduceMul, Nat.reduceSub, Nat.reduceBEq, Int.reduceToNat, List.reduceReplicate, reduceCtorEq, crows_one, hres2]) | refine And.intro (by first | omega | exact crows_row _ | exact rrows_row _ | exact rows_row _ | (and_intros <;> first | omega | exact crows_row _ | exact rrows_row _ | exact rows_row _ | decide | (simp; done) | (simp; omega)) | fail) ?_ | refine And.intro ?_ ?_)
    refine And.intro ?_ ?_
    · simp only [go_sem, reduceIte, Nat.reduceLT, Nat.reduceLeDiff, Nat.reduceEqDiff, Nat.reduceAdd, Nat.reduceMul, Nat.reduceSub, Nat.reduceBEq, Int.reduceToNat, List.reduceReplicate, reduceCtorEq, crows_one, hres2]
      repeat' (first | exact (fun _ _ r => r) | exact LeE_wk (by simp only [go_sem, reduceIte, Nat.reduceLT, Nat.reduceLeDiff, Nat.reduceEqDiff, Nat.reduceAdd, Nat.reduceMul, Nat.reduceSub, Nat.reduceBEq, Int.reduceToNat, List.reduceReplicate, reduceCtorEq, crows_one, hres2]) (by simp only [go_sem, reduceIte, Nat.reduceLT, Nat.reduceLeDiff, Nat.reduceEqDiff, Nat.reduceAdd, Nat.reduceMul, Nat.reduceSub, Nat.reduceBEq, Int.reduceToNat, List.reduceReplicate, reduceCtorEq, crows_one, hres2]) | refine And.intro (by first | omega | exact crows_row _ | exact rrows_row _ | exact rows_row _ | (and_intros <;> first | omega | exact crows_row _ | exact rrows_row _ | exact rows_row _ | decide | (simp; done) | (simp; omega)) | fail) ?_ | refine And.intro ?_ ?_)
    refine And.intro ?_ ?_
    · simp only [go_sem, reduceIte, Nat.reduceLT, Nat.reduceLeDiff, Nat.reduceEqDiff, Nat.reduceAdd, Nat.reduceMul, Nat.reduceSub, Nat.reduceBEq, Int.reduceToNat, List.reduceReplicate, reduceCtorEq, crows_one, hres2]
      repeat' (first | exact (fun _ _ r => r) | exact LeE_wk (by simp only [go_sem, reduceIte, Nat.reduceLT, Nat.reduceLeDiff, Nat.reduceEqDiff, Nat.reduceAdd, Nat.reduceMul, Nat.reduceSub, Nat.reduceBEq, Int.reduceToNat, List.reduceReplicate, reduceCtorEq, crows_one, hres2]) (by simp only [go_sem, reduceIte, Nat.reduceLT, Nat.reduceLeDiff, Nat.reduceEqDiff, Nat.reduceAdd, Nat.reduceMul, Nat.reduceSub, Nat.reduceBEq, Int.reduceToNat, List.reduceReplicate, reduceCtorEq, crows_one, hres2]) | refine And.intro (by first | omega | exact crows_row _ | exact rrows_row _ | exact rows_row _ | (and_intros <;> first | omega | exact crows_row _ | exact rrows_row _ | exact rows_row _ | decide | (simp; done) | (simp; omega)) | fail) ?_ | refine And.intro ?_ ?_)
    refine And.intro ?_ ?_
    · simp only [go_sem, reduceIte, Nat.reduceLT, Nat.reduceLeDiff, Nat.reduceEqDiff, Nat.reduceAdd, Nat.reduceMul, Nat.reduceSub, Nat.reduceBEq, Int.reduceToNat, List.reduceReplicate, reduceCtorEq, crows_one, hres2]
      repeat' (first | exact (fun _ _ r => r) | exact LeE_wk (by simp only [go_sem, reduceIte, Nat.reduceLT, Nat.reduceLeDiff, Nat.reduceEqDiff, Nat.reduceAdd, Nat.reduceMul, Nat.reduceSub, Nat.reduceBEq, Int.reduceToNat, List.reduceReplicate, reduceCtorEq, crows_one, hres2]) (by simp only [go_sem, reduceIte, Nat.reduceLT, Nat.reduceLeDiff, Nat.reduceEqDiff, Nat.reduceAdd, Nat.reduceMul, Nat.reduceSub, Nat.reduceBEq, Int.reduceToNat, List.reduceReplicate, reduceCtorEq, crows_one, hres2]) | refine And.intro (by first | omega | exact crows_row _ | exact rrows_row _ | exact rows_row _ | (and_intros <;> first | omega | exact crows_row _ | exact rrows_row _ | exact rows_row _ | decide | (simp; done) | (simp; omega)) | fail) ?_ | refine And.intro ?_ ?_)
    refine And.intro ?_ ?_
    · simp only [go_sem, reduceIte, Nat.reduceLT, Nat.reduceLeDiff, Nat.reduceEqDiff, Nat.reduceAdd, Nat.reduceMul, Nat.reduceSub, Nat.reduceBEq, Int.reduceToNat, List.reduceReplicate, reduceCtorEq, crows_one, hres2]
      repeat' (first | exact (fun _ _ r => r) | exact LeE_wk (by simp only [go_sem, reduceIte, Nat.reduceLT, Nat.reduceLeDiff, Nat.reduceEqDiff, Nat.reduceAdd, Nat.reduceMul, Nat.reduceSub, Nat.reduceBEq, Int.reduceToNat, List.reduceReplicate, reduceCtorEq, crows_one, hres2]) (by simp only [go_sem, reduceIte, Nat.reduceLT, Nat.reduceLeDiff, Nat.reduceEqDiff, Nat.reduceAdd, Nat.reduceMul, Nat.reduceSub, Nat.reduceBEq, Int.reduceToNat, List.reduceReplicate, reduceCtorEq, crows_one, hres2]) | refine And.intro (by first | omega | exact crows_row _ | exact rrows_row _ | exact rows_row _ | (and_intros <;> first | omega | exact crows_row _ | exact rrows_row _ | exact rows_row _ | decide | (simp; done) | (simp; omega)) | fail) ?_ | refine And.intro ?_ ?_)
    refine And.intro ?_ ?_
    · simp only [go_sem, reduceIte, Nat.reduceLT, Nat.reduceLeDiff, Nat.reduceEqDiff, Nat.reduceAdd, Nat.reduceMul, Nat.reduceSub, Nat.reduceBEq, Int.reduceToNat, List.reduceReplicate, reduceCtorEq, crows_one, hres2]
      repeat' (first | exact (fun _ _ r => r) | exact LeE_wk (by simp only [go_sem, reduceIte, Nat.reduceLT, Nat.reduceLeDiff, Nat.reduceEqDiff, Nat.reduceAdd, Nat.reduceMul, Nat.reduceSub, Nat.reduceBEq, Int.reduceToNat, List.reduceReplicate, reduceCtorEq, crows_one, hres2]) (by simp only [go_sem, reduceIte, Nat.reduceLT, Nat.reduceLeDiff, Nat.reduceEqDiff, Nat.reduceAdd, Nat.reduceMul, Nat.reduceSub, Nat.reduceBEq, Int.reduceToNat, List.reduceReplicate, reduceCtorEq, crows_one, hres2]) | refine And.intro (by first | omega | exact crows_row _ | exact rrows_row _ | exact rows_row _ | (and_intros <;> first | omega | exact crows_row _ | exact rrows_row _ | exact rows_row _ | decide | (simp; done) | (simp; omega)) | fail) ?_ | refine And.intro ?_ ?_)
    refine And.intro ?_ ?_
    · simp only [go_sem, reduceIte, Nat.reduceLT, Nat.reduceLeDiff, Nat.reduceEqDiff, Nat.reduceAdd, Nat.reduceMul, Nat.reduceSub, Nat.reduceBEq, Int.reduceToNat, List.reduceReplicate, reduceCtorEq, crows_one, hres2]
      repeat' (first | exact (fun _ _ r => r) | exact LeE_wk (by simp only [go_sem, reduceIte, Nat.reduceLT, Nat.reduceLeDiff, Nat.reduceEqDiff, Nat.reduceAdd, Nat.reduceMul, Nat.reduceSub, Nat.reduceBEq, Int.reduceToNat, List.reduceReplicate, reduceCtorEq, crows_one, hres2]) (by simp only [go_sem, reduceIte, Nat.reduceLT, Nat.reduceLeDiff, Nat.reduceEqDiff, Nat.reduceAdd, Nat.reduceMul, Nat.reduceSub, Nat.reduceBEq, Int.reduceToNat, List.reduceReplicate, reduceCtorEq, crows_one, hres2]) | refine And.intro (by first | omega | exact crows_row _ | exact rrows_row _ | exact rows_row _ | (and_intros <;> first | omega | exact crows_row _ | exact rrows_row _ | exact rows_row _ | decide | (simp; done) | (simp; omega)) | fail) ?_ | refine And.intro ?_ ?_)
    refine And.intro ?_ ?_
    · simp only [go_sem, reduceIte, Nat.reduceLT, Nat.reduceLeDiff, Nat.reduceEqDiff, Nat.reduceAdd, Nat.reduceMul, Nat.reduceSub, Nat.reduceBEq, Int.reduceToNat, List.reduceReplicate, reduceCtorEq, crows_one, hres2]
      repeat' (first | exact (fun _ _ r => r) | exact LeE_wk (by simp only [go_sem, reduceIte, Nat.reduceLT, Nat.reduceLeDiff, Nat.reduceEqDiff, Nat.reduceAdd, Nat.reduceMul, Nat.reduceSub, Nat.reduceBEq, Int.reduceToNat, List.reduceReplicate, reduceCtorEq, crows_one, hres2]) (by simp only [go_sem, reduceIte, Nat.reduceLT, Nat.reduceLeDiff, Nat.reduceEqDiff, Nat.reduceAdd, Nat.reduceMul, Nat.reduceSub, Nat.reduceBEq, Int.reduceToNat, List.reduceReplicate, reduceCtorEq, crows_one, hres2]) | refine And.intro (by first | omega | exact crows_row _ | exact rrows_row _ | exact rows_row _ | (and_intros <;> first | omega | exact crows_row _ | exact rrows_row _ | exact rows_row _ | decide | (simp; done) | (simp; omega)) | fail) ?_ | refine And.intro ?_ ?_)
    refine And.intro ?_ ?_
    · simp only [go_sem, reduceIte, Nat.reduceLT, Nat.reduceLeDiff, Nat.reduceEqDiff, Nat.reduceAdd, Nat.reduceMul, Nat.reduceSub, Nat.reduceBEq, Int.reduceToNat, List.reduceReplicate, reduceCtorEq, crows_one, hres2]
      repeat' (first | exact (fun _ _ r => r) | exact LeE_wk (by simp only [go_sem, reduceIte, Nat.reduceLT, Nat.reduceLeDiff, Nat.reduceEqDiff, Nat.reduceAdd, Nat.reduceMul, Nat.reduceSub, Nat.reduceBEq, Int.reduceToNat, List.reduceReplicate, reduceCtorEq, crows_one, hres2]) (by simp only [go_sem, reduceIte, Nat.reduceLT, Nat.reduceLeDiff, Nat.reduceEqDiff, Nat.reduceAdd, Nat.reduceMul, Nat.reduceSub, Nat.reduceBEq, Int.reduceToNat, List.reduceReplicate, reduceCtorEq, crows_one, hres2]) | refine And.intro (by first | omega | exact crows_row _ | exact rrows_row _ | exact rows_row _ | (and_intros <;> first | omega | exact crows_row _ | exact rrows_row _ | exact rows_row _ | decide | (simp; done) | (simp; omega)) | fail) ?_ | refine And.intro ?_ ?_)
    refine And.intro ?_ ?_
    · simp only [go_sem, reduceIte, Nat.reduceLT, Nat.reduceLeDiff, Nat.reduceEqDiff, Nat.reduceAdd, Nat.reduceMul, Nat.reduceSub, Nat.reduceBEq, Int.reduceToNat, List.reduceReplicate, reduceCtorEq, crows_one, hres2]
      repeat' (first | exact (fun _ _ r => r) | exact LeE_wk (by simp only [go_sem, reduceIte, Nat.reduceLT, Nat.reduceLeDiff, Nat.reduceEqDiff, Nat.reduceAdd, Nat.reduceMul, Nat.reduceSub, Nat.reduceBEq, Int.reduceToNat, List.reduceReplicate, reduceCtorEq, crows_one, hres2]) (by simp only [go_sem, reduceIte, Nat.reduceLT, Nat.reduceLeDiff, Nat.reduceEqDiff, Nat.reduceAdd, Nat.reduceMul, Nat.reduceSub, Nat.reduceBEq, Int.reduceToNat, List.reduceReplicate, reduceCtorEq, crows_one, hres2]) | refine And.intro (by first | omega | exact crows_row _ | exact rrows_row _ | exact rows_row _ | (and_intros <;> first | omega | exact crows_row _ | exact rrows_row _ | exact rows_row _ | decide | (simp; done) | (simp; omega)) | fail) ?_ | refine And.intro ?_ ?_)
    refine And.intro ?_ ?_
    · simp only [go_sem, reduceIte, Nat.reduceLT, Nat.reduceLeDiff, Nat.reduceEqDiff, Nat.reduceAdd, Nat.reduceMul, Nat.reduceSub, Nat.reduceBEq, Int.reduceToNat, List.reduceReplicate, reduceCtorEq, crows_one, hres2]
      repeat' (first | exact (fun _ _ r => r) | exact LeE_wk (by simp only [go_sem, reduceIte, Nat.reduceLT, Nat.reduceLeDiff, Nat.reduceEqDiff, Nat.reduceAdd, Nat.reduceMul, Nat.reduceSub, Nat.reduceBEq, Int.reduceToNat, List.reduceReplicate, reduceCtorEq, crows_one, hres2]) (by simp only [go_sem, reduceIte, Nat.reduceLT, Nat.reduceLeDiff, Nat.reduceEqDiff, Nat.reduceAdd, Nat.reduceMul, Nat.reduceSub, Nat.reduceBEq, Int.reduceToNat, List.reduceReplicate, reduceCtorEq, crows_one, hres2]) | refine And.intro (by first | omega | exact crows_row _ | exact rrows_row _ | exact rows_row _ | (and_intros <;> first | omega | exact crows_row _ | exact rrows_row _ | exact rows_row _ | decide | (simp; done) | (simp; omega)) | fail) ?_ | refine And.intro ?_ ?_)
    refine And.intro ?_ ?_
    · simp only [go_sem, reduceIte, Nat.reduceLT, Nat.reduceLeDiff, Nat.reduceEqDiff, Nat.reduceAdd, Nat.reduceMul, Nat.reduceSub, Nat.reduceBEq, Int.reduceToNat, List.reduceReplicate, reduceCtorEq, crows_one, hres2]
      repeat' (first | exact (fun _ _ r => r) | exact LeE_wk (by simp only [go_sem, reduceIte, Nat.reduceLT, Nat.reduceLeDiff, Nat.reduceEqDiff, Nat.reduceAdd, Nat.reduceMul, Nat.reduceSub, Nat.reduceBEq, Int.reduceToNat, List.reduceReplicate, reduceCtorEq, crows_one, hres2]) (by simp only [go_sem, reduceIte, Nat.reduceLT, Nat.reduceLeDiff, Nat.reduceEqDiff, Nat.reduceAdd, Nat.reduceMul, Nat.reduceSub, Nat.reduceBEq, Int.reduceToNat, List.reduceReplicate, reduceCtorEq, crows_one, hres2]) | refine And.intro (by first | omega | exact crows_row _ | exact rrows_row _ | exact rows_row _ | (and_intros <;> first | omega | exact crows_row _ | exact rrows_row _ | exact rows_row _ | decide | (simp; done) | (simp; omega)) | fail) ?_ | refine And.intro ?_ ?_)
    refine And.intro ?_ ?_
    · simp only [go_sem, reduceIte, Nat.reduceLT, Nat.reduceLeDiff, Nat.reduceEqDiff, Nat.reduceAdd, Nat.reduceMul, Nat.reduceSub, Nat.reduceBEq, Int.reduceToNat, List.reduceReplicate, reduceCtorEq, crows_one, hres2]
      repeat' (first | exact (fun _ _ r => r) | exact LeE_wk (by simp only [go_sem, reduceIte, Nat.reduceLT, Nat.reduceLeDiff, Nat.reduceEqDiff, Nat.reduceAdd, Nat.reduceMul, Nat.reduceSub, Nat.reduceBEq, Int.reduceToNat, List.reduceReplicate, reduceCtorEq, crows_one, hres2]) (by simp only [go_sem, reduceIte, Nat.reduceLT, Nat.reduceLeDiff, Nat.reduceEqDiff, Nat.reduceAdd, Nat.reduceMul, Nat.reduceSub, Nat.reduceBEq, Int.reduceToNat, List.reduceReplicate, reduceCtorEq, crows_one, hres2]) | refine And.intro (by first | omega | exact crows_row _ | exact rrows_row _ | exact rows_row _ | (and_intros <;> first | omega | exact crows_row _ | exact rrows_row _ | exact rows_row _ | decide | (simp; done) | (simp; omega)) | fail) ?_ | refine And.intro ?_ ?_)
    refine And.intro ?_ ?_
    · simp only [go_sem, reduceIte, Nat.reduceLT, Nat.reduceLeDiff, Nat.reduceEqDiff, Nat.reduceAdd, Nat.reduceMul, Nat.reduceSub, Nat.reduceBEq, Int.reduceToNat, List.reduceReplicate, reduceCtorEq, crows_one, hres2]
      repeat' (first | exact (fun _ _ r => r) | exact LeE_wk (by simp only [go_sem, reduceIte, Nat.reduceLT, Nat.reduceLeDiff, Nat.reduceEqDiff, Nat.reduceAdd, Nat.reduceMul, Nat.reduceSub, Nat.reduceBEq, Int.reduceToNat, List.reduceReplicate, reduceCtorEq, crows_one, hres2]) (by simp only [go_sem, reduceIte, Nat.reduceLT, Nat.reduceLeDiff, Nat.reduceEqDiff, Nat.reduceAdd, Nat.reduceMul, Nat.reduceSub, Nat.reduceBEq, Int.reduceToNat, List.reduceReplicate, reduceCtorEq, crows_one, hres2]) | refine And.intro (by first | omega | exact crows_row _ | exact rrows_row _ | exact rows_row _ | (and_intros <;> first | omega | exact crows_row _ | exact rrows_row _ | exact rows_row _ | decide | (simp; done) | (simp; omega)) | fail) ?_ | refine And.intro ?_ ?_)
    refine And.intro ?_ ?_
    · simp only [go_sem, reduceIte, Nat.reduceLT, Nat.reduceLeDiff, Nat.reduceEqDiff, Nat.reduceAdd, Nat.reduceMul, Nat.reduceSub, Nat.reduceBEq, Int.reduceToNat, List.reduceReplicate, reduceCtorEq, crows_one, hres2]
      repeat' (first | exact (fun _ _ r => r) | exact LeE_wk (by simp only [go_sem, reduceIte, Nat.reduceLT, Nat.reduceLeDiff, Nat.reduceEqDiff, Nat.reduceAdd, Nat.reduceMul, Nat.reduceSub, Nat.reduceBEq, Int.reduceToNat, List.reduceReplicate, reduceCtorEq, crows_one, hres2]) (by simp only [go_sem, reduceIte, Nat.reduceLT, Nat.reduceLeDiff, Nat.reduceEqDiff, Nat.reduceAdd, Nat.reduceMul, Nat.reduceSub, Nat.reduceBEq, Int.reduceToNat, List.reduceReplicate, reduceCtorEq, crows_one, hres2]) | refine And.intro (by first | omega | exact crows_row _ | exact rrows_row _ | exact rows_row _ | (and_intros <;> first | omega | exact crows_row _ | exact rrows_row _ | exact rows_row _ | decide | (simp; done) | (simp; omega)) | fail) ?_ | refine And.intro ?_ ?_)
    refine And.intro ?_ ?_
    · simp only [go_sem, reduceIte, Nat.reduceLT, Nat.reduceLeDiff, Nat.reduceEqDiff, Nat.reduceAdd, Nat.reduceMul, Nat.reduceSub, Nat.reduceBEq, Int.reduceToNat, List.reduceReplicate, reduceCtorEq, crows_one, hres2]
      repeat' (first | exact (fun _ _ r => r) | exact LeE_wk (by simp only [go_sem, reduceIte, Nat.reduceLT, Nat.reduceLeDiff, Nat.reduceEqDiff, Nat.reduceAdd, Nat.reduceMul, Nat.reduceSub, Nat.reduceBEq, Int.reduceToNat, List.reduceReplicate, reduceCtorEq, crows_one, hres2]) (by simp only [go_sem, reduceIte, Nat.reduceLT, Nat.reduceLeDiff, Nat.reduceEqDiff, Nat.reduceAdd, Nat.reduceMul, Nat.reduceSub, Nat.reduceBEq, Int.reduceToNat, List.reduceReplicate, reduceCtorEq, crows_one, hres2]) | refine And.intro (by first | omega | exact crows_row _ | exact rrows_row _ | exact rows_row _ | (and_intros <;> first | omega | exact crows_row _ | exact rrows_row _ | exact rows_row _ | decide | (simp; done) | (simp; omega)) | fail) ?_ | refine And.intro ?_ ?_)
    refine And.intro ?_ ?_
    · simp only [go_sem, reduceIte, Nat.reduceLT, Nat.reduceLeDiff, Nat.reduceEqDiff, Nat.reduceAdd, Nat.reduceMul, Nat.reduceSub, Nat.reduceBEq, Int.reduceToNat, List.reduceReplicate, reduceCtorEq, crows_one, hres2]
      repeat' (first | exact (fun _ _ r => r) | exact LeE_wk (by simp only [go_sem, reduceIte, Nat.reduceLT, Nat.reduceLeDiff, Nat.reduceEqDiff, Nat.reduceAdd, Nat.reduceMul, Nat.reduceSub, Nat.reduceBEq, Int.reduceToNat, List.reduceReplicate, reduceCtorEq, crows_one, hres2]) (by simp only [go_sem, reduceIte, Nat.reduceLT, Nat.reduceLeDiff, Nat.reduceEqDiff, Nat.reduceAdd, Nat.reduceMul, Nat.reduceSub, Nat.reduceBEq, Int.reduceToNat, List.reduceReplicate, reduceCtorEq, crows_one, hres2]) | refine And.intro (by first | omega | exact crows_row _ | exact rrows_row _ | exact rows_row _ | (and_intros <;> first | omega | exact crows_row _ | exact rrows_row _ | exact rows_row _ | decide | (simp; done) | (simp; omega)) | fail) ?_ | refine And.intro ?_ ?_)
    refine And.intro ?_ ?_
    · simp only [go_sem, reduceIte, Nat.reduceLT, Nat.reduceLeDiff, Nat.reduceEqDiff, Nat.reduceAdd, Nat.reduceMul, Nat.reduceSub, Nat.reduceBEq, Int.reduceToNat, List.reduceReplicate, reduceCtorEq, crows_one, hres2]
      repeat' (first | exact (fun _ _ r => r) | exact LeE_wk (by simp only [go_sem, reduceIte, Nat.reduceLT, Nat.reduceLeDiff, Nat.reduceEqDiff, Nat.reduceAdd, Nat.reduceMul, Nat.reduceSub, Nat.reduceBEq, Int.reduceToNat, List.reduceReplicate, reduceCtorEq, crows_one, hres2]) (by simp only [go_sem, reduceIte, Nat.reduceLT, Nat.reduceLeDiff, Nat.reduceEqDiff, Nat.reduceAdd, Nat.reduceMul, Nat.reduceSub, Nat.reduceBEq, Int.reduceToNat, List.reduceReplicate, reduceCtorEq, crows_one, hres2]) | refine And.intro (by first | omega | exact crows_row _ | exact rrows_row _ | exact rows_row _ | (and_intros <;> first | omega | exact crows_row _ | exact rrows_row _ | exact rows_row _ | decide | (simp; done) | (simp; omega)) | fail) ?_ | refine And.intro ?_ ?_)
    refine And.intro ?_ ?_
    · simp only [go_sem, reduceIte, Nat.reduceLT, Nat.reduceLeDiff, Nat.reduceEqDiff, Nat.reduceAdd, Nat.reduceMul, Nat.reduceSub, Nat.reduceBEq, Int.reduceToNat, List.reduceReplicate, reduceCtorEq, crows_one, hres2]
      repeat' (first | exact (fun _ _ r => r) | exact LeE_wk (by simp only [go_sem, reduceIte, Nat.reduceLT, Nat.reduceLeDiff, Nat.reduceEqDiff, Nat.reduceAdd, Nat.reduceMul, Nat.reduceSub, Nat.reduceBEq, Int.reduceToNat, List.reduceReplicate, reduceCtorEq, crows_one, hres2]) (by simp only [go_sem, reduceIte, Nat.reduceLT, Nat.reduceLeDiff, Nat.reduceEqDiff, Nat.reduceAdd, Nat.reduceMul, Nat.reduceSub, Nat.reduceBEq, Int.reduceToNat, List.reduceReplicate, reduceCtorEq, crows_one, hres2]) | refine And.intro (by first | omega | exact crows_row _ | exact rrows_row _ | exact rows_row _ | (and_intros <;> first | omega | exact crows_row _ | exact rrows_row _ | exact rows_row _ | decide | (simp; done) | (simp; omega)) | fail) ?_ | refine And.intro ?_ ?_)
    refine And.intro ?_ ?_
    · simp only [go_sem, reduceIte, Nat.reduceLT, Nat.reduceLeDiff, Nat.reduceEqDiff, Nat.reduceAdd, Nat.reduceMul, Nat.reduceSub, Nat.reduceBEq, Int.reduceToNat, List.reduceReplicate, reduceCtorEq, crows_one, hres2]
      repeat' (first | exact (fun _ _ r => r) | exact LeE_wk (by simp only [go_sem, reduceIte, Nat.reduceLT, Nat.reduceLeDiff, Nat.reduceEqDiff, Nat.reduceAdd, Nat.reduceMul, Nat.reduceSub, Nat.reduceBEq, Int.reduceToNat, List.reduceReplicate, reduceCtorEq, crows_one, hres2]) (by simp only [go_sem, reduceIte, Nat.reduceLT, Nat.reduceLeDiff, Nat.reduceEqDiff, Nat.reduceAdd, Nat.reduceMul, Nat.reduceSub, Nat.reduceBEq, Int.reduceToNat, List.reduceReplicate, reduceCtorEq, crows_one, hres2]) | refine And.intro (by first | omega | exact crows_row _ | exact rrows_row _ | exact rows_row _ | (and_intros <;> first | omega | exact crows_row _ | exact rrows_row _ | exact rows_row _ | decide | (simp; done) | (simp; omega)) | fail) ?_ | refine And.intro ?_ ?_)
    refine And.intro ?_ ?_
    · simp only [go_sem, reduceIte, Nat.reduceLT, Nat.reduceLeDiff, Nat.reduceEqDiff, Nat.reduceAdd, Nat.reduceMul, Nat.reduceSub, Nat.reduceBEq, Int.reduceToNat, List.reduceReplicate, reduceCtorEq, crows_one, hres2]
      repeat' (first | exact (fun _ _ r => r) | exact LeE_wk (by simp only [go_sem, reduceIte, Nat.reduceLT, Nat.reduceLeDiff, Nat.reduceEqDiff, Nat.reduceAdd, Nat.reduceMul, Nat.reduceSub, Nat.reduceBEq, Int.reduceToNat, List.reduceReplicate, reduceCtorEq, crows_one, hres2]) (by simp only [go_sem, reduceIte, Nat.reduceLT, Nat.reduceLeDiff, Nat.reduceEqDiff, Nat.reduceAdd, Nat.reduceMul, Nat.reduceSub, Nat.reduceBEq, Int.reduceToNat, List.reduceReplicate, reduceCtorEq, crows_one, hres2]) | refine And.intro (by first | omega | exact crows_row _ | exact rrows_row _ | exact rows_row _ | (and_intros <;> first | omega | exact crows_row _ | exact rrows_row _ | exact rows_row _ | decide | (simp; done) | (simp; omega)) | fail) ?_ | refine And.intro ?_ ?_)
    refine And.intro ?_ ?_
    · simp only [go_sem, reduceIte, Nat.reduceLT, Nat.reduceLeDiff, Nat.reduceEqDiff, Nat.reduceAdd, Nat.reduceMul, Nat.reduceSub, Nat.reduceBEq, Int.reduceToNat, List.reduceReplicate, reduceCtorEq, crows_one, hres2]
      repeat' (first | exact (fun _ _ r => r) | exact LeE_wk (by simp only [go_sem, reduceIte, Nat.reduceLT, Nat.reduceLeDiff, Nat.reduceEqDiff, Nat.reduceAdd, Nat.reduceMul, Nat.reduceSub, Nat.reduceBEq, Int.reduceToNat, List.reduceReplicate, reduceCtorEq, crows_one, hres2]) (by simp only [go_sem, reduceIte, Nat.reduceLT, Nat.reduceLeDiff, Nat.reduceEqDiff, Nat.reduceAdd, Nat.reduceMul, Nat.reduceSub, Nat.reduceBEq, Int.reduceToNat, List.reduceReplicate, reduceCtorEq, crows_one, hres2]) | refine And.intro (by first | omega | exact crows_row _ | exact rrows_row _ | exact rows_row _ | (and_intros <;> first | omega | exact crows_row _ | exact rrows_row _ | exact rows_row _ | decide | (simp; done) | (simp; omega)) | fail) ?_ | refine And.intro ?_ ?_)
    refine And.intro ?_ ?_
    · simp only [go_sem, reduceIte, Nat.reduceLT, Nat.reduceLeDiff, Nat.reduceEqDiff, Nat.reduceAdd, Nat.reduceMul, Nat.reduceSub, Nat.reduceBEq, Int.reduceToNat, List.reduceReplicate, reduceCtorEq, crows_one, hres2]
      repeat' (first | exact (fun _ _ r => r) | exact LeE_wk (by simp only [go_sem, reduceIte, Nat.reduceLT, Nat.reduceLeDiff, Nat.reduceEqDiff, Nat.reduceAdd, Nat.reduceMul, Nat.reduceSub, Nat.reduceBEq, Int.reduceToNat, List.reduceReplicate, reduceCtorEq, crows_one, hres2]) (by simp only [go_sem, reduceIte, Nat.reduceLT, Nat.reduceLeDiff, Nat.reduceEqDiff, Nat.reduceAdd, Nat.reduceMul, Nat.reduceSub, Nat.reduceBEq, Int.reduceToNat, List.reduceReplicate, reduceCtorEq, crows_one, hres2]) | refine And.intro (by first | omega | exact crows_row _ | exact rrows_row _ | exact rows_row _ | (and_intros <;> first | omega | exact crows_row _ | exact rrows_row _ | exact rows_row _ | decide | (simp; done) | (simp; omega)) | fail) ?_ | refine And.intro ?_ ?_)
    refine And.intro ?_ ?_
    · simp only [go_sem, reduceIte, Nat.reduceLT, Nat.reduceLeDiff, Nat.reduceEqDiff, Nat.reduceAdd, Nat.reduceMul, Nat.reduceSub, Nat.reduceBEq, Int.reduceToNat, List.reduceReplicate, reduceCtorEq, crows_one, hres2]
      repeat' (first | exact (fun _ _ r => r) | exact LeE_wk (by simp only [go_sem, reduceIte, Nat.reduceLT, Nat.reduceLeDiff, Nat.reduceEqDiff, Nat.reduceAdd, Nat.reduceMul, Nat.reduceSub, Nat.reduceBEq, Int.reduceToNat, List.reduceReplicate, reduceCtorEq, crows_one, hres2]) (by simp only [go_sem, reduceIte, Nat.reduceLT, Nat.reduceLeDiff, Nat.reduceEqDiff, Nat.reduceAdd, Nat.reduceMul, Nat.reduceSub, Nat.reduceBEq, Int.reduceToNat, List.reduceReplicate, reduceCtorEq, crows_one, hres2]) | refine And.intro (by first | omega | exact crows_row _ | exact rrows_row _ | exact rows_row _ | (and_intros <;> first | omega | exact crows_row _ | exact rrows_row _ | exact rows_row _ | decide | (simp; done) | (simp; omega)) | fail) ?_ | refine And.intro ?_ ?_)
    refine And.intro ?_ ?_
    · simp only [go_sem, reduceIte, Nat.reduceLT, Nat.reduceLeDiff, Nat.reduceEqDiff, Nat.reduceAdd, Nat.reduceMul, Nat.reduceSub, Nat.reduceBEq, Int.reduceToNat, List.reduceReplicate, reduceCtorEq, crows_one, hres2]
      repeat' (first | exact (fun _ _ r => r) | exact LeE_wk (by simp only [go_sem, reduceIte, Nat.reduceLT, Nat.reduceLeDiff, Nat.reduceEqDiff, Nat.reduceAdd, Nat.reduceMul, Nat.reduceSub, Nat.reduceBEq, Int.reduceToNat, List.reduceReplicate, reduceCtorEq, crows_one, hres2]) (by simp only [go_sem, reduceIte, Nat.reduceLT, Nat.reduceLeDiff, Nat.reduceEqDiff, Nat.reduceAdd, Nat.reduceMul, Nat.reduceSub, Nat.reduceBEq, Int.reduceToNat, List.reduceReplicate, reduceCtorEq, crows_one, hres2]) | refine And.intro (by first | omega | exact crows_row _ | exact rrows_row _ | exact rows_row _ | (and_intros <;> first | omega | exact crows_row _ | exact rrows_row _ | exact rows_row _ | decide | (simp; done) | (simp; omega)) | fail) ?_ | refine And.intro ?_ ?_)
    refine And.intro ?_ ?_
    · simp only [go_sem, reduceIte, Nat.reduceLT, Nat.reduceLeDiff, Nat.reduceEqDiff, Nat.reduceAdd, Nat.reduceMul, Nat.reduceSub, Nat.reduceBEq, Int.reduceToNat, List.reduceReplicate, reduceCtorEq, crows_one, hres2]
      repeat' (first | exact (fun _ _ r => r) | exact LeE_wk (by simp only [go_sem, reduceIte, Nat.reduceLT, Nat.reduceLeDiff, Nat.reduceEqDiff, Nat.reduceAdd, Nat.reduceMul, Nat.reduceSub, Nat.reduceBEq, Int.reduceToNat, List.reduceReplicate, reduceCtorEq, crows_one, hres2]) (by simp only [go_sem, reduceIte, Nat.reduceLT, Nat.reduceLeDiff, Nat.reduceEqDiff, Nat.reduceAdd, Nat.reduceMul, Nat.reduceSub, Nat.reduceBEq, Int.reduceToNat, List.reduceReplicate, reduceCtorEq, crows_one, hres2]) | refine And.intro (by first | omega | exact crows_row _ | exact rrows_row _ | exact rows_row _ | (and_intros <;> first | omega | exact crows_row _ | exact rrows_row _ | exact rows_row _ | decide | (simp; done) | (simp; omega)) | fail) ?_ | refine And.intro ?_ ?_)
    refine And.intro ?_ ?_
    · simp only [go_sem, reduceIte, Nat.reduceLT, Nat.reduceLeDiff, Nat.reduceEqDiff, Nat.reduceAdd, Nat.reduceMul, Nat.reduceSub, Nat.reduceBEq, Int.reduceToNat, List.reduceReplicate, reduceCtorEq, crows_one, hres2]
      repeat' (first | exact (fun _ _ r => r) | exact LeE_wk (by simp only [go_sem, reduceIte, Nat.reduceLT, Nat.reduceLeDiff, Nat.reduceEqDiff, Nat.reduceAdd, Nat.reduceMul, Nat.reduceSub, Nat.reduceBEq, Int.reduceToNat, List.reduceReplicate, reduceCtorEq, crows_one, hres2]) (by simp only [go_sem, reduceIte, Nat.reduceLT, Nat.reduceLeDiff, Nat.reduceEqDiff, Nat.reduceAdd, Nat.reduceMul, Nat.reduceSub, Nat.reduceBEq, Int.reduceToNat, List.reduceReplicate, reduceCtorEq, crows_one, hres2]) | refine And.intro (by first | omega | exact crows_row _ | exact rrows_row _ | exact rows_row _ | (and_intros <;> first | omega | exact crows_row _ | exact rrows_row _ | exact rows_row _ | decide | (simp; done) | (simp; omega)) | fail) ?_ | refine And.intro ?_ ?_)
    refine And.intro ?_ ?_
    · simp only [go_sem, reduceIte, Nat.reduceLT, Nat.reduceLeDiff, Nat.reduceEqDiff, Nat.reduceAdd, Nat.reduceMul, Nat.reduceSub, Nat.reduceBEq, Int.reduceToNat, List.reduceReplicate, reduceCtorEq, crows_one, hres2]
      repeat' (first | exact (fun _ _ r => r) | exact LeE_wk (by simp only [go_sem, reduceIte, Nat.reduceLT, Nat.reduceLeDiff, Nat.reduceEqDiff, Nat.reduceAdd, Nat.reduceMul, Nat.reduceSub, Nat.reduceBEq, Int.reduceToNat, List.reduceReplicate, reduceCtorEq, crows_one, hres2]) (by simp only [go_sem, reduceIte, Nat.reduceLT, Nat.reduceLeDiff, Nat.reduceEqDiff, Nat.reduceAdd, Nat.reduceMul, Nat.reduceSub, Nat.reduceBEq, Int.reduceToNat, List.reduceReplicate, reduceCtorEq, crows_one, hres2]) | refine And.intro (by first | omega | exact crows_row _ | exact rrows_row _ | exact rows_row _ | (and_intros <;> first | omega | exact crows_row _ | exact rrows_row _ | exact rows_row _ | decide | (simp; done) | (simp; omega)) | fail) ?_ | refine And.intro ?_ ?_)
    refine And.intro ?_ ?_
    · simp only [go_sem, reduceIte, Nat.reduceLT, Nat.reduceLeDiff, Nat.reduceEqDiff, Nat.reduceAdd, Nat.reduceMul, Nat.reduceSub, Nat.reduceBEq, Int.reduceToNat, List.reduceReplicate, reduceCtorEq, crows_one, hres2]
      repeat' (first | exact (fun _ _ r => r) | exact LeE_wk (by simp only [go_sem, reduceIte, Nat.reduceLT, Nat.reduceLeDiff, Nat.reduceEqDiff, Nat.reduceAdd, Nat.reduceMul, Nat.reduceSub, Nat.reduceBEq, Int.reduceToNat, List.reduceReplicate, reduceCtorEq, crows_one, hres2]) (by simp only [go_sem, reduceIte, Nat.reduceLT, Nat.reduceLeDiff, Nat.reduceEqDiff, Nat.reduceAdd, Nat.reduceMul, Nat.reduceSub, Nat.reduceBEq, Int.reduceToNat, List.reduceReplicate, reduceCtorEq, crows_one, hres2]) | refine And.intro (by first | omega | exact crows_row _ | exact rrows_row _ | exact rows_row _ | (and_intros <;> first | omega | exact crows_row _ | exact rrows_row _ | exact rows_row _ | decide | (simp; done) | (simp; omega)) | fail) ?_ | refine And.intro ?_ ?_)
    refine And.intro ?_ ?_
    · simp only [go_sem, reduceIte, Nat.reduceLT, Nat.reduceLeDiff, Nat.reduceEqDiff, Nat.reduceAdd, Nat.reduceMul, Nat.reduceSub, Nat.reduceBEq, Int.reduceToNat, List.reduceReplicate, reduceCtorEq, crows_one, hres2]
      repeat' (first | exact (fun _ _ r => r) | exact LeE_wk (by simp only [go_sem, reduceIte, Nat.reduceLT, Nat.reduceLeDiff, Nat.reduceEqDiff, Nat.reduceAdd, Nat.reduceMul, Nat.reduceSub, Nat.reduceBEq, Int.reduceToNat, List.reduceReplicate, reduceCtorEq, crows_one, hres2]) (by simp only [go_sem, reduceIte, Nat.reduceLT, Nat.reduceLeDiff, Nat.reduceEqDiff, Nat.reduceAdd, Nat.reduceMul, Nat.reduceSub, Nat.reduceBEq, Int.reduceToNat, List.reduceReplicate, reduceCtorEq, crows_one, hres2]) | refine And.intro (by first | omega | exact crows_row _ | exact rrows_row _ | exact rows_row _ | (and_intros <;> first | omega | exact crows_row _ | exact rrows_row _ | exact rows_row _ | decide | (simp; done) | (simp; omega)) | fail) ?_ | refine And.intro ?_ ?_)
    refine And.intro ?_ ?_
    · simp only [go_sem, reduceIte, Nat.reduceLT, Nat.reduceLeDiff, Nat.reduceEqDiff, Nat.reduceAdd, Nat.reduceMul, Nat.reduceSub, Nat.reduceBEq, Int.reduceToNat, List.reduceReplicate, reduceCtorEq, crows_one, hres2]
      repeat' (first | exact (fun _ _ r => r) | exact LeE_wk (by simp only [go_sem, reduceIte, Nat.reduceLT, Nat.reduceLeDiff, Nat.reduceEqDiff, Nat.reduceAdd, Nat.reduceMul, Nat.reduceSub, Nat.reduceBEq, Int.reduceToNat, List.reduceReplicate, reduceCtorEq, crows_one, hres2]) (by simp only [go_sem, reduceIte, Nat.reduceLT, Nat.reduceLeDiff, Nat.reduceEqDiff, Nat.reduceAdd, Nat.reduceMul, Nat.reduceSub, Nat.reduceBEq, Int.reduceToNat, List.reduceReplicate, reduceCtorEq, crows_one, hres2]) | refine And.intro (by first | omega | exact crows_row _ | exact rrows_row _ | exact rows_row _ | (and_intros <;> first | omega | exact crows_row _ | exact rrows_row _ | exact rows_row _ | decide | (simp; done) | (simp; omega)) | fail) ?_ | refine And.intro ?_ ?_)
    refine And.intro ?_ ?_
    · simp only [go_sem, reduceIte, Nat.reduceLT, Nat.reduceLeDiff, Nat.reduceEqDiff, Nat.reduceAdd, Nat.reduceMul, Nat.reduceSub, Nat.reduceBEq, Int.reduceToNat, List.reduceReplicate, reduceCtorEq, crows_one, hres2]
      repeat' (first | exact (fun _ _ r => r) | exact LeE_wk (by simp only [go_sem, reduceIte, Nat.reduceLT, Nat.reduceLeDiff, Nat.reduceEqDiff, Nat.reduceAdd, Nat.reduceMul, Nat.reduceSub, Nat.reduceBEq, Int.reduceToNat, List.reduceReplicate, reduceCtorEq, crows_one, hres2]) (by simp only [go_sem, reduceIte, Nat.reduceLT, Nat.reduceLeDiff, Nat.reduceEqDiff, Nat.reduceAdd, Nat.reduceMul, Nat.reduceSub, Nat.reduceBEq, Int.reduceToNat, List.reduceReplicate, reduceCtorEq, crows_one, hres2]) | refine And.intro (by first | omega | exact crows_row _ | exact rrows_row _ | exact rows_row _ | (and_intros <;> first | omega | exact crows_row _ | exact rrows_row _ | exact rows_row _ | decide | (simp; done) | (simp; omega)) | fail) ?_ | refine And.intro ?_ ?_)
    refine And.intro ?_ trivial
    simp only [go_sem, reduceIte, Nat.reduceLT, Nat.reduceLeDiff, Nat.reduceEqDiff, Nat.reduceAdd, Nat.reduceMul, Nat.reduceSub, Nat.reduceBEq, Int.reduceToNat, List.reduceReplicate, reduceCtorEq, crows_one, hres2]
    refine hK _ ?_; clear hK K
    refine Aw_sq fun B13 hB13 hR13 hX13 => ?_
    refine Aw_st hE [5, 6, 9, 10, 11, 12, 13, 14] [6, 9, 11, 12] fun K hK => ?_
    simp only [go_sem, reduceIte, Nat.reduceLT, Nat.reduceLeDiff, Nat.reduceEqDiff, Nat.reduceAdd, Nat.reduceMul, Nat.reduceSub, Nat.reduceBEq, Int.reduceToNat, List.reduceReplicate, reduceCtorEq]
    refine hK _ ?_; clear hK K
    refine Aw_bk fun B14 hN14 hE14 hR14 hX14 => ?_
    refine Aw_lp (fun i : Nat => ⟨123, [(5, .sl none (crows l)), (6, .loc 6 0), (9, .loc 9 0), (10, bv z), (11, .loc 11 0), (12, .loc 12 0), (13, bv w), (14, iv i)], [(6, [iv rf, iv rb, isl p, iv rk, isl m]), (9, [iv yf, iv yb, isl yp, iv yk, isl ym]), (11, [iv 5, iv n0, iv 0, iv 0, bv false, iv 7, iv 0, iv 0]), (12, [iv uf, iv ub, isl up, iv uk, isl um])], k⟩) (fun i => i ≤ l.length ∧ ∀ d ∈ l.take i, fitsB d ⟨rf, rb, p, rk, m⟩ = false) (fun i => l.length - i) 0 (Le.refl _) ⟨by omega, by simp⟩ fun i hi B15 hN15 hR15 hX15 => ?_
    obtain ⟨hi1, hi2⟩ := hi
    refine Aw_sq fun B16 hB16 hR16 hX16 => ?_
    refine Aw_st hE [5, 6, 9, 10, 11, 12, 13, 14, 91] [6, 9, 11, 12] fun K hK => ?_
    simp only [go_sem, reduceIte, Nat.reduceLT, Nat.reduceLeDiff, Nat.reduceEqDiff, Nat.reduceAdd, Nat.reduceMul, Nat.reduceSub, Nat.reduceBEq, Int.reduceToNat, List.reduceReplicate, reduceCtorEq]
    refine hK _ (Aw_cond rfl (fun hc17 => ?_) (fun hc17 => ?_))
    · simp only [decide_eq_true_eq] at hc17
      have hil : i < l.length := by omega
      have hget := crows_get l i hil
      have hci := hclall _ (List.getElem_mem hil)
      have hmem := List.getElem_mem hil
      have htk : l.take (i + 1) = l.take i ++ [l[i]] := List.take_succ_eq_append_getElem hil
      generalize l[i] = d at hget hci hmem htk
      obtain ⟨ci, n, f, b, ref, like, mark, clear⟩ := d
      refine Aw_skip (hB16 _ ?_)
      refine Aw_sq fun B18 hB18 hR18 hX18 => ?_
      refine Aw_bk fun B19 hN19 hE19 hR19 hX19 => ?_
      cases hft : fitsB ⟨ci, n, f, b, ref, like, mark, clear⟩ ⟨rf, rb, p, rk, m⟩ with
      | true =>
        exact absurd hft (by rw [List.any_eq_false] at hany; simpa using hany _ hmem)
      | false =>
        apply (fun F0 F1 => Aw_sD hE [([0, 1, 2, 4], (.alt 3 (.ref 1) .non)), ([0, 1, 2, 3, 4], (.alt 5 .done .non))] (.fst 0 (.fst 1 (.alt 2 (.alt 3 (.alt 4 (.ref 1) .non) (.alt 4 (.ref 0) .non)) (.alt 4 (.alt 2 (.ref 0) .non) .non)))) [F0, F1] [5, 6, 9, 10, 11, 12, 13, 14, 99] [6, 9, 11, 12])
        · kernel_rfl
        intro K hK
        refine And.intro ?_ ?_
        · simp only [go_sem, reduceIte, Nat.reduceLT, Nat.reduceLeDiff, Nat.reduceEqDiff, Nat.reduceAdd, Nat.reduceMul, Nat.reduceSub, Nat.reduceBEq, Int.reduceToNat, List.reduceReplicate, reduceCtorEq, hget, hci, hokR, hft, Bool.and_false]
          repeat' (first | exact (fun _ _ r => r) | exact LeE_wk (by simp only [go_sem, reduceIte, Nat.reduceLT, Nat.reduceLeDiff, Nat.reduceEqDiff, Nat.reduceAdd, Nat.reduceMul, Nat.reduceSub, Nat.reduceBEq, Int.reduceToNat, List.reduceReplicate, reduceCtorEq, hget, hci, hokR, hft, Bool.and_false]) (by simp only [go_sem, reduceIte, Nat.reduceLT, Nat.reduceLeDiff, Nat.reduceEqDiff, Nat.reduceAdd, Nat.reduceMul, Nat.reduceSub, Nat.reduceBEq, Int.reduceToNat, List.reduceReplicate, reduceCtorEq, hget, hci, hokR, hft, Bool.and_false]) | refine And.intro (by first | omega | exact crows_row _ | exact rrows_row _ | exact rows_row _ | (and_intros <;> first | omega | exact crows_row _ | exact rrows_row _ | exact rows_row _ | decide | (simp; done) | (simp; omega)) | fail) ?_ | refine And.intro ?_ ?_)
        refine And.intro ?_ ?_
        · simp only [go_sem, reduceIte, Nat.reduceLT, Nat.reduceLeDiff, Nat.reduceEqDiff, Nat.reduceAdd, Nat.reduceMul, Nat.reduceSub, Nat.reduceBEq, Int.reduceToNat, List.reduceReplicate, reduceCtorEq, hget, hci, hokR, hft, Bool.and_false]
          repeat' (first | exact (fun _ _ r => r) | exact LeE_wk (by simp only [go_sem, reduceIte, Nat.reduceLT, Nat.reduceLeDiff, Nat.reduceEqDiff, Nat.reduceAdd, Nat.reduceMul, Nat.reduceSub, Nat.reduceBEq, Int.reduceToNat, List.reduceReplicate, reduceCtorEq, hget, hci, hokR, hft, Bool.and_false]) (by simp only [go_sem, reduceIte, Nat.reduceLT, Nat.reduceLeDiff, Nat.reduceEqDiff, Nat.reduceAdd, Nat.reduceMul, Nat.reduceSub, Nat.reduceBEq, Int.reduceToNat, List.reduceReplicate, reduceCtorEq, hget, hci, hokR, hft, Bool.and_false]) | refine And.intro (by first | omega | exact crows_row _ | exact rrows_row _ | exact rows_row _ | (and_intros <;> first | omega | exact crows_row _ | exact rrows_row _ | exact rows_row _ | decide | (simp; done) | (simp; omega)) | fail) ?_ | refine And.intro ?_ ?_)
        refine And.intro ?_ trivial
        simp only [go_sem, reduceIte, Nat.reduceLT, Nat.reduceLeDiff, Nat.reduceEqDiff, Nat.reduceAdd, Nat.reduceMul, Nat.reduceSub, Nat.reduceBEq, Int.reduceToNat, List.reduceReplicate, reduceCtorEq, hget, hci, hokR, hft, Bool.and_false]
        refine ⟨by omega, ?_⟩
        refine hK _ (Aw_no rfl (Aw_skip (hN19 _ (hB18 _ ?_))))
        refine Aw_tx hE [5, 6, 9, 10, 11, 12, 13, 14] [6, 9, 11, 12] fun K hK => ?_
        simp only [go_sem, reduceIte, Nat.reduceLT, Nat.reduceLeDiff, Nat.reduceEqDiff, Nat.reduceAdd, Nat.reduceMul, Nat.reduceSub, Nat.reduceBEq, Int.reduceToNat, List.reduceReplicate, reduceCtorEq]
        repeat (refine And.intro (by first | omega | (and_intros <;> first | omega | exact rows_row _ | decide | (simp; done) | (simp; omega)) | fail) ?_)
        refine hK _ (hN15 (i + 1) _ ⟨by omega, fun d hd => ?_⟩ (by omega) (Le.refl _))
        rw [htk] at hd
        rcases List.mem_append.1 hd with hd | hd
        · exact hi2 d hd
        · rw [List.mem_singleton] at hd; rw [hd]; exact hft
    · simp only [decide_eq_false_iff_not] at hc17
      rw [List.take_of_length_le (by omega)] at hi2
      refine Aw_exit (hX16 _ _ (hX15 _ _ (hE14 _ (hB13 _ ?_))))
      refine Aw_st hE [12, 13, 15, 16] [12, 15] fun K hK => ?_
      simp only [go_sem, reduceIte, Nat.reduceLT, Nat.reduceLeDiff, Nat.reduceEqDiff, Nat.reduceAdd, Nat.reduceMul, Nat.reduceSub, Nat.reduceBEq, Int.reduceToNat, List.reduceReplicate, reduceCtorEq, crows_one, hres3]
      refine ⟨by omega, ?_⟩
      refine hK _ ?_; clear hK K
      refine Aw_st hE [4] [] fun K hK => ?_
      simp only [go_sem, reduceIte, Nat.reduceLT, Nat.reduceLeDiff, Nat.reduceEqDiff, Nat.reduceAdd, Nat.reduceMul, Nat.reduceSub, Nat.reduceBEq, Int.reduceToNat, List.reduceReplicate, reduceCtorEq, beq_self_eq_true, and_self, decide_true]
      refine ⟨by omega, ?_⟩
      refine hK _ (Aw_ret (hQ _ ?_))
      simp only [go_sem, reduceIte, Nat.reduceLT, Nat.reduceLeDiff, Nat.reduceEqDiff, Nat.reduceAdd, Nat.reduceMul, Nat.reduceSub, Nat.reduceBEq, Int.reduceToNat, List.reduceReplicate, reduceCtorEq]
end Go.Proofs.W
end
