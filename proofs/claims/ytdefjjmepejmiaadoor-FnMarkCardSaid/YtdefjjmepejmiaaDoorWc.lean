/- YtdefjjmepejmiaaDoorWc: part of the proof that a mark is there once: FnMark answers true, for every input that the row speaks of (no condition of ours). -/
import Derived.Test.YtdefjjmepejmiaaDoorWb
import Derived.Test.YtdefjjmepejmiaaDoorWa
set_option linter.unusedVariables false
set_option linter.unusedSimpArgs false
section
namespace Go.Proofs.W
open Go Go.Eng Go.RowKit
set_option linter.unusedSimpArgs false
set_option maxRecDepth 10000

theorem mOkN_iff (l : List Int) : ∀ n, mOkN l n = true ↔ (∀ k, k < n → isM (l.getD k 0) = true) ∧ ∀ k, k + 1 < n → l.getD k 0 < l.getD (k + 1) 0
  | 0 => by simp [mOkN]
  | n + 1 => by
    simp only [mOkN, Bool.and_eq_true, Bool.or_eq_true, decide_eq_true_eq, mOkN_iff l n]
    constructor
    · rintro ⟨⟨h1, h2⟩, h3, h4⟩
      refine ⟨fun k hk => ?_, fun k hk => ?_⟩
      · by_cases e : k = n
        · rw [e]; exact h3
        · exact h1 k (by omega)
      · by_cases e : k + 1 = n
        · subst e
          exact h4.resolve_left (by omega)
        · exact h2 k (by omega)
    · rintro ⟨h1, h2⟩
      refine ⟨⟨fun k hk => h1 k (by omega), fun k hk => h2 k (by omega)⟩, h1 n (by omega), ?_⟩
      cases n with
      | zero => exact .inl rfl
      | succ n => exact .inr (h2 n (by omega))
theorem mOk_of {l : List Int} (h1 : ∀ y ∈ l, isM y = true) (h2 : l.Pairwise (· < ·)) : mOk l = true := by
  refine (mOkN_iff l _).2 ⟨fun k hk => ?_, fun k hk => ?_⟩
  · rw [List.getD_eq_getElem?_getD, List.getElem?_eq_getElem hk]; exact h1 _ (List.getElem_mem hk)
  · have := List.pairwise_iff_getElem.1 h2 k (k + 1) (by omega) hk (by omega)
    simpa [List.getD_eq_getElem?_getD, hk, show k < l.length by omega] using this
theorem mOk_mem {l : List Int} (h : mOk l = true) : ∀ y ∈ l, isM y = true := fun y hy => by
  obtain ⟨k, hk, rfl⟩ := List.mem_iff_getElem.1 hy
  have := ((mOkN_iff l _).1 h).1 k hk
  simpa [List.getD_eq_getElem?_getD, hk] using this

/-- sorted lists part at x -/
theorem srt_part (x : Int) : ∀ {l : List Int}, l.Pairwise (· < ·) → ∃ a b, l = a ++ b ∧ (∀ y ∈ a, y < x) ∧ ∀ y ∈ b, x ≤ y
  | [], _ => ⟨[], [], rfl, by simp, by simp⟩
  | y :: l, h => by
    obtain ⟨h1, h2⟩ := List.pairwise_cons.1 h
    by_cases hy : y < x
    · obtain ⟨a, b, rfl, ha, hb⟩ := srt_part x h2
      exact ⟨y :: a, b, rfl, by simp only [List.mem_cons]; rintro z (rfl | hz); exact hy; exact ha z hz, hb⟩
    · exact ⟨[], y :: l, rfl, by simp, by simp only [List.mem_cons]; rintro z (rfl | hz); omega; have := h1 z hz; omega⟩

theorem mkL_mem {l : List Int} (h : l.Pairwise (· < ·)) (x y : Int) : y ∈ mkL l x ↔ y = x ∨ y ∈ l := by
  obtain ⟨a, b, rfl, ha, hb⟩ := srt_part x h
  rw [mkL_eq x a b ha hb]
  simp only [List.mem_append, List.mem_cons, List.mem_filter, Bool.not_eq_true', decide_eq_false_iff_not]
  by_cases e : y = x <;> simp [e]
theorem mkL_srt {l : List Int} (h : l.Pairwise (· < ·)) (x : Int) : (mkL l x).Pairwise (· < ·) := by
  obtain ⟨a, b, rfl, ha, hb⟩ := srt_part x h
  rw [mkL_eq x a b ha hb]
  obtain ⟨h1, h2, h3⟩ := List.pairwise_append.1 h
  refine List.pairwise_append.2 ⟨h1, List.pairwise_cons.2 ⟨fun y hy => ?_, h2.filter _⟩, fun y hy z hz => ?_⟩
  · obtain ⟨hy1, hy2⟩ := List.mem_filter.1 hy
    have := hb y hy1
    simp only [Bool.not_eq_true', decide_eq_false_iff_not] at hy2
    omega
  · rcases List.mem_cons.1 hz with rfl | hz
    · exact ha y hy
    · exact h3 y hy z (List.mem_filter.1 hz).1
theorem mkL_mOk {l : List Int} (h : mOk l = true) {x : Int} (hx : isM x = true) : mOk (mkL l x) = true :=
  mOk_of (fun y hy => ((mkL_mem (mOk_srt h) x y).1 hy).elim (fun e => e ▸ hx) (mOk_mem h y)) (mkL_srt (mOk_srt h) x)
theorem srt_ext : ∀ {a b : List Int}, a.Pairwise (· < ·) → b.Pairwise (· < ·) → (∀ y, y ∈ a ↔ y ∈ b) → a = b
  | [], [], _, _, _ => rfl
  | [], y :: b, _, _, h => absurd ((h y).2 (by simp)) (by simp)
  | y :: a, [], _, _, h => absurd ((h y).1 (by simp)) (by simp)
  | y :: a, z :: b, ha, hb, h => by
    obtain ⟨a1, a2⟩ := List.pairwise_cons.1 ha
    obtain ⟨b1, b2⟩ := List.pairwise_cons.1 hb
    have hyz : y = z := by
      have h1 := (h y).1 (by simp)
      have h2 := (h z).2 (by simp)
      rcases List.mem_cons.1 h1 with e | e
      · exact e
      · rcases List.mem_cons.1 h2 with e' | e'
        · exact e'.symm
        · have := b1 y e; have := a1 z e'; omega
    subst hyz
    congr 1
    refine srt_ext a2 b2 fun w => ⟨fun hw => ?_, fun hw => ?_⟩
    · rcases List.mem_cons.1 ((h w).1 (List.mem_cons_of_mem _ hw)) with e | e
      · have := a1 w hw; omega
      · exact e
    · rcases List.mem_cons.1 ((h w).2 (List.mem_cons_of_mem _ hw)) with e | e
      · have := b1 w hw; omega
      · exact e
theorem clL_mem (l : List Int) (x y : Int) : y ∈ clL l x ↔ y ∈ l ∧ y ≠ x := by simp [clL, List.mem_filter]
theorem clL_srt {l : List Int} (h : l.Pairwise (· < ·)) (x : Int) : (clL l x).Pairwise (· < ·) := h.filter _
theorem mkL_mkL {l : List Int} (h : l.Pairwise (· < ·)) (x : Int) : mkL (mkL l x) x = mkL l x :=
  srt_ext (mkL_srt (mkL_srt h x) x) (mkL_srt h x) fun y => by rw [mkL_mem (mkL_srt h x), mkL_mem h]; simp
theorem clL_mkL {l : List Int} (h : l.Pairwise (· < ·)) (x : Int) : clL (mkL l x) x = clL l x :=
  srt_ext (clL_srt (mkL_srt h x) x) (clL_srt h x) fun y => by rw [clL_mem, clL_mem, mkL_mem h]; by_cases e : y = x <;> simp [e]
theorem clL_mOk {l : List Int} (h : mOk l = true) (x : Int) : mOk (clL l x) = true :=
  mOk_of (fun y hy => mOk_mem h y ((clL_mem l x y).1 hy).1) (clL_srt (mOk_srt h) x)
theorem mkL_clL {l : List Int} (h : l.Pairwise (· < ·)) {x : Int} (hx : x ∈ l) : mkL (clL l x) x = l :=
  srt_ext (mkL_srt (clL_srt h x) x) h fun y => by rw [mkL_mem (clL_srt h x), clL_mem]; by_cases e : y = x <;> simp [e, hx]
theorem clL_not {l : List Int} {x : Int} (hx : x ∉ l) : clL l x = l := List.filter_eq_self.2 fun y hy => by simp; rintro rfl; exact hx hy
end Go.Proofs.W
end
section
namespace Go.Proofs.W
open Go Go.Eng Go.RowKit
set_option linter.unusedSimpArgs false
set_option maxRecDepth 10000

theorem mkL_len {l : List Int} (h : l.Pairwise (· < ·)) (x : Int) : (mkL l x).length ≤ l.length + 1 := by
  obtain ⟨a, b, rfl, ha, hb⟩ := srt_part x h
  rw [mkL_eq x a b ha hb]
  have := List.length_filter_le (fun y => !decide (y = x)) b
  simp; omega
theorem clL_len (l : List Int) (x : Int) : (clL l x).length ≤ l.length := List.length_filter_le _ _

theorem fnMark_ok (pb : Addr) : Fine Tryd.prog 4 (cLawP pb) := by
  refine fine_of (T := TT) Tryd.func4 rfl Tryd.ntmps4 (by rw [Tryd.results4]) rfl rfl tt (gs_cons drawRouteMark_ok gs_nil) (ds_cons sMark_ok (ds_cons (iMark_ok pb) (ds_cons lyRoute_ok (ds_cons (iClear_ok pb) (ds_cons lyIn_ok (ds_cons (iRtOk_ok pb) ds_nil (wp_inh pb))) (wp_inh pb))) (wp_inh pb))) ?_
  rintro args ⟨bs, hbs, rfl⟩
  refine ⟨by simp, fun k hk E hE Q hQ => ?_⟩
  refine Aw_st hE [0] [] fun K hK => ?_
  simp only [go_sem, reduceIte, Nat.reduceLT, Nat.reduceLeDiff, Nat.reduceEqDiff, Nat.reduceAdd, Nat.reduceMul, Nat.reduceSub, Nat.reduceBEq, Int.reduceToNat, List.reduceReplicate, reduceCtorEq]
  refine hK _ ?_; clear hK K
  refine Aw_sq fun B1 hB1 hR1 hX1 => ?_
  refine Aw_st hE [0, 18] [] fun K hK => ?_
  simp only [go_sem, reduceIte, Nat.reduceLT, Nat.reduceLeDiff, Nat.reduceEqDiff, Nat.reduceAdd, Nat.reduceMul, Nat.reduceSub, Nat.reduceBEq, Int.reduceToNat, List.reduceReplicate, reduceCtorEq]
  refine hK _ (Aw_cond rfl (fun hc2 => ?_) (fun hc2 => ?_))
  · refine Aw_st hE [2] [] fun K hK => ?_
    simp only [go_sem, reduceIte, Nat.reduceLT, Nat.reduceLeDiff, Nat.reduceEqDiff, Nat.reduceAdd, Nat.reduceMul, Nat.reduceSub, Nat.reduceBEq, Int.reduceToNat, List.reduceReplicate, reduceCtorEq]
    refine hK _ (Aw_ret (hR1 _ (hQ _ ?_)))
    simp only [go_sem, reduceIte, Nat.reduceLT, Nat.reduceLeDiff, Nat.reduceEqDiff, Nat.reduceAdd, Nat.reduceMul, Nat.reduceSub, Nat.reduceBEq, Int.reduceToNat, List.reduceReplicate, reduceCtorEq]
  · refine Aw_skip (hB1 _ ?_)
    refine Aw_st hE [3, 4] [3] fun K hK => ?_
    simp only [go_sem, reduceIte, Nat.reduceLT, Nat.reduceLeDiff, Nat.reduceEqDiff, Nat.reduceAdd, Nat.reduceMul, Nat.reduceSub, Nat.reduceBEq, Int.reduceToNat, List.reduceReplicate, reduceCtorEq]
    refine ⟨drm_pre bs hbs, fun y n hy hn1 hn2 => ?_⟩
    obtain ⟨f, b, p, lk, m⟩ := y
    obtain ⟨_, hp1, _, _, _, hm1⟩ := hy
    simp only at hp1 hm1
    refine hK _ ?_; clear hK K
    cases hok : (rtOk f b p lk m && isM n) with
    | false =>
      refine Aw_st hE [3, 4, 5, 6] [3, 5] fun K hK => ?_
      simp only [go_sem, reduceIte, Nat.reduceLT, Nat.reduceLeDiff, Nat.reduceEqDiff, Nat.reduceAdd, Nat.reduceMul, Nat.reduceSub, Nat.reduceBEq, Int.reduceToNat, List.reduceReplicate, reduceCtorEq, hok]
      refine ⟨⟨by omega, by omega⟩, ?_⟩
      refine hK _ ?_; clear hK K
      refine Aw_st hE [3, 4, 5, 6, 7, 8] [3, 5, 7] fun K hK => ?_
      simp only [go_sem, reduceIte, Nat.reduceLT, Nat.reduceLeDiff, Nat.reduceEqDiff, Nat.reduceAdd, Nat.reduceMul, Nat.reduceSub, Nat.reduceBEq, Int.reduceToNat, List.reduceReplicate, reduceCtorEq, hok]
      refine ⟨⟨by omega, by omega⟩, ?_⟩
      refine hK _ ?_; clear hK K
      refine Aw_sq fun B3 hB3 hR3 hX3 => ?_
      refine Aw_st hE [3, 4, 5, 6, 7, 8, 48] [3, 5, 7] fun K hK => ?_
      simp only [go_sem, reduceIte, Nat.reduceLT, Nat.reduceLeDiff, Nat.reduceEqDiff, Nat.reduceAdd, Nat.reduceMul, Nat.reduceSub, Nat.reduceBEq, Int.reduceToNat, List.reduceReplicate, reduceCtorEq, decide_true, isl, rows_nil, intsL, and_self]
      repeat (refine And.intro (by first | omega | (and_intros <;> first | omega | exact rows_row _ | decide | (simp; done) | (simp; omega)) | fail) ?_)
      refine hK _ (Aw_yes rfl ?_)
      refine Aw_st hE [2] [] fun K hK => ?_
      simp only [go_sem, reduceIte, Nat.reduceLT, Nat.reduceLeDiff, Nat.reduceEqDiff, Nat.reduceAdd, Nat.reduceMul, Nat.reduceSub, Nat.reduceBEq, Int.reduceToNat, List.reduceReplicate, reduceCtorEq, decide_true, isl, rows_nil, intsL, and_self]
      repeat (refine And.intro (by first | omega | (and_intros <;> first | omega | exact rows_row _ | decide | (simp; done) | (simp; omega)) | fail) ?_)
      refine hK _ (Aw_ret (hR3 _ (hQ _ ?_)))
      simp only [go_sem, reduceIte, Nat.reduceLT, Nat.reduceLeDiff, Nat.reduceEqDiff, Nat.reduceAdd, Nat.reduceMul, Nat.reduceSub, Nat.reduceBEq, Int.reduceToNat, List.reduceReplicate, reduceCtorEq]
    | true =>
      have hok1 := hok
      simp only [Bool.and_eq_true] at hok1
      have hmk : mOk m = true := by have := hok1.1; simp only [rtOk, Bool.and_eq_true] at this; exact this.2.2.2.2.2
      have hsr := mOk_srt hmk
      have hok2 : rtOk f b p lk (mkL m n) = true := by
        have h1 := hok1.1
        simp only [rtOk, Bool.and_eq_true] at h1 ⊢
        exact ⟨h1.1, h1.2.1, h1.2.2.1, h1.2.2.2.1, h1.2.2.2.2.1, mkL_mOk hmk hok1.2⟩
      have hlen2 : (mkL m n).length ≤ 1000 := by have := mkL_len hsr n; omega
      have hlen3 : (clL m n).length ≤ 1000 := by have := clL_len m n; omega
      have hok3 : (rtOk f b p lk (mkL m n) && isM n) = true := by rw [hok2, hok1.2]; rfl
      refine Aw_st hE [3, 4, 5, 6] [3, 5] fun K hK => ?_
      simp only [go_sem, reduceIte, Nat.reduceLT, Nat.reduceLeDiff, Nat.reduceEqDiff, Nat.reduceAdd, Nat.reduceMul, Nat.reduceSub, Nat.reduceBEq, Int.reduceToNat, List.reduceReplicate, reduceCtorEq, hok]
      refine ⟨⟨by omega, by omega⟩, ?_⟩
      refine hK _ ?_; clear hK K
      refine Aw_st hE [3, 4, 5, 6, 7, 8] [3, 5, 7] fun K hK => ?_
      simp only [go_sem, reduceIte, Nat.reduceLT, Nat.reduceLeDiff, Nat.reduceEqDiff, Nat.reduceAdd, Nat.reduceMul, Nat.reduceSub, Nat.reduceBEq, Int.reduceToNat, List.reduceReplicate, reduceCtorEq, hok]
      refine ⟨⟨by omega, by omega⟩, ?_⟩
      refine hK _ ?_; clear hK K
      refine Aw_sq fun B3 hB3 hR3 hX3 => ?_
      refine Aw_st hE [3, 4, 5, 6, 7, 8, 48] [3, 5, 7] fun K hK => ?_
      simp only [go_sem, reduceIte, Nat.reduceLT, Nat.reduceLeDiff, Nat.reduceEqDiff, Nat.reduceAdd, Nat.reduceMul, Nat.reduceSub, Nat.reduceBEq, Int.reduceToNat, List.reduceReplicate, reduceCtorEq, decide_true, and_self]
      refine ⟨⟨by omega, by omega⟩, ?_⟩
      refine hK _ (Aw_no rfl (Aw_skip (hB3 _ ?_)))
      refine Aw_st hE [3, 4, 7, 9, 10] [3, 7, 9] fun K hK => ?_
      simp only [go_sem, reduceIte, Nat.reduceLT, Nat.reduceLeDiff, Nat.reduceEqDiff, Nat.reduceAdd, Nat.reduceMul, Nat.reduceSub, Nat.reduceBEq, Int.reduceToNat, List.reduceReplicate, reduceCtorEq, hok3, mkL_mkL hsr n]
      refine ⟨⟨by omega, by omega⟩, ?_⟩
      refine hK _ ?_; clear hK K
      refine Aw_st hE [3, 4, 7, 9, 10, 11, 12] [3, 7, 9, 11] fun K hK => ?_
      simp only [go_sem, reduceIte, Nat.reduceLT, Nat.reduceLeDiff, Nat.reduceEqDiff, Nat.reduceAdd, Nat.reduceMul, Nat.reduceSub, Nat.reduceBEq, Int.reduceToNat, List.reduceReplicate, reduceCtorEq, hok3, clL_mkL hsr n]
      refine ⟨⟨by omega, by omega⟩, ?_⟩
      refine hK _ ?_; clear hK K
      refine Aw_st hE [3, 4, 7, 9, 10, 11, 12, 13, 14] [3, 7, 9, 11, 13] fun K hK => ?_
      simp only [go_sem, reduceIte, Nat.reduceLT, Nat.reduceLeDiff, Nat.reduceEqDiff, Nat.reduceAdd, Nat.reduceMul, Nat.reduceSub, Nat.reduceBEq, Int.reduceToNat, List.reduceReplicate, reduceCtorEq, hok]
      refine ⟨⟨by omega, by omega⟩, ?_⟩
      refine hK _ ?_; clear hK K
      refine Aw_sq fun B8 hB8 hR8 hX8 => ?_
      refine Aw_st hE [3, 4, 7, 9, 10, 11, 12, 13, 14, 15] [3, 7, 9, 11, 13] fun K hK => ?_
      simp only [go_sem, reduceIte, Nat.reduceLT, Nat.reduceLeDiff, Nat.reduceEqDiff, Nat.reduceAdd, Nat.reduceMul, Nat.reduceSub, Nat.reduceBEq, Int.reduceToNat, List.reduceReplicate, reduceCtorEq]
      have hin : ∀ y : Int, (mkL m n).contains y = (decide (y = n) || m.contains y) := fun y => by
        rw [Bool.eq_iff_iff]
        simp only [List.contains_eq_mem, Bool.or_eq_true, decide_eq_true_eq]
        exact mkL_mem hsr n y
      refine hK _ ?_; clear hK K
      refine Aw_bk fun B9 hN9 hE9 hR9 hX9 => ?_
      refine Aw_lp (fun i : Nat => ⟨114, [(3, .loc 3 0), (4, iv n), (7, .loc 7 0), (9, .loc 9 0), (10, bv true), (11, .loc 11 0), (12, bv true), (13, .loc 13 0), (14, bv true), (15, iv (i + 1 : Nat))], [(3, [iv f, iv b, isl p, iv lk, isl m]), (7, [iv f, iv b, isl p, iv lk, isl (mkL m n)]), (9, [iv f, iv b, isl p, iv lk, isl (mkL m n)]), (11, [iv f, iv b, isl p, iv lk, isl (clL m n)]), (13, [iv f, iv b, isl p, iv lk, isl (clL m n)])], k⟩) (fun i => i ≤ 9) (fun i => 9 - i) 0 (Le.refl _) (by omega) fun i hi B10 hN10 hR10 hX10 => ?_
      refine Aw_sq fun B11 hB11 hR11 hX11 => ?_
      refine Aw_st hE [3, 4, 7, 9, 10, 11, 12, 13, 14, 15, 76] [3, 7, 9, 11, 13] fun K hK => ?_
      simp only [go_sem, reduceIte, Nat.reduceLT, Nat.reduceLeDiff, Nat.reduceEqDiff, Nat.reduceAdd, Nat.reduceMul, Nat.reduceSub, Nat.reduceBEq, Int.reduceToNat, List.reduceReplicate, reduceCtorEq]
      refine hK _ (Aw_cond rfl (fun hc12 => ?_) (fun hc12 => ?_))
      · simp only [decide_eq_true_eq] at hc12
        refine Aw_skip (hB11 _ ?_)
        refine Aw_sq fun B13 hB13 hR13 hX13 => ?_
        refine Aw_bk fun B14 hN14 hE14 hR14 hX14 => ?_
        refine Aw_st hE [3, 4, 7, 9, 10, 11, 12, 13, 14, 15, 92] [3, 7, 9, 11, 13] fun K hK => ?_
        simp only [go_sem, reduceIte, Nat.reduceLT, Nat.reduceLeDiff, Nat.reduceEqDiff, Nat.reduceAdd, Nat.reduceMul, Nat.reduceSub, Nat.reduceBEq, Int.reduceToNat, List.reduceReplicate, reduceCtorEq, hin]
        have H : ∀ v, v = false → K { nt := 114, σ := [(3, .loc 3 0), (4, iv n), (7, .loc 7 0), (9, .loc 9 0), (10, bv true), (11, .loc 11 0), (12, bv true), (13, .loc 13 0), (14, bv true), (15, iv (i + 1 : Nat)), (92, bv v)], m := [(3, [iv f, iv b, isl p, iv lk, isl m]), (7, [iv f, iv b, isl p, iv lk, isl (mkL m n)]), (9, [iv f, iv b, isl p, iv lk, isl (mkL m n)]), (11, [iv f, iv b, isl p, iv lk, isl (clL m n)]), (13, [iv f, iv b, isl p, iv lk, isl (clL m n)])], rn := k } := fun v hv => by
          subst hv
          refine hK _ (Aw_no rfl (Aw_skip (hN14 _ (hB13 _ ?_))))
          refine Aw_tx hE [3, 4, 7, 9, 10, 11, 12, 13, 14, 15] [3, 7, 9, 11, 13] fun K hK => ?_
          simp only [go_sem, reduceIte, Nat.reduceLT, Nat.reduceLeDiff, Nat.reduceEqDiff, Nat.reduceAdd, Nat.reduceMul, Nat.reduceSub, Nat.reduceBEq, Int.reduceToNat, List.reduceReplicate, reduceCtorEq]
          repeat (refine And.intro (by first | omega | (and_intros <;> first | omega | exact rows_row _ | decide | (simp; done) | (simp; omega)) | fail) ?_)
          refine hK _ (hN10 (i + 1) _ (by omega) (by omega) (Le.refl _))
        clear hK
        refine ⟨by omega, fun h => H _ ?_, fun h => ⟨by omega, H _ ?_⟩⟩
        · rw [h]; rfl
        · rw [h]; simp
      · refine Aw_exit (hX11 _ _ (hX10 _ _ (hE9 _ (hB8 _ ?_))))
        refine Aw_st hE [2] [] fun K hK => ?_
        simp only [go_sem, reduceIte, Nat.reduceLT, Nat.reduceLeDiff, Nat.reduceEqDiff, Nat.reduceAdd, Nat.reduceMul, Nat.reduceSub, Nat.reduceBEq, Int.reduceToNat, List.reduceReplicate, reduceCtorEq, hok2, decide_true, and_self]
        refine ⟨⟨by omega, by omega⟩, ⟨by omega, by omega⟩, ⟨by omega, by omega⟩, ?_⟩
        refine hK _ (Aw_ret (hQ _ ?_))
        simp only [go_sem, reduceIte, Nat.reduceLT, Nat.reduceLeDiff, Nat.reduceEqDiff, Nat.reduceAdd, Nat.reduceMul, Nat.reduceSub, Nat.reduceBEq, Int.reduceToNat, List.reduceReplicate, reduceCtorEq]
end Go.Proofs.W
end
