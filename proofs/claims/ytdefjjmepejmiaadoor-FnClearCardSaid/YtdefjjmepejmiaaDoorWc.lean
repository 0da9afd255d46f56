/- YtdefjjmepejmiaaDoorWc: part of the proof that a mark that is cleared is not there: FnClear answers true, for every input that the row speaks of (no condition of ours). -/
import Derived.Test.YtdefjjmepejmiaaDoorWb
import Derived.Test.YtdefjjmepejmiaaDoorWa
set_option linter.unusedVariables false
set_option linter.unusedSimpArgs false
section
namespace Go.Proofs.W
open Go Go.Eng Go.RowKit
set_option linter.unusedSimpArgs false
set_option maxRecDepth 10000

/-- a route, and whatever mark -/
def cDRC : Con := { pre := codeArg, post := fun _ r => ∃ (x : Rt) (n : Int), okRt x ∧ r = .tup [x.av, iv n] }
theorem cDRC_own : cDRC.own = false := rfl
theorem cDRC_draws : cDRC.draws = false := rfl
theorem cDRC_cost : cDRC.cost = 0 := rfl
attribute [go_sem] cDRC_own cDRC_draws cDRC_cost
theorem drc_pre (bs : List Nat) (h : ∀ b ∈ bs, b < 256) : cDRC.pre [.sl none (byteRows bs)] := ⟨bs, h, rfl⟩
theorem drc_post (args : List AV) (K : AV → Prop) : (∀ r, cDRC.post args r → K r) = (∀ (x : Rt) (n : Int), okRt x → K (.tup [x.av, iv n])) := by
  apply propext
  exact ⟨fun h x n h1 => h _ ⟨x, n, h1, rfl⟩, fun h r ⟨x, n, h1, e⟩ => e ▸ h x n h1⟩
attribute [go_sem] drc_post
theorem drawRouteClear_ok : Fine Tryd.prog 11 cDRC := by
  refine fine_draw (T := TT) (C := cDRC) Tryd.func11 rfl Tryd.ntmps11 (by rw [Tryd.results11]) rfl rfl tt rfl rfl (G := [(43, cRouteD), (44, cPick)]) (D := []) (gs_cons l91Route_ok (gs_cons pick_ok gs_nil)) ds_nil (l1 := [_]) (l2 := [_]) rfl rfl rfl rfl (by decide) open_calls ⟨_, Tryd.func42, rfl, rfl⟩ ?_ ?_
  · rintro args r ⟨x, n, _, rfl⟩; rfl
  rintro args ⟨bs, hbs, rfl⟩
  refine ⟨by simp, bs, hbs, fun n E hE J hJ => ?_⟩
  refine Aw_tx hE [0, 2] [2] fun K hK => ?_
  simp only [go_sem, reduceIte, Nat.reduceLT, Nat.reduceLeDiff, Nat.reduceEqDiff, Nat.reduceAdd, Nat.reduceMul, Nat.reduceSub, Nat.reduceBEq, Int.reduceToNat, List.reduceReplicate, reduceCtorEq]
  refine hK _ ?_
  simp only [thenA]
  simp only [go_sem, reduceIte, Nat.reduceLT, Nat.reduceLeDiff, Nat.reduceEqDiff, Nat.reduceAdd, Nat.reduceMul, Nat.reduceSub, Nat.reduceBEq, Int.reduceToNat, List.reduceReplicate, reduceCtorEq]
  refine hJ _ rfl rfl fun E hE Q hQ => ?_
  simp only [go_sem, reduceIte, Nat.reduceLT, Nat.reduceLeDiff, Nat.reduceEqDiff, Nat.reduceAdd, Nat.reduceMul, Nat.reduceSub, Nat.reduceBEq, Int.reduceToNat, List.reduceReplicate, reduceCtorEq]
  refine Aw_st hE [2, 4, 5] [2, 5] fun K hK => ?_
  simp only [go_sem, reduceIte, Nat.reduceLT, Nat.reduceLeDiff, Nat.reduceEqDiff, Nat.reduceAdd, Nat.reduceMul, Nat.reduceSub, Nat.reduceBEq, Int.reduceToNat, List.reduceReplicate, reduceCtorEq]
  intro y hy
  refine hK _ ?_; clear hK K
  refine Aw_sq fun B1 hB1 hR1 hX1 => ?_
  refine Aw_st hE [2, 4, 5, 18] [2, 5] fun K hK => ?_
  simp only [go_sem, reduceIte, Nat.reduceLT, Nat.reduceLeDiff, Nat.reduceEqDiff, Nat.reduceAdd, Nat.reduceMul, Nat.reduceSub, Nat.reduceBEq, Int.reduceToNat, List.reduceReplicate, reduceCtorEq]
  refine ⟨fun h1 x hx1 hx2 => ?_, fun h1 => ?_⟩
  · refine hK _ (Aw_cond rfl (fun hc4 => ?_) (fun hc4 => ?_))
    · simp only [decide_eq_true_eq] at h1
      refine Aw_sz hE [2] [2, 3] [2] 6 (by kernel_rfl) fun K hK => ?_
      simp only [go_sem, reduceIte, Nat.reduceLT, Nat.reduceLeDiff, Nat.reduceEqDiff, Nat.reduceAdd, Nat.reduceMul, Nat.reduceSub, Nat.reduceBEq, Int.reduceToNat, List.reduceReplicate, reduceCtorEq]
      repeat (refine And.intro (by first | omega | (and_intros <;> first | omega | exact rows_row _ | decide | (simp; done) | (simp; omega)) | fail) ?_)
      refine fun z hz1 hz2 => ?_
      have hzl : z.toNat < y.marks.length := by omega
      simp only [rows_get y.marks _ hzl]
      simp only [go_sem, reduceIte, Nat.reduceLT, Nat.reduceLeDiff, Nat.reduceEqDiff, Nat.reduceAdd, Nat.reduceMul, Nat.reduceSub, Nat.reduceBEq, Int.reduceToNat, List.reduceReplicate, reduceCtorEq]
      repeat (refine And.intro (by first | omega | (and_intros <;> first | omega | exact rows_row _ | decide | (simp; done) | (simp; omega)) | fail) ?_)
      refine hK _ (Aw_ret (hR1 _ (hQ _ ?_)))
      simp only [go_sem, reduceIte, Nat.reduceLT, Nat.reduceLeDiff, Nat.reduceEqDiff, Nat.reduceAdd, Nat.reduceMul, Nat.reduceSub, Nat.reduceBEq, Int.reduceToNat, List.reduceReplicate, reduceCtorEq]
      exact ⟨y, _, hy, rfl⟩
    · refine Aw_skip (hB1 _ ?_)
      refine Aw_sz hE [2] [2, 3] [2] 6 (by kernel_rfl) fun K hK => ?_
      simp only [go_sem, reduceIte, Nat.reduceLT, Nat.reduceLeDiff, Nat.reduceEqDiff, Nat.reduceAdd, Nat.reduceMul, Nat.reduceSub, Nat.reduceBEq, Int.reduceToNat, List.reduceReplicate, reduceCtorEq]
      repeat (refine And.intro (by first | omega | (and_intros <;> first | omega | exact rows_row _ | decide | (simp; done) | (simp; omega)) | fail) ?_)
      intro z hz1 hz2
      refine hK _ (Aw_ret (hQ _ ?_))
      simp only [go_sem, reduceIte, Nat.reduceLT, Nat.reduceLeDiff, Nat.reduceEqDiff, Nat.reduceAdd, Nat.reduceMul, Nat.reduceSub, Nat.reduceBEq, Int.reduceToNat, List.reduceReplicate, reduceCtorEq]
      exact ⟨y, _, hy, rfl⟩
  · refine hK _ (Aw_no rfl (Aw_skip (hB1 _ ?_)))
    refine Aw_sz hE [2] [2, 3] [2] 6 (by kernel_rfl) fun K hK => ?_
    simp only [go_sem, reduceIte, Nat.reduceLT, Nat.reduceLeDiff, Nat.reduceEqDiff, Nat.reduceAdd, Nat.reduceMul, Nat.reduceSub, Nat.reduceBEq, Int.reduceToNat, List.reduceReplicate, reduceCtorEq]
    repeat (refine And.intro (by first | omega | (and_intros <;> first | omega | exact rows_row _ | decide | (simp; done) | (simp; omega)) | fail) ?_)
    intro z hz1 hz2
    refine hK _ (Aw_ret (hQ _ ?_))
    simp only [go_sem, reduceIte, Nat.reduceLT, Nat.reduceLeDiff, Nat.reduceEqDiff, Nat.reduceAdd, Nat.reduceMul, Nat.reduceSub, Nat.reduceBEq, Int.reduceToNat, List.reduceReplicate, reduceCtorEq]
    exact ⟨y, _, hy, rfl⟩
end Go.Proofs.W
end
section
namespace Go.Proofs.W
open Go Go.Eng Go.RowKit
set_option linter.unusedSimpArgs false
set_option maxRecDepth 10000

theorem mOkN_iff (l : List Int) : ∀ n, mOkN l n = true ↔ (∀ k, k < n → isM (l.getD k 0) = true) ∧ ∀ k, k + 1 < n → l.getD k 0 < l.getD (k + 1) 0
  | 0 => by simp [mOkN]
  | n + 1 => by
    simp only [mOkN, Bool.and_eq_true, Bool.or_eq_true, decide_eq_true_eq, mOkN_iff l n]
    constructor
    · rintro ⟨⟨h1, h2⟩, h3, h4⟩
      refine ⟨fun k hk => ?_, fun k hk => ?_⟩
      · by_cases e : k = n
        · rw [e]; exact h3
        · exact h1 k (by omega)
      · by_cases e : k + 1 = n
        · subst e
          exact h4.resolve_left (by omega)
        · exact h2 k (by omega)
    · rintro ⟨h1, h2⟩
      refine ⟨⟨fun k hk => h1 k (by omega), fun k hk => h2 k (by omega)⟩, h1 n (by omega), ?_⟩
      cases n with
      | zero => exact .inl rfl
      | succ n => exact .inr (h2 n (by omega))
theorem mOk_of {l : List Int} (h1 : ∀ y ∈ l, isM y = true) (h2 : l.Pairwise (· < ·)) : mOk l = true := by
  refine (mOkN_iff l _).2 ⟨fun k hk => ?_, fun k hk => ?_⟩
  · rw [List.getD_eq_getElem?_getD, List.getElem?_eq_getElem hk]; exact h1 _ (List.getElem_mem hk)
  · have := List.pairwise_iff_getElem.1 h2 k (k + 1) (by omega) hk (by omega)
    simpa [List.getD_eq_getElem?_getD, hk, show k < l.length by omega] using this
theorem mOk_mem {l : List Int} (h : mOk l = true) : ∀ y ∈ l, isM y = true := fun y hy => by
  obtain ⟨k, hk, rfl⟩ := List.mem_iff_getElem.1 hy
  have := ((mOkN_iff l _).1 h).1 k hk
  simpa [List.getD_eq_getElem?_getD, hk] using this

/-- sorted lists part at x -/
theorem srt_part (x : Int) : ∀ {l : List Int}, l.Pairwise (· < ·) → ∃ a b, l = a ++ b ∧ (∀ y ∈ a, y < x) ∧ ∀ y ∈ b, x ≤ y
  | [], _ => ⟨[], [], rfl, by simp, by simp⟩
  | y :: l, h => by
    obtain ⟨h1, h2⟩ := List.pairwise_cons.1 h
    by_cases hy : y < x
    · obtain ⟨a, b, rfl, ha, hb⟩ := srt_part x h2
      exact ⟨y :: a, b, rfl, by simp only [List.mem_cons]; rintro z (rfl | hz); exact hy; exact ha z hz, hb⟩
    · exact ⟨[], y :: l, rfl, by simp, by simp only [List.mem_cons]; rintro z (rfl | hz); omega; have := h1 z hz; omega⟩

theorem mkL_mem {l : List Int} (h : l.Pairwise (· < ·)) (x y : Int) : y ∈ mkL l x ↔ y = x ∨ y ∈ l := by
  obtain ⟨a, b, rfl, ha, hb⟩ := srt_part x h
  rw [mkL_eq x a b ha hb]
  simp only [List.mem_append, List.mem_cons, List.mem_filter, Bool.not_eq_true', decide_eq_false_iff_not]
  by_cases e : y = x <;> simp [e]
theorem mkL_srt {l : List Int} (h : l.Pairwise (· < ·)) (x : Int) : (mkL l x).Pairwise (· < ·) := by
  obtain ⟨a, b, rfl, ha, hb⟩ := srt_part x h
  rw [mkL_eq x a b ha hb]
  obtain ⟨h1, h2, h3⟩ := List.pairwise_append.1 h
  refine List.pairwise_append.2 ⟨h1, List.pairwise_cons.2 ⟨fun y hy => ?_, h2.filter _⟩, fun y hy z hz => ?_⟩
  · obtain ⟨hy1, hy2⟩ := List.mem_filter.1 hy
    have := hb y hy1
    simp only [Bool.not_eq_true', decide_eq_false_iff_not] at hy2
    omega
  · rcases List.mem_cons.1 hz with rfl | hz
    · exact ha y hy
    · exact h3 y hy z (List.mem_filter.1 hz).1
theorem mkL_mOk {l : List Int} (h : mOk l = true) {x : Int} (hx : isM x = true) : mOk (mkL l x) = true :=
  mOk_of (fun y hy => ((mkL_mem (mOk_srt h) x y).1 hy).elim (fun e => e ▸ hx) (mOk_mem h y)) (mkL_srt (mOk_srt h) x)
theorem srt_ext : ∀ {a b : List Int}, a.Pairwise (· < ·) → b.Pairwise (· < ·) → (∀ y, y ∈ a ↔ y ∈ b) → a = b
  | [], [], _, _, _ => rfl
  | [], y :: b, _, _, h => absurd ((h y).2 (by simp)) (by simp)
  | y :: a, [], _, _, h => absurd ((h y).1 (by simp)) (by simp)
  | y :: a, z :: b, ha, hb, h => by
    obtain ⟨a1, a2⟩ := List.pairwise_cons.1 ha
    obtain ⟨b1, b2⟩ := List.pairwise_cons.1 hb
    have hyz : y = z := by
      have h1 := (h y).1 (by simp)
      have h2 := (h z).2 (by simp)
      rcases List.mem_cons.1 h1 with e | e
      · exact e
      · rcases List.mem_cons.1 h2 with e' | e'
        · exact e'.symm
        · have := b1 y e; have := a1 z e'; omega
    subst hyz
    congr 1
    refine srt_ext a2 b2 fun w => ⟨fun hw => ?_, fun hw => ?_⟩
    · rcases List.mem_cons.1 ((h w).1 (List.mem_cons_of_mem _ hw)) with e | e
      · have := a1 w hw; omega
      · exact e
    · rcases List.mem_cons.1 ((h w).2 (List.mem_cons_of_mem _ hw)) with e | e
      · have := b1 w hw; omega
      · exact e
theorem clL_mem (l : List Int) (x y : Int) : y ∈ clL l x ↔ y ∈ l ∧ y ≠ x := by simp [clL, List.mem_filter]
theorem clL_srt {l : List Int} (h : l.Pairwise (· < ·)) (x : Int) : (clL l x).Pairwise (· < ·) := h.filter _
theorem mkL_mkL {l : List Int} (h : l.Pairwise (· < ·)) (x : Int) : mkL (mkL l x) x = mkL l x :=
  srt_ext (mkL_srt (mkL_srt h x) x) (mkL_srt h x) fun y => by rw [mkL_mem (mkL_srt h x), mkL_mem h]; simp
theorem clL_mkL {l : List Int} (h : l.Pairwise (· < ·)) (x : Int) : clL (mkL l x) x = clL l x :=
  srt_ext (clL_srt (mkL_srt h x) x) (clL_srt h x) fun y => by rw [clL_mem, clL_mem, mkL_mem h]; by_cases e : y = x <;> simp [e]
theorem clL_mOk {l : List Int} (h : mOk l = true) (x : Int) : mOk (clL l x) = true :=
  mOk_of (fun y hy => mOk_mem h y ((clL_mem l x y).1 hy).1) (clL_srt (mOk_srt h) x)
theorem mkL_clL {l : List Int} (h : l.Pairwise (· < ·)) {x : Int} (hx : x ∈ l) : mkL (clL l x) x = l :=
  srt_ext (mkL_srt (clL_srt h x) x) h fun y => by rw [mkL_mem (clL_srt h x), clL_mem]; by_cases e : y = x <;> simp [e, hx]
theorem clL_not {l : List Int} {x : Int} (hx : x ∉ l) : clL l x = l := List.filter_eq_self.2 fun y hy => by simp; rintro rfl; exact hx hy
theorem mkL_len {l : List Int} (h : l.Pairwise (· < ·)) (x : Int) : (mkL l x).length ≤ l.length + 1 := by
  obtain ⟨a, b, rfl, ha, hb⟩ := srt_part x h
  rw [mkL_eq x a b ha hb]
  have := List.length_filter_le (fun y => !decide (y = x)) b
  simp; omega
theorem clL_len (l : List Int) (x : Int) : (clL l x).length ≤ l.length := List.length_filter_le _ _

end Go.Proofs.W
end
section
namespace Go.Proofs.W
open Go Go.Eng Go.RowKit
set_option linter.unusedSimpArgs false
set_option maxRecDepth 10000

theorem fnClear_ok (pb : Addr) : Fine Tryd.prog 3 (cLawP pb) := by
  refine fine_of (T := TT) Tryd.func3 rfl Tryd.ntmps3 (by rw [Tryd.results3]) rfl rfl tt (gs_cons drawRouteClear_ok gs_nil) (ds_cons sClear_ok (ds_cons (iClear_ok pb) (ds_cons lyRoute_ok (ds_cons (iMark_ok pb) (ds_cons lyIn_ok (ds_cons (iRtOk_ok pb) ds_nil (wp_inh pb))) (wp_inh pb))) (wp_inh pb))) ?_
  rintro args ⟨bs, hbs, rfl⟩
  refine ⟨by simp, fun k hk E hE Q hQ => ?_⟩
  refine Aw_st hE [0] [] fun K hK => ?_
  simp only [go_sem, reduceIte, Nat.reduceLT, Nat.reduceLeDiff, Nat.reduceEqDiff, Nat.reduceAdd, Nat.reduceMul, Nat.reduceSub, Nat.reduceBEq, Int.reduceToNat, List.reduceReplicate, reduceCtorEq]
  refine hK _ ?_; clear hK K
  refine Aw_sq fun B1 hB1 hR1 hX1 => ?_
  refine Aw_st hE [0, 14] [] fun K hK => ?_
  simp only [go_sem, reduceIte, Nat.reduceLT, Nat.reduceLeDiff, Nat.reduceEqDiff, Nat.reduceAdd, Nat.reduceMul, Nat.reduceSub, Nat.reduceBEq, Int.reduceToNat, List.reduceReplicate, reduceCtorEq]
  refine hK _ (Aw_cond rfl (fun hc2 => ?_) (fun hc2 => ?_))
  · refine Aw_st hE [2] [] fun K hK => ?_
    simp only [go_sem, reduceIte, Nat.reduceLT, Nat.reduceLeDiff, Nat.reduceEqDiff, Nat.reduceAdd, Nat.reduceMul, Nat.reduceSub, Nat.reduceBEq, Int.reduceToNat, List.reduceReplicate, reduceCtorEq]
    refine hK _ (Aw_ret (hR1 _ (hQ _ ?_)))
    simp only [go_sem, reduceIte, Nat.reduceLT, Nat.reduceLeDiff, Nat.reduceEqDiff, Nat.reduceAdd, Nat.reduceMul, Nat.reduceSub, Nat.reduceBEq, Int.reduceToNat, List.reduceReplicate, reduceCtorEq]
  · refine Aw_skip (hB1 _ ?_)
    refine Aw_st hE [3, 4] [3] fun K hK => ?_
    simp only [go_sem, reduceIte, Nat.reduceLT, Nat.reduceLeDiff, Nat.reduceEqDiff, Nat.reduceAdd, Nat.reduceMul, Nat.reduceSub, Nat.reduceBEq, Int.reduceToNat, List.reduceReplicate, reduceCtorEq]
    refine ⟨drc_pre bs hbs, fun y n hy => ?_⟩
    obtain ⟨f, b, p, lk, m⟩ := y
    obtain ⟨_, hp1, _, _, _, hm1⟩ := hy
    simp only at hp1 hm1
    refine hK _ ?_; clear hK K
    cases hok : (rtOk f b p lk m && isM n) with
    | false =>
      refine Aw_st hE [3, 4, 5, 6] [3, 5] fun K hK => ?_
      simp only [go_sem, reduceIte, Nat.reduceLT, Nat.reduceLeDiff, Nat.reduceEqDiff, Nat.reduceAdd, Nat.reduceMul, Nat.reduceSub, Nat.reduceBEq, Int.reduceToNat, List.reduceReplicate, reduceCtorEq, hok]
      refine ⟨⟨by omega, by omega⟩, ?_⟩
      refine hK _ ?_; clear hK K
      refine Aw_st hE [3, 4, 5, 6, 7, 8] [3, 5, 7] fun K hK => ?_
      simp only [go_sem, reduceIte, Nat.reduceLT, Nat.reduceLeDiff, Nat.reduceEqDiff, Nat.reduceAdd, Nat.reduceMul, Nat.reduceSub, Nat.reduceBEq, Int.reduceToNat, List.reduceReplicate, reduceCtorEq, hok]
      refine ⟨⟨by omega, by omega⟩, ?_⟩
      refine hK _ ?_; clear hK K
      refine Aw_sq fun B3 hB3 hR3 hX3 => ?_
      refine Aw_st hE [3, 4, 5, 6, 7, 8, 44] [3, 5, 7] fun K hK => ?_
      simp only [go_sem, reduceIte, Nat.reduceLT, Nat.reduceLeDiff, Nat.reduceEqDiff, Nat.reduceAdd, Nat.reduceMul, Nat.reduceSub, Nat.reduceBEq, Int.reduceToNat, List.reduceReplicate, reduceCtorEq, decide_true, isl, rows_nil, intsL, and_self]
      repeat (refine And.intro (by first | omega | (and_intros <;> first | omega | exact rows_row _ | decide | (simp; done) | (simp; omega)) | fail) ?_)
      refine hK _ (Aw_yes rfl ?_)
      refine Aw_st hE [2] [] fun K hK => ?_
      simp only [go_sem, reduceIte, Nat.reduceLT, Nat.reduceLeDiff, Nat.reduceEqDiff, Nat.reduceAdd, Nat.reduceMul, Nat.reduceSub, Nat.reduceBEq, Int.reduceToNat, List.reduceReplicate, reduceCtorEq, decide_true, isl, rows_nil, intsL, and_self]
      repeat (refine And.intro (by first | omega | (and_intros <;> first | omega | exact rows_row _ | decide | (simp; done) | (simp; omega)) | fail) ?_)
      refine hK _ (Aw_ret (hR3 _ (hQ _ ?_)))
      simp only [go_sem, reduceIte, Nat.reduceLT, Nat.reduceLeDiff, Nat.reduceEqDiff, Nat.reduceAdd, Nat.reduceMul, Nat.reduceSub, Nat.reduceBEq, Int.reduceToNat, List.reduceReplicate, reduceCtorEq]
    | true =>
      have hok1 := hok
      simp only [Bool.and_eq_true] at hok1
      have hmk : mOk m = true := by have := hok1.1; simp only [rtOk, Bool.and_eq_true] at this; exact this.2.2.2.2.2
      have hsr := mOk_srt hmk
      have hlen3 : (clL m n).length ≤ 1000 := by have := clL_len m n; omega
      have hok2 : rtOk f b p lk (clL m n) = true := by
        have h1 := hok1.1
        simp only [rtOk, Bool.and_eq_true] at h1 ⊢
        exact ⟨h1.1, h1.2.1, h1.2.2.1, h1.2.2.2.1, h1.2.2.2.2.1, clL_mOk hmk n⟩
      have hok3 : (rtOk f b p lk (clL m n) && isM n) = true := by rw [hok2, hok1.2]; rfl
      refine Aw_st hE [3, 4, 5, 6] [3, 5] fun K hK => ?_
      simp only [go_sem, reduceIte, Nat.reduceLT, Nat.reduceLeDiff, Nat.reduceEqDiff, Nat.reduceAdd, Nat.reduceMul, Nat.reduceSub, Nat.reduceBEq, Int.reduceToNat, List.reduceReplicate, reduceCtorEq, hok]
      refine ⟨⟨by omega, by omega⟩, ?_⟩
      refine hK _ ?_; clear hK K
      refine Aw_st hE [3, 4, 5, 6, 7, 8] [3, 5, 7] fun K hK => ?_
      simp only [go_sem, reduceIte, Nat.reduceLT, Nat.reduceLeDiff, Nat.reduceEqDiff, Nat.reduceAdd, Nat.reduceMul, Nat.reduceSub, Nat.reduceBEq, Int.reduceToNat, List.reduceReplicate, reduceCtorEq, hok]
      refine ⟨⟨by omega, by omega⟩, ?_⟩
      refine hK _ ?_; clear hK K
      refine Aw_sq fun B3 hB3 hR3 hX3 => ?_
      refine Aw_st hE [3, 4, 5, 6, 7, 8, 44] [3, 5, 7] fun K hK => ?_
      simp only [go_sem, reduceIte, Nat.reduceLT, Nat.reduceLeDiff, Nat.reduceEqDiff, Nat.reduceAdd, Nat.reduceMul, Nat.reduceSub, Nat.reduceBEq, Int.reduceToNat, List.reduceReplicate, reduceCtorEq, decide_true, and_self]
      refine ⟨⟨by omega, by omega⟩, ?_⟩
      refine hK _ (Aw_no rfl (Aw_skip (hB3 _ ?_)))
      have hin : ∀ y : Int, (clL m n).contains y = (!decide (y = n) && m.contains y) := fun y => by
        rw [Bool.eq_iff_iff]
        simp [clL, List.contains_eq_mem, List.mem_filter, and_comm]
      refine Aw_sq fun B8 hB8 hR8 hX8 => ?_
      refine Aw_st hE [3, 4, 7, 9] [3, 7] fun K hK => ?_
      simp only [go_sem, reduceIte, Nat.reduceLT, Nat.reduceLeDiff, Nat.reduceEqDiff, Nat.reduceAdd, Nat.reduceMul, Nat.reduceSub, Nat.reduceBEq, Int.reduceToNat, List.reduceReplicate, reduceCtorEq]
      refine hK _ ?_; clear hK K
      refine Aw_bk fun B9 hN9 hE9 hR9 hX9 => ?_
      refine Aw_lp (fun i : Nat => ⟨105, [(3, .loc 3 0), (4, iv n), (7, .loc 7 0), (9, iv (i + 1 : Nat))], [(3, [iv f, iv b, isl p, iv lk, isl m]), (7, [iv f, iv b, isl p, iv lk, isl (clL m n)])], k⟩) (fun i => i ≤ 9) (fun i => 9 - i) 0 (Le.refl _) (by omega) fun i hi B10 hN10 hR10 hX10 => ?_
      refine Aw_sq fun B11 hB11 hR11 hX11 => ?_
      refine Aw_st hE [3, 4, 7, 9, 54] [3, 7] fun K hK => ?_
      simp only [go_sem, reduceIte, Nat.reduceLT, Nat.reduceLeDiff, Nat.reduceEqDiff, Nat.reduceAdd, Nat.reduceMul, Nat.reduceSub, Nat.reduceBEq, Int.reduceToNat, List.reduceReplicate, reduceCtorEq]
      refine hK _ (Aw_cond rfl (fun hc12 => ?_) (fun hc12 => ?_))
      · simp only [decide_eq_true_eq] at hc12
        refine Aw_skip (hB11 _ ?_)
        refine Aw_sq fun B13 hB13 hR13 hX13 => ?_
        refine Aw_bk fun B14 hN14 hE14 hR14 hX14 => ?_
        refine Aw_st hE [3, 4, 7, 9, 70] [3, 7] fun K hK => ?_
        simp only [go_sem, reduceIte, Nat.reduceLT, Nat.reduceLeDiff, Nat.reduceEqDiff, Nat.reduceAdd, Nat.reduceMul, Nat.reduceSub, Nat.reduceBEq, Int.reduceToNat, List.reduceReplicate, reduceCtorEq, hin]
        have H : ∀ v, v = false → K { nt := 105, σ := [(3, .loc 3 0), (4, iv n), (7, .loc 7 0), (9, iv (i + 1 : Nat))] ++ [(70, bv v)], m := [(3, [iv f, iv b, isl p, iv lk, isl m]), (7, [iv f, iv b, isl p, iv lk, isl (clL m n)])], rn := k } := fun v hv => by
          subst hv
          refine hK _ (Aw_no rfl (Aw_skip (hN14 _ (hB13 _ ?_))))
          refine Aw_tx hE [3, 4, 7, 9] [3, 7] fun K hK => ?_
          simp only [go_sem, reduceIte, Nat.reduceLT, Nat.reduceLeDiff, Nat.reduceEqDiff, Nat.reduceAdd, Nat.reduceMul, Nat.reduceSub, Nat.reduceBEq, Int.reduceToNat, List.reduceReplicate, reduceCtorEq]
          repeat (refine And.intro (by first | omega | (and_intros <;> first | omega | exact rows_row _ | decide | (simp; done) | (simp; omega)) | fail) ?_)
          refine hK _ (hN10 (i + 1) _ (by omega) (by omega) (Le.refl _))
        clear hK
        refine ⟨by omega, fun h => ⟨by omega, H _ ?_⟩, fun h => H _ ?_⟩
        · rw [h]; simp
        · rw [h]; rfl
      · refine Aw_exit (hX11 _ _ (hX10 _ _ (hE9 _ (hB8 _ ?_))))
        have hlen4 : (mkL (clL m n) n).length ≤ 1000 := by have := mkL_len (clL_srt hsr n) n; have := clL_len m n; omega
        refine Aw_st hE [3, 4, 7, 10, 11] [3, 7, 10] fun K hK => ?_
        simp only [go_sem, reduceIte, Nat.reduceLT, Nat.reduceLeDiff, Nat.reduceEqDiff, Nat.reduceAdd, Nat.reduceMul, Nat.reduceSub, Nat.reduceBEq, Int.reduceToNat, List.reduceReplicate, reduceCtorEq, hok3]
        refine ⟨⟨by omega, by omega⟩, ?_⟩
        refine hK _ ?_; clear hK K
        refine Aw_st hE [2] [] fun K hK => ?_
        simp only [go_sem, reduceIte, Nat.reduceLT, Nat.reduceLeDiff, Nat.reduceEqDiff, Nat.reduceAdd, Nat.reduceMul, Nat.reduceSub, Nat.reduceBEq, Int.reduceToNat, List.reduceReplicate, reduceCtorEq, hok2, decide_true, and_self]
        have H : K { nt := 105, σ := [(2, bv true)], m := [], rn := k } := by
          refine hK _ (Aw_ret (hQ _ ?_))
          simp only [go_sem, reduceIte, Nat.reduceLT, Nat.reduceLeDiff, Nat.reduceEqDiff, Nat.reduceAdd, Nat.reduceMul, Nat.reduceSub, Nat.reduceBEq, Int.reduceToNat, List.reduceReplicate, reduceCtorEq]
        clear hK
        cases e : m.contains n with
        | true =>
          have e1 : mkL (clL m n) n = m := mkL_clL hsr (by simpa using e)
          rw [e1]
          refine ⟨by omega, fun h => by simp at h, fun _ => ⟨⟨by omega, by omega, by omega⟩, fun _ => ⟨by omega, fun _ => ⟨⟨by omega, by omega⟩, H⟩, fun h => by cases h⟩, fun h => by simp at h⟩⟩
        | false =>
          have e1 : clL m n = m := clL_not (by simpa using e)
          rw [e1]
          refine ⟨by omega, fun _ => ⟨by omega, fun h => (by cases h), fun _ => ⟨⟨by omega, by omega, by omega⟩, fun _ => ⟨⟨by omega, by omega⟩, H⟩, fun h => by simp at h⟩⟩, fun h => by simp at h⟩
end Go.Proofs.W
end
