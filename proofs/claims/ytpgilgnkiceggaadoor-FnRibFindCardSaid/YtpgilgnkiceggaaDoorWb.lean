/- YtpgilgnkiceggaaDoorWb: part of the proof that what was told of a range is found, for every input that the row speaks of (no condition of ours). -/
import Derived.Test.YtpgilgnkiceggaaDoorWa
set_option linter.unusedVariables false
set_option linter.unusedSimpArgs false
section
namespace Go.Proofs.W
open Go Go.Eng Go.RowKit
set_option linter.unusedSimpArgs false
set_option maxRecDepth 10000

theorem isl_inj {a b : List Int} (h : [isl a] = [isl b]) : a = b := by
  have e2 := AV.sl.inj (List.cons.inj h).1
  have e3 : intsL (rows a) = intsL (rows b) := by rw [e2.2]
  rw [intsL_rows, intsL_rows] at e3
  exact Option.some.inj e3

/-- slices.Clone: nil, or a box -/
def cClone : ConM := {
  pre := fun args m1 => ∃ l : List Int, args = [isl l] ∧ m1 = [] ∧ l.length ≤ 1000000
  post := fun args _ r m2 => ∀ l : List Int, args = [isl l] → (l = [] ∧ ((r = .nl ∧ m2 = []) ∨ (r = .xs 5 0 0 0 1 ∧ m2 = [(5, [])]))) ∨ (l ≠ [] ∧ ∃ cap, l.length ≤ cap ∧ r = .xs 7 0 l.length cap 1 ∧ m2 = [(5, []), (7, cI l ++ List.replicate (cap - l.length) .junk)]) }

theorem clone_ok : FineM Tryd.prog 46 cClone := by
  refine fineM_of [] ms_nil [] mm_nil [5] [] ex_nil (T := TT) Tryd.func46 rfl Tryd.ntmps46 (by rw [Tryd.results46]) rfl rfl tt gs_nil ds_nil ?_
  rintro args m1 ⟨l, rfl, rfl, hl⟩
  refine ⟨by simp, fun E hE Q hQ => ?_⟩
  refine Aw_st hE [0] [5, 7] fun K hK => ?_
  simp only [go_sem, reduceIte, Nat.reduceLT, Nat.reduceLeDiff, Nat.reduceEqDiff, Nat.reduceAdd, Nat.reduceMul, Nat.reduceSub, Nat.reduceBEq, Int.reduceToNat, List.reduceReplicate, reduceCtorEq]
  repeat (refine And.intro (by first | omega | (and_intros <;> first | omega | exact rows_row _ | decide | (simp; done) | (simp; omega)) | fail) ?_)
  refine hK _ ?_; clear hK K
  refine Aw_sq fun B1 hB1 hR1 hX1 => ?_
  refine Aw_st hE [0, 4] [5, 7] fun K hK => ?_
  simp only [go_sem, reduceIte, Nat.reduceLT, Nat.reduceLeDiff, Nat.reduceEqDiff, Nat.reduceAdd, Nat.reduceMul, Nat.reduceSub, Nat.reduceBEq, Int.reduceToNat, List.reduceReplicate, reduceCtorEq]
  repeat (refine And.intro (by first | omega | (and_intros <;> first | omega | exact rows_row _ | decide | (simp; done) | (simp; omega)) | fail) ?_)
  rintro b _ hb rfl
  refine hK _ (Aw_cond rfl (fun hc2 => ?_) (fun hc2 => ?_))
  · refine Aw_st hE [2] [5, 7] fun K hK => ?_
    simp only [go_sem, reduceIte, Nat.reduceLT, Nat.reduceLeDiff, Nat.reduceEqDiff, Nat.reduceAdd, Nat.reduceMul, Nat.reduceSub, Nat.reduceBEq, Int.reduceToNat, List.reduceReplicate, reduceCtorEq]
    repeat (refine And.intro (by first | omega | (and_intros <;> first | omega | exact rows_row _ | decide | (simp; done) | (simp; omega)) | fail) ?_)
    refine hK _ (Aw_ret (hR1 _ (hQ _ ?_)))
    simp only [go_sem, reduceIte, Nat.reduceLT, Nat.reduceLeDiff, Nat.reduceEqDiff, Nat.reduceAdd, Nat.reduceMul, Nat.reduceSub, Nat.reduceBEq, Int.reduceToNat, List.reduceReplicate, reduceCtorEq]
    intro l' h
    obtain rfl := isl_inj h
    have : l = [] := by
      cases l with
      | nil => rfl
      | cons x l => have := hb (by simp [rows]); rw [this] at hc2; cases hc2
    exact .inl ⟨this, .inl ⟨rfl, rfl⟩⟩
  · refine Aw_skip (hB1 _ ?_)
    refine Aw_st hE [2] [5, 7] fun K hK => ?_
    simp only [go_sem, reduceIte, Nat.reduceLT, Nat.reduceLeDiff, Nat.reduceEqDiff, Nat.reduceAdd, Nat.reduceMul, Nat.reduceSub, Nat.reduceBEq, Int.reduceToNat, List.reduceReplicate, reduceCtorEq, List.contains_cons, Bool.true_or]
    repeat (refine And.intro (by first | omega | (and_intros <;> first | omega | exact rows_row _ | decide | (simp; done) | (simp; omega)) | fail) ?_)
    rw [List.take_of_length_le (by rw [cI_len]; exact Nat.le_refl _)]
    refine ⟨⟨rows_row l, by omega, allLeaf_cI l⟩, fun h => ?_, fun h cap' hc => ?_⟩
    · have hl0 : l = [] := List.eq_nil_of_length_eq_zero (by omega)
      subst hl0
      refine hK _ (Aw_ret (hQ _ ?_))
      simp only [go_sem, reduceIte, Nat.reduceLT, Nat.reduceLeDiff, Nat.reduceEqDiff, Nat.reduceAdd, Nat.reduceMul, Nat.reduceSub, Nat.reduceBEq, Int.reduceToNat, List.reduceReplicate, reduceCtorEq]
      intro l' h
      obtain rfl := isl_inj h
      exact .inl ⟨rfl, .inr ⟨rfl, rfl⟩⟩
    refine hK _ (Aw_ret (hQ _ ?_))
    simp only [go_sem, reduceIte, Nat.reduceLT, Nat.reduceLeDiff, Nat.reduceEqDiff, Nat.reduceAdd, Nat.reduceMul, Nat.reduceSub, Nat.reduceBEq, Int.reduceToNat, List.reduceReplicate, reduceCtorEq]
    intro l' h'
    obtain rfl := isl_inj h'
    refine .inr ⟨fun e => by rw [e] at h; simp at h, cap', hc, rfl, ?_⟩
    simp

theorem clone_pre (l : List Int) : cClone.pre [isl l] [] = (l.length ≤ 1000000) := by
  apply propext
  constructor
  · rintro ⟨l', h, _, h2⟩; rwa [isl_inj h]
  · exact fun h => ⟨l, rfl, rfl, h⟩
theorem clone_post (l : List Int) (m1 : List (Nat × List AV)) (K : AV → List (Nat × List AV) → Prop) : (∀ r m2, cClone.post [isl l] m1 r m2 → K r m2) = ((l = [] → K .nl [] ∧ K (.xs 5 0 0 0 1) [(5, [])]) ∧ (l ≠ [] → ∀ cap, l.length ≤ cap → K (.xs 7 0 l.length cap 1) [(5, []), (7, cI l ++ List.replicate (cap - l.length) .junk)])) := by
  apply propext
  constructor
  · intro h
    exact ⟨fun e => ⟨h _ _ fun l' h' => by obtain rfl := isl_inj h'; exact .inl ⟨e, .inl ⟨rfl, rfl⟩⟩, h _ _ fun l' h' => by obtain rfl := isl_inj h'; exact .inl ⟨e, .inr ⟨rfl, rfl⟩⟩⟩, fun e cap hc => h _ _ fun l' h' => by obtain rfl := isl_inj h'; exact .inr ⟨e, cap, hc, rfl, rfl⟩⟩
  · intro h r m2 hp
    rcases hp l rfl with ⟨e, ⟨rfl, rfl⟩ | ⟨rfl, rfl⟩⟩ | ⟨e, cap, hc, rfl, rfl⟩
    · exact (h.1 e).1
    · exact (h.1 e).2
    · exact h.2 e cap hc
theorem clone_ex (l : List Int) (m1 : List (Nat × List AV)) : (∃ r m2, cClone.post [isl l] m1 r m2) = True := by
  refine eq_true ?_
  by_cases e : l = []
  · exact ⟨.nl, [], fun l' h' => by obtain rfl := isl_inj h'; exact .inl ⟨e, .inl ⟨rfl, rfl⟩⟩⟩
  · exact ⟨_, _, fun l' h' => by obtain rfl := isl_inj h'; exact .inr ⟨e, l.length, Nat.le_refl _, rfl, rfl⟩⟩
attribute [go_sem] clone_pre clone_post clone_ex

abbrev jk (n : Nat) : List AV := List.replicate n .junk
/-- what a copied route is: K holds of all that may come -/
def copyCs (f b : Int) (p : List Int) (k : Int) (m : List Int) (K : AV → List (Nat × List AV) → Prop) : Prop :=
  ∀ cap, p.length ≤ cap → (m = [] → K (.agg [iv f, iv b, .xs 405 0 p.length cap 1, iv k, .nl]) [(2, [iv f, iv b, .xs 405 0 p.length cap 1, iv k, .nl]), (205, []), (405, cI p ++ jk (cap - p.length))] ∧
      K (.agg [iv f, iv b, .xs 405 0 p.length cap 1, iv k, .xs 208 0 0 0 1]) [(2, [iv f, iv b, .xs 405 0 p.length cap 1, iv k, .xs 208 0 0 0 1]), (205, []), (405, cI p ++ jk (cap - p.length)), (208, [])]) ∧
    (m ≠ [] → ∀ cap2, m.length ≤ cap2 → K (.agg [iv f, iv b, .xs 405 0 p.length cap 1, iv k, .xs 408 0 m.length cap2 1]) [(2, [iv f, iv b, .xs 405 0 p.length cap 1, iv k, .xs 408 0 m.length cap2 1]), (205, []), (405, cI p ++ jk (cap - p.length)), (208, []), (408, cI m ++ jk (cap2 - m.length))])
theorem rav_inj {f b k f' b' k' : Int} {p m p' m' : List Int} (h : [AV.agg [iv f, iv b, isl p, iv k, isl m]] = [AV.agg [iv f', iv b', isl p', iv k', isl m']]) : f = f' ∧ b = b' ∧ p = p' ∧ k = k' ∧ m = m' := by
  simp only [List.cons.injEq, AV.agg.injEq, AV.v.injEq, Value.int.injEq, true_and, and_true] at h
  exact ⟨h.1, h.2.1, isl_inj (by rw [h.2.2.1]), h.2.2.2.1, isl_inj (by rw [h.2.2.2.2])⟩
/-- a route that is copied -/
def cCopyR : ConM := {
  pre := fun args m1 => ∃ (f b : Int) (p : List Int) (k : Int) (m : List Int), args = [.agg [iv f, iv b, isl p, iv k, isl m]] ∧ m1 = [] ∧ p.length ≤ 1000000 ∧ m.length ≤ 1000000 ∧ p ≠ []
  post := fun args _ r m2 => ∀ (f b : Int) (p : List Int) (k : Int) (m : List Int), args = [.agg [iv f, iv b, isl p, iv k, isl m]] → ∀ K : AV → List (Nat × List AV) → Prop, copyCs f b p k m K → K r m2 }

theorem copyR_ok : FineM Tryd.prog 28 cCopyR := by
  refine fineM_of [] ms_nil [(46, (cClone, [], [(5, 200), (7, 400)]))] (mm_cons clone_ok (by decide) mm_nil) [] [] ex_nil (T := TT) Tryd.func28 rfl Tryd.ntmps28 (by rw [Tryd.results28]) rfl rfl tt gs_nil ds_nil ?_
  rintro args m1 ⟨f, b, p, k, m, rfl, rfl, hp, hm, hp0⟩
  refine ⟨by simp, fun E hE Q hQ => ?_⟩
  refine Aw_st hE [1, 2] [1, 2, 205, 208, 405, 408] fun K hK => ?_
  simp only [go_sem, reduceIte, Nat.reduceLT, Nat.reduceLeDiff, Nat.reduceEqDiff, Nat.reduceAdd, Nat.reduceMul, Nat.reduceSub, Nat.reduceBEq, Int.reduceToNat, List.reduceReplicate, reduceCtorEq]
  repeat (refine And.intro (by first | omega | (and_intros <;> first | omega | exact rows_row _ | decide | (simp; done) | (simp; omega)) | fail) ?_)
  refine hK _ ?_; clear hK K
  refine Aw_sm hE [1, 2] [1, 2, 205, 208, 405, 408] 6 (by kernel_rfl) fun K hK => ?_
  simp only [go_sem, reduceIte, Nat.reduceLT, Nat.reduceLeDiff, Nat.reduceEqDiff, Nat.reduceAdd, Nat.reduceMul, Nat.reduceSub, Nat.reduceBEq, Int.reduceToNat, List.reduceReplicate, reduceCtorEq]
  repeat (refine And.intro (by first | omega | (and_intros <;> first | omega | exact rows_row _ | decide | (simp; done) | (simp; omega)) | fail) ?_)
  refine ⟨fun e => absurd e hp0, fun _ cap hcap => ⟨⟨by decide, by omega⟩, fun hm0 => ⟨?_, ?_⟩, fun hm0 cap2 hcap2 => ?_⟩⟩
  all_goals
    refine hK _ ?_; clear hK K
    refine Aw_st hE [2] [2, 205, 405, 208, 408] fun K hK => ?_
    simp only [go_sem, reduceIte, Nat.reduceLT, Nat.reduceLeDiff, Nat.reduceEqDiff, Nat.reduceAdd, Nat.reduceMul, Nat.reduceSub, Nat.reduceBEq, Int.reduceToNat, List.reduceReplicate, reduceCtorEq]
    repeat (refine And.intro (by first | omega | (and_intros <;> first | omega | exact rows_row _ | decide | (simp; done) | (simp; omega)) | fail) ?_)
    refine hK _ (Aw_ret (hQ _ ?_))
    simp only [go_sem, reduceIte, Nat.reduceLT, Nat.reduceLeDiff, Nat.reduceEqDiff, Nat.reduceAdd, Nat.reduceMul, Nat.reduceSub, Nat.reduceBEq, Int.reduceToNat, List.reduceReplicate, reduceCtorEq]
    all_goals
      intro f' b' p' k' m' he K' hK'
      obtain ⟨rfl, rfl, rfl, rfl, rfl⟩ := rav_inj he
      have h := hK' cap hcap
      first | exact (h.1 hm0).1 | exact (h.1 hm0).2 | exact h.2 hm0 cap2 hcap2
theorem copyR_pre (f b : Int) (p : List Int) (k : Int) (m : List Int) : cCopyR.pre [.agg [iv f, iv b, isl p, iv k, isl m]] [] = (p.length ≤ 1000000 ∧ m.length ≤ 1000000 ∧ p ≠ []) := by
  apply propext
  constructor
  · rintro ⟨f', b', p', k', m', h, _, h2⟩
    obtain ⟨rfl, rfl, rfl, rfl, rfl⟩ := rav_inj h
    exact h2
  · exact fun h => ⟨f, b, p, k, m, rfl, rfl, h⟩
theorem copyR_post (f b : Int) (p : List Int) (k : Int) (m : List Int) (m1 : List (Nat × List AV)) (K : AV → List (Nat × List AV) → Prop) : (∀ r m2, cCopyR.post [.agg [iv f, iv b, isl p, iv k, isl m]] m1 r m2 → K r m2) = copyCs f b p k m K := by
  apply propext
  constructor
  · intro h cap hcap
    refine ⟨fun hm0 => ⟨h _ _ ?_, h _ _ ?_⟩, fun hm0 cap2 hcap2 => h _ _ ?_⟩
    all_goals
      intro f' b' p' k' m' he K' hK'
      obtain ⟨rfl, rfl, rfl, rfl, rfl⟩ := rav_inj he
      have h := hK' cap hcap
      first | exact (h.1 hm0).1 | exact (h.1 hm0).2 | exact h.2 hm0 cap2 hcap2
  · exact fun h r m2 hp => hp f b p k m rfl K h
attribute [go_sem] copyR_pre copyR_post copyCs
end Go.Proofs.W
end
section
namespace Go.Proofs.W
open Go Go.Eng Go.RowKit
set_option linter.unusedSimpArgs false
set_option maxRecDepth 10000

/-- what spec's loop makes of marks -/
def mkGo (x : Int) : List Int → List Int × Bool → List Int × Bool
  | [], s => s
  | y :: l, (out, inn) => mkGo x l ((out ++ (if !inn && decide (x ≤ y) then [x] else [])) ++ (if decide (y = x) then [] else [y]), inn || decide (x ≤ y))
def mkL (l : List Int) (x : Int) : List Int := let s := mkGo x l ([], false); if s.2 then s.1 else s.1 ++ [x]
def gMark : List AV → Option (Prop × AV)
  | [.agg [.v (.int .i64 f), .v (.int .i64 b), .sl _ e1, .v (.int .i64 k), .sl _ e2], .v (.int .i64 x)] => (match intsL e1, intsL e2 with
    | some p, some m => some (p.length ≤ 1000000 ∧ m.length ≤ 1000000, .tup [if rtOk f b p k m && isM x then .agg [iv f, iv b, isl p, iv k, isl (mkL m x)] else .agg [iv 0, iv 0, isl [], iv 0, isl []], bv (rtOk f b p k m && isM x)])
    | _, _ => none)
  | _ => none
def dMark : DFn := { g := gMark }
def dMarkI (pb : Addr) : DFn := { g := gMark, inv := WP pb }

theorem Aw_fI {E : En} {tb : Tb} (hE : TbOk E tb) (ht : tb.lent = false) {c : Code} {st : St} {Q : Exit → St → Prop} (d : Nat) (L : List Int) {rest : List AV} (hl : lkm d st.m = some (cI L ++ rest)) (h : Aw E c (st.frz d (L.map fun n => .v (.int .i64 n))) Q) : Aw E c st Q :=
  Aw_frz hE ht d L.length hl (by rw [List.take_left' (cI_len L)]; exact ofAll_cI L) h
attribute [go_sem] gMark dMark dMarkI
theorem mOkN_lt {l : List Int} : ∀ {n : Nat}, mOkN l n = true → ∀ a b, a < b → b < n → l.getD a 0 < l.getD b 0
  | n + 1, h, a, b, hab, hb => by
    simp only [mOkN, Bool.and_eq_true, Bool.or_eq_true, decide_eq_true_eq] at h
    obtain ⟨h1, _, h2⟩ := h
    by_cases hbn : b = n
    · subst hbn
      have h3 : l.getD (b - 1) 0 < l.getD b 0 := h2.resolve_left (by omega)
      by_cases ha : a = b - 1
      · rw [ha]; exact h3
      · have := mOkN_lt h1 a (b - 1) (by omega) (by omega); omega
    · exact mOkN_lt h1 a b hab (by omega)
theorem mOk_srt {l : List Int} (h : mOk l = true) : l.Pairwise (· < ·) := by
  rw [List.pairwise_iff_getElem]
  intro i j hi hj hij
  have := mOkN_lt h i j hij hj
  simpa [List.getD_eq_getElem?_getD, hi, hj] using this
theorem mkGo_lt (x : Int) (b : List Int) : ∀ (a : List Int) (out : List Int), (∀ y ∈ a, y < x) → mkGo x (a ++ b) (out, false) = mkGo x b (out ++ a, false)
  | [], out, _ => by simp
  | y :: a, out, h => by
    have hy := h y (by simp)
    rw [List.cons_append, mkGo]
    simp only [Bool.not_false, Bool.true_and, Bool.false_or, decide_eq_false (by omega : ¬ x ≤ y), decide_eq_false (by omega : ¬ y = x)]
    simp only [Bool.false_eq_true, if_false, List.append_nil]
    rw [mkGo_lt x b a (out ++ [y]) fun z hz => h z (by simp [hz])]
    simp
theorem mkGo_in (x : Int) : ∀ (b out : List Int), mkGo x b (out, true) = (out ++ b.filter (fun y => !decide (y = x)), true)
  | [], out => by simp [mkGo]
  | y :: b, out => by
    rw [mkGo]
    simp only [Bool.not_true, Bool.false_and, Bool.false_eq_true, if_false, List.append_nil, Bool.true_or]
    rw [mkGo_in x b]
    by_cases h : y = x <;> simp [h]
theorem mkL_eq (x : Int) (a b : List Int) (ha : ∀ y ∈ a, y < x) (hb : ∀ y ∈ b, x ≤ y) : mkL (a ++ b) x = a ++ x :: b.filter (fun y => !decide (y = x)) := by
  unfold mkL
  rw [mkGo_lt x b a [] ha]
  cases b with
  | nil => simp [mkGo]
  | cons y b =>
    have hy := hb y (by simp)
    simp only [mkGo, Bool.not_false, Bool.true_and, Bool.false_or, decide_eq_true hy, if_true, mkGo_in]
    by_cases h : y = x <;> simp [h]
theorem mkL_of {m : List Int} {x : Int} {i : Nat} (hs : m.Pairwise (· < ·)) (hi : i ≤ m.length) (h1 : ∀ k, k < i → m.getD k 0 < x) (h2 : ∀ k, i ≤ k → k < m.length → x ≤ m.getD k 0) :
    ((i < m.length ∧ m.getD i 0 = x) → mkL m x = m) ∧ (¬(i < m.length ∧ m.getD i 0 = x) → mkL m x = insL m i x) := by
  have hm : m = m.take i ++ m.drop i := (List.take_append_drop i m).symm
  have ha : ∀ y ∈ m.take i, y < x := fun y hy => by
    obtain ⟨k, hk, rfl⟩ := List.mem_iff_getElem.1 hy
    simp only [List.length_take] at hk
    have := h1 k (by omega)
    simpa [List.getD_eq_getElem?_getD, show k < m.length by omega] using this
  have hb : ∀ y ∈ m.drop i, x ≤ y := fun y hy => by
    obtain ⟨k, hk, rfl⟩ := List.mem_iff_getElem.1 hy
    simp only [List.length_drop] at hk
    have := h2 (i + k) (by omega) (by omega)
    simpa [List.getD_eq_getElem?_getD, show i + k < m.length by omega] using this
  have e := mkL_eq x _ _ ha hb
  rw [← hm] at e
  refine ⟨fun ⟨h3, h4⟩ => ?_, fun h => ?_⟩
  · have hd : m.drop i = x :: m.drop (i + 1) := by
      rw [List.drop_eq_getElem_cons h3]
      have : m[i] = x := by simpa [List.getD_eq_getElem?_getD, h3] using h4
      rw [this]
    have hgt : ∀ y ∈ m.drop (i + 1), y ≠ x := fun y hy => by
      have hp : (x :: m.drop (i + 1)).Pairwise (· < ·) := by rw [← hd]; exact hs.sublist (List.drop_sublist i m)
      have := (List.pairwise_cons.1 hp).1 y hy
      omega
    rw [e, hd, List.filter_cons]
    have hf : (m.drop (i + 1)).filter (fun y => !decide (y = x)) = m.drop (i + 1) := List.filter_eq_self.2 fun y hy => by simp [hgt y hy]
    simp only [decide_true, Bool.not_true, Bool.false_eq_true, if_false, hf]
    rw [← hd, List.take_append_drop]
  · have hf : (m.drop i).filter (fun y => !decide (y = x)) = m.drop i := List.filter_eq_self.2 fun y hy => by
      obtain ⟨k, hk, rfl⟩ := List.mem_iff_getElem.1 hy
      simp only [List.length_drop] at hk
      have h5 := h2 (i + k) (by omega) (by omega)
      by_cases hk0 : k = 0
      · subst hk0
        have : ¬ m.getD i 0 = x := fun h6 => h ⟨by omega, h6⟩
        simp only [List.getElem_drop, Nat.add_zero] at *
        simpa [List.getD_eq_getElem?_getD, show i < m.length by omega] using this
      · have := List.pairwise_iff_getElem.1 hs i (i + k) (by omega) (by omega) (by omega)
        have h6 := h2 i (Nat.le_refl _) (by omega)
        simp only [List.getD_eq_getElem?_getD, show i < m.length by omega, getElem?_pos, Option.getD_some] at h6
        simp only [List.getElem_drop, Bool.not_eq_true', decide_eq_false_iff_not]
        omega
    rw [e, hf]; rfl

end Go.Proofs.W
end
section
namespace Go.Proofs.W
open Go Go.Eng Go.RowKit
set_option linter.unusedSimpArgs false
set_option maxRecDepth 10000

def gMk : List AV → Option (Prop × AV) | [.sl _ els, .v (.int .i64 x)] => (match intsL els with | some l => some (l.length ≤ 1000000, isl (mkL l x)) | none => none) | _ => none
def dMk : DFn := { g := gMk }
attribute [go_sem] gMk dMk
theorem mkGo_app (x : Int) : ∀ (a b : List Int) (s : List Int × Bool), mkGo x (a ++ b) s = mkGo x b (mkGo x a s)
  | [], b, s => rfl
  | y :: a, b, s => by obtain ⟨o, i⟩ := s; rw [List.cons_append, mkGo, mkGo_app, mkGo]
theorem mkGo_step (x : Int) (l : List Int) (i : Nat) (h : i < l.length) {o : List Int} {n : Bool} (hs : mkGo x (l.take i) ([], false) = (o, n)) : mkGo x (l.take (i + 1)) ([], false) = ((o ++ (if !n && decide (x ≤ l.getD i 0) then [x] else [])) ++ (if decide (l.getD i 0 = x) then [] else [l.getD i 0]), n || decide (x ≤ l.getD i 0)) := by
  have e : l.getD i 0 = l[i] := by simp [List.getD_eq_getElem?_getD, h]
  rw [List.take_succ_eq_append_getElem h, mkGo_app, hs, e]; rfl

def gCopyR : List AV → Option (Prop × AV)
  | [.agg [.v (.int .i64 f), .v (.int .i64 b), .sl _ e1, .v (.int .i64 k), .sl _ e2]] => (match intsL e1, intsL e2 with | some p, some m => some (p.length ≤ 1000000 ∧ m.length ≤ 1000000, .agg [iv f, iv b, isl p, iv k, isl m]) | _, _ => none)
  | _ => none
def dCopyR : DFn := { g := gCopyR }
attribute [go_sem] gCopyR dCopyR
theorem l4Copy_ok : Fine Tryd.prog 25 dCopyR.con := by
  refine fine_det (T := TT) Tryd.func25 rfl Tryd.ntmps25 (by rw [Tryd.results25]) rfl rfl tt gs_nil ds_nil ?_
  intro args c r h hc
  simp only [dCopyR, gCopyR] at h
  split at h
  rotate_left
  · cases h
  split at h
  rotate_left
  · cases h
  rename_i f b t1 e1 lk t2 e2 _ _ p m hl1 hl2
  obtain rfl := intsL_eq hl1
  obtain rfl := intsL_eq hl2
  obtain ⟨rfl, rfl⟩ := Prod.mk.inj (Option.some.inj h)
  refine ⟨by simp, fun k E hE Q hQ => ?_⟩
  refine Aw_st hE [1, 2] [1, 2] fun K hK => ?_
  simp only [go_sem, reduceIte, Nat.reduceLT, Nat.reduceLeDiff, Nat.reduceEqDiff, Nat.reduceAdd, Nat.reduceMul, Nat.reduceSub, Nat.reduceBEq, Int.reduceToNat, List.reduceReplicate, reduceCtorEq]
  repeat (refine And.intro (by first | omega | (and_intros <;> first | omega | exact rows_row _ | decide | (simp; done) | (simp; omega)) | fail) ?_)
  refine hK _ ?_; clear hK K
  refine Aw_st hE [1, 2] [1, 2] fun K hK => ?_
  simp only [go_sem, reduceIte, Nat.reduceLT, Nat.reduceLeDiff, Nat.reduceEqDiff, Nat.reduceAdd, Nat.reduceMul, Nat.reduceSub, Nat.reduceBEq, Int.reduceToNat, List.reduceReplicate, reduceCtorEq]
  repeat (refine And.intro (by first | omega | (and_intros <;> first | omega | exact rows_row _ | decide | (simp; done) | (simp; omega)) | fail) ?_)
  refine hK _ ?_; clear hK K
  refine Aw_st hE [1, 2] [1, 2] fun K hK => ?_
  simp only [go_sem, reduceIte, Nat.reduceLT, Nat.reduceLeDiff, Nat.reduceEqDiff, Nat.reduceAdd, Nat.reduceMul, Nat.reduceSub, Nat.reduceBEq, Int.reduceToNat, List.reduceReplicate, reduceCtorEq]
  repeat (refine And.intro (by first | omega | (and_intros <;> first | omega | exact rows_row _ | decide | (simp; done) | (simp; omega)) | fail) ?_)
  refine hK _ ?_; clear hK K
  refine Aw_st hE [2] [2] fun K hK => ?_
  simp only [go_sem, reduceIte, Nat.reduceLT, Nat.reduceLeDiff, Nat.reduceEqDiff, Nat.reduceAdd, Nat.reduceMul, Nat.reduceSub, Nat.reduceBEq, Int.reduceToNat, List.reduceReplicate, reduceCtorEq]
  repeat (refine And.intro (by first | omega | (and_intros <;> first | omega | exact rows_row _ | decide | (simp; done) | (simp; omega)) | fail) ?_)
  refine hK _ (Aw_ret (hQ _ ?_))
  simp only [go_sem, reduceIte, Nat.reduceLT, Nat.reduceLeDiff, Nat.reduceEqDiff, Nat.reduceAdd, Nat.reduceMul, Nat.reduceSub, Nat.reduceBEq, Int.reduceToNat, List.reduceReplicate, reduceCtorEq]

end Go.Proofs.W
end
section
namespace Go.Proofs.W
open Go Go.Eng Go.RowKit
set_option linter.unusedSimpArgs false
set_option maxRecDepth 10000

def clL (l : List Int) (x : Int) : List Int := l.filter fun y => !decide (y = x)
theorem clL_step (x : Int) (l : List Int) (i : Nat) (h : i < l.length) : clL (l.take (i + 1)) x = clL (l.take i) x ++ (if decide (l.getD i 0 = x) then [] else [l.getD i 0]) := by
  have e : l.getD i 0 = l[i] := by simp [List.getD_eq_getElem?_getD, h]
  unfold clL
  rw [List.take_succ_eq_append_getElem h, List.filter_append, e]
  by_cases hx : l[i] = x <;> simp [hx]
def gCl : List AV → Option (Prop × AV) | [.sl _ els, .v (.int .i64 x)] => (match intsL els with | some l => some (l.length ≤ 1000000, isl (clL l x)) | none => none) | _ => none
def dCl : DFn := { g := gCl }
def gClear : List AV → Option (Prop × AV)
  | [.agg [.v (.int .i64 f), .v (.int .i64 b), .sl _ e1, .v (.int .i64 k), .sl _ e2], .v (.int .i64 x)] => (match intsL e1, intsL e2 with
    | some p, some m => some (p.length ≤ 1000000 ∧ m.length ≤ 1000000, .tup [if rtOk f b p k m && isM x then .agg [iv f, iv b, isl p, iv k, isl (clL m x)] else .agg [iv 0, iv 0, isl [], iv 0, isl []], bv (rtOk f b p k m && isM x)])
    | _, _ => none)
  | _ => none
def dClear : DFn := { g := gClear }
def dClearI (pb : Addr) : DFn := { g := gClear, inv := WP pb }
attribute [go_sem] gCl dCl gClear dClear dClearI

end Go.Proofs.W
end
section
namespace Go.Proofs.W
open Go Go.Eng Go.RowKit
set_option linter.unusedSimpArgs false
set_option maxRecDepth 10000

def gEqC : List AV → Option (Prop × AV) | [.v (.int .i64 y), .el [.v (.int .i64 x)]] => some (True, bv (decide (y = x))) | _ => none
def dEqC : DFn := { g := gEqC }
attribute [go_sem] gEqC dEqC
end Go.Proofs.W
end
section
namespace Go.Proofs.W
open Go Go.Eng Go.RowKit
set_option linter.unusedSimpArgs false
set_option maxRecDepth 10000

end Go.Proofs.W
end
section
namespace Go.Proofs.W
open Go Go.Eng Go.RowKit
set_option linter.unusedSimpArgs false
set_option maxRecDepth 10000

def eqN (a b : List Int) : Nat → Bool
  | 0 => true
  | n + 1 => eqN a b n && decide (a.getD n 0 = b.getD n 0)
theorem eqN_stop {a b : List Int} {n : Nat} (h : eqN a b n = false) : ∀ k, n ≤ k → eqN a b k = false
  | 0, hk => by obtain rfl : n = 0 := by omega
                cases h
  | k + 1, hk => by
    by_cases he : n = k + 1
    · subst he; exact h
    · rw [eqN, eqN_stop h k (by omega)]; rfl
theorem eqN_get {a b : List Int} : ∀ {n : Nat}, eqN a b n = true → ∀ k, k < n → a.getD k 0 = b.getD k 0
  | n + 1, h, k, hk => by
    simp only [eqN, Bool.and_eq_true, decide_eq_true_eq] at h
    by_cases e : k = n
    · rw [e]; exact h.2
    · exact eqN_get h.1 k (by omega)
theorem eqN_self (a : List Int) : ∀ n, eqN a a n = true
  | 0 => rfl
  | n + 1 => by rw [eqN, eqN_self a n]; simp
theorem eqN_iff (a b : List Int) (h : a.length = b.length) : eqN a b a.length = decide (a = b) := by
  rw [Bool.eq_iff_iff, decide_eq_true_eq]
  constructor
  · intro he
    refine List.ext_getElem h fun i h1 h2 => ?_
    have := eqN_get he i h1
    simpa [List.getD_eq_getElem?_getD, h1, h2] using this
  · rintro rfl; exact eqN_self a _
def gLyI : List AV → Option (Prop × AV) | [.sl _ e1, .sl _ e2] => (match intsL e1, intsL e2 with | some a, some b => some (a.length ≤ 4294967296 ∧ b.length ≤ 4294967296, bv (decide (a = b))) | _, _ => none) | _ => none
def dLyI : DFn := { g := gLyI }
attribute [go_sem] gLyI dLyI
theorem lyInts_ok : Fine Tryd.prog 29 dLyI.con := by
  refine fine_det (T := TT) Tryd.func29 rfl Tryd.ntmps29 (by rw [Tryd.results29]) rfl rfl tt (gs_nil) (ds_nil) ?_
  intro args c r h hc
  simp only [dLyI, gLyI] at h
  split at h
  rotate_left
  · cases h
  split at h
  rotate_left
  · cases h
  rename_i t1 e1 t2 e2 _ _ a b hl1 hl2
  obtain rfl := intsL_eq hl1
  obtain rfl := intsL_eq hl2
  obtain ⟨rfl, rfl⟩ := Prod.mk.inj (Option.some.inj h)
  refine ⟨by simp, fun k E hE Q hQ => ?_⟩
  refine Aw_st hE [0, 1] [] fun K hK => ?_
  simp only [go_sem, reduceIte, Nat.reduceLT, Nat.reduceLeDiff, Nat.reduceEqDiff, Nat.reduceAdd, Nat.reduceMul, Nat.reduceSub, Nat.reduceBEq, Int.reduceToNat, List.reduceReplicate, reduceCtorEq]
  repeat (refine And.intro (by first | omega | (and_intros <;> first | omega | exact rows_row _ | decide | (simp; done) | (simp; omega)) | fail) ?_)
  refine hK _ ?_; clear hK K
  refine Aw_sq fun B1 hB1 hR1 hX1 => ?_
  refine Aw_st hE [0, 1, 10] [] fun K hK => ?_
  simp only [go_sem, reduceIte, Nat.reduceLT, Nat.reduceLeDiff, Nat.reduceEqDiff, Nat.reduceAdd, Nat.reduceMul, Nat.reduceSub, Nat.reduceBEq, Int.reduceToNat, List.reduceReplicate, reduceCtorEq]
  repeat (refine And.intro (by first | omega | (and_intros <;> first | omega | exact rows_row _ | decide | (simp; done) | (simp; omega)) | fail) ?_)
  refine hK _ (Aw_cond rfl (fun hc2 => ?_) (fun hc2 => ?_))
  · simp only [Bool.not_eq_true', decide_eq_false_iff_not] at hc2
    refine Aw_st hE [4] [] fun K hK => ?_
    simp only [go_sem, reduceIte, Nat.reduceLT, Nat.reduceLeDiff, Nat.reduceEqDiff, Nat.reduceAdd, Nat.reduceMul, Nat.reduceSub, Nat.reduceBEq, Int.reduceToNat, List.reduceReplicate, reduceCtorEq]
    repeat (refine And.intro (by first | omega | (and_intros <;> first | omega | exact rows_row _ | decide | (simp; done) | (simp; omega)) | fail) ?_)
    refine hK _ (Aw_ret (hR1 _ (hQ _ ?_)))
    simp only [go_sem, reduceIte, Nat.reduceLT, Nat.reduceLeDiff, Nat.reduceEqDiff, Nat.reduceAdd, Nat.reduceMul, Nat.reduceSub, Nat.reduceBEq, Int.reduceToNat, List.reduceReplicate, reduceCtorEq]
    exact (decide_eq_false fun e => hc2 (by rw [e])).symm
  · have hlen : a.length = b.length := by simp only [Bool.not_eq_false', decide_eq_true_eq] at hc2; omega
    refine Aw_skip (hB1 _ ?_)
    refine Aw_sq fun B3 hB3 hR3 hX3 => ?_
    refine Aw_st hE [0, 1, 5] [] fun K hK => ?_
    simp only [go_sem, reduceIte, Nat.reduceLT, Nat.reduceLeDiff, Nat.reduceEqDiff, Nat.reduceAdd, Nat.reduceMul, Nat.reduceSub, Nat.reduceBEq, Int.reduceToNat, List.reduceReplicate, reduceCtorEq]
    repeat (refine And.intro (by first | omega | (and_intros <;> first | omega | exact rows_row _ | decide | (simp; done) | (simp; omega)) | fail) ?_)
    refine hK _ ?_; clear hK K
    refine Aw_bk fun B4 hN4 hE4 hR4 hX4 => ?_
    refine Aw_lp (fun i : Nat => ⟨26, [(0, .sl t1 (rows a)), (1, .sl t2 (rows b)), (5, iv i)], [], k⟩) (fun i : Nat => i ≤ a.length ∧ eqN a b i = true) (fun i : Nat => a.length - i) (0) (Le.refl _) (⟨by omega, rfl⟩) fun i hi B5 hN5 hR5 hX5 => ?_
    refine Aw_sq fun B6 hB6 hR6 hX6 => ?_
    refine Aw_st hE [0, 1, 5, 14] [] fun K hK => ?_
    simp only [go_sem, reduceIte, Nat.reduceLT, Nat.reduceLeDiff, Nat.reduceEqDiff, Nat.reduceAdd, Nat.reduceMul, Nat.reduceSub, Nat.reduceBEq, Int.reduceToNat, List.reduceReplicate, reduceCtorEq]
    repeat (refine And.intro (by first | omega | (and_intros <;> first | omega | exact rows_row _ | decide | (simp; done) | (simp; omega)) | fail) ?_)
    refine hK _ (Aw_cond rfl (fun hc7 => ?_) (fun hc7 => ?_))
    · simp only [decide_eq_true_eq] at hc7
      have hil : i < a.length := by omega
      refine Aw_skip (hB6 _ ?_)
      refine Aw_sq fun B8 hB8 hR8 hX8 => ?_
      refine Aw_bk fun B9 hN9 hE9 hR9 hX9 => ?_
      refine Aw_sd hE [0, 1, 5, 25] [] 6 (by kernel_rfl) fun K hK => ?_
      simp only [go_sem, reduceIte, Nat.reduceLT, Nat.reduceLeDiff, Nat.reduceEqDiff, Nat.reduceAdd, Nat.reduceMul, Nat.reduceSub, Nat.reduceBEq, Int.reduceToNat, List.reduceReplicate, reduceCtorEq, rows_get a i hil, rows_get b i (by omega)]
      repeat (refine And.intro (by first | omega | (and_intros <;> first | omega | exact rows_row _ | decide | (simp; done) | (simp; omega)) | fail) ?_)
      refine hK _ (Aw_cond rfl (fun hc10 => ?_) (fun hc10 => ?_))
      · have hne : ¬ a.getD i 0 = b.getD i 0 := by simpa using hc10
        refine Aw_st hE [4] [] fun K hK => ?_
        simp only [go_sem, reduceIte, Nat.reduceLT, Nat.reduceLeDiff, Nat.reduceEqDiff, Nat.reduceAdd, Nat.reduceMul, Nat.reduceSub, Nat.reduceBEq, Int.reduceToNat, List.reduceReplicate, reduceCtorEq]
        repeat (refine And.intro (by first | omega | (and_intros <;> first | omega | exact rows_row _ | decide | (simp; done) | (simp; omega)) | fail) ?_)
        refine hK _ (Aw_ret (hR9 _ (hR8 _ (hR5 _ (hR4 _ (hR3 _ (hQ _ ?_)))))))
        simp only [go_sem, reduceIte, Nat.reduceLT, Nat.reduceLeDiff, Nat.reduceEqDiff, Nat.reduceAdd, Nat.reduceMul, Nat.reduceSub, Nat.reduceBEq, Int.reduceToNat, List.reduceReplicate, reduceCtorEq]
        have hst : eqN a b (i + 1) = false := by rw [eqN, decide_eq_false hne]; simp
        rw [← eqN_iff a b hlen, eqN_stop hst _ (by omega)]
      · have heq : a.getD i 0 = b.getD i 0 := by simpa using hc10
        refine Aw_skip (hN9 _ (hB8 _ ?_))
        refine Aw_tx hE [0, 1, 5] [] fun K hK => ?_
        simp only [go_sem, reduceIte, Nat.reduceLT, Nat.reduceLeDiff, Nat.reduceEqDiff, Nat.reduceAdd, Nat.reduceMul, Nat.reduceSub, Nat.reduceBEq, Int.reduceToNat, List.reduceReplicate, reduceCtorEq]
        repeat (refine And.intro (by first | omega | (and_intros <;> first | omega | exact rows_row _ | decide | (simp; done) | (simp; omega)) | fail) ?_)
        refine hK _ (hN5 (i + 1) _ (⟨by omega, by rw [eqN, hi.2, decide_eq_true heq]; rfl⟩) (by omega) (Le.refl _))
    · simp only [decide_eq_false_iff_not] at hc7
      refine Aw_exit (hX6 _ _ (hX5 _ _ (hE4 _ (hB3 _ ?_))))
      refine Aw_st hE [4] [] fun K hK => ?_
      simp only [go_sem, reduceIte, Nat.reduceLT, Nat.reduceLeDiff, Nat.reduceEqDiff, Nat.reduceAdd, Nat.reduceMul, Nat.reduceSub, Nat.reduceBEq, Int.reduceToNat, List.reduceReplicate, reduceCtorEq]
      repeat (refine And.intro (by first | omega | (and_intros <;> first | omega | exact rows_row _ | decide | (simp; done) | (simp; omega)) | fail) ?_)
      refine hK _ (Aw_ret (hQ _ ?_))
      simp only [go_sem, reduceIte, Nat.reduceLT, Nat.reduceLeDiff, Nat.reduceEqDiff, Nat.reduceAdd, Nat.reduceMul, Nat.reduceSub, Nat.reduceBEq, Int.reduceToNat, List.reduceReplicate, reduceCtorEq]
      rw [← eqN_iff a b hlen, show a.length = i by omega, hi.2]

def gLyR : List AV → Option (Prop × AV)
  | [.agg [.v (.int .i64 f), .v (.int .i64 b), .sl _ e1, .v (.int .i64 k), .sl _ e2], .agg [.v (.int .i64 f'), .v (.int .i64 b'), .sl _ e3, .v (.int .i64 k'), .sl _ e4]] => (match intsL e1, intsL e2, intsL e3, intsL e4 with
    | some p, some m, some p', some m' => some ((p.length ≤ 4294967296 ∧ p'.length ≤ 4294967296) ∧ m.length ≤ 4294967296 ∧ m'.length ≤ 4294967296, bv (decide (f = f' ∧ b = b' ∧ p = p' ∧ k = k' ∧ m = m')))
    | _, _, _, _ => none)
  | _ => none
def dLyR : DFn := { g := gLyR }
attribute [go_sem] gLyR dLyR
theorem lyRoute_ok : Fine Tryd.prog 10 dLyR.con := by
  refine fine_det (T := TT) Tryd.func10 rfl Tryd.ntmps10 (by rw [Tryd.results10]) rfl rfl tt gs_nil (ds_cons lyInts_ok ds_nil) ?_
  intro args c r h hc
  simp only [dLyR, gLyR] at h
  split at h
  rotate_left
  · cases h
  split at h
  rotate_left
  · cases h
  rename_i f b t1 e1 lk t2 e2 f' b' t3 e3 lk' t4 e4 _ _ _ _ p m p' m' hl1 hl2 hl3 hl4
  obtain rfl := intsL_eq hl1
  obtain rfl := intsL_eq hl2
  obtain rfl := intsL_eq hl3
  obtain rfl := intsL_eq hl4
  obtain ⟨rfl, rfl⟩ := Prod.mk.inj (Option.some.inj h)
  refine ⟨by simp, fun k E hE Q hQ => ?_⟩
  refine Aw_st hE [2, 3] [2, 3] fun K hK => ?_
  simp only [go_sem, reduceIte, Nat.reduceLT, Nat.reduceLeDiff, Nat.reduceEqDiff, Nat.reduceAdd, Nat.reduceMul, Nat.reduceSub, Nat.reduceBEq, Int.reduceToNat, List.reduceReplicate, reduceCtorEq]
  refine hK _ ?_; clear hK K
  refine Aw_st hE [4] [] fun K hK => ?_
  simp only [go_sem, reduceIte, Nat.reduceLT, Nat.reduceLeDiff, Nat.reduceEqDiff, Nat.reduceAdd, Nat.reduceMul, Nat.reduceSub, Nat.reduceBEq, Int.reduceToNat, List.reduceReplicate, reduceCtorEq]
  have H : ∀ v, v = decide (f = f' ∧ b = b' ∧ p = p' ∧ lk = lk' ∧ m = m') → K { nt := 31, σ := [(4, bv v)], m := [], rn := k } := fun v hv => by
    subst hv
    refine hK _ (Aw_ret (hQ _ ?_))
    simp only [go_sem, reduceIte, Nat.reduceLT, Nat.reduceLeDiff, Nat.reduceEqDiff, Nat.reduceAdd, Nat.reduceMul, Nat.reduceSub, Nat.reduceBEq, Int.reduceToNat, List.reduceReplicate, reduceCtorEq]
  clear hK
  repeat' (first | exact hc.1 | exact hc.2 | exact hc.1.1 | exact hc.1.2 | exact hc.2.1 | exact hc.2.2 | refine ⟨?_, ?_⟩ | intro _)
  all_goals (apply H; simp_all)
end Go.Proofs.W
end
section
namespace Go.Proofs.W
open Go Go.Eng Go.RowKit
set_option linter.unusedSimpArgs false
set_option maxRecDepth 10000

/-- a route, and a mark, perhaps -/
def cDRM : Con := { pre := codeArg, post := fun _ r => ∃ (x : Rt) (n : Int), okRt x ∧ -10 ≤ n ∧ n ≤ 100 ∧ r = .tup [x.av, iv n] }
theorem cDRM_own : cDRM.own = false := rfl
theorem cDRM_draws : cDRM.draws = false := rfl
theorem cDRM_cost : cDRM.cost = 0 := rfl
attribute [go_sem] cDRM_own cDRM_draws cDRM_cost
theorem drm_pre (bs : List Nat) (h : ∀ b ∈ bs, b < 256) : cDRM.pre [.sl none (byteRows bs)] := ⟨bs, h, rfl⟩
theorem drm_post (args : List AV) (K : AV → Prop) : (∀ r, cDRM.post args r → K r) = (∀ (x : Rt) (n : Int), okRt x → -10 ≤ n → n ≤ 100 → K (.tup [x.av, iv n])) := by
  apply propext
  exact ⟨fun h x n h1 h2 h3 => h _ ⟨x, n, h1, h2, h3, rfl⟩, fun h r ⟨x, n, h1, h2, h3, e⟩ => e ▸ h x n h1 h2 h3⟩
attribute [go_sem] drm_post

end Go.Proofs.W
end
section
namespace Go.Proofs.W
open Go Go.Eng Go.RowKit
set_option linter.unusedSimpArgs false
set_option maxRecDepth 10000

theorem mOkN_iff (l : List Int) : ∀ n, mOkN l n = true ↔ (∀ k, k < n → isM (l.getD k 0) = true) ∧ ∀ k, k + 1 < n → l.getD k 0 < l.getD (k + 1) 0
  | 0 => by simp [mOkN]
  | n + 1 => by
    simp only [mOkN, Bool.and_eq_true, Bool.or_eq_true, decide_eq_true_eq, mOkN_iff l n]
    constructor
    · rintro ⟨⟨h1, h2⟩, h3, h4⟩
      refine ⟨fun k hk => ?_, fun k hk => ?_⟩
      · by_cases e : k = n
        · rw [e]; exact h3
        · exact h1 k (by omega)
      · by_cases e : k + 1 = n
        · subst e
          exact h4.resolve_left (by omega)
        · exact h2 k (by omega)
    · rintro ⟨h1, h2⟩
      refine ⟨⟨fun k hk => h1 k (by omega), fun k hk => h2 k (by omega)⟩, h1 n (by omega), ?_⟩
      cases n with
      | zero => exact .inl rfl
      | succ n => exact .inr (h2 n (by omega))
theorem mOk_of {l : List Int} (h1 : ∀ y ∈ l, isM y = true) (h2 : l.Pairwise (· < ·)) : mOk l = true := by
  refine (mOkN_iff l _).2 ⟨fun k hk => ?_, fun k hk => ?_⟩
  · rw [List.getD_eq_getElem?_getD, List.getElem?_eq_getElem hk]; exact h1 _ (List.getElem_mem hk)
  · have := List.pairwise_iff_getElem.1 h2 k (k + 1) (by omega) hk (by omega)
    simpa [List.getD_eq_getElem?_getD, hk, show k < l.length by omega] using this
theorem mOk_mem {l : List Int} (h : mOk l = true) : ∀ y ∈ l, isM y = true := fun y hy => by
  obtain ⟨k, hk, rfl⟩ := List.mem_iff_getElem.1 hy
  have := ((mOkN_iff l _).1 h).1 k hk
  simpa [List.getD_eq_getElem?_getD, hk] using this

/-- sorted lists part at x -/
theorem srt_part (x : Int) : ∀ {l : List Int}, l.Pairwise (· < ·) → ∃ a b, l = a ++ b ∧ (∀ y ∈ a, y < x) ∧ ∀ y ∈ b, x ≤ y
  | [], _ => ⟨[], [], rfl, by simp, by simp⟩
  | y :: l, h => by
    obtain ⟨h1, h2⟩ := List.pairwise_cons.1 h
    by_cases hy : y < x
    · obtain ⟨a, b, rfl, ha, hb⟩ := srt_part x h2
      exact ⟨y :: a, b, rfl, by simp only [List.mem_cons]; rintro z (rfl | hz); exact hy; exact ha z hz, hb⟩
    · exact ⟨[], y :: l, rfl, by simp, by simp only [List.mem_cons]; rintro z (rfl | hz); omega; have := h1 z hz; omega⟩

theorem mkL_mem {l : List Int} (h : l.Pairwise (· < ·)) (x y : Int) : y ∈ mkL l x ↔ y = x ∨ y ∈ l := by
  obtain ⟨a, b, rfl, ha, hb⟩ := srt_part x h
  rw [mkL_eq x a b ha hb]
  simp only [List.mem_append, List.mem_cons, List.mem_filter, Bool.not_eq_true', decide_eq_false_iff_not]
  by_cases e : y = x <;> simp [e]
theorem mkL_srt {l : List Int} (h : l.Pairwise (· < ·)) (x : Int) : (mkL l x).Pairwise (· < ·) := by
  obtain ⟨a, b, rfl, ha, hb⟩ := srt_part x h
  rw [mkL_eq x a b ha hb]
  obtain ⟨h1, h2, h3⟩ := List.pairwise_append.1 h
  refine List.pairwise_append.2 ⟨h1, List.pairwise_cons.2 ⟨fun y hy => ?_, h2.filter _⟩, fun y hy z hz => ?_⟩
  · obtain ⟨hy1, hy2⟩ := List.mem_filter.1 hy
    have := hb y hy1
    simp only [Bool.not_eq_true', decide_eq_false_iff_not] at hy2
    omega
  · rcases List.mem_cons.1 hz with rfl | hz
    · exact ha y hy
    · exact h3 y hy z (List.mem_filter.1 hz).1
theorem mkL_mOk {l : List Int} (h : mOk l = true) {x : Int} (hx : isM x = true) : mOk (mkL l x) = true :=
  mOk_of (fun y hy => ((mkL_mem (mOk_srt h) x y).1 hy).elim (fun e => e ▸ hx) (mOk_mem h y)) (mkL_srt (mOk_srt h) x)
theorem srt_ext : ∀ {a b : List Int}, a.Pairwise (· < ·) → b.Pairwise (· < ·) → (∀ y, y ∈ a ↔ y ∈ b) → a = b
  | [], [], _, _, _ => rfl
  | [], y :: b, _, _, h => absurd ((h y).2 (by simp)) (by simp)
  | y :: a, [], _, _, h => absurd ((h y).1 (by simp)) (by simp)
  | y :: a, z :: b, ha, hb, h => by
    obtain ⟨a1, a2⟩ := List.pairwise_cons.1 ha
    obtain ⟨b1, b2⟩ := List.pairwise_cons.1 hb
    have hyz : y = z := by
      have h1 := (h y).1 (by simp)
      have h2 := (h z).2 (by simp)
      rcases List.mem_cons.1 h1 with e | e
      · exact e
      · rcases List.mem_cons.1 h2 with e' | e'
        · exact e'.symm
        · have := b1 y e; have := a1 z e'; omega
    subst hyz
    congr 1
    refine srt_ext a2 b2 fun w => ⟨fun hw => ?_, fun hw => ?_⟩
    · rcases List.mem_cons.1 ((h w).1 (List.mem_cons_of_mem _ hw)) with e | e
      · have := a1 w hw; omega
      · exact e
    · rcases List.mem_cons.1 ((h w).2 (List.mem_cons_of_mem _ hw)) with e | e
      · have := b1 w hw; omega
      · exact e
theorem clL_mem (l : List Int) (x y : Int) : y ∈ clL l x ↔ y ∈ l ∧ y ≠ x := by simp [clL, List.mem_filter]
theorem clL_srt {l : List Int} (h : l.Pairwise (· < ·)) (x : Int) : (clL l x).Pairwise (· < ·) := h.filter _
theorem mkL_mkL {l : List Int} (h : l.Pairwise (· < ·)) (x : Int) : mkL (mkL l x) x = mkL l x :=
  srt_ext (mkL_srt (mkL_srt h x) x) (mkL_srt h x) fun y => by rw [mkL_mem (mkL_srt h x), mkL_mem h]; simp
theorem clL_mkL {l : List Int} (h : l.Pairwise (· < ·)) (x : Int) : clL (mkL l x) x = clL l x :=
  srt_ext (clL_srt (mkL_srt h x) x) (clL_srt h x) fun y => by rw [clL_mem, clL_mem, mkL_mem h]; by_cases e : y = x <;> simp [e]
theorem clL_mOk {l : List Int} (h : mOk l = true) (x : Int) : mOk (clL l x) = true :=
  mOk_of (fun y hy => mOk_mem h y ((clL_mem l x y).1 hy).1) (clL_srt (mOk_srt h) x)
theorem mkL_clL {l : List Int} (h : l.Pairwise (· < ·)) {x : Int} (hx : x ∈ l) : mkL (clL l x) x = l :=
  srt_ext (mkL_srt (clL_srt h x) x) h fun y => by rw [mkL_mem (clL_srt h x), clL_mem]; by_cases e : y = x <;> simp [e, hx]
theorem clL_not {l : List Int} {x : Int} (hx : x ∉ l) : clL l x = l := List.filter_eq_self.2 fun y hy => by simp; rintro rfl; exact hx hy
theorem mkL_len {l : List Int} (h : l.Pairwise (· < ·)) (x : Int) : (mkL l x).length ≤ l.length + 1 := by
  obtain ⟨a, b, rfl, ha, hb⟩ := srt_part x h
  rw [mkL_eq x a b ha hb]
  have := List.length_filter_le (fun y => !decide (y = x)) b
  simp; omega
theorem clL_len (l : List Int) (x : Int) : (clL l x).length ≤ l.length := List.length_filter_le _ _

end Go.Proofs.W
end
section
namespace Go.Proofs.W
open Go Go.Eng Go.RowKit
set_option linter.unusedSimpArgs false
set_option maxRecDepth 100000

/-! policies as data, and what they do -/
structure Cl where
  ci : Int
  n : Int
  f : Int
  b : Int
  ref : Bool
  like : Int
  mark : Int
  clear : Int
def Cl.row (c : Cl) : List DV := [.v (.int .i64 c.ci), .v (.int .i64 c.n), .v (.int .i64 c.f), .v (.int .i64 c.b), .v (.bool c.ref), .v (.int .i64 c.like), .v (.int .i64 c.mark), .v (.int .i64 c.clear)]
abbrev Cl.av (c : Cl) : AV := .agg [iv c.ci, iv c.n, iv c.f, iv c.b, bv c.ref, iv c.like, iv c.mark, iv c.clear]
def crows (l : List Cl) : List (List DV) := l.map Cl.row
def rrows (l : List Rt) : List (List DV) := l.map Rt.row
def rHas (f b a : Int) : Bool := decide (a.tdiv (szR b) = f.tdiv (szR b))
def rIn (f b f' b' : Int) : Bool := decide (b' ≤ b) && rHas f' b' f
def subOk (ci n f b : Int) : Bool :=
  if ci = 1 then decide (n = 0) && decide (f = 0) && decide (b = 0)
  else if ci = 2 then decide (n = 0) && rngOk f b
  else if ci = 3 then isM n && decide (f = 0) && decide (b = 0)
  else if ci = 4 ∨ ci = 5 then isH n && decide (f = 0) && decide (b = 0) else false
def clOk (c : Cl) : Bool := (decide (-1 ≤ c.like) && decide (c.like ≤ 9)) && (decide (0 ≤ c.mark) && decide (c.mark ≤ 9)) && (decide (0 ≤ c.clear) && decide (c.clear ≤ 9)) && subOk c.ci c.n c.f c.b
def fitsB (c : Cl) (r : Rt) : Bool :=
  if c.ci = 2 then rIn r.f r.b c.f c.b
  else if c.ci = 3 then r.marks.contains c.n
  else if c.ci = 4 then r.path.contains c.n
  else if c.ci = 5 then decide ((r.path.length : Int) ≤ c.n) else true
def okR (r : Rt) : Bool := rtOk r.f r.b r.path r.like r.marks
def marksC (c : Cl) (m : List Int) : List Int := if 0 < c.clear then clL (if 0 < c.mark then mkL m c.mark else m) c.clear else (if 0 < c.mark then mkL m c.mark else m)
def doC (c : Cl) (r : Rt) : Rt := ⟨r.f, r.b, r.path, if 0 ≤ c.like then c.like else r.like, marksC c r.marks⟩
def polOk (l : List Cl) : Bool := decide (l.length ≤ 5) && l.all clOk
def polDo : List Cl → Rt → Option Rt
  | [], _ => none
  | c :: l, r => if fitsB c r then (if c.ref then none else some (doC c r)) else polDo l r
def policyDo (l : List Cl) (r : Rt) : Option Rt := if polOk l && okR r then polDo l r else none
theorem okR_parts {r : Rt} (h : okR r = true) : rngOk r.f r.b = true ∧ 0 < r.path.length ∧ pathOk r.path = true ∧ (0 ≤ r.like ∧ r.like ≤ 9) ∧ mOk r.marks = true := by
  simp only [okR, rtOk, Bool.and_eq_true, decide_eq_true_eq] at h
  exact ⟨h.1, h.2.1, h.2.2.1, ⟨h.2.2.2.1, h.2.2.2.2.1⟩, h.2.2.2.2.2⟩
theorem okR_of {r : Rt} (h1 : rngOk r.f r.b = true) (h2 : 0 < r.path.length) (h3 : pathOk r.path = true) (h4 : 0 ≤ r.like ∧ r.like ≤ 9) (h5 : mOk r.marks = true) : okR r = true := by
  simp only [okR, rtOk, Bool.and_eq_true, decide_eq_true_eq]
  exact ⟨h1, h2, h3, h4.1, h4.2, h5⟩
theorem clOk_parts {c : Cl} (h : clOk c = true) : (-1 ≤ c.like ∧ c.like ≤ 9) ∧ (0 ≤ c.mark ∧ c.mark ≤ 9) ∧ (0 ≤ c.clear ∧ c.clear ≤ 9) ∧ subOk c.ci c.n c.f c.b = true := by
  simp only [clOk, Bool.and_eq_true, decide_eq_true_eq] at h
  exact ⟨h.1.1.1, h.1.1.2, h.1.2, h.2⟩
theorem isM_of {x : Int} (h : 0 < x) (h' : x ≤ 9) : isM x = true := by simp [isM]; omega
theorem marksC_ok {c : Cl} (hc : clOk c = true) {m : List Int} (h : mOk m = true) : mOk (marksC c m) = true := by
  obtain ⟨_, h2, h3, _⟩ := clOk_parts hc
  unfold marksC
  have h1 : mOk (if 0 < c.mark then mkL m c.mark else m) = true := by
    split
    · exact mkL_mOk h (isM_of (by assumption) h2.2)
    · exact h
  split
  · exact clL_mOk h1 _
  · exact h1
theorem doC_ok {c : Cl} (hc : clOk c = true) {r : Rt} (h : okR r = true) : okR (doC c r) = true := by
  obtain ⟨h1, h2, h3, h4, h5⟩ := okR_parts h
  refine okR_of h1 h2 h3 ?_ (marksC_ok hc h5)
  have hl := (clOk_parts hc).1
  simp only [doC]
  split <;> omega
theorem polOk_mem {l : List Cl} (h : polOk l = true) : ∀ c ∈ l, clOk c = true := by
  simp only [polOk, Bool.and_eq_true, List.all_eq_true] at h
  exact h.2
theorem polOk_len {l : List Cl} (h : polOk l = true) : l.length ≤ 5 := by
  simp only [polOk, Bool.and_eq_true, decide_eq_true_eq] at h
  exact h.1
theorem polDo_some : ∀ {l : List Cl} {r x : Rt}, polDo l r = some x → ∃ c ∈ l, fitsB c r = true ∧ c.ref = false ∧ x = doC c r
  | [], _, _, h => by simp [polDo] at h
  | c :: l, r, x, h => by
    rw [polDo] at h
    cases hf : fitsB c r with
    | true =>
      rw [hf, if_pos rfl] at h
      cases hr : c.ref with
      | true => rw [hr] at h; simp at h
      | false => rw [hr] at h; exact ⟨c, by simp, hf, hr, by simpa using h.symm⟩
    | false =>
      rw [hf] at h
      obtain ⟨d, hd, h2⟩ := polDo_some (l := l) (by simpa using h)
      exact ⟨d, by simp [hd], h2⟩
theorem polDo_snoc (c : Cl) (r : Rt) : ∀ l : List Cl, polDo (l ++ [c]) r = if l.any (fun d => fitsB d r) = true then polDo l r else polDo [c] r
  | [] => rfl
  | d :: l => by
    have ih := polDo_snoc c r l
    cases hd : fitsB d r with
    | true => simp only [List.cons_append, polDo, hd, List.any_cons, Bool.true_or, if_true]
    | false =>
      have e1 : polDo (d :: l) r = polDo l r := by rw [polDo, hd]; rfl
      have e2 : polDo (d :: (l ++ [c])) r = polDo (l ++ [c]) r := by rw [polDo, hd]; rfl
      rw [List.cons_append, e1, e2, ih, List.any_cons, hd, Bool.false_or]
theorem marksC_srt (c : Cl) {m : List Int} (h : m.Pairwise (· < ·)) : (marksC c m).Pairwise (· < ·) := by
  unfold marksC
  have h1 : (if 0 < c.mark then mkL m c.mark else m).Pairwise (· < ·) := by
    split
    · exact mkL_srt h _
    · exact h
  split
  · exact clL_srt h1 _
  · exact h1
theorem marksC_mem (c : Cl) {m : List Int} (h : m.Pairwise (· < ·)) (y : Int) : y ∈ marksC c m ↔ ¬ (0 < c.clear ∧ y = c.clear) ∧ ((0 < c.mark ∧ y = c.mark) ∨ y ∈ m) := by
  unfold marksC
  by_cases h1 : 0 < c.clear <;> by_cases h2 : 0 < c.mark
  · rw [if_pos h1, if_pos h2, clL_mem, mkL_mem h]; simp [h1, h2]; constructor <;> (rintro ⟨a, b⟩; exact ⟨b, a⟩)
  · rw [if_pos h1, if_neg h2, clL_mem]; simp [h1, h2]; constructor <;> (rintro ⟨a, b⟩; exact ⟨b, a⟩)
  · rw [if_neg h1, if_pos h2, mkL_mem h]; simp [h1, h2]
  · rw [if_neg h1, if_neg h2]; simp [h1, h2]
theorem marksC_twice (c : Cl) {m : List Int} (h : m.Pairwise (· < ·)) : marksC c (marksC c m) = marksC c m := by
  refine srt_ext (marksC_srt c (marksC_srt c h)) (marksC_srt c h) fun y => ?_
  rw [marksC_mem c (marksC_srt c h), marksC_mem c h]
  constructor
  · rintro ⟨a, b | b⟩
    · exact ⟨a, .inl b⟩
    · exact b
  · rintro ⟨a, b⟩
    exact ⟨a, .inr ⟨a, b⟩⟩
theorem doC_twice (c : Cl) {r : Rt} (h : okR r = true) : doC c (doC c r) = doC c r := by
  have hs := marksC_twice c (mOk_srt (okR_parts h).2.2.2.2)
  simp only [doC, hs]
  congr 1
  split <;> rfl
theorem fitsB_do (d c : Cl) (r : Rt) (h : d.ci ≠ 3) : fitsB d (doC c r) = fitsB d r := by
  unfold fitsB
  rw [if_neg h, if_neg h]
  rfl
theorem polDo_fst : ∀ {l : List Cl} {r x : Rt}, okR r = true → (∀ d ∈ l, d.ci ≠ 3) → polDo l r = some x → polDo l x = some x
  | [], _, _, _, _, h => by simp [polDo] at h
  | c :: l, r, x, hr, hm, h => by
    obtain ⟨d, hd, hf, hrf, hx⟩ := polDo_some h
    have hfx : fitsB c x = fitsB c r := by rw [hx]; exact fitsB_do c d r (hm c (by simp))
    rw [polDo] at h ⊢
    rw [hfx]
    cases hc : fitsB c r with
    | true =>
      rw [hc, if_pos rfl] at h
      rw [if_pos rfl]
      cases hcr : c.ref with
      | true => rw [hcr] at h; simp at h
      | false =>
        rw [hcr] at h
        have hx2 : doC c r = x := by simpa using h
        rw [← hx2]
        simp [doC_twice c hr]
    | false =>
      rw [hc] at h
      simpa using polDo_fst hr (fun e he => hm e (by simp [he])) (by simpa using h)
theorem policyDo_some {l : List Cl} {r x : Rt} (h : policyDo l r = some x) : polOk l = true ∧ okR r = true ∧ polDo l r = some x := by
  unfold policyDo at h
  split at h
  · rename_i hc
    simp only [Bool.and_eq_true] at hc
    exact ⟨hc.1, hc.2, h⟩
  · cases h
theorem polDo_ok {l : List Cl} (hl : ∀ c ∈ l, clOk c = true) {r x : Rt} (hr : okR r = true) (h : polDo l r = some x) : okR x = true ∧ x.f = r.f ∧ x.b = r.b ∧ x.path = r.path := by
  obtain ⟨c, hc, _, _, rfl⟩ := polDo_some h
  exact ⟨doC_ok (hl c hc) hr, rfl, rfl, rfl⟩
def polAll (l : List Cl) (rs : List Rt) : List Rt := if polOk l && rs.all okR then rs.filterMap (polDo l) else []
end Go.Proofs.W
end
section
namespace Go.Proofs.W
open Go Go.Eng Go.RowKit
set_option linter.unusedSimpArgs false
set_option maxRecDepth 100000

/-! lists of clauses, and of routes, as data -/
def clsL : List (List DV) → Option (List Cl)
  | [] => some []
  | [.v (.int .i64 ci), .v (.int .i64 n), .v (.int .i64 f), .v (.int .i64 b), .v (.bool ref), .v (.int .i64 like), .v (.int .i64 mark), .v (.int .i64 clear)] :: l => match clsL l with
    | some r => some (⟨ci, n, f, b, ref, like, mark, clear⟩ :: r)
    | none => none
  | _ => none
theorem crows_nil : crows [] = [] := rfl
theorem crows_cons (c : Cl) (l : List Cl) : crows (c :: l) = c.row :: crows l := rfl
theorem clsL_rows (l : List Cl) : clsL (crows l) = some l := by
  induction l with
  | nil => rfl
  | cons n l ih => simp only [crows_cons, Cl.row, clsL, ih]
theorem clsL_eq {els : List (List DV)} : ∀ {l : List Cl}, clsL els = some l → els = crows l := by
  induction els with
  | nil => intro l h; obtain rfl := Option.some.inj h; rfl
  | cons row els ih =>
    intro l h
    unfold clsL at h
    split at h
    · rename_i e; cases e
    · rename_i l' e
      obtain ⟨rfl, rfl⟩ := List.cons.inj e
      split at h
      · rename_i r hr
        obtain rfl := Option.some.inj h
        rw [ih hr]; rfl
      · cases h
    · cases h
theorem crows_len (l : List Cl) : (crows l).length = l.length := by simp [crows]
theorem crows_get (l : List Cl) (i : Nat) (h : i < l.length) : (crows l)[i]? = some (l[i]).row := by simp [crows, h]
theorem crows_app (a b : List Cl) : crows a ++ crows b = crows (a ++ b) := by simp [crows]
theorem crows_row (l : List Cl) : ∀ row ∈ crows l, row.length = 8 := by simp [crows, Cl.row]
theorem crows_one (ci n f b : Int) (ref : Bool) (like mark clear : Int) : [[DV.v (.int .i64 ci), .v (.int .i64 n), .v (.int .i64 f), .v (.int .i64 b), .v (.bool ref), .v (.int .i64 like), .v (.int .i64 mark), .v (.int .i64 clear)]] = crows [⟨ci, n, f, b, ref, like, mark, clear⟩] := rfl
attribute [go_sem] clsL_rows crows_len crows_nil crows_app Cl.row

def rtsL : List (List DV) → Option (List Rt)
  | [] => some []
  | [.v (.int .i64 f), .v (.int .i64 b), .sl e1, .v (.int .i64 like), .sl e2] :: l => match intsL e1, intsL e2, rtsL l with
    | some p, some m, some r => some (⟨f, b, p, like, m⟩ :: r)
    | _, _, _ => none
  | _ => none
theorem rrows_nil : rrows [] = [] := rfl
theorem rrows_cons (c : Rt) (l : List Rt) : rrows (c :: l) = c.row :: rrows l := rfl
theorem rtsL_rows (l : List Rt) : rtsL (rrows l) = some l := by
  induction l with
  | nil => rfl
  | cons n l ih => simp only [rrows_cons, Rt.row, rtsL, ih, intsL_rows]
theorem rtsL_eq {els : List (List DV)} : ∀ {l : List Rt}, rtsL els = some l → els = rrows l := by
  induction els with
  | nil => intro l h; obtain rfl := Option.some.inj h; rfl
  | cons row els ih =>
    intro l h
    unfold rtsL at h
    split at h
    · rename_i e; cases e
    · rename_i l' e
      obtain ⟨rfl, rfl⟩ := List.cons.inj e
      split at h
      · rename_i p m r hp hm hr
        obtain rfl := Option.some.inj h
        rw [ih hr, intsL_eq hp, intsL_eq hm]; rfl
      · cases h
    · cases h
theorem rrows_len (l : List Rt) : (rrows l).length = l.length := by simp [rrows]
theorem rrows_get (l : List Rt) (i : Nat) (h : i < l.length) : (rrows l)[i]? = some (l[i]).row := by simp [rrows, h]
theorem rrows_app (a b : List Rt) : rrows a ++ rrows b = rrows (a ++ b) := by simp [rrows]
theorem rrows_row (l : List Rt) : ∀ row ∈ rrows l, row.length = 5 := by simp [rrows, Rt.row]
theorem rrows_one (f b : Int) (p : List Int) (like : Int) (m : List Int) : [[DV.v (.int .i64 f), .v (.int .i64 b), .sl (rows p), .v (.int .i64 like), .sl (rows m)]] = rrows [⟨f, b, p, like, m⟩] := rfl
attribute [go_sem] rtsL_rows rrows_len rrows_nil rrows_app Rt.row

/-! what is drawn -/
def cClauseD : Con := { pre := fun args => args = [.rd], post := fun _ r => ∃ c : Cl, r = c.av, cost := 16, draws := true }
theorem cClauseD_own : cClauseD.own = false := rfl
theorem cClauseD_draws : cClauseD.draws = true := rfl
theorem cClauseD_cost : cClauseD.cost = 16 := rfl
attribute [go_sem] cClauseD_own cClauseD_draws cClauseD_cost
theorem clauseD_pre : cClauseD.pre [.rd] = True := by simp [cClauseD]
theorem clauseD_post (args : List AV) (K : AV → Prop) : (∀ r, cClauseD.post args r → K r) = (∀ c : Cl, K c.av) := by
  apply propext
  exact ⟨fun h p => h _ ⟨p, rfl⟩, fun h r ⟨p, e⟩ => e ▸ h p⟩
theorem clauseD_ex (args : List AV) : (∃ r, cClauseD.post args r) = True := eq_true ⟨_, ⟨0, 0, 0, 0, false, 0, 0, 0⟩, rfl⟩
attribute [go_sem] clauseD_pre clauseD_post clauseD_ex

theorem l91Clause_ok : Fine Tryd.prog 68 cClauseD := by
  refine fine_of (T := TT) Tryd.func68 rfl Tryd.ntmps68 (by rw [Tryd.results68]) rfl rfl tt (gs_cons l91Range_ok (gs_cons pick_ok gs_nil)) (ds_nil) ?_
  rintro args rfl
  refine ⟨by simp, fun k hk E hE Q hQ => ?_⟩
  have hk := hk rfl
  simp only [go_sem] at hk
  refine Aw_st hE [0, 2] [2] fun K hK => ?_
  simp only [go_sem, reduceIte, Nat.reduceLT, Nat.reduceLeDiff, Nat.reduceEqDiff, Nat.reduceAdd, Nat.reduceMul, Nat.reduceSub, Nat.reduceBEq, Int.reduceToNat, List.reduceReplicate, reduceCtorEq]
  repeat (refine And.intro (by first | omega | (and_intros <;> first | omega | exact rows_row _ | decide | (simp; done) | (simp; omega)) | fail) ?_)
  refine hK _ ?_; clear hK K
  refine Aw_st hE [0, 2, 3] [2, 3] fun K hK => ?_
  simp only [go_sem, reduceIte, Nat.reduceLT, Nat.reduceLeDiff, Nat.reduceEqDiff, Nat.reduceAdd, Nat.reduceMul, Nat.reduceSub, Nat.reduceBEq, Int.reduceToNat, List.reduceReplicate, reduceCtorEq]
  repeat (refine And.intro (by first | omega | (and_intros <;> first | omega | exact rows_row _ | decide | (simp; done) | (simp; omega)) | fail) ?_)
  repeat' (first | (refine And.intro (by first | omega | decide) ?_) | intro)
  rename_i ci0 h1 h2 rf0 h3 h4 lk0 h5 h6 mk0 h7 h8 cl0 h9 h10
  refine hK _ ?_; clear hK K
  refine Aw_sqJ (fun q : Int × Int × Int => ⟨49, [(0, .rd), (2, .loc 2 0), (3, .loc 3 0)], [(2, [iv 0, iv 0, iv 0, iv 0, bv false, iv 0, iv 0, iv 0]), (3, [iv (1 + ci0), iv q.1, iv q.2.1, iv q.2.2, bv (decide (rf0 = 0)), iv (lk0 - 1), iv mk0, iv cl0])], k + 13⟩) (fun q : Int × Int × Int => True) (fun i hi => ?_) fun B1 hB1 hR1 hX1 => ?_
  · refine Aw_sq fun B2 hB2 hR2 hX2 => ?_
    refine Aw_st hE [0, 2, 3, 34] [2, 3] fun K hK => ?_
    simp only [go_sem, reduceIte, Nat.reduceLT, Nat.reduceLeDiff, Nat.reduceEqDiff, Nat.reduceAdd, Nat.reduceMul, Nat.reduceSub, Nat.reduceBEq, Int.reduceToNat, List.reduceReplicate, reduceCtorEq]
    repeat (refine And.intro (by first | omega | (and_intros <;> first | omega | exact rows_row _ | decide | (simp; done) | (simp; omega)) | fail) ?_)
    repeat' (first | (refine And.intro (by first | omega | decide) ?_) | intro)
    refine hK _ ?_; clear hK K
    refine Aw_bk fun B3 hN3 hE3 hR3 hX3 => ?_
    refine Aw_st hE [0, 2, 3, 34, 35] [2, 3] fun K hK => ?_
    simp only [go_sem, reduceIte, Nat.reduceLT, Nat.reduceLeDiff, Nat.reduceEqDiff, Nat.reduceAdd, Nat.reduceMul, Nat.reduceSub, Nat.reduceBEq, Int.reduceToNat, List.reduceReplicate, reduceCtorEq]
    repeat (refine And.intro (by first | omega | (and_intros <;> first | omega | exact rows_row _ | decide | (simp; done) | (simp; omega)) | fail) ?_)
    refine hK _ (Aw_cond rfl (fun hc4 => ?_) (fun hc4 => ?_))
    · refine Aw_tx hE [2, 3] [2, 3] fun K hK => ?_
      simp only [go_sem, reduceIte, Nat.reduceLT, Nat.reduceLeDiff, Nat.reduceEqDiff, Nat.reduceAdd, Nat.reduceMul, Nat.reduceSub, Nat.reduceBEq, Int.reduceToNat, List.reduceReplicate, reduceCtorEq]
      repeat (refine And.intro (by first | omega | (and_intros <;> first | omega | exact rows_row _ | decide | (simp; done) | (simp; omega)) | fail) ?_)
      repeat' (first | (refine And.intro (by first | omega | decide) ?_) | intro)
      refine hK _ (hN3 _ (hB2 _ ?_))
      refine Aw_st hE [2] [2] fun K hK => ?_
      simp only [go_sem, reduceIte, Nat.reduceLT, Nat.reduceLeDiff, Nat.reduceEqDiff, Nat.reduceAdd, Nat.reduceMul, Nat.reduceSub, Nat.reduceBEq, Int.reduceToNat, List.reduceReplicate, reduceCtorEq]
      repeat (refine And.intro (by first | omega | (and_intros <;> first | omega | exact rows_row _ | decide | (simp; done) | (simp; omega)) | fail) ?_)
      refine hK _ (Aw_ret (hQ _ ?_))
      simp only [go_sem, reduceIte, Nat.reduceLT, Nat.reduceLeDiff, Nat.reduceEqDiff, Nat.reduceAdd, Nat.reduceMul, Nat.reduceSub, Nat.reduceBEq, Int.reduceToNat, List.reduceReplicate, reduceCtorEq]
      exact ⟨by omega, ⟨_, _, _, _, _, _, _, _⟩, rfl⟩
    · refine Aw_st hE [0, 2, 3, 34, 40] [2, 3] fun K hK => ?_
      simp only [go_sem, reduceIte, Nat.reduceLT, Nat.reduceLeDiff, Nat.reduceEqDiff, Nat.reduceAdd, Nat.reduceMul, Nat.reduceSub, Nat.reduceBEq, Int.reduceToNat, List.reduceReplicate, reduceCtorEq]
      repeat (refine And.intro (by first | omega | (and_intros <;> first | omega | exact rows_row _ | decide | (simp; done) | (simp; omega)) | fail) ?_)
      refine hK _ (Aw_cond rfl (fun hc5 => ?_) (fun hc5 => ?_))
      · refine Aw_tx hE [2, 3] [2, 3] fun K hK => ?_
        simp only [go_sem, reduceIte, Nat.reduceLT, Nat.reduceLeDiff, Nat.reduceEqDiff, Nat.reduceAdd, Nat.reduceMul, Nat.reduceSub, Nat.reduceBEq, Int.reduceToNat, List.reduceReplicate, reduceCtorEq]
        repeat (refine And.intro (by first | omega | (and_intros <;> first | omega | exact rows_row _ | decide | (simp; done) | (simp; omega)) | fail) ?_)
        refine hK _ (hN3 _ (hB2 _ ?_))
        refine Aw_st hE [2] [2] fun K hK => ?_
        simp only [go_sem, reduceIte, Nat.reduceLT, Nat.reduceLeDiff, Nat.reduceEqDiff, Nat.reduceAdd, Nat.reduceMul, Nat.reduceSub, Nat.reduceBEq, Int.reduceToNat, List.reduceReplicate, reduceCtorEq]
        repeat (refine And.intro (by first | omega | (and_intros <;> first | omega | exact rows_row _ | decide | (simp; done) | (simp; omega)) | fail) ?_)
        refine hK _ (Aw_ret (hQ _ ?_))
        simp only [go_sem, reduceIte, Nat.reduceLT, Nat.reduceLeDiff, Nat.reduceEqDiff, Nat.reduceAdd, Nat.reduceMul, Nat.reduceSub, Nat.reduceBEq, Int.reduceToNat, List.reduceReplicate, reduceCtorEq]
        exact ⟨by omega, ⟨_, _, _, _, _, _, _, _⟩, rfl⟩
      · refine Aw_st hE [0, 2, 3, 43] [2, 3] fun K hK => ?_
        simp only [go_sem, reduceIte, Nat.reduceLT, Nat.reduceLeDiff, Nat.reduceEqDiff, Nat.reduceAdd, Nat.reduceMul, Nat.reduceSub, Nat.reduceBEq, Int.reduceToNat, List.reduceReplicate, reduceCtorEq]
        repeat (refine And.intro (by first | omega | (and_intros <;> first | omega | exact rows_row _ | decide | (simp; done) | (simp; omega)) | fail) ?_)
        refine hK _ (Aw_cond rfl (fun hc6 => ?_) (fun hc6 => ?_))
        · refine Aw_tx hE [2, 3] [2, 3] fun K hK => ?_
          simp only [go_sem, reduceIte, Nat.reduceLT, Nat.reduceLeDiff, Nat.reduceEqDiff, Nat.reduceAdd, Nat.reduceMul, Nat.reduceSub, Nat.reduceBEq, Int.reduceToNat, List.reduceReplicate, reduceCtorEq]
          repeat (refine And.intro (by first | omega | (and_intros <;> first | omega | exact rows_row _ | decide | (simp; done) | (simp; omega)) | fail) ?_)
          repeat' (first | (refine And.intro (by first | omega | decide) ?_) | intro)
          refine hK _ (hN3 _ (hB2 _ ?_))
          refine Aw_st hE [2] [2] fun K hK => ?_
          simp only [go_sem, reduceIte, Nat.reduceLT, Nat.reduceLeDiff, Nat.reduceEqDiff, Nat.reduceAdd, Nat.reduceMul, Nat.reduceSub, Nat.reduceBEq, Int.reduceToNat, List.reduceReplicate, reduceCtorEq]
          repeat (refine And.intro (by first | omega | (and_intros <;> first | omega | exact rows_row _ | decide | (simp; done) | (simp; omega)) | fail) ?_)
          refine hK _ (Aw_ret (hQ _ ?_))
          simp only [go_sem, reduceIte, Nat.reduceLT, Nat.reduceLeDiff, Nat.reduceEqDiff, Nat.reduceAdd, Nat.reduceMul, Nat.reduceSub, Nat.reduceBEq, Int.reduceToNat, List.reduceReplicate, reduceCtorEq]
          exact ⟨by omega, ⟨_, _, _, _, _, _, _, _⟩, rfl⟩
        · refine Aw_skip (hN3 _ (hB2 _ ?_))
          refine Aw_st hE [2] [2] fun K hK => ?_
          simp only [go_sem, reduceIte, Nat.reduceLT, Nat.reduceLeDiff, Nat.reduceEqDiff, Nat.reduceAdd, Nat.reduceMul, Nat.reduceSub, Nat.reduceBEq, Int.reduceToNat, List.reduceReplicate, reduceCtorEq]
          repeat (refine And.intro (by first | omega | (and_intros <;> first | omega | exact rows_row _ | decide | (simp; done) | (simp; omega)) | fail) ?_)
          refine hK _ (Aw_ret (hQ _ ?_))
          simp only [go_sem, reduceIte, Nat.reduceLT, Nat.reduceLeDiff, Nat.reduceEqDiff, Nat.reduceAdd, Nat.reduceMul, Nat.reduceSub, Nat.reduceBEq, Int.reduceToNat, List.reduceReplicate, reduceCtorEq]
          exact ⟨by omega, ⟨_, _, _, _, _, _, _, _⟩, rfl⟩
  refine Aw_st hE [0, 2, 3, 19] [2, 3] fun K hK => ?_
  simp only [go_sem, reduceIte, Nat.reduceLT, Nat.reduceLeDiff, Nat.reduceEqDiff, Nat.reduceAdd, Nat.reduceMul, Nat.reduceSub, Nat.reduceBEq, Int.reduceToNat, List.reduceReplicate, reduceCtorEq]
  repeat (refine And.intro (by first | omega | (and_intros <;> first | omega | exact rows_row _ | decide | (simp; done) | (simp; omega)) | fail) ?_)
  refine hK _ ?_; clear hK K
  refine Aw_bk fun B7 hN7 hE7 hR7 hX7 => ?_
  refine Aw_st hE [0, 2, 3, 19, 20] [2, 3] fun K hK => ?_
  simp only [go_sem, reduceIte, Nat.reduceLT, Nat.reduceLeDiff, Nat.reduceEqDiff, Nat.reduceAdd, Nat.reduceMul, Nat.reduceSub, Nat.reduceBEq, Int.reduceToNat, List.reduceReplicate, reduceCtorEq]
  repeat (refine And.intro (by first | omega | (and_intros <;> first | omega | exact rows_row _ | decide | (simp; done) | (simp; omega)) | fail) ?_)
  refine hK _ (Aw_cond rfl (fun hc8 => ?_) (fun hc8 => ?_))
  · refine Aw_tx hE [0, 2, 3] [2, 3] fun K hK => ?_
    simp only [go_sem, reduceIte, Nat.reduceLT, Nat.reduceLeDiff, Nat.reduceEqDiff, Nat.reduceAdd, Nat.reduceMul, Nat.reduceSub, Nat.reduceBEq, Int.reduceToNat, List.reduceReplicate, reduceCtorEq]
    repeat (refine And.intro (by first | omega | (and_intros <;> first | omega | exact rows_row _ | decide | (simp; done) | (simp; omega)) | fail) ?_)
    repeat' (first | (refine And.intro (by first | omega | decide) ?_) | intro)
    rename_i f b hfb
    refine hK _ (hN7 _ (hB1 ((0, f, b)) _ (trivial) ((Le_wk (by first | omega | (dsimp only; omega) | (simp only; omega) | (simp; omega)) (by simp only [go_sem, reduceIte, Nat.reduceLT, Nat.reduceLeDiff, Nat.reduceEqDiff, Nat.reduceAdd, Nat.reduceMul, Nat.reduceSub, Nat.reduceBEq, Int.reduceToNat, List.reduceReplicate, reduceCtorEq]) (by simp only [go_sem, reduceIte, Nat.reduceLT, Nat.reduceLeDiff, Nat.reduceEqDiff, Nat.reduceAdd, Nat.reduceMul, Nat.reduceSub, Nat.reduceBEq, Int.reduceToNat, List.reduceReplicate, reduceCtorEq])) E)))
  · refine Aw_sq fun B9 hB9 hR9 hX9 => ?_
    refine Aw_st hE [0, 2, 3, 19, 25] [2, 3] fun K hK => ?_
    simp only [go_sem, reduceIte, Nat.reduceLT, Nat.reduceLeDiff, Nat.reduceEqDiff, Nat.reduceAdd, Nat.reduceMul, Nat.reduceSub, Nat.reduceBEq, Int.reduceToNat, List.reduceReplicate, reduceCtorEq]
    repeat (refine And.intro (by first | omega | (and_intros <;> first | omega | exact rows_row _ | decide | (simp; done) | (simp; omega)) | fail) ?_)
    refine hK _ (Aw_cond rfl (fun hc10 => ?_) (fun hc10 => ?_))
    · refine Aw_skip (hB9 _ ?_)
      refine Aw_cond rfl (fun hc11 => ?_) (fun hc11 => ?_)
      · refine Aw_tx hE [0, 2, 3] [2, 3] fun K hK => ?_
        simp only [go_sem, reduceIte, Nat.reduceLT, Nat.reduceLeDiff, Nat.reduceEqDiff, Nat.reduceAdd, Nat.reduceMul, Nat.reduceSub, Nat.reduceBEq, Int.reduceToNat, List.reduceReplicate, reduceCtorEq]
        repeat (refine And.intro (by first | omega | (and_intros <;> first | omega | exact rows_row _ | decide | (simp; done) | (simp; omega)) | fail) ?_)
        repeat' (first | (refine And.intro (by first | omega | decide) ?_) | intro)
        rename_i n hn1 hn2
        refine hK _ (hN7 _ (hB1 ((1 + n, 0, 0)) _ (trivial) ((Le_wk (by first | omega | (dsimp only; omega) | (simp only; omega) | (simp; omega)) (by simp only [go_sem, reduceIte, Nat.reduceLT, Nat.reduceLeDiff, Nat.reduceEqDiff, Nat.reduceAdd, Nat.reduceMul, Nat.reduceSub, Nat.reduceBEq, Int.reduceToNat, List.reduceReplicate, reduceCtorEq]) (by simp only [go_sem, reduceIte, Nat.reduceLT, Nat.reduceLeDiff, Nat.reduceEqDiff, Nat.reduceAdd, Nat.reduceMul, Nat.reduceSub, Nat.reduceBEq, Int.reduceToNat, List.reduceReplicate, reduceCtorEq])) E)))
      · refine Aw_skip (hN7 _ (hB1 ((0, 0, 0)) _ (trivial) ((Le_wk (by first | omega | (dsimp only; omega) | (simp only; omega) | (simp; omega)) (by simp only [go_sem, reduceIte, Nat.reduceLT, Nat.reduceLeDiff, Nat.reduceEqDiff, Nat.reduceAdd, Nat.reduceMul, Nat.reduceSub, Nat.reduceBEq, Int.reduceToNat, List.reduceReplicate, reduceCtorEq]) (by simp only [go_sem, reduceIte, Nat.reduceLT, Nat.reduceLeDiff, Nat.reduceEqDiff, Nat.reduceAdd, Nat.reduceMul, Nat.reduceSub, Nat.reduceBEq, Int.reduceToNat, List.reduceReplicate, reduceCtorEq])) E)))
    · refine Aw_st hE [0, 2, 3, 19, 25] [2, 3] fun K hK => ?_
      simp only [go_sem, reduceIte, Nat.reduceLT, Nat.reduceLeDiff, Nat.reduceEqDiff, Nat.reduceAdd, Nat.reduceMul, Nat.reduceSub, Nat.reduceBEq, Int.reduceToNat, List.reduceReplicate, reduceCtorEq]
      repeat (refine And.intro (by first | omega | (and_intros <;> first | omega | exact rows_row _ | decide | (simp; done) | (simp; omega)) | fail) ?_)
      refine hK _ (Aw_cond rfl (fun hc12 => ?_) (fun hc12 => ?_))
      · refine Aw_skip (hB9 _ ?_)
        refine Aw_cond rfl (fun hc13 => ?_) (fun hc13 => ?_)
        · refine Aw_tx hE [0, 2, 3] [2, 3] fun K hK => ?_
          simp only [go_sem, reduceIte, Nat.reduceLT, Nat.reduceLeDiff, Nat.reduceEqDiff, Nat.reduceAdd, Nat.reduceMul, Nat.reduceSub, Nat.reduceBEq, Int.reduceToNat, List.reduceReplicate, reduceCtorEq]
          repeat (refine And.intro (by first | omega | (and_intros <;> first | omega | exact rows_row _ | decide | (simp; done) | (simp; omega)) | fail) ?_)
          repeat' (first | (refine And.intro (by first | omega | decide) ?_) | intro)
          rename_i n hn1 hn2
          refine hK _ (hN7 _ (hB1 ((1 + n, 0, 0)) _ (trivial) ((Le_wk (by first | omega | (dsimp only; omega) | (simp only; omega) | (simp; omega)) (by simp only [go_sem, reduceIte, Nat.reduceLT, Nat.reduceLeDiff, Nat.reduceEqDiff, Nat.reduceAdd, Nat.reduceMul, Nat.reduceSub, Nat.reduceBEq, Int.reduceToNat, List.reduceReplicate, reduceCtorEq]) (by simp only [go_sem, reduceIte, Nat.reduceLT, Nat.reduceLeDiff, Nat.reduceEqDiff, Nat.reduceAdd, Nat.reduceMul, Nat.reduceSub, Nat.reduceBEq, Int.reduceToNat, List.reduceReplicate, reduceCtorEq])) E)))
        · refine Aw_skip (hN7 _ (hB1 ((0, 0, 0)) _ (trivial) ((Le_wk (by first | omega | (dsimp only; omega) | (simp only; omega) | (simp; omega)) (by simp only [go_sem, reduceIte, Nat.reduceLT, Nat.reduceLeDiff, Nat.reduceEqDiff, Nat.reduceAdd, Nat.reduceMul, Nat.reduceSub, Nat.reduceBEq, Int.reduceToNat, List.reduceReplicate, reduceCtorEq]) (by simp only [go_sem, reduceIte, Nat.reduceLT, Nat.reduceLeDiff, Nat.reduceEqDiff, Nat.reduceAdd, Nat.reduceMul, Nat.reduceSub, Nat.reduceBEq, Int.reduceToNat, List.reduceReplicate, reduceCtorEq])) E)))
      · refine Aw_tx hE [0, 2, 3, 25] [2, 3] fun K hK => ?_
        simp only [go_sem, reduceIte, Nat.reduceLT, Nat.reduceLeDiff, Nat.reduceEqDiff, Nat.reduceAdd, Nat.reduceMul, Nat.reduceSub, Nat.reduceBEq, Int.reduceToNat, List.reduceReplicate, reduceCtorEq]
        repeat (refine And.intro (by first | omega | (and_intros <;> first | omega | exact rows_row _ | decide | (simp; done) | (simp; omega)) | fail) ?_)
        refine hK _ (hB9 _ ?_)
        refine Aw_cond rfl (fun hc14 => ?_) (fun hc14 => ?_)
        · refine Aw_tx hE [0, 2, 3] [2, 3] fun K hK => ?_
          simp only [go_sem, reduceIte, Nat.reduceLT, Nat.reduceLeDiff, Nat.reduceEqDiff, Nat.reduceAdd, Nat.reduceMul, Nat.reduceSub, Nat.reduceBEq, Int.reduceToNat, List.reduceReplicate, reduceCtorEq]
          repeat (refine And.intro (by first | omega | (and_intros <;> first | omega | exact rows_row _ | decide | (simp; done) | (simp; omega)) | fail) ?_)
          repeat' (first | (refine And.intro (by first | omega | decide) ?_) | intro)
          rename_i n hn1 hn2
          refine hK _ (hN7 _ (hB1 ((1 + n, 0, 0)) _ (trivial) ((Le_wk (by first | omega | (dsimp only; omega) | (simp only; omega) | (simp; omega)) (by simp only [go_sem, reduceIte, Nat.reduceLT, Nat.reduceLeDiff, Nat.reduceEqDiff, Nat.reduceAdd, Nat.reduceMul, Nat.reduceSub, Nat.reduceBEq, Int.reduceToNat, List.reduceReplicate, reduceCtorEq]) (by simp only [go_sem, reduceIte, Nat.reduceLT, Nat.reduceLeDiff, Nat.reduceEqDiff, Nat.reduceAdd, Nat.reduceMul, Nat.reduceSub, Nat.reduceBEq, Int.reduceToNat, List.reduceReplicate, reduceCtorEq])) E)))
        · refine Aw_skip (hN7 _ (hB1 ((0, 0, 0)) _ (trivial) ((Le_wk (by first | omega | (dsimp only; omega) | (simp only; omega) | (simp; omega)) (by simp only [go_sem, reduceIte, Nat.reduceLT, Nat.reduceLeDiff, Nat.reduceEqDiff, Nat.reduceAdd, Nat.reduceMul, Nat.reduceSub, Nat.reduceBEq, Int.reduceToNat, List.reduceReplicate, reduceCtorEq]) (by simp only [go_sem, reduceIte, Nat.reduceLT, Nat.reduceLeDiff, Nat.reduceEqDiff, Nat.reduceAdd, Nat.reduceMul, Nat.reduceSub, Nat.reduceBEq, Int.reduceToNat, List.reduceReplicate, reduceCtorEq])) E)))

def cPolD : Con := { pre := fun args => args = [.rd], post := fun _ r => ∃ l : List Cl, l.length ≤ 4 ∧ r = .sl none (crows l), cost := 60, draws := true }
theorem cPolD_own : cPolD.own = false := rfl
theorem cPolD_draws : cPolD.draws = true := rfl
theorem cPolD_cost : cPolD.cost = 60 := rfl
attribute [go_sem] cPolD_own cPolD_draws cPolD_cost
theorem polD_pre : cPolD.pre [.rd] = True := by simp [cPolD]
theorem polD_post (args : List AV) (K : AV → Prop) : (∀ r, cPolD.post args r → K r) = (∀ l : List Cl, l.length ≤ 4 → K (.sl none (crows l))) := by
  apply propext
  exact ⟨fun h p hp => h _ ⟨p, hp, rfl⟩, fun h r ⟨p, hp, e⟩ => e ▸ h p hp⟩
theorem polD_ex (args : List AV) : (∃ r, cPolD.post args r) = True := eq_true ⟨_, [], by simp, rfl⟩
attribute [go_sem] polD_pre polD_post polD_ex

theorem l91Policy_ok : Fine Tryd.prog 51 cPolD := by
  refine fine_of (T := TT) Tryd.func51 rfl Tryd.ntmps51 (by rw [Tryd.results51]) rfl rfl tt (gs_cons pick_ok (gs_cons l91Clause_ok gs_nil)) (ds_nil) ?_
  rintro args rfl
  refine ⟨by simp, fun k hk E hE Q hQ => ?_⟩
  have hk := hk rfl
  simp only [go_sem] at hk
  refine Aw_st hE [0] [] fun K hK => ?_
  simp only [go_sem, reduceIte, Nat.reduceLT, Nat.reduceLeDiff, Nat.reduceEqDiff, Nat.reduceAdd, Nat.reduceMul, Nat.reduceSub, Nat.reduceBEq, Int.reduceToNat, List.reduceReplicate, reduceCtorEq]
  repeat (refine And.intro (by first | omega | (and_intros <;> first | omega | exact rows_row _ | decide | (simp; done) | (simp; omega)) | fail) ?_)
  refine hK _ ?_; clear hK K
  refine Aw_st hE [0, 3] [] fun K hK => ?_
  simp only [go_sem, reduceIte, Nat.reduceLT, Nat.reduceLeDiff, Nat.reduceEqDiff, Nat.reduceAdd, Nat.reduceMul, Nat.reduceSub, Nat.reduceBEq, Int.reduceToNat, List.reduceReplicate, reduceCtorEq]
  repeat (refine And.intro (by first | omega | (and_intros <;> first | omega | exact rows_row _ | decide | (simp; done) | (simp; omega)) | fail) ?_)
  refine hK _ ?_; clear hK K
  refine Aw_sq fun B1 hB1 hR1 hX1 => ?_
  refine Aw_st hE [0, 3, 4] [] fun K hK => ?_
  simp only [go_sem, reduceIte, Nat.reduceLT, Nat.reduceLeDiff, Nat.reduceEqDiff, Nat.reduceAdd, Nat.reduceMul, Nat.reduceSub, Nat.reduceBEq, Int.reduceToNat, List.reduceReplicate, reduceCtorEq]
  repeat (refine And.intro (by first | omega | (and_intros <;> first | omega | exact rows_row _ | decide | (simp; done) | (simp; omega)) | fail) ?_)
  repeat' (first | (refine And.intro (by first | omega | decide) ?_) | intro)
  rename_i n0 hn1 hn2
  refine hK _ ?_; clear hK K
  refine Aw_bk fun B2 hN2 hE2 hR2 hX2 => ?_
  refine Aw_lp (fun (i : List Cl × Int) => ⟨25, [(0, .rd), (3, .sl (some (5, 0, 85)) (crows i.1)), (4, iv i.2)], [], k + 55 - 16 * i.2.toNat⟩) (fun (i : List Cl × Int) => i.1.length + i.2 ≤ 3 ∧ 0 ≤ i.2) (fun (i : List Cl × Int) => i.2.toNat) (([], n0)) (Le_rn (by first | omega | (dsimp only; omega) | (simp only; omega) | (simp; omega))) (⟨by simp; omega, by simp; omega⟩) fun i hi B3 hN3 hR3 hX3 => ?_
  refine Aw_sq fun B4 hB4 hR4 hX4 => ?_
  refine Aw_st hE [0, 3, 4, 9] [] fun K hK => ?_
  simp only [go_sem, reduceIte, Nat.reduceLT, Nat.reduceLeDiff, Nat.reduceEqDiff, Nat.reduceAdd, Nat.reduceMul, Nat.reduceSub, Nat.reduceBEq, Int.reduceToNat, List.reduceReplicate, reduceCtorEq]
  repeat (refine And.intro (by first | omega | (and_intros <;> first | omega | exact rows_row _ | decide | (simp; done) | (simp; omega)) | fail) ?_)
  refine hK _ (Aw_cond rfl (fun hc5 => ?_) (fun hc5 => ?_))
  · simp only [decide_eq_true_eq] at hc5
    refine Aw_skip (hB4 _ ?_)
    refine Aw_sq fun B6 hB6 hR6 hX6 => ?_
    refine Aw_bk fun B7 hN7 hE7 hR7 hX7 => ?_
    refine Aw_tx hE [0, 3, 4] [] fun K hK => ?_
    simp only [go_sem, reduceIte, Nat.reduceLT, Nat.reduceLeDiff, Nat.reduceEqDiff, Nat.reduceAdd, Nat.reduceMul, Nat.reduceSub, Nat.reduceBEq, Int.reduceToNat, List.reduceReplicate, reduceCtorEq, crows_one]
    repeat (refine And.intro (by first | omega | (and_intros <;> first | omega | exact rows_row _ | decide | (simp; done) | (simp; omega)) | fail) ?_)
    intro c
    refine ⟨⟨crows_row _, by omega⟩, ?_⟩
    refine hK _ (hN7 _ (hB6 _ ?_))
    refine Aw_tx hE [0, 3, 4] [] fun K hK => ?_
    simp only [go_sem, reduceIte, Nat.reduceLT, Nat.reduceLeDiff, Nat.reduceEqDiff, Nat.reduceAdd, Nat.reduceMul, Nat.reduceSub, Nat.reduceBEq, Int.reduceToNat, List.reduceReplicate, reduceCtorEq]
    repeat (refine And.intro (by first | omega | (and_intros <;> first | omega | exact rows_row _ | decide | (simp; done) | (simp; omega)) | fail) ?_)
    refine hK _ (hN3 ((i.1 ++ [c], i.2 - 1)) _ (⟨by simp; omega, by first | omega | (dsimp only; omega) | (simp only; omega) | (simp; omega)⟩) (by first | omega | (dsimp only; omega) | (simp only; omega) | (simp; omega)) ((Le_tk 16 5 rfl).trans (Le_rn (by first | omega | (dsimp only; omega) | (simp only; omega) | (simp; omega)))))
  · simp only [decide_eq_false_iff_not] at hc5
    refine Aw_exit (hX4 _ _ (hX3 _ _ (hE2 _ (hB1 _ ?_))))
    refine Aw_sq fun B8 hB8 hR8 hX8 => ?_
    refine Aw_st hE [3, 19] [] fun K hK => ?_
    simp only [go_sem, reduceIte, Nat.reduceLT, Nat.reduceLeDiff, Nat.reduceEqDiff, Nat.reduceAdd, Nat.reduceMul, Nat.reduceSub, Nat.reduceBEq, Int.reduceToNat, List.reduceReplicate, reduceCtorEq]
    repeat (refine And.intro (by first | omega | (and_intros <;> first | omega | exact rows_row _ | decide | (simp; done) | (simp; omega)) | fail) ?_)
    repeat' (first | (refine And.intro (by first | omega | decide) ?_) | intro)
    refine hK _ (Aw_cond rfl (fun hc9 => ?_) (fun hc9 => ?_))
    · refine Aw_tx hE [3] [] fun K hK => ?_
      simp only [go_sem, reduceIte, Nat.reduceLT, Nat.reduceLeDiff, Nat.reduceEqDiff, Nat.reduceAdd, Nat.reduceMul, Nat.reduceSub, Nat.reduceBEq, Int.reduceToNat, List.reduceReplicate, reduceCtorEq, crows_one]
      repeat (refine And.intro (by first | omega | (and_intros <;> first | omega | exact rows_row _ | decide | (simp; done) | (simp; omega)) | fail) ?_)
      refine ⟨⟨crows_row _, by omega⟩, ?_⟩
      refine hK _ (hB8 _ ?_)
      refine Aw_st hE [2] [] fun K hK => ?_
      simp only [go_sem, reduceIte, Nat.reduceLT, Nat.reduceLeDiff, Nat.reduceEqDiff, Nat.reduceAdd, Nat.reduceMul, Nat.reduceSub, Nat.reduceBEq, Int.reduceToNat, List.reduceReplicate, reduceCtorEq]
      repeat (refine And.intro (by first | omega | (and_intros <;> first | omega | exact rows_row _ | decide | (simp; done) | (simp; omega)) | fail) ?_)
      refine hK _ (Aw_ret (hQ _ ?_))
      simp only [go_sem, reduceIte, Nat.reduceLT, Nat.reduceLeDiff, Nat.reduceEqDiff, Nat.reduceAdd, Nat.reduceMul, Nat.reduceSub, Nat.reduceBEq, Int.reduceToNat, List.reduceReplicate, reduceCtorEq]
      exact ⟨by omega, _, by simp; omega, rfl⟩
    · refine Aw_skip (hB8 _ ?_)
      refine Aw_st hE [2] [] fun K hK => ?_
      simp only [go_sem, reduceIte, Nat.reduceLT, Nat.reduceLeDiff, Nat.reduceEqDiff, Nat.reduceAdd, Nat.reduceMul, Nat.reduceSub, Nat.reduceBEq, Int.reduceToNat, List.reduceReplicate, reduceCtorEq]
      repeat (refine And.intro (by first | omega | (and_intros <;> first | omega | exact rows_row _ | decide | (simp; done) | (simp; omega)) | fail) ?_)
      refine hK _ (Aw_ret (hQ _ ?_))
      simp only [go_sem, reduceIte, Nat.reduceLT, Nat.reduceLeDiff, Nat.reduceEqDiff, Nat.reduceAdd, Nat.reduceMul, Nat.reduceSub, Nat.reduceBEq, Int.reduceToNat, List.reduceReplicate, reduceCtorEq]
      exact ⟨by omega, _, by omega, rfl⟩

def cRtsD : Con := { pre := fun args => ∃ n : Int, 0 ≤ n ∧ n ≤ 5 ∧ args = [.rd, iv n], post := fun _ r => ∃ l : List Rt, (l.length ≤ 5 ∧ ∀ x ∈ l, okRt x) ∧ r = .sl none (rrows l), cost := 201, draws := true }
theorem cRtsD_own : cRtsD.own = false := rfl
theorem cRtsD_draws : cRtsD.draws = true := rfl
theorem cRtsD_cost : cRtsD.cost = 201 := rfl
attribute [go_sem] cRtsD_own cRtsD_draws cRtsD_cost
theorem rtsD_pre (n : Int) : cRtsD.pre [.rd, iv n] = (0 ≤ n ∧ n ≤ 5) := by
  apply propext
  simp [cRtsD]
theorem rtsD_post (args : List AV) (K : AV → Prop) : (∀ r, cRtsD.post args r → K r) = (∀ l : List Rt, (l.length ≤ 5 ∧ ∀ x ∈ l, okRt x) → K (.sl none (rrows l))) := by
  apply propext
  exact ⟨fun h p hp => h _ ⟨p, hp, rfl⟩, fun h r ⟨p, hp, e⟩ => e ▸ h p hp⟩
theorem rtsD_ex (args : List AV) : (∃ r, cRtsD.post args r) = True := eq_true ⟨_, [], by simp, rfl⟩
attribute [go_sem] rtsD_pre rtsD_post rtsD_ex
end Go.Proofs.W
end
section
namespace Go.Proofs.W
open Go Go.Eng Go.RowKit
set_option linter.unusedSimpArgs false
set_option maxRecDepth 100000

/-! laws' drawn inputs -/
def cDPD : Con := { pre := codeArg, post := fun _ r => ∃ (l : List Cl) (x : Rt), l.length ≤ 4 ∧ okRt x ∧ r = .tup [.sl none (crows l), x.av] }
theorem cDPD_own : cDPD.own = false := rfl
theorem cDPD_draws : cDPD.draws = false := rfl
theorem cDPD_cost : cDPD.cost = 0 := rfl
attribute [go_sem] cDPD_own cDPD_draws cDPD_cost
theorem dpd_pre (bs : List Nat) (h : ∀ b ∈ bs, b < 256) : cDPD.pre [.sl none (byteRows bs)] := ⟨bs, h, rfl⟩
theorem dpd_post (args : List AV) (K : AV → Prop) : (∀ r, cDPD.post args r → K r) = (∀ (l : List Cl) (x : Rt), l.length ≤ 4 → okRt x → K (.tup [.sl none (crows l), x.av])) := by
  apply propext
  exact ⟨fun h x n h1 h2 => h _ ⟨x, n, h1, h2, rfl⟩, fun h r ⟨x, n, h1, h2, e⟩ => e ▸ h x n h1 h2⟩
attribute [go_sem] dpd_post
def cDPA : Con := { pre := codeArg, post := fun _ r => ∃ (l : List Cl) (x : List Rt), l.length ≤ 4 ∧ (x.length ≤ 5 ∧ ∀ y ∈ x, okRt y) ∧ r = .tup [.sl none (crows l), .sl none (rrows x)] }
theorem cDPA_own : cDPA.own = false := rfl
theorem cDPA_draws : cDPA.draws = false := rfl
theorem cDPA_cost : cDPA.cost = 0 := rfl
attribute [go_sem] cDPA_own cDPA_draws cDPA_cost
theorem dpa_pre (bs : List Nat) (h : ∀ b ∈ bs, b < 256) : cDPA.pre [.sl none (byteRows bs)] := ⟨bs, h, rfl⟩
theorem dpa_post (args : List AV) (K : AV → Prop) : (∀ r, cDPA.post args r → K r) = (∀ (l : List Cl) (x : List Rt), l.length ≤ 4 → (x.length ≤ 5 ∧ ∀ y ∈ x, okRt y) → K (.tup [.sl none (crows l), .sl none (rrows x)])) := by
  apply propext
  exact ⟨fun h x n h1 h2 => h _ ⟨x, n, h1, h2, rfl⟩, fun h r ⟨x, n, h1, h2, e⟩ => e ▸ h x n h1 h2⟩
attribute [go_sem] dpa_post
/-! spec's side -/
def gHas1 : List AV → Option (Prop × AV) | [.agg [.v (.int .i64 f), .v (.int .i64 b)], .v (.int .i64 a)] => some (rngOk f b = true ∧ 0 ≤ a ∧ a ≤ 255, bv (rHas f b a)) | _ => none
def dHas1 : DFn := { g := gHas1 }
def gIn1 : List AV → Option (Prop × AV) | [.agg [.v (.int .i64 f), .v (.int .i64 b)], .agg [.v (.int .i64 f'), .v (.int .i64 b')]] => some (rngOk f b = true ∧ rngOk f' b' = true, bv (rIn f b f' b')) | _ => none
def dIn1 : DFn := { g := gIn1 }
attribute [go_sem] gHas1 dHas1 gIn1 dIn1
theorem rngOk_parts {f b : Int} (h : rngOk f b = true) : (0 ≤ b ∧ b ≤ 8) ∧ (0 ≤ f ∧ f ≤ 255) ∧ f.tmod (szR b) = 0 := by
  simp only [rngOk, Bool.and_eq_true, decide_eq_true_eq] at h
  exact ⟨⟨h.1, h.2.1⟩, h.2.2.1, h.2.2.2⟩
def gFits : List AV → Option (Prop × AV)
  | [.agg [.v (.int .i64 ci), .v (.int .i64 n), .v (.int .i64 f), .v (.int .i64 b), .v (.bool ref), .v (.int .i64 like), .v (.int .i64 mark), .v (.int .i64 clear)], .agg [.v (.int .i64 rf), .v (.int .i64 rb), .sl _ e1, .v (.int .i64 rk), .sl _ e2]] => (match intsL e1, intsL e2 with
    | some p, some m => some ((clOk ⟨ci, n, f, b, ref, like, mark, clear⟩ = true ∧ okR ⟨rf, rb, p, rk, m⟩ = true) ∧ p.length ≤ 1000000 ∧ m.length ≤ 1000000, bv (fitsB ⟨ci, n, f, b, ref, like, mark, clear⟩ ⟨rf, rb, p, rk, m⟩))
    | _, _ => none)
  | _ => none
def dFits : DFn := { g := gFits }
def gClOk : List AV → Option (Prop × AV) | [.agg [.v (.int .i64 ci), .v (.int .i64 n), .v (.int .i64 f), .v (.int .i64 b), .v (.bool ref), .v (.int .i64 like), .v (.int .i64 mark), .v (.int .i64 clear)]] => some (True, bv (clOk ⟨ci, n, f, b, ref, like, mark, clear⟩)) | _ => none
def dClOk : DFn := { g := gClOk }
attribute [go_sem] gFits dFits gClOk dClOk
theorem beqI (a b : Int) : (a == b) = decide (a = b) := rfl
theorem sClOk_ok : Fine Tryd.prog 55 dClOk.con := by
  refine fine_det (T := TT) Tryd.func55 rfl Tryd.ntmps55 (by rw [Tryd.results55]) rfl rfl tt (gs_nil) (ds_cons in_ok (ds_cons sRangeOk_ok (ds_cons sIsH_ok ds_nil))) ?_
  intro args c r h hc
  simp only [dClOk, gClOk] at h
  split at h
  rotate_left
  · cases h
  obtain ⟨rfl, rfl⟩ := Prod.mk.inj (Option.some.inj h)
  refine ⟨by simp, fun k E hE Q hQ => ?_⟩
  rename_i ci n f b ref like mark clear
  have hH : ∀ x, (decide (1 ≤ x) && decide (x ≤ 9)) = isM x := fun _ => rfl
  refine Aw_st hE [1] [1] fun K hK => ?_
  simp only [go_sem, reduceIte, Nat.reduceLT, Nat.reduceLeDiff, Nat.reduceEqDiff, Nat.reduceAdd, Nat.reduceMul, Nat.reduceSub, Nat.reduceBEq, Int.reduceToNat, List.reduceReplicate, reduceCtorEq]
  repeat (refine And.intro (by first | omega | (and_intros <;> first | omega | exact rows_row _ | decide | (simp; done) | (simp; omega)) | fail) ?_)
  refine hK _ ?_; clear hK K
  refine Aw_sq fun B1 hB1 hR1 hX1 => ?_
  refine Aw_st hE [1, 18] [1] fun K hK => ?_
  simp only [go_sem, reduceIte, Nat.reduceLT, Nat.reduceLeDiff, Nat.reduceEqDiff, Nat.reduceAdd, Nat.reduceMul, Nat.reduceSub, Nat.reduceBEq, Int.reduceToNat, List.reduceReplicate, reduceCtorEq]
  repeat (refine And.intro (by first | omega | (and_intros <;> first | omega | exact rows_row _ | decide | (simp; done) | (simp; omega)) | fail) ?_)
  refine ⟨fun hg3 => ?_, fun hg3 => ?_⟩
  · repeat (refine And.intro (by first | omega | (and_intros <;> first | omega | exact rows_row _ | decide | (simp; done) | (simp; omega)) | fail) ?_)
    refine hK _ (Aw_yes rfl ?_)
    refine Aw_st hE [2] [] fun K hK => ?_
    simp only [go_sem, reduceIte, Nat.reduceLT, Nat.reduceLeDiff, Nat.reduceEqDiff, Nat.reduceAdd, Nat.reduceMul, Nat.reduceSub, Nat.reduceBEq, Int.reduceToNat, List.reduceReplicate, reduceCtorEq]
    repeat (refine And.intro (by first | omega | (and_intros <;> first | omega | exact rows_row _ | decide | (simp; done) | (simp; omega)) | fail) ?_)
    refine hK _ (Aw_ret (hR1 _ (hQ _ ?_)))
    simp only [go_sem, reduceIte, Nat.reduceLT, Nat.reduceLeDiff, Nat.reduceEqDiff, Nat.reduceAdd, Nat.reduceMul, Nat.reduceSub, Nat.reduceBEq, Int.reduceToNat, List.reduceReplicate, reduceCtorEq]
    simp_all [clOk]
    all_goals (intros; omega)
  · repeat (refine And.intro (by first | omega | (and_intros <;> first | omega | exact rows_row _ | decide | (simp; done) | (simp; omega)) | fail) ?_)
    refine ⟨fun hg4 => ?_, fun hg4 => ?_⟩
    · repeat (refine And.intro (by first | omega | (and_intros <;> first | omega | exact rows_row _ | decide | (simp; done) | (simp; omega)) | fail) ?_)
      refine hK _ (Aw_yes rfl ?_)
      refine Aw_st hE [2] [] fun K hK => ?_
      simp only [go_sem, reduceIte, Nat.reduceLT, Nat.reduceLeDiff, Nat.reduceEqDiff, Nat.reduceAdd, Nat.reduceMul, Nat.reduceSub, Nat.reduceBEq, Int.reduceToNat, List.reduceReplicate, reduceCtorEq]
      repeat (refine And.intro (by first | omega | (and_intros <;> first | omega | exact rows_row _ | decide | (simp; done) | (simp; omega)) | fail) ?_)
      refine hK _ (Aw_ret (hR1 _ (hQ _ ?_)))
      simp only [go_sem, reduceIte, Nat.reduceLT, Nat.reduceLeDiff, Nat.reduceEqDiff, Nat.reduceAdd, Nat.reduceMul, Nat.reduceSub, Nat.reduceBEq, Int.reduceToNat, List.reduceReplicate, reduceCtorEq]
      simp_all [clOk]
      all_goals (intros; omega)
    · repeat (refine And.intro (by first | omega | (and_intros <;> first | omega | exact rows_row _ | decide | (simp; done) | (simp; omega)) | fail) ?_)
      refine hK _ (Aw_cond rfl (fun hc5 => ?_) (fun hc5 => ?_))
      · refine Aw_st hE [2] [] fun K hK => ?_
        simp only [go_sem, reduceIte, Nat.reduceLT, Nat.reduceLeDiff, Nat.reduceEqDiff, Nat.reduceAdd, Nat.reduceMul, Nat.reduceSub, Nat.reduceBEq, Int.reduceToNat, List.reduceReplicate, reduceCtorEq]
        repeat (refine And.intro (by first | omega | (and_intros <;> first | omega | exact rows_row _ | decide | (simp; done) | (simp; omega)) | fail) ?_)
        refine hK _ (Aw_ret (hR1 _ (hQ _ ?_)))
        simp only [go_sem, reduceIte, Nat.reduceLT, Nat.reduceLeDiff, Nat.reduceEqDiff, Nat.reduceAdd, Nat.reduceMul, Nat.reduceSub, Nat.reduceBEq, Int.reduceToNat, List.reduceReplicate, reduceCtorEq]
        simp_all [clOk]
        all_goals (intros; omega)
      · simp only [Bool.not_eq_false', Bool.and_eq_true, decide_eq_true_eq] at hg3 hg4 hc5
        refine Aw_skip (hB1 _ ?_)
        refine Aw_sq fun B6 hB6 hR6 hX6 => ?_
        refine Aw_st hE [1, 20] [1] fun K hK => ?_
        simp only [go_sem, reduceIte, Nat.reduceLT, Nat.reduceLeDiff, Nat.reduceEqDiff, Nat.reduceAdd, Nat.reduceMul, Nat.reduceSub, Nat.reduceBEq, Int.reduceToNat, List.reduceReplicate, reduceCtorEq]
        repeat (refine And.intro (by first | omega | (and_intros <;> first | omega | exact rows_row _ | decide | (simp; done) | (simp; omega)) | fail) ?_)
        refine hK _ ?_; clear hK K
        refine Aw_bk fun B7 hN7 hE7 hR7 hX7 => ?_
        refine Aw_st hE [1, 20, 21] [1] fun K hK => ?_
        simp only [go_sem, reduceIte, Nat.reduceLT, Nat.reduceLeDiff, Nat.reduceEqDiff, Nat.reduceAdd, Nat.reduceMul, Nat.reduceSub, Nat.reduceBEq, Int.reduceToNat, List.reduceReplicate, reduceCtorEq]
        repeat (refine And.intro (by first | omega | (and_intros <;> first | omega | exact rows_row _ | decide | (simp; done) | (simp; omega)) | fail) ?_)
        refine hK _ (Aw_cond rfl (fun hc8 => ?_) (fun hc8 => ?_))
        · simp only [decide_eq_true_eq] at hc8
          refine Aw_st hE [2] [] fun K hK => ?_
          simp only [go_sem, reduceIte, Nat.reduceLT, Nat.reduceLeDiff, Nat.reduceEqDiff, Nat.reduceAdd, Nat.reduceMul, Nat.reduceSub, Nat.reduceBEq, Int.reduceToNat, List.reduceReplicate, reduceCtorEq]
          repeat (refine And.intro (by first | omega | (and_intros <;> first | omega | exact rows_row _ | decide | (simp; done) | (simp; omega)) | fail) ?_)
          refine ⟨fun h1 => ?_, fun h1 => ?_⟩
          all_goals
            refine hK _ (Aw_ret (hR7 _ (hR6 _ (hQ _ ?_))))
            simp only [go_sem, reduceIte, Nat.reduceLT, Nat.reduceLeDiff, Nat.reduceEqDiff, Nat.reduceAdd, Nat.reduceMul, Nat.reduceSub, Nat.reduceBEq, Int.reduceToNat, List.reduceReplicate, reduceCtorEq]
            simp [clOk, subOk, hg3, hg4, hc5, beqI, hc8, h1]
        · simp only [decide_eq_false_iff_not] at hc8
          refine Aw_st hE [1, 20, 32] [1] fun K hK => ?_
          simp only [go_sem, reduceIte, Nat.reduceLT, Nat.reduceLeDiff, Nat.reduceEqDiff, Nat.reduceAdd, Nat.reduceMul, Nat.reduceSub, Nat.reduceBEq, Int.reduceToNat, List.reduceReplicate, reduceCtorEq]
          repeat (refine And.intro (by first | omega | (and_intros <;> first | omega | exact rows_row _ | decide | (simp; done) | (simp; omega)) | fail) ?_)
          refine hK _ (Aw_cond rfl (fun hc9 => ?_) (fun hc9 => ?_))
          · simp only [decide_eq_true_eq] at hc9
            refine Aw_st hE [2] [] fun K hK => ?_
            simp only [go_sem, reduceIte, Nat.reduceLT, Nat.reduceLeDiff, Nat.reduceEqDiff, Nat.reduceAdd, Nat.reduceMul, Nat.reduceSub, Nat.reduceBEq, Int.reduceToNat, List.reduceReplicate, reduceCtorEq]
            repeat (refine And.intro (by first | omega | (and_intros <;> first | omega | exact rows_row _ | decide | (simp; done) | (simp; omega)) | fail) ?_)
            refine ⟨fun h1 => ?_, fun h1 => ?_⟩
            all_goals
              refine hK _ (Aw_ret (hR7 _ (hR6 _ (hQ _ ?_))))
              simp only [go_sem, reduceIte, Nat.reduceLT, Nat.reduceLeDiff, Nat.reduceEqDiff, Nat.reduceAdd, Nat.reduceMul, Nat.reduceSub, Nat.reduceBEq, Int.reduceToNat, List.reduceReplicate, reduceCtorEq]
              simp [clOk, subOk, hg3, hg4, hc5, beqI, hc9, h1]
          · simp only [decide_eq_false_iff_not] at hc9
            refine Aw_st hE [1, 20, 42] [1] fun K hK => ?_
            simp only [go_sem, reduceIte, Nat.reduceLT, Nat.reduceLeDiff, Nat.reduceEqDiff, Nat.reduceAdd, Nat.reduceMul, Nat.reduceSub, Nat.reduceBEq, Int.reduceToNat, List.reduceReplicate, reduceCtorEq]
            repeat (refine And.intro (by first | omega | (and_intros <;> first | omega | exact rows_row _ | decide | (simp; done) | (simp; omega)) | fail) ?_)
            refine hK _ (Aw_cond rfl (fun hc10 => ?_) (fun hc10 => ?_))
            · simp only [decide_eq_true_eq] at hc10
              refine Aw_st hE [2] [] fun K hK => ?_
              simp only [go_sem, reduceIte, Nat.reduceLT, Nat.reduceLeDiff, Nat.reduceEqDiff, Nat.reduceAdd, Nat.reduceMul, Nat.reduceSub, Nat.reduceBEq, Int.reduceToNat, List.reduceReplicate, reduceCtorEq]
              repeat (refine And.intro (by first | omega | (and_intros <;> first | omega | exact rows_row _ | decide | (simp; done) | (simp; omega)) | fail) ?_)
              refine ⟨fun h1 => ?_, fun h1 => ?_⟩
              all_goals
                refine hK _ (Aw_ret (hR7 _ (hR6 _ (hQ _ ?_))))
                simp only [go_sem, reduceIte, Nat.reduceLT, Nat.reduceLeDiff, Nat.reduceEqDiff, Nat.reduceAdd, Nat.reduceMul, Nat.reduceSub, Nat.reduceBEq, Int.reduceToNat, List.reduceReplicate, reduceCtorEq]
                rw [hH] at h1
                simp [clOk, subOk, hg3, hg4, hc5, beqI, hc10, h1]
            · simp only [decide_eq_false_iff_not] at hc10
              refine Aw_sq fun B11 hB11 hR11 hX11 => ?_
              refine Aw_st hE [1, 20, 53] [1] fun K hK => ?_
              simp only [go_sem, reduceIte, Nat.reduceLT, Nat.reduceLeDiff, Nat.reduceEqDiff, Nat.reduceAdd, Nat.reduceMul, Nat.reduceSub, Nat.reduceBEq, Int.reduceToNat, List.reduceReplicate, reduceCtorEq]
              repeat (refine And.intro (by first | omega | (and_intros <;> first | omega | exact rows_row _ | decide | (simp; done) | (simp; omega)) | fail) ?_)
              refine hK _ (Aw_cond rfl (fun hc12 => ?_) (fun hc12 => ?_))
              · simp only [decide_eq_true_eq] at hc12
                refine Aw_skip (hB11 _ ?_)
                refine Aw_cond rfl (fun hc13 => ?_) (fun hc13 => ?_)
                · refine Aw_st hE [2] [] fun K hK => ?_
                  simp only [go_sem, reduceIte, Nat.reduceLT, Nat.reduceLeDiff, Nat.reduceEqDiff, Nat.reduceAdd, Nat.reduceMul, Nat.reduceSub, Nat.reduceBEq, Int.reduceToNat, List.reduceReplicate, reduceCtorEq]
                  repeat (refine And.intro (by first | omega | (and_intros <;> first | omega | exact rows_row _ | decide | (simp; done) | (simp; omega)) | fail) ?_)
                  refine ⟨fun h1 => ?_, fun h1 => ?_⟩
                  all_goals
                    refine hK _ (Aw_ret (hR7 _ (hR6 _ (hQ _ ?_))))
                    simp only [go_sem, reduceIte, Nat.reduceLT, Nat.reduceLeDiff, Nat.reduceEqDiff, Nat.reduceAdd, Nat.reduceMul, Nat.reduceSub, Nat.reduceBEq, Int.reduceToNat, List.reduceReplicate, reduceCtorEq]
                    simp [clOk, subOk, hg3, hg4, hc5, beqI, hc8, hc9, hc10, hc12, h1]
                · refine Aw_skip (hN7 _ (hB6 _ ?_))
                  refine Aw_st hE [2] [] fun K hK => ?_
                  simp only [go_sem, reduceIte, Nat.reduceLT, Nat.reduceLeDiff, Nat.reduceEqDiff, Nat.reduceAdd, Nat.reduceMul, Nat.reduceSub, Nat.reduceBEq, Int.reduceToNat, List.reduceReplicate, reduceCtorEq]
                  repeat (refine And.intro (by first | omega | (and_intros <;> first | omega | exact rows_row _ | decide | (simp; done) | (simp; omega)) | fail) ?_)
                  refine hK _ (Aw_ret (hQ _ ?_))
                  simp only [go_sem, reduceIte, Nat.reduceLT, Nat.reduceLeDiff, Nat.reduceEqDiff, Nat.reduceAdd, Nat.reduceMul, Nat.reduceSub, Nat.reduceBEq, Int.reduceToNat, List.reduceReplicate, reduceCtorEq]
                  simp only [decide_eq_false_iff_not] at hc13
                  exact absurd hc12 hc13
              · simp only [decide_eq_false_iff_not] at hc12
                refine Aw_tx hE [1, 53] [1] fun K hK => ?_
                simp only [go_sem, reduceIte, Nat.reduceLT, Nat.reduceLeDiff, Nat.reduceEqDiff, Nat.reduceAdd, Nat.reduceMul, Nat.reduceSub, Nat.reduceBEq, Int.reduceToNat, List.reduceReplicate, reduceCtorEq]
                repeat (refine And.intro (by first | omega | (and_intros <;> first | omega | exact rows_row _ | decide | (simp; done) | (simp; omega)) | fail) ?_)
                refine hK _ (hB11 _ ?_)
                refine Aw_cond rfl (fun hc14 => ?_) (fun hc14 => ?_)
                · refine Aw_st hE [2] [] fun K hK => ?_
                  simp only [go_sem, reduceIte, Nat.reduceLT, Nat.reduceLeDiff, Nat.reduceEqDiff, Nat.reduceAdd, Nat.reduceMul, Nat.reduceSub, Nat.reduceBEq, Int.reduceToNat, List.reduceReplicate, reduceCtorEq]
                  repeat (refine And.intro (by first | omega | (and_intros <;> first | omega | exact rows_row _ | decide | (simp; done) | (simp; omega)) | fail) ?_)
                  refine ⟨fun h1 => ?_, fun h1 => ?_⟩
                  all_goals
                    refine hK _ (Aw_ret (hR7 _ (hR6 _ (hQ _ ?_))))
                    simp only [go_sem, reduceIte, Nat.reduceLT, Nat.reduceLeDiff, Nat.reduceEqDiff, Nat.reduceAdd, Nat.reduceMul, Nat.reduceSub, Nat.reduceBEq, Int.reduceToNat, List.reduceReplicate, reduceCtorEq]
                    simp only [decide_eq_true_eq] at hc14
                    simp [clOk, subOk, hg3, hg4, hc5, beqI, hc14, h1]
                · refine Aw_skip (hN7 _ (hB6 _ ?_))
                  refine Aw_st hE [2] [] fun K hK => ?_
                  simp only [go_sem, reduceIte, Nat.reduceLT, Nat.reduceLeDiff, Nat.reduceEqDiff, Nat.reduceAdd, Nat.reduceMul, Nat.reduceSub, Nat.reduceBEq, Int.reduceToNat, List.reduceReplicate, reduceCtorEq]
                  repeat (refine And.intro (by first | omega | (and_intros <;> first | omega | exact rows_row _ | decide | (simp; done) | (simp; omega)) | fail) ?_)
                  refine hK _ (Aw_ret (hQ _ ?_))
                  simp only [go_sem, reduceIte, Nat.reduceLT, Nat.reduceLeDiff, Nat.reduceEqDiff, Nat.reduceAdd, Nat.reduceMul, Nat.reduceSub, Nat.reduceBEq, Int.reduceToNat, List.reduceReplicate, reduceCtorEq]
                  simp only [decide_eq_false_iff_not] at hc14
                  simp [clOk, subOk, hg3, hg4, hc5, hc8, hc9, hc10, hc12, hc14]

/-- clauses -/
def cl0 : Cl := ⟨0, 0, 0, 0, false, 0, 0, 0⟩
def rt0 : Rt := ⟨0, 0, [], 0, []⟩
def gPolOk : List AV → Option (Prop × AV) | [.sl _ els] => (match clsL els with | some l => some (l.length ≤ 1000000, bv (polOk l)) | none => none) | _ => none
def dPolOk : DFn := { g := gPolOk }
def resR : Option Rt → AV
  | some x => .tup [x.av, bv true]
  | none => .tup [rt0.av, bv false]
def gDo : List AV → Option (Prop × AV)
  | [.sl _ els, .agg [.v (.int .i64 rf), .v (.int .i64 rb), .sl _ e1, .v (.int .i64 rk), .sl _ e2]] => (match clsL els, intsL e1, intsL e2 with
    | some l, some p, some m => some (((∀ c ∈ l, clOk c = true) ∧ okR ⟨rf, rb, p, rk, m⟩ = true) ∧ l.length ≤ 1000000 ∧ p.length ≤ 1000000 ∧ m.length ≤ 1000, resR (polDo l ⟨rf, rb, p, rk, m⟩))
    | _, _, _ => none)
  | _ => none
def dDo : DFn := { g := gDo }
def gPDo : List AV → Option (Prop × AV)
  | [.sl _ els, .agg [.v (.int .i64 rf), .v (.int .i64 rb), .sl _ e1, .v (.int .i64 rk), .sl _ e2]] => (match clsL els, intsL e1, intsL e2 with
    | some l, some p, some m => some (l.length ≤ 1000000 ∧ p.length ≤ 1000000 ∧ m.length ≤ 1000, resR (policyDo l ⟨rf, rb, p, rk, m⟩))
    | _, _, _ => none)
  | _ => none
def dPDo : DFn := { g := gPDo }
attribute [go_sem] gPolOk dPolOk gDo dDo gPDo dPDo

theorem all_take {l : List Cl} {i : Nat} (h : i < l.length) (f : Cl → Bool) : (l.take (i + 1)).all f = ((l.take i).all f && f l[i]) := by
  rw [List.take_succ_eq_append_getElem h, List.all_append]
  simp only [List.all_cons, List.all_nil, Bool.and_true]
theorem all_stop {l : List Cl} {i : Nat} (h : i < l.length) {f : Cl → Bool} (hf : f l[i] = false) : l.all f = false := by
  rw [List.all_eq_false]
  exact ⟨l[i], List.getElem_mem h, by simp [hf]⟩
theorem sPolOk_ok : Fine Tryd.prog 38 dPolOk.con := by
  refine fine_det (T := TT) Tryd.func38 rfl Tryd.ntmps38 (by rw [Tryd.results38]) rfl rfl tt (gs_nil) (ds_cons sClOk_ok ds_nil) ?_
  intro args c r h hc
  simp only [dPolOk, gPolOk] at h
  split at h
  rotate_left
  · cases h
  split at h
  rotate_left
  · cases h
  rename_i t els _ l hcl
  obtain rfl := clsL_eq hcl
  obtain ⟨rfl, rfl⟩ := Prod.mk.inj (Option.some.inj h)
  refine ⟨by simp, fun k E hE Q hQ => ?_⟩
  refine Aw_st hE [0] [] fun K hK => ?_
  simp only [go_sem, reduceIte, Nat.reduceLT, Nat.reduceLeDiff, Nat.reduceEqDiff, Nat.reduceAdd, Nat.reduceMul, Nat.reduceSub, Nat.reduceBEq, Int.reduceToNat, List.reduceReplicate, reduceCtorEq]
  repeat (refine And.intro (by first | omega | (and_intros <;> first | omega | exact rows_row _ | decide | (simp; done) | (simp; omega)) | fail) ?_)
  refine hK _ ?_; clear hK K
  refine Aw_sq fun B1 hB1 hR1 hX1 => ?_
  refine Aw_st hE [0, 3] [] fun K hK => ?_
  simp only [go_sem, reduceIte, Nat.reduceLT, Nat.reduceLeDiff, Nat.reduceEqDiff, Nat.reduceAdd, Nat.reduceMul, Nat.reduceSub, Nat.reduceBEq, Int.reduceToNat, List.reduceReplicate, reduceCtorEq]
  repeat (refine And.intro (by first | omega | (and_intros <;> first | omega | exact rows_row _ | decide | (simp; done) | (simp; omega)) | fail) ?_)
  refine hK _ ?_; clear hK K
  refine Aw_bk fun B2 hN2 hE2 hR2 hX2 => ?_
  refine Aw_lp (fun i : Nat => ⟨19, [(0, .sl t (crows l)), (3, iv i)], [], k⟩) (fun i : Nat => i ≤ l.length ∧ (l.take i).all clOk = true) (fun i : Nat => l.length - i) (0) (Le.refl _) (⟨by omega, by simp⟩) fun i hi B3 hN3 hR3 hX3 => ?_
  refine Aw_sq fun B4 hB4 hR4 hX4 => ?_
  refine Aw_st hE [0, 3, 7] [] fun K hK => ?_
  simp only [go_sem, reduceIte, Nat.reduceLT, Nat.reduceLeDiff, Nat.reduceEqDiff, Nat.reduceAdd, Nat.reduceMul, Nat.reduceSub, Nat.reduceBEq, Int.reduceToNat, List.reduceReplicate, reduceCtorEq]
  repeat (refine And.intro (by first | omega | (and_intros <;> first | omega | exact rows_row _ | decide | (simp; done) | (simp; omega)) | fail) ?_)
  refine hK _ (Aw_cond rfl (fun hc5 => ?_) (fun hc5 => ?_))
  · simp only [decide_eq_true_eq] at hc5
    have hil : i < l.length := by omega
    have hs := all_take hil clOk
    refine Aw_skip (hB4 _ ?_)
    refine Aw_sq fun B6 hB6 hR6 hX6 => ?_
    refine Aw_bk fun B7 hN7 hE7 hR7 hX7 => ?_
    refine Aw_st hE [0, 3, 15] [] fun K hK => ?_
    simp only [go_sem, reduceIte, Nat.reduceLT, Nat.reduceLeDiff, Nat.reduceEqDiff, Nat.reduceAdd, Nat.reduceMul, Nat.reduceSub, Nat.reduceBEq, Int.reduceToNat, List.reduceReplicate, reduceCtorEq, crows_get l i hil]
    repeat (refine And.intro (by first | omega | (and_intros <;> first | omega | exact rows_row _ | decide | (simp; done) | (simp; omega)) | fail) ?_)
    refine hK _ (Aw_cond rfl (fun hc8 => ?_) (fun hc8 => ?_))
    · simp only [Bool.not_eq_true'] at hc8
      refine Aw_st hE [2] [] fun K hK => ?_
      simp only [go_sem, reduceIte, Nat.reduceLT, Nat.reduceLeDiff, Nat.reduceEqDiff, Nat.reduceAdd, Nat.reduceMul, Nat.reduceSub, Nat.reduceBEq, Int.reduceToNat, List.reduceReplicate, reduceCtorEq]
      repeat (refine And.intro (by first | omega | (and_intros <;> first | omega | exact rows_row _ | decide | (simp; done) | (simp; omega)) | fail) ?_)
      refine hK _ (Aw_ret (hR7 _ (hR6 _ (hR3 _ (hR2 _ (hR1 _ (hQ _ ?_)))))))
      simp only [go_sem, reduceIte, Nat.reduceLT, Nat.reduceLeDiff, Nat.reduceEqDiff, Nat.reduceAdd, Nat.reduceMul, Nat.reduceSub, Nat.reduceBEq, Int.reduceToNat, List.reduceReplicate, reduceCtorEq]
      rw [polOk, all_stop hil hc8, Bool.and_false]
    · simp only [Bool.not_eq_false'] at hc8
      rw [hi.2, hc8] at hs
      refine Aw_skip (hN7 _ (hB6 _ ?_))
      refine Aw_tx hE [0, 3] [] fun K hK => ?_
      simp only [go_sem, reduceIte, Nat.reduceLT, Nat.reduceLeDiff, Nat.reduceEqDiff, Nat.reduceAdd, Nat.reduceMul, Nat.reduceSub, Nat.reduceBEq, Int.reduceToNat, List.reduceReplicate, reduceCtorEq]
      repeat (refine And.intro (by first | omega | (and_intros <;> first | omega | exact rows_row _ | decide | (simp; done) | (simp; omega)) | fail) ?_)
      refine hK _ (hN3 (i + 1) _ (⟨by omega, hs⟩) (by omega) (Le.refl _))
  · simp only [decide_eq_false_iff_not] at hc5
    refine Aw_exit (hX4 _ _ (hX3 _ _ (hE2 _ (hB1 _ ?_))))
    refine Aw_st hE [2] [] fun K hK => ?_
    simp only [go_sem, reduceIte, Nat.reduceLT, Nat.reduceLeDiff, Nat.reduceEqDiff, Nat.reduceAdd, Nat.reduceMul, Nat.reduceSub, Nat.reduceBEq, Int.reduceToNat, List.reduceReplicate, reduceCtorEq]
    repeat (refine And.intro (by first | omega | (and_intros <;> first | omega | exact rows_row _ | decide | (simp; done) | (simp; omega)) | fail) ?_)
    refine hK _ (Aw_ret (hQ _ ?_))
    simp only [go_sem, reduceIte, Nat.reduceLT, Nat.reduceLeDiff, Nat.reduceEqDiff, Nat.reduceAdd, Nat.reduceMul, Nat.reduceSub, Nat.reduceBEq, Int.reduceToNat, List.reduceReplicate, reduceCtorEq]
    have e := hi.2
    rw [List.take_of_length_le (by omega)] at e
    rw [polOk, e, Bool.and_true]
    congr 1
    exact propext (by omega)
end Go.Proofs.W
end
section
namespace Go.Proofs.W
open Go Go.Eng Go.RowKit
set_option linter.unusedSimpArgs false
set_option maxRecDepth 100000

theorem polDo_drop {l : List Cl} {i : Nat} (h : i < l.length) (r : Rt) : polDo (l.drop i) r = if fitsB l[i] r then (if l[i].ref then none else some (doC l[i] r)) else polDo (l.drop (i + 1)) r := by
  rw [List.drop_eq_getElem_cons h, polDo]
/-- routes, one by one -/
def gPAll : List AV → Option (Prop × AV)
  | [.sl _ e1, .sl _ e2] => (match clsL e1, rtsL e2 with
    | some l, some rs => some ((l.length ≤ 1000000 ∧ rs.length ≤ 1000000) ∧ ∀ r ∈ rs, r.path.length ≤ 1000000 ∧ r.marks.length ≤ 1000, .sl none (rrows (polAll l rs)))
    | _, _ => none)
  | _ => none
def dPAll : DFn := { g := gPAll }
attribute [go_sem] gPAll dPAll
theorem rall_take {l : List Rt} {i : Nat} (h : i < l.length) (f : Rt → Bool) : (l.take (i + 1)).all f = ((l.take i).all f && f l[i]) := by
  rw [List.take_succ_eq_append_getElem h, List.all_append]
  simp only [List.all_cons, List.all_nil, Bool.and_true]
theorem rall_stop {l : List Rt} {i : Nat} (h : i < l.length) {f : Rt → Bool} (hf : f l[i] = false) : l.all f = false := by
  rw [List.all_eq_false]
  exact ⟨l[i], List.getElem_mem h, by simp [hf]⟩
theorem fm_take {l : List Rt} {i : Nat} (h : i < l.length) (g : Rt → Option Rt) : (l.take (i + 1)).filterMap g = (l.take i).filterMap g ++ (g l[i]).toList := by
  rw [List.take_succ_eq_append_getElem h, List.filterMap_append, List.filterMap_cons, List.filterMap_nil]
  cases g l[i] <;> rfl
theorem resR_ex (x : Option Rt) : ∃ f b p k m z, resR x = .tup [.agg [iv f, iv b, isl p, iv k, isl m], bv z] ∧ (z = true → x = some ⟨f, b, p, k, m⟩) ∧ (z = false → x = none ∧ f = 0 ∧ b = 0 ∧ p = [] ∧ k = 0 ∧ m = []) := by
  cases x with
  | none => exact ⟨0, 0, [], 0, [], false, rfl, by simp, by simp⟩
  | some x => exact ⟨x.f, x.b, x.path, x.like, x.marks, true, rfl, by simp, by simp⟩
end Go.Proofs.W
end
section
namespace Go.Proofs.W
open Go Go.Eng Go.RowKit
set_option linter.unusedSimpArgs false
set_option maxRecDepth 100000

/-! copies as data -/
def gCloneD : List AV → Option (Prop × AV) | [.sl _ els] => (match intsL els with | some l => some (l.length ≤ 1000000, isl l) | none => none) | _ => none
def dCloneD : DFn := { g := gCloneD }
attribute [go_sem] gCloneD dCloneD
theorem cloneD_ok : Fine Tryd.prog 46 dCloneD.con := by
  refine fine_det (T := TT) Tryd.func46 rfl Tryd.ntmps46 (by rw [Tryd.results46]) rfl rfl tt (gs_nil) (ds_nil) ?_
  intro args c r h hc
  simp only [dCloneD, gCloneD] at h
  split at h
  rotate_left
  · cases h
  split at h
  rotate_left
  · cases h
  rename_i t els _ l hl
  obtain rfl := intsL_eq hl
  obtain ⟨rfl, rfl⟩ := Prod.mk.inj (Option.some.inj h)
  refine ⟨by simp, fun k E hE Q hQ => ?_⟩
  refine Aw_st hE [0] [] fun K hK => ?_
  simp only [go_sem, reduceIte, Nat.reduceLT, Nat.reduceLeDiff, Nat.reduceEqDiff, Nat.reduceAdd, Nat.reduceMul, Nat.reduceSub, Nat.reduceBEq, Int.reduceToNat, List.reduceReplicate, reduceCtorEq]
  repeat (refine And.intro (by first | omega | (and_intros <;> first | omega | exact rows_row _ | decide | (simp; done) | (simp; omega)) | fail) ?_)
  refine hK _ ?_; clear hK K
  refine Aw_sq fun B1 hB1 hR1 hX1 => ?_
  refine Aw_st hE [0, 4] [] fun K hK => ?_
  simp only [go_sem, reduceIte, Nat.reduceLT, Nat.reduceLeDiff, Nat.reduceEqDiff, Nat.reduceAdd, Nat.reduceMul, Nat.reduceSub, Nat.reduceBEq, Int.reduceToNat, List.reduceReplicate, reduceCtorEq]
  repeat (refine And.intro (by first | omega | (and_intros <;> first | omega | exact rows_row _ | decide | (simp; done) | (simp; omega)) | fail) ?_)
  rintro b _ hb rfl
  refine hK _ (Aw_cond rfl (fun hc2 => ?_) (fun hc2 => ?_))
  · refine Aw_st hE [2] [] fun K hK => ?_
    simp only [go_sem, reduceIte, Nat.reduceLT, Nat.reduceLeDiff, Nat.reduceEqDiff, Nat.reduceAdd, Nat.reduceMul, Nat.reduceSub, Nat.reduceBEq, Int.reduceToNat, List.reduceReplicate, reduceCtorEq]
    repeat (refine And.intro (by first | omega | (and_intros <;> first | omega | exact rows_row _ | decide | (simp; done) | (simp; omega)) | fail) ?_)
    refine hK _ (Aw_ret (hR1 _ (hQ _ ?_)))
    simp only [go_sem, reduceIte, Nat.reduceLT, Nat.reduceLeDiff, Nat.reduceEqDiff, Nat.reduceAdd, Nat.reduceMul, Nat.reduceSub, Nat.reduceBEq, Int.reduceToNat, List.reduceReplicate, reduceCtorEq]
    have : l = [] := by
      cases l with
      | nil => rfl
      | cons x l => have := hb (by simp [rows]); rw [this] at hc2; cases hc2
    rw [this]; rfl
  · refine Aw_skip (hB1 _ ?_)
    refine Aw_st hE [2] [] fun K hK => ?_
    simp only [go_sem, reduceIte, Nat.reduceLT, Nat.reduceLeDiff, Nat.reduceEqDiff, Nat.reduceAdd, Nat.reduceMul, Nat.reduceSub, Nat.reduceBEq, Int.reduceToNat, List.reduceReplicate, reduceCtorEq]
    repeat (refine And.intro (by first | omega | (and_intros <;> first | omega | exact rows_row _ | decide | (simp; done) | (simp; omega)) | fail) ?_)
    refine hK _ (Aw_ret (hQ _ ?_))
    simp only [go_sem, reduceIte, Nat.reduceLT, Nat.reduceLeDiff, Nat.reduceEqDiff, Nat.reduceAdd, Nat.reduceMul, Nat.reduceSub, Nat.reduceBEq, Int.reduceToNat, List.reduceReplicate, reduceCtorEq]
def gCopyD : List AV → Option (Prop × AV)
  | [.agg [.v (.int .i64 f), .v (.int .i64 b), .sl _ e1, .v (.int .i64 k), .sl _ e2]] => (match intsL e1, intsL e2 with
    | some p, some m => some (p.length ≤ 1000000 ∧ m.length ≤ 1000000, .agg [iv f, iv b, isl p, iv k, isl m])
    | _, _ => none)
  | _ => none
def dCopyD : DFn := { g := gCopyD }
attribute [go_sem] gCopyD dCopyD
theorem copyD_ok : Fine Tryd.prog 28 dCopyD.con := by
  refine fine_det (T := TT) Tryd.func28 rfl Tryd.ntmps28 (by rw [Tryd.results28]) rfl rfl tt gs_nil (ds_cons cloneD_ok ds_nil) ?_
  intro args c r h hc
  simp only [dCopyD, gCopyD] at h
  split at h
  rotate_left
  · cases h
  split at h
  rotate_left
  · cases h
  rename_i f b t1 e1 lk t2 e2 _ _ p m hl1 hl2
  obtain rfl := intsL_eq hl1
  obtain rfl := intsL_eq hl2
  obtain ⟨rfl, rfl⟩ := Prod.mk.inj (Option.some.inj h)
  refine ⟨by simp, fun k E hE Q hQ => ?_⟩
  refine Aw_st hE [1, 2] [1, 2] fun K hK => ?_
  simp only [go_sem, reduceIte, Nat.reduceLT, Nat.reduceLeDiff, Nat.reduceEqDiff, Nat.reduceAdd, Nat.reduceMul, Nat.reduceSub, Nat.reduceBEq, Int.reduceToNat, List.reduceReplicate, reduceCtorEq]
  refine hK _ ?_; clear hK K
  refine Aw_sd hE [1, 2] [1, 2] 6 (by kernel_rfl) fun K hK => ?_
  simp only [go_sem, reduceIte, Nat.reduceLT, Nat.reduceLeDiff, Nat.reduceEqDiff, Nat.reduceAdd, Nat.reduceMul, Nat.reduceSub, Nat.reduceBEq, Int.reduceToNat, List.reduceReplicate, reduceCtorEq]
  refine ⟨hc.1, hc.2, ?_⟩
  refine hK _ ?_; clear hK K
  refine Aw_st hE [2] [2] fun K hK => ?_
  simp only [go_sem, reduceIte, Nat.reduceLT, Nat.reduceLeDiff, Nat.reduceEqDiff, Nat.reduceAdd, Nat.reduceMul, Nat.reduceSub, Nat.reduceBEq, Int.reduceToNat, List.reduceReplicate, reduceCtorEq]
  refine hK _ (Aw_ret (hQ _ ?_))
  simp only [go_sem, reduceIte, Nat.reduceLT, Nat.reduceLeDiff, Nat.reduceEqDiff, Nat.reduceAdd, Nat.reduceMul, Nat.reduceSub, Nat.reduceBEq, Int.reduceToNat, List.reduceReplicate, reduceCtorEq]
end Go.Proofs.W
end
section
namespace Go.Proofs.W
open Go Go.Eng Go.RowKit
set_option linter.unusedSimpArgs false
set_option maxRecDepth 100000

/-! the program's side: what a clause asks -/
def idxB {α : Type} (f : α → Bool) : List α → Nat → Int
  | [], _ => -1
  | x :: l, k => if f x then k else idxB f l (k + 1)
theorem idxB_drop {α : Type} {f : α → Bool} {l : List α} {i : Nat} (h : i < l.length) : idxB f (l.drop i) i = if f l[i] then (i : Int) else idxB f (l.drop (i + 1)) (i + 1) := by
  rw [List.drop_eq_getElem_cons h, idxB]
theorem idxB_any {α : Type} {f : α → Bool} : ∀ (l : List α) (k : Nat), decide (0 ≤ idxB f l k) = l.any f
  | [], _ => rfl
  | x :: l, k => by
    rw [idxB, List.any_cons]
    cases hf : f x with
    | true =>
      rw [if_pos rfl, Bool.true_or]
      exact decide_eq_true (by omega)
    | false =>
      rw [if_neg (by simp), Bool.false_or]
      exact idxB_any l (k + 1)
theorem idxB_some {α : Type} {f : α → Bool} : ∀ {l : List α} {k : Nat}, (idxB f l k = -1 ∧ ∀ x ∈ l, f x = false) ∨ ∃ i, ∃ h : i < l.length, idxB f l k = (k + i : Nat) ∧ f l[i] = true ∧ ∀ x ∈ l.take i, f x = false
  | [], _ => .inl ⟨rfl, by simp⟩
  | x :: l, k => by
    rw [idxB]
    cases hf : f x with
    | true => exact .inr ⟨0, by simp, by simp, by simpa using hf, by simp⟩
    | false =>
      rw [if_neg (by simp)]
      rcases idxB_some (f := f) (l := l) (k := k + 1) with ⟨h1, h2⟩ | ⟨i, h, h1, h2, h3⟩
      · exact .inl ⟨h1, fun y hy => (List.mem_cons.1 hy).elim (fun e => e ▸ hf) (h2 y)⟩
      · refine .inr ⟨i + 1, by simp; omega, by rw [h1]; congr 1; omega, by simpa using h2, fun y hy => ?_⟩
        rw [List.take_succ_cons] at hy
        exact (List.mem_cons.1 hy).elim (fun e => e ▸ hf) (h3 y)

def gIdxI : List AV → Option (Prop × AV) | [.sl _ els, .v (.int .i64 n)] => (match intsL els with | some l => some (l.length ≤ 4294967296, iv (idxB (fun x => decide (n = x)) l 0)) | none => none) | _ => none
def dIdxI : DFn := { g := gIdxI }
attribute [go_sem] gIdxI dIdxI
theorem any_contains (l : List Int) (n : Int) : (l.any fun x => decide (n = x)) = l.contains n := by
  rw [Bool.eq_iff_iff]
  simp [List.contains_eq_mem]
/-- a path has a house -/
def gPHas : List AV → Option (Prop × AV) | [.sl _ els, .v (.int .i64 n)] => (match intsL els with | some l => some (l.length ≤ 4294967296, bv (pathOk l && (isH n && l.contains n))) | none => none) | _ => none
def dPHasI (pb : Addr) : DFn := { g := gPHas, inv := WP pb }
attribute [go_sem] gPHas dPHasI
/-! ranges in ranges -/
theorem covers_eq {f b a : Int} (h : rngOk f b = true) (ha : 0 ≤ a) : (decide (f ≤ a) && decide (a < f + szR b)) = rHas f b a := by
  obtain ⟨⟨hb1, hb2⟩, ⟨hf1, hf2⟩, hm⟩ := rngOk_parts h
  have hs : 0 < szR b := by unfold szR; exact Int.pow_pos (by omega)
  unfold rHas
  generalize szR b = s at hs hm
  rw [Int.tmod_eq_emod_of_nonneg hf1] at hm
  rw [Int.tdiv_eq_ediv_of_nonneg hf1, Int.tdiv_eq_ediv_of_nonneg ha, ← Bool.decide_and]
  have e1 := Int.mul_ediv_add_emod f s
  have e2 := Int.mul_ediv_add_emod a s
  have e3 := Int.emod_nonneg a (show s ≠ 0 by omega)
  have e4 := Int.emod_lt_of_pos a hs
  rw [hm] at e1
  generalize f / s = q at e1 ⊢
  generalize a / s = p at e2 ⊢
  generalize a % s = r at e2 e3 e4
  congr 1
  apply propext
  constructor
  · rintro ⟨h1, h2⟩
    have h3 : ¬ p < q := fun hlt => by
      have := Int.mul_le_mul_of_nonneg_left (show p + 1 ≤ q by omega) (show 0 ≤ s by omega)
      rw [Int.mul_add, Int.mul_one] at this
      omega
    have h4 : ¬ q < p := fun hlt => by
      have := Int.mul_le_mul_of_nonneg_left (show q + 1 ≤ p by omega) (show 0 ≤ s by omega)
      rw [Int.mul_add, Int.mul_one] at this
      omega
    omega
  · intro h
    rw [h] at e2
    omega
def gCov : List AV → Option (Prop × AV) | [.agg [.v (.int .i64 f), .v (.int .i64 b)], .v (.int .i64 a)] => some (rngOk f b = true ∧ 0 ≤ a ∧ a ≤ 255, bv (rHas f b a)) | _ => none
def dCov : DFn := { g := gCov }
def gRIn : List AV → Option (Prop × AV) | [.agg [.v (.int .i64 f), .v (.int .i64 b)], .agg [.v (.int .i64 f'), .v (.int .i64 b')]] => some (True, bv (rngOk f b && (rngOk f' b' && rIn f b f' b'))) | _ => none
def dRIn : DFn := { g := gRIn }
attribute [go_sem] gCov dCov gRIn dRIn
theorem szR_bd {b : Int} (h1 : 0 ≤ b) (h2 : b ≤ 8) : 1 ≤ szR b ∧ szR b ≤ 256 := by
  have : b = 0 ∨ b = 1 ∨ b = 2 ∨ b = 3 ∨ b = 4 ∨ b = 5 ∨ b = 6 ∨ b = 7 ∨ b = 8 := by omega
  rcases this with rfl | rfl | rfl | rfl | rfl | rfl | rfl | rfl | rfl <;> decide
end Go.Proofs.W
end
section
namespace Go.Proofs.W
open Go Go.Eng Go.RowKit
set_option linter.unusedSimpArgs false
set_option maxRecDepth 10000

/-! orders -/
def cmpI (a b : Int) : Int := if a < b then -1 else if b < a then 1 else 0
def orL : List Int → Int
  | [] => 0
  | x :: l => if x = 0 then orL l else x
def cmpL : List Int → List Int → Int
  | [], [] => 0
  | [], _ :: _ => -1
  | _ :: _, [] => 1
  | x :: a, y :: b => if cmpI x y = 0 then cmpL a b else cmpI x y
def pCmp (a b : List Int) : Int := orL [cmpI a.length b.length, cmpL a b]
def rCmp (f b f' b' : Int) : Int := orL [cmpI f f', cmpI b b']
theorem cmpI_lt {a b : Int} (h : a < b) : cmpI a b = -1 := if_pos h
theorem cmpI_gt {a b : Int} (h : b < a) : cmpI a b = 1 := by unfold cmpI; rw [if_neg (by omega), if_pos h]
theorem cmpI_eq (a : Int) : cmpI a a = 0 := by unfold cmpI; simp
theorem cmpI_zero {a b : Int} (h : cmpI a b = 0) : a = b := by
  unfold cmpI at h
  split at h
  · cases h
  · split at h
    · cases h
    · omega
theorem orL_drop (l : List Int) (i : Nat) (h : i < l.length) : orL (l.drop i) = if l.getD i 0 = 0 then orL (l.drop (i + 1)) else l.getD i 0 := by
  rw [List.drop_eq_getElem_cons h, orL]
  simp [List.getD_eq_getElem?_getD, h]
theorem cmpL_drop (a b : List Int) (i : Nat) (h : i < a.length) (k : i < b.length) : cmpL (a.drop i) (b.drop i) = if cmpI (a.getD i 0) (b.getD i 0) = 0 then cmpL (a.drop (i + 1)) (b.drop (i + 1)) else cmpI (a.getD i 0) (b.getD i 0) := by
  rw [List.drop_eq_getElem_cons h, List.drop_eq_getElem_cons k, cmpL]
  simp [List.getD_eq_getElem?_getD, h, k]
theorem cmpL_gt (a b : List Int) (i : Nat) (h : i < a.length) (k : b.length ≤ i) : cmpL (a.drop i) (b.drop i) = 1 := by
  rw [List.drop_eq_getElem_cons h, List.drop_of_length_le k, cmpL]
theorem cmpL_lt (a b : List Int) (i : Nat) (h : a.length ≤ i) (k : i < b.length) : cmpL (a.drop i) (b.drop i) = -1 := by
  rw [List.drop_eq_getElem_cons k, List.drop_of_length_le h, cmpL]
theorem cmpL_end (a b : List Int) (i : Nat) (h : a.length ≤ i) (k : b.length ≤ i) : cmpL (a.drop i) (b.drop i) = 0 := by
  rw [List.drop_of_length_le k, List.drop_of_length_le h, cmpL]

def gCmpI : List AV → Option (Prop × AV) | [.v (.int .i64 x), .v (.int .i64 y)] => some (True, iv (cmpI x y)) | _ => none
def dCmpI : DFn := { g := gCmpI }
def gOrL : List AV → Option (Prop × AV) | [.sl _ els] => (match intsL els with | some l => some (l.length ≤ 1000000, iv (orL l)) | none => none) | _ => none
def dOrL : DFn := { g := gOrL }
def gCmpL : List AV → Option (Prop × AV) | [.sl _ e1, .sl _ e2] => (match intsL e1, intsL e2 with | some a, some b => some (a.length ≤ 4294967296 ∧ b.length ≤ 4294967296, iv (cmpL a b)) | _, _ => none) | _ => none
def dCmpL : DFn := { g := gCmpL }
attribute [go_sem] gCmpI dCmpI gOrL dOrL gCmpL dCmpL

theorem cmpI_ok : Fine Tryd.prog 65 dCmpI.con := by
  refine fine_det (T := TT) Tryd.func65 rfl Tryd.ntmps65 (by rw [Tryd.results65]) rfl rfl tt (gs_nil) (ds_cons nan_ok ds_nil) ?_
  intro args c r h hc
  simp only [dCmpI, gCmpI] at h
  split at h
  rotate_left
  · cases h
  obtain ⟨rfl, rfl⟩ := Prod.mk.inj (Option.some.inj h)
  refine ⟨by simp, fun k E hE Q hQ => ?_⟩
  rename_i x y
  refine Aw_st hE [0, 1] [] fun K hK => ?_
  simp only [go_sem, reduceIte, Nat.reduceLT, Nat.reduceLeDiff, Nat.reduceEqDiff, Nat.reduceAdd, Nat.reduceMul, Nat.reduceSub, Nat.reduceBEq, Int.reduceToNat, List.reduceReplicate, reduceCtorEq]
  repeat (refine And.intro (by first | omega | (and_intros <;> first | omega | exact rows_row _ | decide | (simp; done) | (simp; omega)) | fail) ?_)
  refine hK _ ?_; clear hK K
  refine Aw_st hE [0, 1, 5] [] fun K hK => ?_
  simp only [go_sem, reduceIte, Nat.reduceLT, Nat.reduceLeDiff, Nat.reduceEqDiff, Nat.reduceAdd, Nat.reduceMul, Nat.reduceSub, Nat.reduceBEq, Int.reduceToNat, List.reduceReplicate, reduceCtorEq]
  repeat (refine And.intro (by first | omega | (and_intros <;> first | omega | exact rows_row _ | decide | (simp; done) | (simp; omega)) | fail) ?_)
  refine hK _ ?_; clear hK K
  refine Aw_st hE [0, 1, 5, 6] [] fun K hK => ?_
  simp only [go_sem, reduceIte, Nat.reduceLT, Nat.reduceLeDiff, Nat.reduceEqDiff, Nat.reduceAdd, Nat.reduceMul, Nat.reduceSub, Nat.reduceBEq, Int.reduceToNat, List.reduceReplicate, reduceCtorEq]
  repeat (refine And.intro (by first | omega | (and_intros <;> first | omega | exact rows_row _ | decide | (simp; done) | (simp; omega)) | fail) ?_)
  refine hK _ ?_; clear hK K
  refine Aw_sq fun B1 hB1 hR1 hX1 => ?_
  refine Aw_st hE [0, 1, 6, 11] [] fun K hK => ?_
  simp only [go_sem, reduceIte, Nat.reduceLT, Nat.reduceLeDiff, Nat.reduceEqDiff, Nat.reduceAdd, Nat.reduceMul, Nat.reduceSub, Nat.reduceBEq, Int.reduceToNat, List.reduceReplicate, reduceCtorEq]
  repeat (refine And.intro (by first | omega | (and_intros <;> first | omega | exact rows_row _ | decide | (simp; done) | (simp; omega)) | fail) ?_)
  refine hK _ (Aw_no rfl ?_)
  refine Aw_skip (hB1 _ ?_)
  refine Aw_sq fun B3 hB3 hR3 hX3 => ?_
  refine Aw_st hE [0, 1, 13] [] fun K hK => ?_
  simp only [go_sem, reduceIte, Nat.reduceLT, Nat.reduceLeDiff, Nat.reduceEqDiff, Nat.reduceAdd, Nat.reduceMul, Nat.reduceSub, Nat.reduceBEq, Int.reduceToNat, List.reduceReplicate, reduceCtorEq]
  repeat (refine And.intro (by first | omega | (and_intros <;> first | omega | exact rows_row _ | decide | (simp; done) | (simp; omega)) | fail) ?_)
  refine hK _ (Aw_no rfl ?_)
  refine Aw_skip (hB3 _ ?_)
  refine Aw_sq fun B5 hB5 hR5 hX5 => ?_
  refine Aw_st hE [0, 1, 16] [] fun K hK => ?_
  simp only [go_sem, reduceIte, Nat.reduceLT, Nat.reduceLeDiff, Nat.reduceEqDiff, Nat.reduceAdd, Nat.reduceMul, Nat.reduceSub, Nat.reduceBEq, Int.reduceToNat, List.reduceReplicate, reduceCtorEq]
  repeat (refine And.intro (by first | omega | (and_intros <;> first | omega | exact rows_row _ | decide | (simp; done) | (simp; omega)) | fail) ?_)
  refine hK _ (Aw_cond rfl (fun hc6 => ?_) (fun hc6 => ?_))
  · simp only [decide_eq_true_eq] at hc6
    refine Aw_st hE [4] [] fun K hK => ?_
    simp only [go_sem, reduceIte, Nat.reduceLT, Nat.reduceLeDiff, Nat.reduceEqDiff, Nat.reduceAdd, Nat.reduceMul, Nat.reduceSub, Nat.reduceBEq, Int.reduceToNat, List.reduceReplicate, reduceCtorEq]
    repeat (refine And.intro (by first | omega | (and_intros <;> first | omega | exact rows_row _ | decide | (simp; done) | (simp; omega)) | fail) ?_)
    refine hK _ (Aw_ret (hR5 _ (hQ _ ?_)))
    simp only [go_sem, reduceIte, Nat.reduceLT, Nat.reduceLeDiff, Nat.reduceEqDiff, Nat.reduceAdd, Nat.reduceMul, Nat.reduceSub, Nat.reduceBEq, Int.reduceToNat, List.reduceReplicate, reduceCtorEq]
    rw [cmpI_lt hc6]
  · simp only [decide_eq_false_iff_not] at hc6
    refine Aw_skip (hB5 _ ?_)
    refine Aw_sq fun B7 hB7 hR7 hX7 => ?_
    refine Aw_st hE [19] [] fun K hK => ?_
    simp only [go_sem, reduceIte, Nat.reduceLT, Nat.reduceLeDiff, Nat.reduceEqDiff, Nat.reduceAdd, Nat.reduceMul, Nat.reduceSub, Nat.reduceBEq, Int.reduceToNat, List.reduceReplicate, reduceCtorEq]
    repeat (refine And.intro (by first | omega | (and_intros <;> first | omega | exact rows_row _ | decide | (simp; done) | (simp; omega)) | fail) ?_)
    refine hK _ (Aw_cond rfl (fun hc8 => ?_) (fun hc8 => ?_))
    · simp only [decide_eq_true_eq] at hc8
      refine Aw_st hE [4] [] fun K hK => ?_
      simp only [go_sem, reduceIte, Nat.reduceLT, Nat.reduceLeDiff, Nat.reduceEqDiff, Nat.reduceAdd, Nat.reduceMul, Nat.reduceSub, Nat.reduceBEq, Int.reduceToNat, List.reduceReplicate, reduceCtorEq]
      repeat (refine And.intro (by first | omega | (and_intros <;> first | omega | exact rows_row _ | decide | (simp; done) | (simp; omega)) | fail) ?_)
      refine hK _ (Aw_ret (hR7 _ (hQ _ ?_)))
      simp only [go_sem, reduceIte, Nat.reduceLT, Nat.reduceLeDiff, Nat.reduceEqDiff, Nat.reduceAdd, Nat.reduceMul, Nat.reduceSub, Nat.reduceBEq, Int.reduceToNat, List.reduceReplicate, reduceCtorEq]
      rw [cmpI_gt hc8]
    · simp only [decide_eq_false_iff_not] at hc8
      refine Aw_skip (hB7 _ ?_)
      refine Aw_st hE [4] [] fun K hK => ?_
      simp only [go_sem, reduceIte, Nat.reduceLT, Nat.reduceLeDiff, Nat.reduceEqDiff, Nat.reduceAdd, Nat.reduceMul, Nat.reduceSub, Nat.reduceBEq, Int.reduceToNat, List.reduceReplicate, reduceCtorEq]
      repeat (refine And.intro (by first | omega | (and_intros <;> first | omega | exact rows_row _ | decide | (simp; done) | (simp; omega)) | fail) ?_)
      refine hK _ (Aw_ret (hQ _ ?_))
      simp only [go_sem, reduceIte, Nat.reduceLT, Nat.reduceLeDiff, Nat.reduceEqDiff, Nat.reduceAdd, Nat.reduceMul, Nat.reduceSub, Nat.reduceBEq, Int.reduceToNat, List.reduceReplicate, reduceCtorEq]
      rw [show x = y by omega, cmpI_eq]
theorem orL_ok : Fine Tryd.prog 64 dOrL.con := by
  refine fine_det (T := TT) Tryd.func64 rfl Tryd.ntmps64 (by rw [Tryd.results64]) rfl rfl tt (gs_nil) (ds_nil) ?_
  intro args c r h hc
  simp only [dOrL, gOrL] at h
  split at h
  rotate_left
  · cases h
  split at h
  rotate_left
  · cases h
  rename_i t els _ l hl
  obtain rfl := intsL_eq hl
  obtain ⟨rfl, rfl⟩ := Prod.mk.inj (Option.some.inj h)
  refine ⟨by simp, fun k E hE Q hQ => ?_⟩
  refine Aw_st hE [0] [] fun K hK => ?_
  simp only [go_sem, reduceIte, Nat.reduceLT, Nat.reduceLeDiff, Nat.reduceEqDiff, Nat.reduceAdd, Nat.reduceMul, Nat.reduceSub, Nat.reduceBEq, Int.reduceToNat, List.reduceReplicate, reduceCtorEq]
  repeat (refine And.intro (by first | omega | (and_intros <;> first | omega | exact rows_row _ | decide | (simp; done) | (simp; omega)) | fail) ?_)
  refine hK _ ?_; clear hK K
  refine Aw_st hE [0, 3] [] fun K hK => ?_
  simp only [go_sem, reduceIte, Nat.reduceLT, Nat.reduceLeDiff, Nat.reduceEqDiff, Nat.reduceAdd, Nat.reduceMul, Nat.reduceSub, Nat.reduceBEq, Int.reduceToNat, List.reduceReplicate, reduceCtorEq]
  repeat (refine And.intro (by first | omega | (and_intros <;> first | omega | exact rows_row _ | decide | (simp; done) | (simp; omega)) | fail) ?_)
  refine hK _ ?_; clear hK K
  refine Aw_sq fun B1 hB1 hR1 hX1 => ?_
  refine Aw_st hE [3, 6, 7, 8] [] fun K hK => ?_
  simp only [go_sem, reduceIte, Nat.reduceLT, Nat.reduceLeDiff, Nat.reduceEqDiff, Nat.reduceAdd, Nat.reduceMul, Nat.reduceSub, Nat.reduceBEq, Int.reduceToNat, List.reduceReplicate, reduceCtorEq]
  repeat (refine And.intro (by first | omega | (and_intros <;> first | omega | exact rows_row _ | decide | (simp; done) | (simp; omega)) | fail) ?_)
  refine hK _ ?_; clear hK K
  refine Aw_bk fun B2 hN2 hE2 hR2 hX2 => ?_
  refine Aw_lp (fun i : Nat => ⟨18, [(3, iv 0), (6, .sl t (rows l)), (7, iv l.length), (8, iv i)], [], k⟩) (fun i : Nat => i ≤ l.length ∧ orL (l.drop i) = orL l) (fun i : Nat => l.length - i) (0) (Le.refl _) (⟨by omega, by simp⟩) fun i hi B3 hN3 hR3 hX3 => ?_
  refine Aw_st hE [3, 6, 7, 8, 9] [] fun K hK => ?_
  simp only [go_sem, reduceIte, Nat.reduceLT, Nat.reduceLeDiff, Nat.reduceEqDiff, Nat.reduceAdd, Nat.reduceMul, Nat.reduceSub, Nat.reduceBEq, Int.reduceToNat, List.reduceReplicate, reduceCtorEq]
  repeat (refine And.intro (by first | omega | (and_intros <;> first | omega | exact rows_row _ | decide | (simp; done) | (simp; omega)) | fail) ?_)
  refine hK _ ?_; clear hK K
  refine Aw_sq fun B4 hB4 hR4 hX4 => ?_
  refine Aw_cond rfl (fun hc5 => ?_) (fun hc5 => ?_)
  · simp only [decide_eq_true_eq] at hc5
    have hil : i < l.length := by omega
    have hst := orL_drop l i hil
    refine Aw_skip (hB4 _ ?_)
    refine Aw_sq fun B6 hB6 hR6 hX6 => ?_
    refine Aw_bk fun B7 hN7 hE7 hR7 hX7 => ?_
    refine Aw_st hE [3, 5, 6, 7, 8] [] fun K hK => ?_
    simp only [go_sem, reduceIte, Nat.reduceLT, Nat.reduceLeDiff, Nat.reduceEqDiff, Nat.reduceAdd, Nat.reduceMul, Nat.reduceSub, Nat.reduceBEq, Int.reduceToNat, List.reduceReplicate, reduceCtorEq, rows_get l i hil]
    repeat (refine And.intro (by first | omega | (and_intros <;> first | omega | exact rows_row _ | decide | (simp; done) | (simp; omega)) | fail) ?_)
    refine hK _ ?_; clear hK K
    refine Aw_st hE [3, 5, 6, 7, 8, 14] [] fun K hK => ?_
    simp only [go_sem, reduceIte, Nat.reduceLT, Nat.reduceLeDiff, Nat.reduceEqDiff, Nat.reduceAdd, Nat.reduceMul, Nat.reduceSub, Nat.reduceBEq, Int.reduceToNat, List.reduceReplicate, reduceCtorEq]
    repeat (refine And.intro (by first | omega | (and_intros <;> first | omega | exact rows_row _ | decide | (simp; done) | (simp; omega)) | fail) ?_)
    refine hK _ (Aw_cond rfl (fun hc8 => ?_) (fun hc8 => ?_))
    · have hne : ¬ l.getD i 0 = 0 := by simpa using hc8
      refine Aw_st hE [2] [] fun K hK => ?_
      simp only [go_sem, reduceIte, Nat.reduceLT, Nat.reduceLeDiff, Nat.reduceEqDiff, Nat.reduceAdd, Nat.reduceMul, Nat.reduceSub, Nat.reduceBEq, Int.reduceToNat, List.reduceReplicate, reduceCtorEq]
      repeat (refine And.intro (by first | omega | (and_intros <;> first | omega | exact rows_row _ | decide | (simp; done) | (simp; omega)) | fail) ?_)
      refine hK _ (Aw_ret (hR7 _ (hR6 _ (hR3 _ (hR2 _ (hR1 _ (hQ _ ?_)))))))
      simp only [go_sem, reduceIte, Nat.reduceLT, Nat.reduceLeDiff, Nat.reduceEqDiff, Nat.reduceAdd, Nat.reduceMul, Nat.reduceSub, Nat.reduceBEq, Int.reduceToNat, List.reduceReplicate, reduceCtorEq]
      rw [if_neg hne, hi.2] at hst; rw [hst]
    · have hne : l.getD i 0 = 0 := by simpa using hc8
      refine Aw_skip (hN7 _ (hB6 _ ?_))
      refine Aw_tx hE [3, 6, 7, 8] [] fun K hK => ?_
      simp only [go_sem, reduceIte, Nat.reduceLT, Nat.reduceLeDiff, Nat.reduceEqDiff, Nat.reduceAdd, Nat.reduceMul, Nat.reduceSub, Nat.reduceBEq, Int.reduceToNat, List.reduceReplicate, reduceCtorEq]
      repeat (refine And.intro (by first | omega | (and_intros <;> first | omega | exact rows_row _ | decide | (simp; done) | (simp; omega)) | fail) ?_)
      refine hK _ (hN3 (i + 1) _ (⟨by omega, by rw [if_pos hne, hi.2] at hst; exact hst.symm⟩) (by omega) (Le.refl _))
  · simp only [decide_eq_false_iff_not] at hc5
    refine Aw_exit (hX4 _ _ (hX3 _ _ (hE2 _ (hB1 _ ?_))))
    refine Aw_st hE [2] [] fun K hK => ?_
    simp only [go_sem, reduceIte, Nat.reduceLT, Nat.reduceLeDiff, Nat.reduceEqDiff, Nat.reduceAdd, Nat.reduceMul, Nat.reduceSub, Nat.reduceBEq, Int.reduceToNat, List.reduceReplicate, reduceCtorEq]
    repeat (refine And.intro (by first | omega | (and_intros <;> first | omega | exact rows_row _ | decide | (simp; done) | (simp; omega)) | fail) ?_)
    refine hK _ (Aw_ret (hQ _ ?_))
    simp only [go_sem, reduceIte, Nat.reduceLT, Nat.reduceLeDiff, Nat.reduceEqDiff, Nat.reduceAdd, Nat.reduceMul, Nat.reduceSub, Nat.reduceBEq, Int.reduceToNat, List.reduceReplicate, reduceCtorEq]
    rw [← hi.2, List.drop_of_length_le (by omega)]; rfl
def gPCmp : List AV → Option (Prop × AV) | [.sl _ e1, .sl _ e2] => (match intsL e1, intsL e2 with | some a, some b => some (a.length ≤ 4294967296 ∧ b.length ≤ 4294967296, iv (if pathOk a && pathOk b then pCmp a b else 0)) | _, _ => none) | _ => none
def dPCmpI (pb : Addr) : DFn := { g := gPCmp, inv := WP pb }
def gRgCmp : List AV → Option (Prop × AV) | [.agg [.v (.int .i64 f), .v (.int .i64 b)], .agg [.v (.int .i64 f'), .v (.int .i64 b')]] => some (True, iv (if rngOk f b && rngOk f' b' then rCmp f b f' b' else 0)) | _ => none
def dRgCmp : DFn := { g := gRgCmp }
attribute [go_sem] gPCmp dPCmpI gRgCmp dRgCmp
theorem iRgCmp_ok : Fine Tryd.prog 44 dRgCmp.con := by
  refine fine_det (T := TT) Tryd.func44 rfl Tryd.ntmps44 (by rw [Tryd.results44]) rfl rfl tt (gs_nil) (ds_cons rangeOk_ok (ds_cons cmpI_ok (ds_cons orL_ok ds_nil))) ?_
  intro args c r h hc
  simp only [dRgCmp, gRgCmp] at h
  split at h
  rotate_left
  · cases h
  obtain ⟨rfl, rfl⟩ := Prod.mk.inj (Option.some.inj h)
  refine ⟨by simp, fun k E hE Q hQ => ?_⟩
  rename_i f b f' b'
  refine Aw_st hE [2, 3] [2, 3] fun K hK => ?_
  simp only [go_sem, reduceIte, Nat.reduceLT, Nat.reduceLeDiff, Nat.reduceEqDiff, Nat.reduceAdd, Nat.reduceMul, Nat.reduceSub, Nat.reduceBEq, Int.reduceToNat, List.reduceReplicate, reduceCtorEq]
  repeat (refine And.intro (by first | omega | (and_intros <;> first | omega | exact rows_row _ | decide | (simp; done) | (simp; omega)) | fail) ?_)
  refine hK _ ?_; clear hK K
  refine Aw_sq fun B1 hB1 hR1 hX1 => ?_
  refine Aw_st hE [2, 3, 12] [2, 3] fun K hK => ?_
  simp only [go_sem, reduceIte, Nat.reduceLT, Nat.reduceLeDiff, Nat.reduceEqDiff, Nat.reduceAdd, Nat.reduceMul, Nat.reduceSub, Nat.reduceBEq, Int.reduceToNat, List.reduceReplicate, reduceCtorEq]
  repeat (refine And.intro (by first | omega | (and_intros <;> first | omega | exact rows_row _ | decide | (simp; done) | (simp; omega)) | fail) ?_)
  refine ⟨fun hg3 => ?_, fun hg3 => ?_⟩
  · simp only [Bool.not_eq_true'] at hg3
    repeat (refine And.intro (by first | omega | (and_intros <;> first | omega | exact rows_row _ | decide | (simp; done) | (simp; omega)) | fail) ?_)
    refine hK _ (Aw_yes rfl ?_)
    refine Aw_st hE [4] [] fun K hK => ?_
    simp only [go_sem, reduceIte, Nat.reduceLT, Nat.reduceLeDiff, Nat.reduceEqDiff, Nat.reduceAdd, Nat.reduceMul, Nat.reduceSub, Nat.reduceBEq, Int.reduceToNat, List.reduceReplicate, reduceCtorEq]
    repeat (refine And.intro (by first | omega | (and_intros <;> first | omega | exact rows_row _ | decide | (simp; done) | (simp; omega)) | fail) ?_)
    refine hK _ (Aw_ret (hR1 _ (hQ _ ?_)))
    simp only [go_sem, reduceIte, Nat.reduceLT, Nat.reduceLeDiff, Nat.reduceEqDiff, Nat.reduceAdd, Nat.reduceMul, Nat.reduceSub, Nat.reduceBEq, Int.reduceToNat, List.reduceReplicate, reduceCtorEq, hg3, Bool.false_and]
  · simp only [Bool.not_eq_false'] at hg3
    repeat (refine And.intro (by first | omega | (and_intros <;> first | omega | exact rows_row _ | decide | (simp; done) | (simp; omega)) | fail) ?_)
    refine hK _ (Aw_cond rfl (fun hc4 => ?_) (fun hc4 => ?_))
    · simp only [Bool.not_eq_true'] at hc4
      refine Aw_st hE [4] [] fun K hK => ?_
      simp only [go_sem, reduceIte, Nat.reduceLT, Nat.reduceLeDiff, Nat.reduceEqDiff, Nat.reduceAdd, Nat.reduceMul, Nat.reduceSub, Nat.reduceBEq, Int.reduceToNat, List.reduceReplicate, reduceCtorEq]
      repeat (refine And.intro (by first | omega | (and_intros <;> first | omega | exact rows_row _ | decide | (simp; done) | (simp; omega)) | fail) ?_)
      refine hK _ (Aw_ret (hR1 _ (hQ _ ?_)))
      simp only [go_sem, reduceIte, Nat.reduceLT, Nat.reduceLeDiff, Nat.reduceEqDiff, Nat.reduceAdd, Nat.reduceMul, Nat.reduceSub, Nat.reduceBEq, Int.reduceToNat, List.reduceReplicate, reduceCtorEq, hg3, hc4, Bool.and_false]
    · simp only [Bool.not_eq_false'] at hc4
      refine Aw_skip (hB1 _ ?_)
      refine Aw_sd hE [4] [] 6 (by kernel_rfl) fun K hK => ?_
      simp only [go_sem, reduceIte, Nat.reduceLT, Nat.reduceLeDiff, Nat.reduceEqDiff, Nat.reduceAdd, Nat.reduceMul, Nat.reduceSub, Nat.reduceBEq, Int.reduceToNat, List.reduceReplicate, reduceCtorEq, intsL]
      repeat (refine And.intro (by first | omega | (and_intros <;> first | omega | exact rows_row _ | decide | (simp; done) | (simp; omega)) | fail) ?_)
      refine hK _ (Aw_ret (hQ _ ?_))
      simp only [go_sem, reduceIte, Nat.reduceLT, Nat.reduceLeDiff, Nat.reduceEqDiff, Nat.reduceAdd, Nat.reduceMul, Nat.reduceSub, Nat.reduceBEq, Int.reduceToNat, List.reduceReplicate, reduceCtorEq, hg3, hc4]
      rfl
def rtCmp (f b : Int) (p : List Int) (k : Int) (m : List Int) (f' b' : Int) (p' : List Int) (k' : Int) (m' : List Int) : Int := orL [cmpI k' k, pCmp p p', rCmp f b f' b', pCmp m m']
def gRtCmp : List AV → Option (Prop × AV)
  | [.agg [.v (.int .i64 f), .v (.int .i64 b), .sl _ e1, .v (.int .i64 k), .sl _ e2], .agg [.v (.int .i64 f'), .v (.int .i64 b'), .sl _ e3, .v (.int .i64 k'), .sl _ e4]] => (match intsL e1, intsL e2, intsL e3, intsL e4 with
    | some p, some m, some p', some m' => some ((p.length ≤ 4294967296 ∧ p'.length ≤ 4294967296) ∧ m.length ≤ 4294967296 ∧ m'.length ≤ 4294967296, iv (if rtOk f b p k m && rtOk f' b' p' k' m' then rtCmp f b p k m f' b' p' k' m' else 0))
    | _, _, _, _ => none)
  | _ => none
def dRtCmp : DFn := { g := gRtCmp }
def dRtCmpI (pb : Addr) : DFn := { g := gRtCmp, inv := WP pb }
def gL4Cmp : List AV → Option (Prop × AV)
  | [.agg [.v (.int .i64 f), .v (.int .i64 b), .sl _ e1, .v (.int .i64 k), .sl _ e2], .agg [.v (.int .i64 f'), .v (.int .i64 b'), .sl _ e3, .v (.int .i64 k'), .sl _ e4]] => (match intsL e1, intsL e2, intsL e3, intsL e4 with
    | some p, some m, some p', some m' => some ((p.length ≤ 4294967296 ∧ p'.length ≤ 4294967296) ∧ m.length ≤ 4294967296 ∧ m'.length ≤ 4294967296, iv (rtCmp f b p k m f' b' p' k' m'))
    | _, _, _, _ => none)
  | _ => none
def dL4Cmp : DFn := { g := gL4Cmp }
def gL3Cmp : List AV → Option (Prop × AV) | [.sl _ e1, .sl _ e2] => (match intsL e1, intsL e2 with | some a, some b => some (a.length ≤ 4294967296 ∧ b.length ≤ 4294967296, iv (pCmp a b)) | _, _ => none) | _ => none
def dL3Cmp : DFn := { g := gL3Cmp }
def gL1Cmp : List AV → Option (Prop × AV) | [.agg [.v (.int .i64 f), .v (.int .i64 b)], .agg [.v (.int .i64 f'), .v (.int .i64 b')]] => some (True, iv (rCmp f b f' b')) | _ => none
def dL1Cmp : DFn := { g := gL1Cmp }
attribute [go_sem] gRtCmp dRtCmp dRtCmpI gL4Cmp dL4Cmp gL3Cmp dL3Cmp gL1Cmp dL1Cmp
theorem orL_flat (a b c d e : Int) : orL [a, b, c, d, e] = orL [a, b, c, orL [d, e]] := by
  simp only [orL]
  repeat' split
  all_goals first | rfl | omega
theorem rtOk_p {f b : Int} {p : List Int} {k : Int} {m : List Int} (h : rtOk f b p k m = true) : pathOk p = true := by
  simp only [rtOk, Bool.and_eq_true] at h; exact h.2.2.1
theorem rtOk_r {f b : Int} {p : List Int} {k : Int} {m : List Int} (h : rtOk f b p k m = true) : rngOk f b = true := by
  simp only [rtOk, Bool.and_eq_true] at h; exact h.1
theorem l1Cmp_ok : Fine Tryd.prog 31 dL1Cmp.con := by
  refine fine_det (T := TT) Tryd.func31 rfl Tryd.ntmps31 (by rw [Tryd.results31]) rfl rfl tt (gs_nil) (ds_nil) ?_
  intro args c r h hc
  simp only [dL1Cmp, gL1Cmp] at h
  split at h
  rotate_left
  · cases h
  obtain ⟨rfl, rfl⟩ := Prod.mk.inj (Option.some.inj h)
  refine ⟨by simp, fun k E hE Q hQ => ?_⟩
  rename_i f b f' b'
  refine Aw_st hE [2, 3] [2, 3] fun K hK => ?_
  simp only [go_sem, reduceIte, Nat.reduceLT, Nat.reduceLeDiff, Nat.reduceEqDiff, Nat.reduceAdd, Nat.reduceMul, Nat.reduceSub, Nat.reduceBEq, Int.reduceToNat, List.reduceReplicate, reduceCtorEq]
  repeat (refine And.intro (by first | omega | (and_intros <;> first | omega | exact rows_row _ | decide | (simp; done) | (simp; omega)) | fail) ?_)
  refine hK _ ?_; clear hK K
  refine Aw_sq fun B1 hB1 hR1 hX1 => ?_
  refine Aw_bk fun B2 hN2 hE2 hR2 hX2 => ?_
  refine Aw_st hE [2, 3, 5] [2, 3] fun K hK => ?_
  simp only [go_sem, reduceIte, Nat.reduceLT, Nat.reduceLeDiff, Nat.reduceEqDiff, Nat.reduceAdd, Nat.reduceMul, Nat.reduceSub, Nat.reduceBEq, Int.reduceToNat, List.reduceReplicate, reduceCtorEq]
  repeat (refine And.intro (by first | omega | (and_intros <;> first | omega | exact rows_row _ | decide | (simp; done) | (simp; omega)) | fail) ?_)
  refine hK _ (Aw_cond rfl (fun hc3 => ?_) (fun hc3 => ?_))
  · simp only [decide_eq_true_eq] at hc3
    refine Aw_st hE [4] [] fun K hK => ?_
    simp only [go_sem, reduceIte, Nat.reduceLT, Nat.reduceLeDiff, Nat.reduceEqDiff, Nat.reduceAdd, Nat.reduceMul, Nat.reduceSub, Nat.reduceBEq, Int.reduceToNat, List.reduceReplicate, reduceCtorEq]
    repeat (refine And.intro (by first | omega | (and_intros <;> first | omega | exact rows_row _ | decide | (simp; done) | (simp; omega)) | fail) ?_)
    refine hK _ (Aw_ret (hR2 _ (hR1 _ (hQ _ ?_))))
    simp only [go_sem, reduceIte, Nat.reduceLT, Nat.reduceLeDiff, Nat.reduceEqDiff, Nat.reduceAdd, Nat.reduceMul, Nat.reduceSub, Nat.reduceBEq, Int.reduceToNat, List.reduceReplicate, reduceCtorEq]
    simp [rCmp, orL, cmpI_lt hc3]
  · simp only [decide_eq_false_iff_not] at hc3
    refine Aw_st hE [2, 3, 11] [2, 3] fun K hK => ?_
    simp only [go_sem, reduceIte, Nat.reduceLT, Nat.reduceLeDiff, Nat.reduceEqDiff, Nat.reduceAdd, Nat.reduceMul, Nat.reduceSub, Nat.reduceBEq, Int.reduceToNat, List.reduceReplicate, reduceCtorEq]
    repeat (refine And.intro (by first | omega | (and_intros <;> first | omega | exact rows_row _ | decide | (simp; done) | (simp; omega)) | fail) ?_)
    refine hK _ (Aw_cond rfl (fun hc4 => ?_) (fun hc4 => ?_))
    · simp only [decide_eq_true_eq] at hc4
      refine Aw_st hE [4] [] fun K hK => ?_
      simp only [go_sem, reduceIte, Nat.reduceLT, Nat.reduceLeDiff, Nat.reduceEqDiff, Nat.reduceAdd, Nat.reduceMul, Nat.reduceSub, Nat.reduceBEq, Int.reduceToNat, List.reduceReplicate, reduceCtorEq]
      repeat (refine And.intro (by first | omega | (and_intros <;> first | omega | exact rows_row _ | decide | (simp; done) | (simp; omega)) | fail) ?_)
      refine hK _ (Aw_ret (hR2 _ (hR1 _ (hQ _ ?_))))
      simp only [go_sem, reduceIte, Nat.reduceLT, Nat.reduceLeDiff, Nat.reduceEqDiff, Nat.reduceAdd, Nat.reduceMul, Nat.reduceSub, Nat.reduceBEq, Int.reduceToNat, List.reduceReplicate, reduceCtorEq]
      simp [rCmp, orL, cmpI_gt hc4]
    · simp only [decide_eq_false_iff_not] at hc4
      refine Aw_st hE [2, 3, 17] [2, 3] fun K hK => ?_
      simp only [go_sem, reduceIte, Nat.reduceLT, Nat.reduceLeDiff, Nat.reduceEqDiff, Nat.reduceAdd, Nat.reduceMul, Nat.reduceSub, Nat.reduceBEq, Int.reduceToNat, List.reduceReplicate, reduceCtorEq]
      repeat (refine And.intro (by first | omega | (and_intros <;> first | omega | exact rows_row _ | decide | (simp; done) | (simp; omega)) | fail) ?_)
      refine hK _ (Aw_cond rfl (fun hc5 => ?_) (fun hc5 => ?_))
      · simp only [decide_eq_true_eq] at hc5
        refine Aw_st hE [4] [] fun K hK => ?_
        simp only [go_sem, reduceIte, Nat.reduceLT, Nat.reduceLeDiff, Nat.reduceEqDiff, Nat.reduceAdd, Nat.reduceMul, Nat.reduceSub, Nat.reduceBEq, Int.reduceToNat, List.reduceReplicate, reduceCtorEq]
        repeat (refine And.intro (by first | omega | (and_intros <;> first | omega | exact rows_row _ | decide | (simp; done) | (simp; omega)) | fail) ?_)
        refine hK _ (Aw_ret (hR2 _ (hR1 _ (hQ _ ?_))))
        simp only [go_sem, reduceIte, Nat.reduceLT, Nat.reduceLeDiff, Nat.reduceEqDiff, Nat.reduceAdd, Nat.reduceMul, Nat.reduceSub, Nat.reduceBEq, Int.reduceToNat, List.reduceReplicate, reduceCtorEq]
        simp [rCmp, orL, show f = f' by omega, cmpI_eq, cmpI_lt hc5]
      · simp only [decide_eq_false_iff_not] at hc5
        refine Aw_st hE [23] [] fun K hK => ?_
        simp only [go_sem, reduceIte, Nat.reduceLT, Nat.reduceLeDiff, Nat.reduceEqDiff, Nat.reduceAdd, Nat.reduceMul, Nat.reduceSub, Nat.reduceBEq, Int.reduceToNat, List.reduceReplicate, reduceCtorEq]
        repeat (refine And.intro (by first | omega | (and_intros <;> first | omega | exact rows_row _ | decide | (simp; done) | (simp; omega)) | fail) ?_)
        refine hK _ (Aw_cond rfl (fun hc6 => ?_) (fun hc6 => ?_))
        · simp only [decide_eq_true_eq] at hc6
          refine Aw_st hE [4] [] fun K hK => ?_
          simp only [go_sem, reduceIte, Nat.reduceLT, Nat.reduceLeDiff, Nat.reduceEqDiff, Nat.reduceAdd, Nat.reduceMul, Nat.reduceSub, Nat.reduceBEq, Int.reduceToNat, List.reduceReplicate, reduceCtorEq]
          repeat (refine And.intro (by first | omega | (and_intros <;> first | omega | exact rows_row _ | decide | (simp; done) | (simp; omega)) | fail) ?_)
          refine hK _ (Aw_ret (hR2 _ (hR1 _ (hQ _ ?_))))
          simp only [go_sem, reduceIte, Nat.reduceLT, Nat.reduceLeDiff, Nat.reduceEqDiff, Nat.reduceAdd, Nat.reduceMul, Nat.reduceSub, Nat.reduceBEq, Int.reduceToNat, List.reduceReplicate, reduceCtorEq]
          simp [rCmp, orL, show f = f' by omega, cmpI_eq, cmpI_gt hc6]
        · simp only [decide_eq_false_iff_not] at hc6
          refine Aw_skip (hN2 _ (hB1 _ ?_))
          refine Aw_st hE [4] [] fun K hK => ?_
          simp only [go_sem, reduceIte, Nat.reduceLT, Nat.reduceLeDiff, Nat.reduceEqDiff, Nat.reduceAdd, Nat.reduceMul, Nat.reduceSub, Nat.reduceBEq, Int.reduceToNat, List.reduceReplicate, reduceCtorEq]
          repeat (refine And.intro (by first | omega | (and_intros <;> first | omega | exact rows_row _ | decide | (simp; done) | (simp; omega)) | fail) ?_)
          refine hK _ (Aw_ret (hQ _ ?_))
          simp only [go_sem, reduceIte, Nat.reduceLT, Nat.reduceLeDiff, Nat.reduceEqDiff, Nat.reduceAdd, Nat.reduceMul, Nat.reduceSub, Nat.reduceBEq, Int.reduceToNat, List.reduceReplicate, reduceCtorEq]
          simp [rCmp, orL, show f = f' by omega, cmpI_eq, show b = b' by omega]
end Go.Proofs.W
end
section
namespace Go.Proofs.W
open Go Go.Eng Go.RowKit
set_option linter.unusedSimpArgs false
set_option maxRecDepth 100000

/-! what a house told, as data -/
structure Gt where
  r : Rt
  old : Bool
def Gt.row (g : Gt) : List DV := [.v (.int .i64 g.r.f), .v (.int .i64 g.r.b), .sl (rows g.r.path), .v (.int .i64 g.r.like), .sl (rows g.r.marks), .v (.bool g.old)]
def grows (l : List Gt) : List (List DV) := l.map Gt.row
structure Rb where
  h : Int
  up : Bool
  all : List Gt
abbrev Rb.av (b : Rb) : AV := .agg [iv b.h, bv b.up, .sl none (grows b.all)]
def rb0 : Rb := ⟨0, false, []⟩
def gotsL : List (List DV) → Option (List Gt)
  | [] => some []
  | [.v (.int .i64 f), .v (.int .i64 b), .sl e1, .v (.int .i64 like), .sl e2, .v (.bool old)] :: l => match intsL e1, intsL e2, gotsL l with
    | some p, some m, some r => some (⟨⟨f, b, p, like, m⟩, old⟩ :: r)
    | _, _, _ => none
  | _ => none
theorem grows_nil : grows [] = [] := rfl
theorem grows_cons (c : Gt) (l : List Gt) : grows (c :: l) = c.row :: grows l := rfl
theorem gotsL_rows (l : List Gt) : gotsL (grows l) = some l := by
  induction l with
  | nil => rfl
  | cons n l ih => simp only [grows_cons, Gt.row, gotsL, ih, intsL_rows]
theorem gotsL_eq {els : List (List DV)} : ∀ {l : List Gt}, gotsL els = some l → els = grows l := by
  induction els with
  | nil => intro l h; obtain rfl := Option.some.inj h; rfl
  | cons row els ih =>
    intro l h
    unfold gotsL at h
    split at h
    · rename_i e; cases e
    · rename_i l' e
      obtain ⟨rfl, rfl⟩ := List.cons.inj e
      split at h
      · rename_i p m r hp hm hr
        obtain rfl := Option.some.inj h
        rw [ih hr, intsL_eq hp, intsL_eq hm]; rfl
      · cases h
    · cases h
theorem grows_len (l : List Gt) : (grows l).length = l.length := by simp [grows]
theorem grows_get (l : List Gt) (i : Nat) (h : i < l.length) : (grows l)[i]? = some (l[i]).row := by simp [grows, h]
theorem grows_app (a b : List Gt) : grows a ++ grows b = grows (a ++ b) := by simp [grows]
theorem grows_row (l : List Gt) : ∀ row ∈ grows l, row.length = 6 := by simp [grows, Gt.row]
attribute [go_sem] gotsL_rows grows_len grows_nil grows_app Gt.row

/-- an announced route, behind another one -/
def gotOk (h : Int) (up : Bool) : Option Gt → Gt → Bool
  | q, g => okR g.r && (decide (g.r.path.head? = some h) && ((up || g.old) && (match q with | none => true | some q => decide (rCmp q.r.f q.r.b g.r.f g.r.b < 0))))
def allG (h : Int) (up : Bool) : Option Gt → List Gt → Bool
  | _, [] => true
  | q, g :: l => gotOk h up q g && allG h up (some g) l
def ribOk (b : Rb) : Bool := isH b.h && (decide (b.all.length ≤ 6) && allG b.h b.up none b.all)
def prevG (l : List Gt) : Nat → Option Gt
  | 0 => none
  | i + 1 => l[i]?
theorem allG_drop {h : Int} {up : Bool} {l : List Gt} {i : Nat} (hi : i < l.length) : allG h up (prevG l i) (l.drop i) = (gotOk h up (prevG l i) l[i] && allG h up (prevG l (i + 1)) (l.drop (i + 1))) := by
  rw [List.drop_eq_getElem_cons hi, allG, prevG, List.getElem?_eq_getElem hi]
def sameRg (f b : Int) (g : Gt) : Bool := decide (g.r.f = f) && decide (g.r.b = b)
def atG (l : List Gt) (f b : Int) : Int := idxB (sameRg f b) l 0
def ribFind (b : Rb) (f c : Int) : Option Rt := if ribOk b then (b.all.find? (sameRg f c)).map (·.r) else none
def lensG (l : List Gt) : Prop := ∀ g ∈ l, g.r.path.length ≤ 1000 ∧ g.r.marks.length ≤ 900
def gRibOk : List AV → Option (Prop × AV) | [.agg [.v (.int .i64 h), .v (.bool up), .sl _ els]] => (match gotsL els with | some l => some (l.length ≤ 1000000 ∧ lensG l, bv (ribOk ⟨h, up, l⟩)) | none => none) | _ => none
def dRibOk : DFn := { g := gRibOk }
def gAt : List AV → Option (Prop × AV) | [.agg [.v (.int .i64 _), .v (.bool _), .sl _ els], .agg [.v (.int .i64 f), .v (.int .i64 b)]] => (match gotsL els with | some l => some (l.length ≤ 1000000, iv (atG l f b)) | none => none) | _ => none
def dAt : DFn := { g := gAt }
attribute [go_sem] gRibOk dRibOk gAt dAt
theorem l21At_ok : Fine Tryd.prog 24 dAt.con := by
  refine fine_det (T := TT) Tryd.func24 rfl Tryd.ntmps24 (by rw [Tryd.results24]) rfl rfl tt (gs_nil) (ds_nil) ?_
  intro args c r h hc
  simp only [dAt, gAt] at h
  split at h
  rotate_left
  · cases h
  split at h
  rotate_left
  · cases h
  rename_i h0 up t els f b _ l hgo
  obtain rfl := gotsL_eq hgo
  obtain ⟨rfl, rfl⟩ := Prod.mk.inj (Option.some.inj h)
  refine ⟨by simp, fun k E hE Q hQ => ?_⟩
  refine Aw_st hE [2, 3] [2, 3] fun K hK => ?_
  simp only [go_sem, reduceIte, Nat.reduceLT, Nat.reduceLeDiff, Nat.reduceEqDiff, Nat.reduceAdd, Nat.reduceMul, Nat.reduceSub, Nat.reduceBEq, Int.reduceToNat, List.reduceReplicate, reduceCtorEq]
  repeat (refine And.intro (by first | omega | (and_intros <;> first | omega | exact rows_row _ | decide | (simp; done) | (simp; omega)) | fail) ?_)
  refine hK _ ?_; clear hK K
  refine Aw_sq fun B1 hB1 hR1 hX1 => ?_
  refine Aw_st hE [2, 3, 5] [2, 3] fun K hK => ?_
  simp only [go_sem, reduceIte, Nat.reduceLT, Nat.reduceLeDiff, Nat.reduceEqDiff, Nat.reduceAdd, Nat.reduceMul, Nat.reduceSub, Nat.reduceBEq, Int.reduceToNat, List.reduceReplicate, reduceCtorEq]
  repeat (refine And.intro (by first | omega | (and_intros <;> first | omega | exact rows_row _ | decide | (simp; done) | (simp; omega)) | fail) ?_)
  refine hK _ ?_; clear hK K
  refine Aw_bk fun B2 hN2 hE2 hR2 hX2 => ?_
  refine Aw_lp (fun i : Nat => ⟨23, [(2, .loc 2 0), (3, .loc 3 0), (5, iv i)], [(2, [iv h0, bv up, .sl t (grows l)]), (3, [iv f, iv b])], k⟩) (fun i : Nat => i ≤ l.length ∧ atG l f b = idxB (sameRg f b) (l.drop i) i) (fun i : Nat => l.length - i) (0) (Le.refl _) (⟨by omega, rfl⟩) fun i hi B3 hN3 hR3 hX3 => ?_
  refine Aw_sq fun B4 hB4 hR4 hX4 => ?_
  refine Aw_st hE [2, 3, 5, 10] [2, 3] fun K hK => ?_
  simp only [go_sem, reduceIte, Nat.reduceLT, Nat.reduceLeDiff, Nat.reduceEqDiff, Nat.reduceAdd, Nat.reduceMul, Nat.reduceSub, Nat.reduceBEq, Int.reduceToNat, List.reduceReplicate, reduceCtorEq]
  repeat (refine And.intro (by first | omega | (and_intros <;> first | omega | exact rows_row _ | decide | (simp; done) | (simp; omega)) | fail) ?_)
  refine hK _ (Aw_cond rfl (fun hc5 => ?_) (fun hc5 => ?_))
  · simp only [decide_eq_true_eq] at hc5
    have hil : i < l.length := by omega
    have hs := hi.2.trans (idxB_drop hil)
    have hget := grows_get l i hil
    generalize l[i] = x at hget hs
    obtain ⟨⟨rf, rb, p, rk, m⟩, old⟩ := x
    refine Aw_skip (hB4 _ ?_)
    refine Aw_sq fun B6 hB6 hR6 hX6 => ?_
    refine Aw_bk fun B7 hN7 hE7 hR7 hX7 => ?_
    refine Aw_sd hE [2, 3, 5, 21] [2, 3] 6 (by kernel_rfl) fun K hK => ?_
    simp only [go_sem, reduceIte, Nat.reduceLT, Nat.reduceLeDiff, Nat.reduceEqDiff, Nat.reduceAdd, Nat.reduceMul, Nat.reduceSub, Nat.reduceBEq, Int.reduceToNat, List.reduceReplicate, reduceCtorEq, hget]
    repeat (refine And.intro (by first | omega | (and_intros <;> first | omega | exact rows_row _ | decide | (simp; done) | (simp; omega)) | fail) ?_)
    refine hK _ (Aw_cond rfl (fun hc8 => ?_) (fun hc8 => ?_))
    · have hsr : sameRg f b ⟨⟨rf, rb, p, rk, m⟩, old⟩ = true := hc8
      rw [hsr] at hs
      refine Aw_st hE [4] [] fun K hK => ?_
      simp only [go_sem, reduceIte, Nat.reduceLT, Nat.reduceLeDiff, Nat.reduceEqDiff, Nat.reduceAdd, Nat.reduceMul, Nat.reduceSub, Nat.reduceBEq, Int.reduceToNat, List.reduceReplicate, reduceCtorEq]
      repeat (refine And.intro (by first | omega | (and_intros <;> first | omega | exact rows_row _ | decide | (simp; done) | (simp; omega)) | fail) ?_)
      refine hK _ (Aw_ret (hR7 _ (hR6 _ (hR3 _ (hR2 _ (hR1 _ (hQ _ ?_)))))))
      simp only [go_sem, reduceIte, Nat.reduceLT, Nat.reduceLeDiff, Nat.reduceEqDiff, Nat.reduceAdd, Nat.reduceMul, Nat.reduceSub, Nat.reduceBEq, Int.reduceToNat, List.reduceReplicate, reduceCtorEq, hs]
    · have hsr : sameRg f b ⟨⟨rf, rb, p, rk, m⟩, old⟩ = false := hc8
      rw [hsr] at hs
      refine Aw_skip (hN7 _ (hB6 _ ?_))
      refine Aw_tx hE [2, 3, 5] [2, 3] fun K hK => ?_
      simp only [go_sem, reduceIte, Nat.reduceLT, Nat.reduceLeDiff, Nat.reduceEqDiff, Nat.reduceAdd, Nat.reduceMul, Nat.reduceSub, Nat.reduceBEq, Int.reduceToNat, List.reduceReplicate, reduceCtorEq]
      repeat (refine And.intro (by first | omega | (and_intros <;> first | omega | exact rows_row _ | decide | (simp; done) | (simp; omega)) | fail) ?_)
      refine hK _ (hN3 (i + 1) _ (⟨by omega, hs⟩) (by omega) (Le.refl _))
  · simp only [decide_eq_false_iff_not] at hc5
    refine Aw_exit (hX4 _ _ (hX3 _ _ (hE2 _ (hB1 _ ?_))))
    refine Aw_st hE [4] [] fun K hK => ?_
    simp only [go_sem, reduceIte, Nat.reduceLT, Nat.reduceLeDiff, Nat.reduceEqDiff, Nat.reduceAdd, Nat.reduceMul, Nat.reduceSub, Nat.reduceBEq, Int.reduceToNat, List.reduceReplicate, reduceCtorEq]
    repeat (refine And.intro (by first | omega | (and_intros <;> first | omega | exact rows_row _ | decide | (simp; done) | (simp; omega)) | fail) ?_)
    refine hK _ (Aw_ret (hQ _ ?_))
    simp only [go_sem, reduceIte, Nat.reduceLT, Nat.reduceLeDiff, Nat.reduceEqDiff, Nat.reduceAdd, Nat.reduceMul, Nat.reduceSub, Nat.reduceBEq, Int.reduceToNat, List.reduceReplicate, reduceCtorEq]
    rw [hi.2, List.drop_eq_nil_of_le (by omega)]
    rfl
end Go.Proofs.W
end
section
namespace Go.Proofs.W
open Go Go.Eng Go.RowKit
set_option linter.unusedSimpArgs false
set_option maxRecDepth 100000

theorem ribOk_stop {h : Int} {up : Bool} {l : List Gt} {i : Nat} (hi : i < l.length) (h1 : allG h up none l = allG h up (prevG l i) (l.drop i)) (h2 : gotOk h up (prevG l i) l[i] = false) : ribOk ⟨h, up, l⟩ = false := by
  rw [allG_drop hi, h2, Bool.false_and] at h1
  simp only [ribOk, h1, Bool.and_false]
set_option maxHeartbeats 4000000 in
theorem sRibOk_ok : Fine Tryd.prog 11 dRibOk.con := by
  refine fine_det (T := TT) Tryd.func11 rfl Tryd.ntmps11 (by rw [Tryd.results11]) rfl rfl tt (gs_nil) (ds_cons sRtOk_ok (ds_cons l1Cmp_ok (ds_cons sIsH_ok ds_nil))) ?_
  intro args c r h hc
  simp only [dRibOk, gRibOk] at h
  split at h
  rotate_left
  · cases h
  split at h
  rotate_left
  · cases h
  rename_i h0 up t els _ l hgo
  obtain rfl := gotsL_eq hgo
  obtain ⟨rfl, rfl⟩ := Prod.mk.inj (Option.some.inj h)
  refine ⟨by simp, fun k E hE Q hQ => ?_⟩
  obtain ⟨hll, hlen⟩ := hc
  refine Aw_st hE [1] [1] fun K hK => ?_
  simp only [go_sem, reduceIte, Nat.reduceLT, Nat.reduceLeDiff, Nat.reduceEqDiff, Nat.reduceAdd, Nat.reduceMul, Nat.reduceSub, Nat.reduceBEq, Int.reduceToNat, List.reduceReplicate, reduceCtorEq]
  refine hK _ ?_; clear hK K
  refine Aw_sq fun B1 hB1 hR1 hX1 => ?_
  refine Aw_st hE [1, 3] [1] fun K hK => ?_
  simp only [go_sem, reduceIte, Nat.reduceLT, Nat.reduceLeDiff, Nat.reduceEqDiff, Nat.reduceAdd, Nat.reduceMul, Nat.reduceSub, Nat.reduceBEq, Int.reduceToNat, List.reduceReplicate, reduceCtorEq]
  refine hK _ ?_; clear hK K
  refine Aw_bk fun B2 hN2 hE2 hR2 hX2 => ?_
  refine Aw_lp (fun i : Nat => ⟨69, [(1, .loc 1 0), (3, iv i)], [(1, [iv h0, bv up, .sl t (grows l)])], k⟩) (fun i => i ≤ l.length ∧ allG h0 up none l = allG h0 up (prevG l i) (l.drop i)) (fun i => l.length - i) 0 (Le.refl _) ⟨by omega, rfl⟩ fun i hi B3 hN3 hR3 hX3 => ?_
  refine Aw_sq fun B4 hB4 hR4 hX4 => ?_
  refine Aw_st hE [1, 3, 9] [1] fun K hK => ?_
  simp only [go_sem, reduceIte, Nat.reduceLT, Nat.reduceLeDiff, Nat.reduceEqDiff, Nat.reduceAdd, Nat.reduceMul, Nat.reduceSub, Nat.reduceBEq, Int.reduceToNat, List.reduceReplicate, reduceCtorEq]
  refine hK _ (Aw_cond rfl (fun hc5 => ?_) (fun hc5 => ?_))
  rotate_left
  · refine Aw_exit (hX4 _ _ (hX3 _ _ (hE2 _ (hB1 _ ?_))))
    simp only [decide_eq_false_iff_not] at hc5
    have hal : allG h0 up none l = true := by rw [hi.2, List.drop_eq_nil_of_le (by omega)]; rfl
    refine Aw_st hE [2] [] fun K hK => ?_
    simp only [go_sem, reduceIte, Nat.reduceLT, Nat.reduceLeDiff, Nat.reduceEqDiff, Nat.reduceAdd, Nat.reduceMul, Nat.reduceSub, Nat.reduceBEq, Int.reduceToNat, List.reduceReplicate, reduceCtorEq]
    refine ⟨fun h1 => ?_, fun h1 => ?_⟩
    · refine hK _ (Aw_ret (hQ _ ?_))
      simp only [go_sem, reduceIte, Nat.reduceLT, Nat.reduceLeDiff, Nat.reduceEqDiff, Nat.reduceAdd, Nat.reduceMul, Nat.reduceSub, Nat.reduceBEq, Int.reduceToNat, List.reduceReplicate, reduceCtorEq]
      simp only [ribOk, hal, Bool.and_true, h1, Bool.true_and]
      congr 1
      exact propext (by omega)
    · refine hK _ (Aw_ret (hQ _ ?_))
      simp only [go_sem, reduceIte, Nat.reduceLT, Nat.reduceLeDiff, Nat.reduceEqDiff, Nat.reduceAdd, Nat.reduceMul, Nat.reduceSub, Nat.reduceBEq, Int.reduceToNat, List.reduceReplicate, reduceCtorEq]
      simp only [ribOk, h1, Bool.false_and]
  simp only [decide_eq_true_eq] at hc5
  have hil : i < l.length := by omega
  have hget := grows_get l i hil
  have hln := hlen _ (List.getElem_mem hil)
  have hstop := fun h => ribOk_stop hil hi.2 h
  have hst := hi.2.trans (allG_drop hil)
  generalize l[i] = x at hget hln hstop hst
  obtain ⟨⟨rf, rb, p, rk, m⟩, old⟩ := x
  simp only at hln
  refine Aw_skip (hB4 _ ?_)
  refine Aw_sq fun B6 hB6 hR6 hX6 => ?_
  refine Aw_bk fun B7 hN7 hE7 hR7 hX7 => ?_
  refine Aw_st hE [1, 3, 4] [1, 4] fun K hK => ?_
  simp only [go_sem, reduceIte, Nat.reduceLT, Nat.reduceLeDiff, Nat.reduceEqDiff, Nat.reduceAdd, Nat.reduceMul, Nat.reduceSub, Nat.reduceBEq, Int.reduceToNat, List.reduceReplicate, reduceCtorEq, hget]
  repeat (refine And.intro (by first | omega | (and_intros <;> first | omega | exact rows_row _ | decide | (simp; done) | (simp; omega)) | fail) ?_)
  refine hK _ ?_; clear hK K
  have hokR : okR ⟨rf, rb, p, rk, m⟩ = rtOk rf rb p rk m := rfl
  cases h1 : rtOk rf rb p rk m with
  | false =>
    have hf := hstop (by simp only [gotOk, hokR, h1, Bool.false_and])
    refine Aw_se hE [0, 1, 2, 3, 4, 5, 6, 7, 8, 9, 10, 11, 12, 13, 14, 15, 16, 17, 18, 19, 20, 21, 22, 23, 24, 25, 26, 27, 28, 29, 30, 31, 32, 33, 34, 35, 36, 37, 38, 39, 40, 41, 42] [0, 1, 3, 7, 15, 31, 63, 127, 255, 511, 31, 1055, 4095, 8191, 16383, 32767, 65535, 131071, 262143, 524287, 1048575, 2097151, 4194303, 8388607, 16777215, 33554431, 67108863, 134217727, 268435455, 536870911, 268435455, 1342177279, 4294967295, 8589934591, 17179869183, 34359738367, 268435455, 68987912191, 206426865663, 549755813887, 1099511627775, 2199023255551, 4398046511103] [1, 3, 59] [1] (by kernel_rfl) fun K hK => ?_
    refine daopsE_cut 6 fun K1 hK1 => ?_
    simp only [go_sem, reduceIte, Nat.reduceLT, Nat.reduceLeDiff, Nat.reduceEqDiff, Nat.reduceAdd, Nat.reduceMul, Nat.reduceSub, Nat.reduceBEq, Int.reduceToNat, List.reduceReplicate, reduceCtorEq, h1]
    repeat (refine And.intro (by first | omega | (and_intros <;> first | omega | exact rows_row _ | decide | (simp; done) | (simp; omega)) | fail) ?_)
    refine hK1 _ ?_
    clear hK1
    refine daopsE_cut 6 fun K1 hK1 => ?_
    simp only [go_sem, reduceIte, Nat.reduceLT, Nat.reduceLeDiff, Nat.reduceEqDiff, Nat.reduceAdd, Nat.reduceMul, Nat.reduceSub, Nat.reduceBEq, Int.reduceToNat, List.reduceReplicate, reduceCtorEq, h1]
    repeat (refine And.intro (by first | omega | (and_intros <;> first | omega | exact rows_row _ | decide | (simp; done) | (simp; omega)) | fail) ?_)
    refine hK1 _ ?_
    clear hK1
    refine daopsE_cut 6 fun K1 hK1 => ?_
    simp only [go_sem, reduceIte, Nat.reduceLT, Nat.reduceLeDiff, Nat.reduceEqDiff, Nat.reduceAdd, Nat.reduceMul, Nat.reduceSub, Nat.reduceBEq, Int.reduceToNat, List.reduceReplicate, reduceCtorEq, h1]
    repeat (refine And.intro (by first | omega | (and_intros <;> first | omega | exact rows_row _ | decide | (simp; done) | (simp; omega)) | fail) ?_)
    refine hK1 _ ?_
    clear hK1
    refine daopsE_cut 6 fun K1 hK1 => ?_
    simp only [go_sem, reduceIte, Nat.reduceLT, Nat.reduceLeDiff, Nat.reduceEqDiff, Nat.reduceAdd, Nat.reduceMul, Nat.reduceSub, Nat.reduceBEq, Int.reduceToNat, List.reduceReplicate, reduceCtorEq, h1]
    repeat (refine And.intro (by first | omega | (and_intros <;> first | omega | exact rows_row _ | decide | (simp; done) | (simp; omega)) | fail) ?_)
    refine hK1 _ ?_
    clear hK1
    refine daopsE_cut 6 fun K1 hK1 => ?_
    simp only [go_sem, reduceIte, Nat.reduceLT, Nat.reduceLeDiff, Nat.reduceEqDiff, Nat.reduceAdd, Nat.reduceMul, Nat.reduceSub, Nat.reduceBEq, Int.reduceToNat, List.reduceReplicate, reduceCtorEq, h1]
    repeat (refine And.intro (by first | omega | (and_intros <;> first | omega | exact rows_row _ | decide | (simp; done) | (simp; omega)) | fail) ?_)
    refine hK1 _ ?_
    clear hK1
    refine daopsE_cut 6 fun K1 hK1 => ?_
    simp only [go_sem, reduceIte, Nat.reduceLT, Nat.reduceLeDiff, Nat.reduceEqDiff, Nat.reduceAdd, Nat.reduceMul, Nat.reduceSub, Nat.reduceBEq, Int.reduceToNat, List.reduceReplicate, reduceCtorEq, h1]
    repeat (refine And.intro (by first | omega | (and_intros <;> first | omega | exact rows_row _ | decide | (simp; done) | (simp; omega)) | fail) ?_)
    refine hK1 _ ?_
    clear hK1
    refine daopsE_cut 6 fun K1 hK1 => ?_
    simp only [go_sem, reduceIte, Nat.reduceLT, Nat.reduceLeDiff, Nat.reduceEqDiff, Nat.reduceAdd, Nat.reduceMul, Nat.reduceSub, Nat.reduceBEq, Int.reduceToNat, List.reduceReplicate, reduceCtorEq, h1]
    repeat (refine And.intro (by first | omega | (and_intros <;> first | omega | exact rows_row _ | decide | (simp; done) | (simp; omega)) | fail) ?_)
    refine hK1 _ ?_
    clear hK1
    simp only [go_sem, reduceIte, Nat.reduceLT, Nat.reduceLeDiff, Nat.reduceEqDiff, Nat.reduceAdd, Nat.reduceMul, Nat.reduceSub, Nat.reduceBEq, Int.reduceToNat, List.reduceReplicate, reduceCtorEq, h1]
    repeat (refine And.intro (by first | omega | (and_intros <;> first | omega | exact rows_row _ | decide | (simp; done) | (simp; omega)) | fail) ?_)
    refine hK _ (Aw_yes rfl ?_)
    refine Aw_st hE [2] [] fun K hK => ?_
    simp only [go_sem, reduceIte, Nat.reduceLT, Nat.reduceLeDiff, Nat.reduceEqDiff, Nat.reduceAdd, Nat.reduceMul, Nat.reduceSub, Nat.reduceBEq, Int.reduceToNat, List.reduceReplicate, reduceCtorEq]
    refine hK _ (Aw_ret (hR7 _ (hR6 _ (hR3 _ (hR2 _ (hR1 _ (hQ _ ?_)))))))
    simp only [go_sem, reduceIte, Nat.reduceLT, Nat.reduceLeDiff, Nat.reduceEqDiff, Nat.reduceAdd, Nat.reduceMul, Nat.reduceSub, Nat.reduceBEq, Int.reduceToNat, List.reduceReplicate, reduceCtorEq, hf]
  | true =>
  obtain ⟨p0, p', rfl⟩ : ∃ p0 p', p = p0 :: p' := by
    have := (okR_parts (hokR.trans h1)).2.1
    cases p with
    | nil => simp at this
    | cons a b => exact ⟨a, b, rfl⟩
  obtain ⟨hln1, hln2⟩ := hln
  have hpl : p'.length ≤ 1000 := by simp at hln1; omega
  have hp0 : (rows (p0 :: p'))[0]? = some [.v (.int .i64 p0)] := rfl
  by_cases h2 : p0 = h0
  rotate_left
  · have hf := hstop (by simp [gotOk, h2])
    have h2d : decide (p0 = h0) = false := decide_eq_false h2
    refine Aw_se hE [0, 1, 2, 3, 4, 5, 6, 7, 8, 9, 10, 11, 12, 13, 14, 15, 16, 17, 18, 19, 20, 21, 22, 23, 24, 25, 26, 27, 28, 29, 30, 31, 32, 33, 34, 35, 36, 37, 38, 39, 40, 41, 42] [0, 1, 3, 7, 15, 31, 63, 127, 255, 511, 31, 1055, 4095, 8191, 16383, 32767, 65535, 131071, 262143, 524287, 1048575, 2097151, 4194303, 8388607, 16777215, 33554431, 67108863, 134217727, 268435455, 536870911, 268435455, 1342177279, 4294967295, 8589934591, 17179869183, 34359738367, 268435455, 68987912191, 206426865663, 549755813887, 1099511627775, 2199023255551, 4398046511103] [1, 3, 59] [1] (by kernel_rfl) fun K hK => ?_
    refine daopsE_cut 6 fun K1 hK1 => ?_
    simp only [go_sem, reduceIte, Nat.reduceLT, Nat.reduceLeDiff, Nat.reduceEqDiff, Nat.reduceAdd, Nat.reduceMul, Nat.reduceSub, Nat.reduceBEq, Int.reduceToNat, List.reduceReplicate, reduceCtorEq, h1, hp0, h2d]
    repeat (refine And.intro (by first | omega | (and_intros <;> first | omega | exact rows_row _ | decide | (simp; done) | (simp; omega)) | fail) ?_)
    refine hK1 _ ?_
    clear hK1
    refine daopsE_cut 6 fun K1 hK1 => ?_
    simp only [go_sem, reduceIte, Nat.reduceLT, Nat.reduceLeDiff, Nat.reduceEqDiff, Nat.reduceAdd, Nat.reduceMul, Nat.reduceSub, Nat.reduceBEq, Int.reduceToNat, List.reduceReplicate, reduceCtorEq, h1, hp0, h2d]
    repeat (refine And.intro (by first | omega | (and_intros <;> first | omega | exact rows_row _ | decide | (simp; done) | (simp; omega)) | fail) ?_)
    refine hK1 _ ?_
    clear hK1
    refine daopsE_cut 6 fun K1 hK1 => ?_
    simp only [go_sem, reduceIte, Nat.reduceLT, Nat.reduceLeDiff, Nat.reduceEqDiff, Nat.reduceAdd, Nat.reduceMul, Nat.reduceSub, Nat.reduceBEq, Int.reduceToNat, List.reduceReplicate, reduceCtorEq, h1, hp0, h2d]
    repeat (refine And.intro (by first | omega | (and_intros <;> first | omega | exact rows_row _ | decide | (simp; done) | (simp; omega)) | fail) ?_)
    refine hK1 _ ?_
    clear hK1
    refine daopsE_cut 6 fun K1 hK1 => ?_
    simp only [go_sem, reduceIte, Nat.reduceLT, Nat.reduceLeDiff, Nat.reduceEqDiff, Nat.reduceAdd, Nat.reduceMul, Nat.reduceSub, Nat.reduceBEq, Int.reduceToNat, List.reduceReplicate, reduceCtorEq, h1, hp0, h2d]
    repeat (refine And.intro (by first | omega | (and_intros <;> first | omega | exact rows_row _ | decide | (simp; done) | (simp; omega)) | fail) ?_)
    refine hK1 _ ?_
    clear hK1
    refine daopsE_cut 6 fun K1 hK1 => ?_
    simp only [go_sem, reduceIte, Nat.reduceLT, Nat.reduceLeDiff, Nat.reduceEqDiff, Nat.reduceAdd, Nat.reduceMul, Nat.reduceSub, Nat.reduceBEq, Int.reduceToNat, List.reduceReplicate, reduceCtorEq, h1, hp0, h2d]
    repeat (refine And.intro (by first | omega | (and_intros <;> first | omega | exact rows_row _ | decide | (simp; done) | (simp; omega)) | fail) ?_)
    refine hK1 _ ?_
    clear hK1
    refine daopsE_cut 6 fun K1 hK1 => ?_
    simp only [go_sem, reduceIte, Nat.reduceLT, Nat.reduceLeDiff, Nat.reduceEqDiff, Nat.reduceAdd, Nat.reduceMul, Nat.reduceSub, Nat.reduceBEq, Int.reduceToNat, List.reduceReplicate, reduceCtorEq, h1, hp0, h2d]
    repeat (refine And.intro (by first | omega | (and_intros <;> first | omega | exact rows_row _ | decide | (simp; done) | (simp; omega)) | fail) ?_)
    refine hK1 _ ?_
    clear hK1
    refine daopsE_cut 6 fun K1 hK1 => ?_
    simp only [go_sem, reduceIte, Nat.reduceLT, Nat.reduceLeDiff, Nat.reduceEqDiff, Nat.reduceAdd, Nat.reduceMul, Nat.reduceSub, Nat.reduceBEq, Int.reduceToNat, List.reduceReplicate, reduceCtorEq, h1, hp0, h2d]
    repeat (refine And.intro (by first | omega | (and_intros <;> first | omega | exact rows_row _ | decide | (simp; done) | (simp; omega)) | fail) ?_)
    refine hK1 _ ?_
    clear hK1
    simp only [go_sem, reduceIte, Nat.reduceLT, Nat.reduceLeDiff, Nat.reduceEqDiff, Nat.reduceAdd, Nat.reduceMul, Nat.reduceSub, Nat.reduceBEq, Int.reduceToNat, List.reduceReplicate, reduceCtorEq, h1, hp0, h2d]
    repeat (refine And.intro (by first | omega | (and_intros <;> first | omega | exact rows_row _ | decide | (simp; done) | (simp; omega)) | fail) ?_)
    refine hK _ (Aw_yes rfl ?_)
    refine Aw_st hE [2] [] fun K hK => ?_
    simp only [go_sem, reduceIte, Nat.reduceLT, Nat.reduceLeDiff, Nat.reduceEqDiff, Nat.reduceAdd, Nat.reduceMul, Nat.reduceSub, Nat.reduceBEq, Int.reduceToNat, List.reduceReplicate, reduceCtorEq]
    refine hK _ (Aw_ret (hR7 _ (hR6 _ (hR3 _ (hR2 _ (hR1 _ (hQ _ ?_)))))))
    simp only [go_sem, reduceIte, Nat.reduceLT, Nat.reduceLeDiff, Nat.reduceEqDiff, Nat.reduceAdd, Nat.reduceMul, Nat.reduceSub, Nat.reduceBEq, Int.reduceToNat, List.reduceReplicate, reduceCtorEq, hf]
  have h2d : decide (p0 = h0) = true := decide_eq_true h2
  cases h3 : (up || old) with
  | false =>
    have hf := hstop (by simp only [gotOk, h3, Bool.false_and, Bool.and_false])
    simp only [Bool.or_eq_false_iff] at h3
    refine Aw_se hE [0, 1, 2, 3, 4, 5, 6, 7, 8, 9, 10, 11, 12, 13, 14, 15, 16, 17, 18, 19, 20, 21, 22, 23, 24, 25, 26, 27, 28, 29, 30, 31, 32, 33, 34, 35, 36, 37, 38, 39, 40, 41, 42] [0, 1, 3, 7, 15, 31, 63, 127, 255, 511, 31, 1055, 4095, 8191, 16383, 32767, 65535, 131071, 262143, 524287, 1048575, 2097151, 4194303, 8388607, 16777215, 33554431, 67108863, 134217727, 268435455, 536870911, 268435455, 1342177279, 4294967295, 8589934591, 17179869183, 34359738367, 268435455, 68987912191, 206426865663, 549755813887, 1099511627775, 2199023255551, 4398046511103] [1, 3, 59] [1] (by kernel_rfl) fun K hK => ?_
    refine daopsE_cut 6 fun K1 hK1 => ?_
    simp only [go_sem, reduceIte, Nat.reduceLT, Nat.reduceLeDiff, Nat.reduceEqDiff, Nat.reduceAdd, Nat.reduceMul, Nat.reduceSub, Nat.reduceBEq, Int.reduceToNat, List.reduceReplicate, reduceCtorEq, h1, hp0, h2d, h3.1, h3.2]
    repeat (refine And.intro (by first | omega | (and_intros <;> first | omega | exact rows_row _ | decide | (simp; done) | (simp; omega)) | fail) ?_)
    refine hK1 _ ?_
    clear hK1
    refine daopsE_cut 6 fun K1 hK1 => ?_
    simp only [go_sem, reduceIte, Nat.reduceLT, Nat.reduceLeDiff, Nat.reduceEqDiff, Nat.reduceAdd, Nat.reduceMul, Nat.reduceSub, Nat.reduceBEq, Int.reduceToNat, List.reduceReplicate, reduceCtorEq, h1, hp0, h2d, h3.1, h3.2]
    repeat (refine And.intro (by first | omega | (and_intros <;> first | omega | exact rows_row _ | decide | (simp; done) | (simp; omega)) | fail) ?_)
    refine hK1 _ ?_
    clear hK1
    refine daopsE_cut 6 fun K1 hK1 => ?_
    simp only [go_sem, reduceIte, Nat.reduceLT, Nat.reduceLeDiff, Nat.reduceEqDiff, Nat.reduceAdd, Nat.reduceMul, Nat.reduceSub, Nat.reduceBEq, Int.reduceToNat, List.reduceReplicate, reduceCtorEq, h1, hp0, h2d, h3.1, h3.2]
    repeat (refine And.intro (by first | omega | (and_intros <;> first | omega | exact rows_row _ | decide | (simp; done) | (simp; omega)) | fail) ?_)
    refine hK1 _ ?_
    clear hK1
    refine daopsE_cut 6 fun K1 hK1 => ?_
    simp only [go_sem, reduceIte, Nat.reduceLT, Nat.reduceLeDiff, Nat.reduceEqDiff, Nat.reduceAdd, Nat.reduceMul, Nat.reduceSub, Nat.reduceBEq, Int.reduceToNat, List.reduceReplicate, reduceCtorEq, h1, hp0, h2d, h3.1, h3.2]
    repeat (refine And.intro (by first | omega | (and_intros <;> first | omega | exact rows_row _ | decide | (simp; done) | (simp; omega)) | fail) ?_)
    refine hK1 _ ?_
    clear hK1
    refine daopsE_cut 6 fun K1 hK1 => ?_
    simp only [go_sem, reduceIte, Nat.reduceLT, Nat.reduceLeDiff, Nat.reduceEqDiff, Nat.reduceAdd, Nat.reduceMul, Nat.reduceSub, Nat.reduceBEq, Int.reduceToNat, List.reduceReplicate, reduceCtorEq, h1, hp0, h2d, h3.1, h3.2]
    repeat (refine And.intro (by first | omega | (and_intros <;> first | omega | exact rows_row _ | decide | (simp; done) | (simp; omega)) | fail) ?_)
    refine hK1 _ ?_
    clear hK1
    refine daopsE_cut 6 fun K1 hK1 => ?_
    simp only [go_sem, reduceIte, Nat.reduceLT, Nat.reduceLeDiff, Nat.reduceEqDiff, Nat.reduceAdd, Nat.reduceMul, Nat.reduceSub, Nat.reduceBEq, Int.reduceToNat, List.reduceReplicate, reduceCtorEq, h1, hp0, h2d, h3.1, h3.2]
    repeat (refine And.intro (by first | omega | (and_intros <;> first | omega | exact rows_row _ | decide | (simp; done) | (simp; omega)) | fail) ?_)
    refine hK1 _ ?_
    clear hK1
    refine daopsE_cut 6 fun K1 hK1 => ?_
    simp only [go_sem, reduceIte, Nat.reduceLT, Nat.reduceLeDiff, Nat.reduceEqDiff, Nat.reduceAdd, Nat.reduceMul, Nat.reduceSub, Nat.reduceBEq, Int.reduceToNat, List.reduceReplicate, reduceCtorEq, h1, hp0, h2d, h3.1, h3.2]
    repeat (refine And.intro (by first | omega | (and_intros <;> first | omega | exact rows_row _ | decide | (simp; done) | (simp; omega)) | fail) ?_)
    refine hK1 _ ?_
    clear hK1
    simp only [go_sem, reduceIte, Nat.reduceLT, Nat.reduceLeDiff, Nat.reduceEqDiff, Nat.reduceAdd, Nat.reduceMul, Nat.reduceSub, Nat.reduceBEq, Int.reduceToNat, List.reduceReplicate, reduceCtorEq, h1, hp0, h2d, h3.1, h3.2]
    repeat (refine And.intro (by first | omega | (and_intros <;> first | omega | exact rows_row _ | decide | (simp; done) | (simp; omega)) | fail) ?_)
    refine hK _ (Aw_yes rfl ?_)
    refine Aw_st hE [2] [] fun K hK => ?_
    simp only [go_sem, reduceIte, Nat.reduceLT, Nat.reduceLeDiff, Nat.reduceEqDiff, Nat.reduceAdd, Nat.reduceMul, Nat.reduceSub, Nat.reduceBEq, Int.reduceToNat, List.reduceReplicate, reduceCtorEq]
    refine hK _ (Aw_ret (hR7 _ (hR6 _ (hR3 _ (hR2 _ (hR1 _ (hQ _ ?_)))))))
    simp only [go_sem, reduceIte, Nat.reduceLT, Nat.reduceLeDiff, Nat.reduceEqDiff, Nat.reduceAdd, Nat.reduceMul, Nat.reduceSub, Nat.reduceBEq, Int.reduceToNat, List.reduceReplicate, reduceCtorEq, hf]
  | true =>
  have e1 : okR ⟨rf, rb, h0 :: p', rk, m⟩ = true := by rw [← h2]; exact hokR.trans h1
  have hgo2 : gotOk h0 up (prevG l i) ⟨⟨rf, rb, p0 :: p', rk, m⟩, old⟩ = (match prevG l i with | none => true | some q => decide (rCmp q.r.f q.r.b rf rb < 0)) := by
    simp only [gotOk, e1, h3, h2, List.head?_cons, Bool.true_and, decide_true]
    all_goals (cases prevG l i <;> rfl)
  rw [hgo2] at hst hstop
  have hupo : up = true ∨ (up = false ∧ old = true) := by
    cases up <;> simp_all
  by_cases hi0 : i = 0
  · have hz : decide ((0 : Int) < (i : Int)) = false := decide_eq_false (by omega)
    have hpv : prevG l i = none := by rw [hi0]; rfl
    rw [hpv] at hst
    simp only [Bool.true_and] at hst
    have hst : allG h0 up none l = allG h0 up (prevG l (i + 1)) (l.drop (i + 1)) := hst
    rcases hupo with hu | ⟨hu, ho⟩
    · subst hu
      refine Aw_se hE [0, 1, 2, 3, 4, 5, 6, 7, 8, 9, 10, 11, 12, 13, 14, 15, 16, 17, 18, 19, 20, 21, 22, 23, 24, 25, 26, 27, 28, 29, 30, 31, 32, 33, 34, 35, 36, 37, 38, 39, 40, 41, 42] [0, 1, 3, 7, 15, 31, 63, 127, 255, 511, 31, 1055, 4095, 8191, 16383, 32767, 65535, 131071, 262143, 524287, 1048575, 2097151, 4194303, 8388607, 16777215, 33554431, 67108863, 134217727, 268435455, 536870911, 268435455, 1342177279, 4294967295, 8589934591, 17179869183, 34359738367, 268435455, 68987912191, 206426865663, 549755813887, 1099511627775, 2199023255551, 4398046511103] [1, 3, 59] [1] (by kernel_rfl) fun K hK => ?_
      refine daopsE_cut 6 fun K1 hK1 => ?_
      simp only [go_sem, reduceIte, Nat.reduceLT, Nat.reduceLeDiff, Nat.reduceEqDiff, Nat.reduceAdd, Nat.reduceMul, Nat.reduceSub, Nat.reduceBEq, Int.reduceToNat, List.reduceReplicate, reduceCtorEq, h1, hp0, h2d, hz]
      repeat (refine And.intro (by first | omega | (and_intros <;> first | omega | exact rows_row _ | decide | (simp; done) | (simp; omega)) | fail) ?_)
      refine hK1 _ ?_
      clear hK1
      refine daopsE_cut 6 fun K1 hK1 => ?_
      simp only [go_sem, reduceIte, Nat.reduceLT, Nat.reduceLeDiff, Nat.reduceEqDiff, Nat.reduceAdd, Nat.reduceMul, Nat.reduceSub, Nat.reduceBEq, Int.reduceToNat, List.reduceReplicate, reduceCtorEq, h1, hp0, h2d, hz]
      repeat (refine And.intro (by first | omega | (and_intros <;> first | omega | exact rows_row _ | decide | (simp; done) | (simp; omega)) | fail) ?_)
      refine hK1 _ ?_
      clear hK1
      refine daopsE_cut 6 fun K1 hK1 => ?_
      simp only [go_sem, reduceIte, Nat.reduceLT, Nat.reduceLeDiff, Nat.reduceEqDiff, Nat.reduceAdd, Nat.reduceMul, Nat.reduceSub, Nat.reduceBEq, Int.reduceToNat, List.reduceReplicate, reduceCtorEq, h1, hp0, h2d, hz]
      repeat (refine And.intro (by first | omega | (and_intros <;> first | omega | exact rows_row _ | decide | (simp; done) | (simp; omega)) | fail) ?_)
      refine hK1 _ ?_
      clear hK1
      refine daopsE_cut 6 fun K1 hK1 => ?_
      simp only [go_sem, reduceIte, Nat.reduceLT, Nat.reduceLeDiff, Nat.reduceEqDiff, Nat.reduceAdd, Nat.reduceMul, Nat.reduceSub, Nat.reduceBEq, Int.reduceToNat, List.reduceReplicate, reduceCtorEq, h1, hp0, h2d, hz]
      repeat (refine And.intro (by first | omega | (and_intros <;> first | omega | exact rows_row _ | decide | (simp; done) | (simp; omega)) | fail) ?_)
      refine hK1 _ ?_
      clear hK1
      refine daopsE_cut 6 fun K1 hK1 => ?_
      simp only [go_sem, reduceIte, Nat.reduceLT, Nat.reduceLeDiff, Nat.reduceEqDiff, Nat.reduceAdd, Nat.reduceMul, Nat.reduceSub, Nat.reduceBEq, Int.reduceToNat, List.reduceReplicate, reduceCtorEq, h1, hp0, h2d, hz]
      repeat (refine And.intro (by first | omega | (and_intros <;> first | omega | exact rows_row _ | decide | (simp; done) | (simp; omega)) | fail) ?_)
      refine hK1 _ ?_
      clear hK1
      refine daopsE_cut 6 fun K1 hK1 => ?_
      simp only [go_sem, reduceIte, Nat.reduceLT, Nat.reduceLeDiff, Nat.reduceEqDiff, Nat.reduceAdd, Nat.reduceMul, Nat.reduceSub, Nat.reduceBEq, Int.reduceToNat, List.reduceReplicate, reduceCtorEq, h1, hp0, h2d, hz]
      repeat (refine And.intro (by first | omega | (and_intros <;> first | omega | exact rows_row _ | decide | (simp; done) | (simp; omega)) | fail) ?_)
      refine hK1 _ ?_
      clear hK1
      refine daopsE_cut 6 fun K1 hK1 => ?_
      simp only [go_sem, reduceIte, Nat.reduceLT, Nat.reduceLeDiff, Nat.reduceEqDiff, Nat.reduceAdd, Nat.reduceMul, Nat.reduceSub, Nat.reduceBEq, Int.reduceToNat, List.reduceReplicate, reduceCtorEq, h1, hp0, h2d, hz]
      repeat (refine And.intro (by first | omega | (and_intros <;> first | omega | exact rows_row _ | decide | (simp; done) | (simp; omega)) | fail) ?_)
      refine hK1 _ ?_
      clear hK1
      simp only [go_sem, reduceIte, Nat.reduceLT, Nat.reduceLeDiff, Nat.reduceEqDiff, Nat.reduceAdd, Nat.reduceMul, Nat.reduceSub, Nat.reduceBEq, Int.reduceToNat, List.reduceReplicate, reduceCtorEq, h1, hp0, h2d, hz]
      repeat (refine And.intro (by first | omega | (and_intros <;> first | omega | exact rows_row _ | decide | (simp; done) | (simp; omega)) | fail) ?_)
      refine hK _ (Aw_no rfl (Aw_skip (hN7 _ (hB6 _ ?_))))
      refine Aw_tx hE [1, 3] [1] fun K hK => ?_
      simp only [go_sem, reduceIte, Nat.reduceLT, Nat.reduceLeDiff, Nat.reduceEqDiff, Nat.reduceAdd, Nat.reduceMul, Nat.reduceSub, Nat.reduceBEq, Int.reduceToNat, List.reduceReplicate, reduceCtorEq]
      repeat (refine And.intro (by first | omega | (and_intros <;> first | omega | exact rows_row _ | decide | (simp; done) | (simp; omega)) | fail) ?_)
      refine hK _ (hN3 (i + 1) _ ⟨by omega, hst⟩ (by omega) (Le.refl _))
    · subst hu ho
      refine Aw_se hE [0, 1, 2, 3, 4, 5, 6, 7, 8, 9, 10, 11, 12, 13, 14, 15, 16, 17, 18, 19, 20, 21, 22, 23, 24, 25, 26, 27, 28, 29, 30, 31, 32, 33, 34, 35, 36, 37, 38, 39, 40, 41, 42] [0, 1, 3, 7, 15, 31, 63, 127, 255, 511, 31, 1055, 4095, 8191, 16383, 32767, 65535, 131071, 262143, 524287, 1048575, 2097151, 4194303, 8388607, 16777215, 33554431, 67108863, 134217727, 268435455, 536870911, 268435455, 1342177279, 4294967295, 8589934591, 17179869183, 34359738367, 268435455, 68987912191, 206426865663, 549755813887, 1099511627775, 2199023255551, 4398046511103] [1, 3, 59] [1] (by kernel_rfl) fun K hK => ?_
      refine daopsE_cut 6 fun K1 hK1 => ?_
      simp only [go_sem, reduceIte, Nat.reduceLT, Nat.reduceLeDiff, Nat.reduceEqDiff, Nat.reduceAdd, Nat.reduceMul, Nat.reduceSub, Nat.reduceBEq, Int.reduceToNat, List.reduceReplicate, reduceCtorEq, h1, hp0, h2d, hz]
      repeat (refine And.intro (by first | omega | (and_intros <;> first | omega | exact rows_row _ | decide | (simp; done) | (simp; omega)) | fail) ?_)
      refine hK1 _ ?_
      clear hK1
      refine daopsE_cut 6 fun K1 hK1 => ?_
      simp only [go_sem, reduceIte, Nat.reduceLT, Nat.reduceLeDiff, Nat.reduceEqDiff, Nat.reduceAdd, Nat.reduceMul, Nat.reduceSub, Nat.reduceBEq, Int.reduceToNat, List.reduceReplicate, reduceCtorEq, h1, hp0, h2d, hz]
      repeat (refine And.intro (by first | omega | (and_intros <;> first | omega | exact rows_row _ | decide | (simp; done) | (simp; omega)) | fail) ?_)
      refine hK1 _ ?_
      clear hK1
      refine daopsE_cut 6 fun K1 hK1 => ?_
      simp only [go_sem, reduceIte, Nat.reduceLT, Nat.reduceLeDiff, Nat.reduceEqDiff, Nat.reduceAdd, Nat.reduceMul, Nat.reduceSub, Nat.reduceBEq, Int.reduceToNat, List.reduceReplicate, reduceCtorEq, h1, hp0, h2d, hz]
      repeat (refine And.intro (by first | omega | (and_intros <;> first | omega | exact rows_row _ | decide | (simp; done) | (simp; omega)) | fail) ?_)
      refine hK1 _ ?_
      clear hK1
      refine daopsE_cut 6 fun K1 hK1 => ?_
      simp only [go_sem, reduceIte, Nat.reduceLT, Nat.reduceLeDiff, Nat.reduceEqDiff, Nat.reduceAdd, Nat.reduceMul, Nat.reduceSub, Nat.reduceBEq, Int.reduceToNat, List.reduceReplicate, reduceCtorEq, h1, hp0, h2d, hz]
      repeat (refine And.intro (by first | omega | (and_intros <;> first | omega | exact rows_row _ | decide | (simp; done) | (simp; omega)) | fail) ?_)
      refine hK1 _ ?_
      clear hK1
      refine daopsE_cut 6 fun K1 hK1 => ?_
      simp only [go_sem, reduceIte, Nat.reduceLT, Nat.reduceLeDiff, Nat.reduceEqDiff, Nat.reduceAdd, Nat.reduceMul, Nat.reduceSub, Nat.reduceBEq, Int.reduceToNat, List.reduceReplicate, reduceCtorEq, h1, hp0, h2d, hz]
      repeat (refine And.intro (by first | omega | (and_intros <;> first | omega | exact rows_row _ | decide | (simp; done) | (simp; omega)) | fail) ?_)
      refine hK1 _ ?_
      clear hK1
      refine daopsE_cut 6 fun K1 hK1 => ?_
      simp only [go_sem, reduceIte, Nat.reduceLT, Nat.reduceLeDiff, Nat.reduceEqDiff, Nat.reduceAdd, Nat.reduceMul, Nat.reduceSub, Nat.reduceBEq, Int.reduceToNat, List.reduceReplicate, reduceCtorEq, h1, hp0, h2d, hz]
      repeat (refine And.intro (by first | omega | (and_intros <;> first | omega | exact rows_row _ | decide | (simp; done) | (simp; omega)) | fail) ?_)
      refine hK1 _ ?_
      clear hK1
      refine daopsE_cut 6 fun K1 hK1 => ?_
      simp only [go_sem, reduceIte, Nat.reduceLT, Nat.reduceLeDiff, Nat.reduceEqDiff, Nat.reduceAdd, Nat.reduceMul, Nat.reduceSub, Nat.reduceBEq, Int.reduceToNat, List.reduceReplicate, reduceCtorEq, h1, hp0, h2d, hz]
      repeat (refine And.intro (by first | omega | (and_intros <;> first | omega | exact rows_row _ | decide | (simp; done) | (simp; omega)) | fail) ?_)
      refine hK1 _ ?_
      clear hK1
      simp only [go_sem, reduceIte, Nat.reduceLT, Nat.reduceLeDiff, Nat.reduceEqDiff, Nat.reduceAdd, Nat.reduceMul, Nat.reduceSub, Nat.reduceBEq, Int.reduceToNat, List.reduceReplicate, reduceCtorEq, h1, hp0, h2d, hz]
      repeat (refine And.intro (by first | omega | (and_intros <;> first | omega | exact rows_row _ | decide | (simp; done) | (simp; omega)) | fail) ?_)
      refine hK _ (Aw_no rfl (Aw_skip (hN7 _ (hB6 _ ?_))))
      refine Aw_tx hE [1, 3] [1] fun K hK => ?_
      simp only [go_sem, reduceIte, Nat.reduceLT, Nat.reduceLeDiff, Nat.reduceEqDiff, Nat.reduceAdd, Nat.reduceMul, Nat.reduceSub, Nat.reduceBEq, Int.reduceToNat, List.reduceReplicate, reduceCtorEq]
      repeat (refine And.intro (by first | omega | (and_intros <;> first | omega | exact rows_row _ | decide | (simp; done) | (simp; omega)) | fail) ?_)
      refine hK _ (hN3 (i + 1) _ ⟨by omega, hst⟩ (by omega) (Le.refl _))
  have hz : decide ((0 : Int) < (i : Int)) = true := decide_eq_true (by omega)
  have et : ((i : Int) - 1).toNat = i - 1 := by omega
  have hget2 := grows_get l (i - 1) (by omega)
  have hpv : prevG l i = some l[i - 1] := by
    cases i with
    | zero => exact absurd rfl hi0
    | succ j => exact List.getElem?_eq_getElem (by omega)
  rw [hpv] at hst hstop
  generalize l[i - 1] = y at hget2 hst hstop
  obtain ⟨⟨qf, qb, qp, qk, qm⟩, qo⟩ := y
  simp only at hst hstop
  cases hq : decide (rCmp qf qb rf rb < 0) with
  | true =>
    rw [hq, Bool.true_and] at hst
    have hq2 : decide (0 ≤ rCmp qf qb rf rb) = false := by
      simp only [decide_eq_true_eq] at hq
      exact decide_eq_false (by omega)
    rcases hupo with hu | ⟨hu, ho⟩
    · subst hu
      refine Aw_se hE [0, 1, 2, 3, 4, 5, 6, 7, 8, 9, 10, 11, 12, 13, 14, 15, 16, 17, 18, 19, 20, 21, 22, 23, 24, 25, 26, 27, 28, 29, 30, 31, 32, 33, 34, 35, 36, 37, 38, 39, 40, 41, 42] [0, 1, 3, 7, 15, 31, 63, 127, 255, 511, 31, 1055, 4095, 8191, 16383, 32767, 65535, 131071, 262143, 524287, 1048575, 2097151, 4194303, 8388607, 16777215, 33554431, 67108863, 134217727, 268435455, 536870911, 268435455, 1342177279, 4294967295, 8589934591, 17179869183, 34359738367, 268435455, 68987912191, 206426865663, 549755813887, 1099511627775, 2199023255551, 4398046511103] [1, 3, 59] [1] (by kernel_rfl) fun K hK => ?_
      refine daopsE_cut 6 fun K1 hK1 => ?_
      simp only [go_sem, reduceIte, Nat.reduceLT, Nat.reduceLeDiff, Nat.reduceEqDiff, Nat.reduceAdd, Nat.reduceMul, Nat.reduceSub, Nat.reduceBEq, Int.reduceToNat, List.reduceReplicate, reduceCtorEq, h1, hp0, h2d, hz, et, hget2, hq2]
      repeat (refine And.intro (by first | omega | (and_intros <;> first | omega | exact rows_row _ | decide | (simp; done) | (simp; omega)) | fail) ?_)
      refine hK1 _ ?_
      clear hK1
      refine daopsE_cut 6 fun K1 hK1 => ?_
      simp only [go_sem, reduceIte, Nat.reduceLT, Nat.reduceLeDiff, Nat.reduceEqDiff, Nat.reduceAdd, Nat.reduceMul, Nat.reduceSub, Nat.reduceBEq, Int.reduceToNat, List.reduceReplicate, reduceCtorEq, h1, hp0, h2d, hz, et, hget2, hq2]
      repeat (refine And.intro (by first | omega | (and_intros <;> first | omega | exact rows_row _ | decide | (simp; done) | (simp; omega)) | fail) ?_)
      refine hK1 _ ?_
      clear hK1
      refine daopsE_cut 6 fun K1 hK1 => ?_
      simp only [go_sem, reduceIte, Nat.reduceLT, Nat.reduceLeDiff, Nat.reduceEqDiff, Nat.reduceAdd, Nat.reduceMul, Nat.reduceSub, Nat.reduceBEq, Int.reduceToNat, List.reduceReplicate, reduceCtorEq, h1, hp0, h2d, hz, et, hget2, hq2]
      repeat (refine And.intro (by first | omega | (and_intros <;> first | omega | exact rows_row _ | decide | (simp; done) | (simp; omega)) | fail) ?_)
      refine hK1 _ ?_
      clear hK1
      refine daopsE_cut 6 fun K1 hK1 => ?_
      simp only [go_sem, reduceIte, Nat.reduceLT, Nat.reduceLeDiff, Nat.reduceEqDiff, Nat.reduceAdd, Nat.reduceMul, Nat.reduceSub, Nat.reduceBEq, Int.reduceToNat, List.reduceReplicate, reduceCtorEq, h1, hp0, h2d, hz, et, hget2, hq2]
      repeat (refine And.intro (by first | omega | (and_intros <;> first | omega | exact rows_row _ | decide | (simp; done) | (simp; omega)) | fail) ?_)
      refine hK1 _ ?_
      clear hK1
      refine daopsE_cut 6 fun K1 hK1 => ?_
      simp only [go_sem, reduceIte, Nat.reduceLT, Nat.reduceLeDiff, Nat.reduceEqDiff, Nat.reduceAdd, Nat.reduceMul, Nat.reduceSub, Nat.reduceBEq, Int.reduceToNat, List.reduceReplicate, reduceCtorEq, h1, hp0, h2d, hz, et, hget2, hq2]
      repeat (refine And.intro (by first | omega | (and_intros <;> first | omega | exact rows_row _ | decide | (simp; done) | (simp; omega)) | fail) ?_)
      refine hK1 _ ?_
      clear hK1
      refine daopsE_cut 6 fun K1 hK1 => ?_
      simp only [go_sem, reduceIte, Nat.reduceLT, Nat.reduceLeDiff, Nat.reduceEqDiff, Nat.reduceAdd, Nat.reduceMul, Nat.reduceSub, Nat.reduceBEq, Int.reduceToNat, List.reduceReplicate, reduceCtorEq, h1, hp0, h2d, hz, et, hget2, hq2]
      repeat (refine And.intro (by first | omega | (and_intros <;> first | omega | exact rows_row _ | decide | (simp; done) | (simp; omega)) | fail) ?_)
      refine hK1 _ ?_
      clear hK1
      refine daopsE_cut 6 fun K1 hK1 => ?_
      simp only [go_sem, reduceIte, Nat.reduceLT, Nat.reduceLeDiff, Nat.reduceEqDiff, Nat.reduceAdd, Nat.reduceMul, Nat.reduceSub, Nat.reduceBEq, Int.reduceToNat, List.reduceReplicate, reduceCtorEq, h1, hp0, h2d, hz, et, hget2, hq2]
      repeat (refine And.intro (by first | omega | (and_intros <;> first | omega | exact rows_row _ | decide | (simp; done) | (simp; omega)) | fail) ?_)
      refine hK1 _ ?_
      clear hK1
      simp only [go_sem, reduceIte, Nat.reduceLT, Nat.reduceLeDiff, Nat.reduceEqDiff, Nat.reduceAdd, Nat.reduceMul, Nat.reduceSub, Nat.reduceBEq, Int.reduceToNat, List.reduceReplicate, reduceCtorEq, h1, hp0, h2d, hz, et, hget2, hq2]
      repeat (refine And.intro (by first | omega | (and_intros <;> first | omega | exact rows_row _ | decide | (simp; done) | (simp; omega)) | fail) ?_)
      refine hK _ (Aw_no rfl (Aw_skip (hN7 _ (hB6 _ ?_))))
      refine Aw_tx hE [1, 3] [1] fun K hK => ?_
      simp only [go_sem, reduceIte, Nat.reduceLT, Nat.reduceLeDiff, Nat.reduceEqDiff, Nat.reduceAdd, Nat.reduceMul, Nat.reduceSub, Nat.reduceBEq, Int.reduceToNat, List.reduceReplicate, reduceCtorEq]
      repeat (refine And.intro (by first | omega | (and_intros <;> first | omega | exact rows_row _ | decide | (simp; done) | (simp; omega)) | fail) ?_)
      refine hK _ (hN3 (i + 1) _ ⟨by omega, hst⟩ (by omega) (Le.refl _))
    · subst hu ho
      refine Aw_se hE [0, 1, 2, 3, 4, 5, 6, 7, 8, 9, 10, 11, 12, 13, 14, 15, 16, 17, 18, 19, 20, 21, 22, 23, 24, 25, 26, 27, 28, 29, 30, 31, 32, 33, 34, 35, 36, 37, 38, 39, 40, 41, 42] [0, 1, 3, 7, 15, 31, 63, 127, 255, 511, 31, 1055, 4095, 8191, 16383, 32767, 65535, 131071, 262143, 524287, 1048575, 2097151, 4194303, 8388607, 16777215, 33554431, 67108863, 134217727, 268435455, 536870911, 268435455, 1342177279, 4294967295, 8589934591, 17179869183, 34359738367, 268435455, 68987912191, 206426865663, 549755813887, 1099511627775, 2199023255551, 4398046511103] [1, 3, 59] [1] (by kernel_rfl) fun K hK => ?_
      refine daopsE_cut 6 fun K1 hK1 => ?_
      simp only [go_sem, reduceIte, Nat.reduceLT, Nat.reduceLeDiff, Nat.reduceEqDiff, Nat.reduceAdd, Nat.reduceMul, Nat.reduceSub, Nat.reduceBEq, Int.reduceToNat, List.reduceReplicate, reduceCtorEq, h1, hp0, h2d, hz, et, hget2, hq2]
      repeat (refine And.intro (by first | omega | (and_intros <;> first | omega | exact rows_row _ | decide | (simp; done) | (simp; omega)) | fail) ?_)
      refine hK1 _ ?_
      clear hK1
      refine daopsE_cut 6 fun K1 hK1 => ?_
      simp only [go_sem, reduceIte, Nat.reduceLT, Nat.reduceLeDiff, Nat.reduceEqDiff, Nat.reduceAdd, Nat.reduceMul, Nat.reduceSub, Nat.reduceBEq, Int.reduceToNat, List.reduceReplicate, reduceCtorEq, h1, hp0, h2d, hz, et, hget2, hq2]
      repeat (refine And.intro (by first | omega | (and_intros <;> first | omega | exact rows_row _ | decide | (simp; done) | (simp; omega)) | fail) ?_)
      refine hK1 _ ?_
      clear hK1
      refine daopsE_cut 6 fun K1 hK1 => ?_
      simp only [go_sem, reduceIte, Nat.reduceLT, Nat.reduceLeDiff, Nat.reduceEqDiff, Nat.reduceAdd, Nat.reduceMul, Nat.reduceSub, Nat.reduceBEq, Int.reduceToNat, List.reduceReplicate, reduceCtorEq, h1, hp0, h2d, hz, et, hget2, hq2]
      repeat (refine And.intro (by first | omega | (and_intros <;> first | omega | exact rows_row _ | decide | (simp; done) | (simp; omega)) | fail) ?_)
      refine hK1 _ ?_
      clear hK1
      refine daopsE_cut 6 fun K1 hK1 => ?_
      simp only [go_sem, reduceIte, Nat.reduceLT, Nat.reduceLeDiff, Nat.reduceEqDiff, Nat.reduceAdd, Nat.reduceMul, Nat.reduceSub, Nat.reduceBEq, Int.reduceToNat, List.reduceReplicate, reduceCtorEq, h1, hp0, h2d, hz, et, hget2, hq2]
      repeat (refine And.intro (by first | omega | (and_intros <;> first | omega | exact rows_row _ | decide | (simp; done) | (simp; omega)) | fail) ?_)
      refine hK1 _ ?_
      clear hK1
      refine daopsE_cut 6 fun K1 hK1 => ?_
      simp only [go_sem, reduceIte, Nat.reduceLT, Nat.reduceLeDiff, Nat.reduceEqDiff, Nat.reduceAdd, Nat.reduceMul, Nat.reduceSub, Nat.reduceBEq, Int.reduceToNat, List.reduceReplicate, reduceCtorEq, h1, hp0, h2d, hz, et, hget2, hq2]
      repeat (refine And.intro (by first | omega | (and_intros <;> first | omega | exact rows_row _ | decide | (simp; done) | (simp; omega)) | fail) ?_)
      refine hK1 _ ?_
      clear hK1
      refine daopsE_cut 6 fun K1 hK1 => ?_
      simp only [go_sem, reduceIte, Nat.reduceLT, Nat.reduceLeDiff, Nat.reduceEqDiff, Nat.reduceAdd, Nat.reduceMul, Nat.reduceSub, Nat.reduceBEq, Int.reduceToNat, List.reduceReplicate, reduceCtorEq, h1, hp0, h2d, hz, et, hget2, hq2]
      repeat (refine And.intro (by first | omega | (and_intros <;> first | omega | exact rows_row _ | decide | (simp; done) | (simp; omega)) | fail) ?_)
      refine hK1 _ ?_
      clear hK1
      refine daopsE_cut 6 fun K1 hK1 => ?_
      simp only [go_sem, reduceIte, Nat.reduceLT, Nat.reduceLeDiff, Nat.reduceEqDiff, Nat.reduceAdd, Nat.reduceMul, Nat.reduceSub, Nat.reduceBEq, Int.reduceToNat, List.reduceReplicate, reduceCtorEq, h1, hp0, h2d, hz, et, hget2, hq2]
      repeat (refine And.intro (by first | omega | (and_intros <;> first | omega | exact rows_row _ | decide | (simp; done) | (simp; omega)) | fail) ?_)
      refine hK1 _ ?_
      clear hK1
      simp only [go_sem, reduceIte, Nat.reduceLT, Nat.reduceLeDiff, Nat.reduceEqDiff, Nat.reduceAdd, Nat.reduceMul, Nat.reduceSub, Nat.reduceBEq, Int.reduceToNat, List.reduceReplicate, reduceCtorEq, h1, hp0, h2d, hz, et, hget2, hq2]
      repeat (refine And.intro (by first | omega | (and_intros <;> first | omega | exact rows_row _ | decide | (simp; done) | (simp; omega)) | fail) ?_)
      refine hK _ (Aw_no rfl (Aw_skip (hN7 _ (hB6 _ ?_))))
      refine Aw_tx hE [1, 3] [1] fun K hK => ?_
      simp only [go_sem, reduceIte, Nat.reduceLT, Nat.reduceLeDiff, Nat.reduceEqDiff, Nat.reduceAdd, Nat.reduceMul, Nat.reduceSub, Nat.reduceBEq, Int.reduceToNat, List.reduceReplicate, reduceCtorEq]
      repeat (refine And.intro (by first | omega | (and_intros <;> first | omega | exact rows_row _ | decide | (simp; done) | (simp; omega)) | fail) ?_)
      refine hK _ (hN3 (i + 1) _ ⟨by omega, hst⟩ (by omega) (Le.refl _))
  | false =>
    have hf := hstop hq
    have hq2 : decide (0 ≤ rCmp qf qb rf rb) = true := by
      simp only [decide_eq_false_iff_not] at hq
      exact decide_eq_true (by omega)
    rcases hupo with hu | ⟨hu, ho⟩
    · subst hu
      refine Aw_se hE [0, 1, 2, 3, 4, 5, 6, 7, 8, 9, 10, 11, 12, 13, 14, 15, 16, 17, 18, 19, 20, 21, 22, 23, 24, 25, 26, 27, 28, 29, 30, 31, 32, 33, 34, 35, 36, 37, 38, 39, 40, 41, 42] [0, 1, 3, 7, 15, 31, 63, 127, 255, 511, 31, 1055, 4095, 8191, 16383, 32767, 65535, 131071, 262143, 524287, 1048575, 2097151, 4194303, 8388607, 16777215, 33554431, 67108863, 134217727, 268435455, 536870911, 268435455, 1342177279, 4294967295, 8589934591, 17179869183, 34359738367, 268435455, 68987912191, 206426865663, 549755813887, 1099511627775, 2199023255551, 4398046511103] [1, 3, 59] [1] (by kernel_rfl) fun K hK => ?_
      refine daopsE_cut 6 fun K1 hK1 => ?_
      simp only [go_sem, reduceIte, Nat.reduceLT, Nat.reduceLeDiff, Nat.reduceEqDiff, Nat.reduceAdd, Nat.reduceMul, Nat.reduceSub, Nat.reduceBEq, Int.reduceToNat, List.reduceReplicate, reduceCtorEq, h1, hp0, h2d, hz, et, hget2, hq2]
      repeat (refine And.intro (by first | omega | (and_intros <;> first | omega | exact rows_row _ | decide | (simp; done) | (simp; omega)) | fail) ?_)
      refine hK1 _ ?_
      clear hK1
      refine daopsE_cut 6 fun K1 hK1 => ?_
      simp only [go_sem, reduceIte, Nat.reduceLT, Nat.reduceLeDiff, Nat.reduceEqDiff, Nat.reduceAdd, Nat.reduceMul, Nat.reduceSub, Nat.reduceBEq, Int.reduceToNat, List.reduceReplicate, reduceCtorEq, h1, hp0, h2d, hz, et, hget2, hq2]
      repeat (refine And.intro (by first | omega | (and_intros <;> first | omega | exact rows_row _ | decide | (simp; done) | (simp; omega)) | fail) ?_)
      refine hK1 _ ?_
      clear hK1
      refine daopsE_cut 6 fun K1 hK1 => ?_
      simp only [go_sem, reduceIte, Nat.reduceLT, Nat.reduceLeDiff, Nat.reduceEqDiff, Nat.reduceAdd, Nat.reduceMul, Nat.reduceSub, Nat.reduceBEq, Int.reduceToNat, List.reduceReplicate, reduceCtorEq, h1, hp0, h2d, hz, et, hget2, hq2]
      repeat (refine And.intro (by first | omega | (and_intros <;> first | omega | exact rows_row _ | decide | (simp; done) | (simp; omega)) | fail) ?_)
      refine hK1 _ ?_
      clear hK1
      refine daopsE_cut 6 fun K1 hK1 => ?_
      simp only [go_sem, reduceIte, Nat.reduceLT, Nat.reduceLeDiff, Nat.reduceEqDiff, Nat.reduceAdd, Nat.reduceMul, Nat.reduceSub, Nat.reduceBEq, Int.reduceToNat, List.reduceReplicate, reduceCtorEq, h1, hp0, h2d, hz, et, hget2, hq2]
      repeat (refine And.intro (by first | omega | (and_intros <;> first | omega | exact rows_row _ | decide | (simp; done) | (simp; omega)) | fail) ?_)
      refine hK1 _ ?_
      clear hK1
      refine daopsE_cut 6 fun K1 hK1 => ?_
      simp only [go_sem, reduceIte, Nat.reduceLT, Nat.reduceLeDiff, Nat.reduceEqDiff, Nat.reduceAdd, Nat.reduceMul, Nat.reduceSub, Nat.reduceBEq, Int.reduceToNat, List.reduceReplicate, reduceCtorEq, h1, hp0, h2d, hz, et, hget2, hq2]
      repeat (refine And.intro (by first | omega | (and_intros <;> first | omega | exact rows_row _ | decide | (simp; done) | (simp; omega)) | fail) ?_)
      refine hK1 _ ?_
      clear hK1
      refine daopsE_cut 6 fun K1 hK1 => ?_
      simp only [go_sem, reduceIte, Nat.reduceLT, Nat.reduceLeDiff, Nat.reduceEqDiff, Nat.reduceAdd, Nat.reduceMul, Nat.reduceSub, Nat.reduceBEq, Int.reduceToNat, List.reduceReplicate, reduceCtorEq, h1, hp0, h2d, hz, et, hget2, hq2]
      repeat (refine And.intro (by first | omega | (and_intros <;> first | omega | exact rows_row _ | decide | (simp; done) | (simp; omega)) | fail) ?_)
      refine hK1 _ ?_
      clear hK1
      refine daopsE_cut 6 fun K1 hK1 => ?_
      simp only [go_sem, reduceIte, Nat.reduceLT, Nat.reduceLeDiff, Nat.reduceEqDiff, Nat.reduceAdd, Nat.reduceMul, Nat.reduceSub, Nat.reduceBEq, Int.reduceToNat, List.reduceReplicate, reduceCtorEq, h1, hp0, h2d, hz, et, hget2, hq2]
      repeat (refine And.intro (by first | omega | (and_intros <;> first | omega | exact rows_row _ | decide | (simp; done) | (simp; omega)) | fail) ?_)
      refine hK1 _ ?_
      clear hK1
      simp only [go_sem, reduceIte, Nat.reduceLT, Nat.reduceLeDiff, Nat.reduceEqDiff, Nat.reduceAdd, Nat.reduceMul, Nat.reduceSub, Nat.reduceBEq, Int.reduceToNat, List.reduceReplicate, reduceCtorEq, h1, hp0, h2d, hz, et, hget2, hq2]
      repeat (refine And.intro (by first | omega | (and_intros <;> first | omega | exact rows_row _ | decide | (simp; done) | (simp; omega)) | fail) ?_)
      refine hK _ (Aw_yes rfl ?_)
      refine Aw_st hE [2] [] fun K hK => ?_
      simp only [go_sem, reduceIte, Nat.reduceLT, Nat.reduceLeDiff, Nat.reduceEqDiff, Nat.reduceAdd, Nat.reduceMul, Nat.reduceSub, Nat.reduceBEq, Int.reduceToNat, List.reduceReplicate, reduceCtorEq]
      refine hK _ (Aw_ret (hR7 _ (hR6 _ (hR3 _ (hR2 _ (hR1 _ (hQ _ ?_)))))))
      simp only [go_sem, reduceIte, Nat.reduceLT, Nat.reduceLeDiff, Nat.reduceEqDiff, Nat.reduceAdd, Nat.reduceMul, Nat.reduceSub, Nat.reduceBEq, Int.reduceToNat, List.reduceReplicate, reduceCtorEq, hf]
    · subst hu ho
      refine Aw_se hE [0, 1, 2, 3, 4, 5, 6, 7, 8, 9, 10, 11, 12, 13, 14, 15, 16, 17, 18, 19, 20, 21, 22, 23, 24, 25, 26, 27, 28, 29, 30, 31, 32, 33, 34, 35, 36, 37, 38, 39, 40, 41, 42] [0, 1, 3, 7, 15, 31, 63, 127, 255, 511, 31, 1055, 4095, 8191, 16383, 32767, 65535, 131071, 262143, 524287, 1048575, 2097151, 4194303, 8388607, 16777215, 33554431, 67108863, 134217727, 268435455, 536870911, 268435455, 1342177279, 4294967295, 8589934591, 17179869183, 34359738367, 268435455, 68987912191, 206426865663, 549755813887, 1099511627775, 2199023255551, 4398046511103] [1, 3, 59] [1] (by kernel_rfl) fun K hK => ?_
      refine daopsE_cut 6 fun K1 hK1 => ?_
      simp only [go_sem, reduceIte, Nat.reduceLT, Nat.reduceLeDiff, Nat.reduceEqDiff, Nat.reduceAdd, Nat.reduceMul, Nat.reduceSub, Nat.reduceBEq, Int.reduceToNat, List.reduceReplicate, reduceCtorEq, h1, hp0, h2d, hz, et, hget2, hq2]
      repeat (refine And.intro (by first | omega | (and_intros <;> first | omega | exact rows_row _ | decide | (simp; done) | (simp; omega)) | fail) ?_)
      refine hK1 _ ?_
      clear hK1
      refine daopsE_cut 6 fun K1 hK1 => ?_
      simp only [go_sem, reduceIte, Nat.reduceLT, Nat.reduceLeDiff, Nat.reduceEqDiff, Nat.reduceAdd, Nat.reduceMul, Nat.reduceSub, Nat.reduceBEq, Int.reduceToNat, List.reduceReplicate, reduceCtorEq, h1, hp0, h2d, hz, et, hget2, hq2]
      repeat (refine And.intro (by first | omega | (and_intros <;> first | omega | exact rows_row _ | decide | (simp; done) | (simp; omega)) | fail) ?_)
      refine hK1 _ ?_
      clear hK1
      refine daopsE_cut 6 fun K1 hK1 => ?_
      simp only [go_sem, reduceIte, Nat.reduceLT, Nat.reduceLeDiff, Nat.reduceEqDiff, Nat.reduceAdd, Nat.reduceMul, Nat.reduceSub, Nat.reduceBEq, Int.reduceToNat, List.reduceReplicate, reduceCtorEq, h1, hp0, h2d, hz, et, hget2, hq2]
      repeat (refine And.intro (by first | omega | (and_intros <;> first | omega | exact rows_row _ | decide | (simp; done) | (simp; omega)) | fail) ?_)
      refine hK1 _ ?_
      clear hK1
      refine daopsE_cut 6 fun K1 hK1 => ?_
      simp only [go_sem, reduceIte, Nat.reduceLT, Nat.reduceLeDiff, Nat.reduceEqDiff, Nat.reduceAdd, Nat.reduceMul, Nat.reduceSub, Nat.reduceBEq, Int.reduceToNat, List.reduceReplicate, reduceCtorEq, h1, hp0, h2d, hz, et, hget2, hq2]
      repeat (refine And.intro (by first | omega | (and_intros <;> first | omega | exact rows_row _ | decide | (simp; done) | (simp; omega)) | fail) ?_)
      refine hK1 _ ?_
      clear hK1
      refine daopsE_cut 6 fun K1 hK1 => ?_
      simp only [go_sem, reduceIte, Nat.reduceLT, Nat.reduceLeDiff, Nat.reduceEqDiff, Nat.reduceAdd, Nat.reduceMul, Nat.reduceSub, Nat.reduceBEq, Int.reduceToNat, List.reduceReplicate, reduceCtorEq, h1, hp0, h2d, hz, et, hget2, hq2]
      repeat (refine And.intro (by first | omega | (and_intros <;> first | omega | exact rows_row _ | decide | (simp; done) | (simp; omega)) | fail) ?_)
      refine hK1 _ ?_
      clear hK1
      refine daopsE_cut 6 fun K1 hK1 => ?_
      simp only [go_sem, reduceIte, Nat.reduceLT, Nat.reduceLeDiff, Nat.reduceEqDiff, Nat.reduceAdd, Nat.reduceMul, Nat.reduceSub, Nat.reduceBEq, Int.reduceToNat, List.reduceReplicate, reduceCtorEq, h1, hp0, h2d, hz, et, hget2, hq2]
      repeat (refine And.intro (by first | omega | (and_intros <;> first | omega | exact rows_row _ | decide | (simp; done) | (simp; omega)) | fail) ?_)
      refine hK1 _ ?_
      clear hK1
      refine daopsE_cut 6 fun K1 hK1 => ?_
      simp only [go_sem, reduceIte, Nat.reduceLT, Nat.reduceLeDiff, Nat.reduceEqDiff, Nat.reduceAdd, Nat.reduceMul, Nat.reduceSub, Nat.reduceBEq, Int.reduceToNat, List.reduceReplicate, reduceCtorEq, h1, hp0, h2d, hz, et, hget2, hq2]
      repeat (refine And.intro (by first | omega | (and_intros <;> first | omega | exact rows_row _ | decide | (simp; done) | (simp; omega)) | fail) ?_)
      refine hK1 _ ?_
      clear hK1
      simp only [go_sem, reduceIte, Nat.reduceLT, Nat.reduceLeDiff, Nat.reduceEqDiff, Nat.reduceAdd, Nat.reduceMul, Nat.reduceSub, Nat.reduceBEq, Int.reduceToNat, List.reduceReplicate, reduceCtorEq, h1, hp0, h2d, hz, et, hget2, hq2]
      repeat (refine And.intro (by first | omega | (and_intros <;> first | omega | exact rows_row _ | decide | (simp; done) | (simp; omega)) | fail) ?_)
      refine hK _ (Aw_yes rfl ?_)
      refine Aw_st hE [2] [] fun K hK => ?_
      simp only [go_sem, reduceIte, Nat.reduceLT, Nat.reduceLeDiff, Nat.reduceEqDiff, Nat.reduceAdd, Nat.reduceMul, Nat.reduceSub, Nat.reduceBEq, Int.reduceToNat, List.reduceReplicate, reduceCtorEq]
      refine hK _ (Aw_ret (hR7 _ (hR6 _ (hR3 _ (hR2 _ (hR1 _ (hQ _ ?_)))))))
      simp only [go_sem, reduceIte, Nat.reduceLT, Nat.reduceLeDiff, Nat.reduceEqDiff, Nat.reduceAdd, Nat.reduceMul, Nat.reduceSub, Nat.reduceBEq, Int.reduceToNat, List.reduceReplicate, reduceCtorEq, hf]
end Go.Proofs.W
end
section
namespace Go.Proofs.W
open Go Go.Eng Go.RowKit
set_option linter.unusedSimpArgs false
set_option maxRecDepth 100000

/-! what a house told, as cells -/
def gcs (g : Gt) : List AV := [iv g.r.f, iv g.r.b, isl g.r.path, iv g.r.like, isl g.r.marks, bv g.old]
def cGs : List Gt → List AV
  | [] => []
  | g :: l => gcs g ++ cGs l
theorem cGs_len : ∀ l : List Gt, (cGs l).length = l.length * 6
  | [] => rfl
  | g :: l => by
    rw [cGs, List.length_append, cGs_len l, List.length_cons]
    simp [gcs]
    omega
theorem cGs_app : ∀ a b : List Gt, cGs (a ++ b) = cGs a ++ cGs b
  | [], _ => rfl
  | g :: a, b => by rw [List.cons_append, cGs, cGs_app a b, cGs, List.append_assoc]
theorem setL_app : ∀ (xs a b : List AV), xs.length ≤ b.length → setL (a ++ b) a.length xs = a ++ (xs ++ b.drop xs.length)
  | [], a, b, _ => rfl
  | x :: xs, a, [], h => by simp at h
  | x :: xs, a, y :: b, h => by
    have e : (a ++ y :: b).set a.length x = (a ++ [x]) ++ b := by simp
    have ih := setL_app xs (a ++ [x]) b (by simpa using h)
    rw [List.length_append, List.length_singleton] at ih
    rw [setL, e, ih]
    simp
theorem gcs_flat (f b : Int) (p : List Int) (k : Int) (m : List Int) (o : Bool) : List.take 6 (flatA [[DV.v (.int .i64 f), .v (.int .i64 b), .sl (rows p), .v (.int .i64 k), .sl (rows m), .v (.bool o)]]) = gcs ⟨⟨f, b, p, k, m⟩, o⟩ := rfl
theorem gcs_leaf (g : Gt) : allLeaf (gcs g) = true := rfl
theorem gcs_strip (d : Nat) (g : Gt) : AV.stripLAll d (gcs g) = gcs g := rfl
theorem cGs_strip (d : Nat) : ∀ l : List Gt, AV.stripLAll d (cGs l) = cGs l
  | [] => rfl
  | g :: l => by
    rw [AV.stripLAll_eq, cGs, List.map_append, ← AV.stripLAll_eq, ← AV.stripLAll_eq, gcs_strip, cGs_strip d l]
theorem cGs_nt : ∀ l : List Gt, AV.ntAll (cGs l) = cGs l
  | [] => rfl
  | g :: l => by
    rw [ntAll_eq, cGs, List.map_append, ← ntAll_eq, ← ntAll_eq, cGs_nt l]
    rfl
theorem cGs_take (l : List Gt) (r : List AV) : List.take (l.length * 6) (cGs l ++ r) = cGs l := by
  rw [List.take_left' (cGs_len l)]
theorem cGs_in (l : List Gt) (g : Gt) (n : Nat) (h : 1 ≤ n) : setL (cGs l ++ jk (n * 6)) (l.length * 6) (gcs g) = cGs (l ++ [g]) ++ jk ((n - 1) * 6) := by
  rw [← cGs_len l, setL_app _ _ _ (by simp [gcs]; omega), cGs_app]
  simp only [cGs, List.append_nil, List.append_assoc]
  congr 2
  have : (gcs g).length = 6 := rfl
  rw [this, List.drop_replicate]
  congr 1
  omega
/-- what a copied rib is -/
def copyGs (h : Int) (up : Bool) (l : List Gt) (K : AV → List (Nat × List AV) → Prop) : Prop :=
  (l = [] → K (.agg [iv h, bv up, .xs 9 0 0 0 6]) [(2, [iv h, bv up, .xs 9 0 0 0 6]), (9, [])]) ∧
  (l ≠ [] → ∀ cap, l.length ≤ cap → K (.agg [iv h, bv up, .xs 35 0 l.length cap 6]) [(2, [iv h, bv up, .xs 35 0 l.length cap 6]), (9, []), (35, cGs l ++ jk ((cap - l.length) * 6))])
def cL21 : ConM := {
  pre := fun args m1 => ∃ (h : Int) (up : Bool) (l : List Gt), args = [.agg [iv h, bv up, .sl none (grows l)]] ∧ m1 = [] ∧ l.length ≤ 1000 ∧ lensG l
  post := fun args _ r m2 => ∀ (h : Int) (up : Bool) (l : List Gt), args = [.agg [iv h, bv up, .sl none (grows l)]] → ∀ K : AV → List (Nat × List AV) → Prop, copyGs h up l K → K r m2 }
theorem rbav_inj {h h' : Int} {up up' : Bool} {l l' : List Gt} (e : [AV.agg [iv h, bv up, .sl none (grows l)]] = [AV.agg [iv h', bv up', .sl none (grows l')]]) : h = h' ∧ up = up' ∧ l = l' := by
  simp only [List.cons.injEq, AV.agg.injEq, AV.v.injEq, Value.int.injEq, Value.bool.injEq, AV.sl.injEq, true_and, and_true] at e
  refine ⟨e.1, e.2.1, ?_⟩
  have := congrArg gotsL e.2.2
  rw [gotsL_rows, gotsL_rows] at this
  exact Option.some.inj this
def l21S (h0 : Int) (up : Bool) (l : List Gt) : Nat × Nat → St
  | (0, _) => ⟨38, [(1, .loc 1 0), (2, .loc 2 0), (3, .loc 3 0), (4, iv 0)], [(1, [iv h0, bv up, .sl none (grows l)]), (2, [iv 0, bv false, .nl]), (3, [iv h0, bv up, .xs 9 0 0 0 6]), (9, [])], 0⟩
  | (i + 1, c) => ⟨38, [(1, .loc 1 0), (2, .loc 2 0), (3, .loc 3 0), (4, iv (i + 1 : Nat))], [(1, [iv h0, bv up, .sl none (grows l)]), (2, [iv 0, bv false, .nl]), (3, [iv h0, bv up, .xs 35 0 (i + 1) c 6]), (9, []), (35, cGs (l.take (i + 1)) ++ jk ((c - (i + 1)) * 6))], 0⟩
theorem l21Copy_ok : FineM Tryd.prog 42 cL21 := by
  refine fineM_of [] ms_nil [] mm_nil [9, 35] [] ex_nil (T := TT) Tryd.func42 rfl Tryd.ntmps42 (by rw [Tryd.results42]) rfl rfl tt gs_nil (ds_cons l4Copy_ok ds_nil) ?_
  rintro args m1 ⟨h0, up, l, rfl, rfl, hll, hlen⟩
  refine ⟨by simp, fun E hE Q hQ => ?_⟩
  refine Aw_st hE [1, 2] [1, 2, 3, 9, 35] fun K hK => ?_
  simp only [go_sem, reduceIte, Nat.reduceLT, Nat.reduceLeDiff, Nat.reduceEqDiff, Nat.reduceAdd, Nat.reduceMul, Nat.reduceSub, Nat.reduceBEq, Int.reduceToNat, List.reduceReplicate, reduceCtorEq]
  refine hK _ ?_; clear hK K
  refine Aw_st hE [1, 2, 3] [1, 2, 3, 9, 35] fun K hK => ?_
  simp only [go_sem, reduceIte, Nat.reduceLT, Nat.reduceLeDiff, Nat.reduceEqDiff, Nat.reduceAdd, Nat.reduceMul, Nat.reduceSub, Nat.reduceBEq, Int.reduceToNat, List.reduceReplicate, reduceCtorEq]
  refine hK _ ?_; clear hK K
  refine Aw_sq fun B1 hB1 hR1 hX1 => ?_
  refine Aw_st hE [1, 2, 3, 4] [1, 2, 3, 9, 35] fun K hK => ?_
  simp only [go_sem, reduceIte, Nat.reduceLT, Nat.reduceLeDiff, Nat.reduceEqDiff, Nat.reduceAdd, Nat.reduceMul, Nat.reduceSub, Nat.reduceBEq, Int.reduceToNat, List.reduceReplicate, reduceCtorEq]
  refine hK _ ?_; clear hK K
  refine Aw_bk fun B2 hN2 hE2 hR2 hX2 => ?_
  refine Aw_lp (fun i : Nat × Nat => l21S h0 up l i) (fun i => i.1 ≤ l.length ∧ i.1 ≤ i.2) (fun i => l.length - i.1) (0, 0) (Le.refl _) ⟨by simp, by simp⟩ fun i hi B3 hN3 hR3 hX3 => ?_
  obtain ⟨i, c⟩ := i
  obtain ⟨hi1, hi2⟩ := hi
  simp only at hi1 hi2
  refine Aw_sq fun B4 hB4 hR4 hX4 => ?_
  cases i with
  | zero =>
    simp only [l21S]
    refine Aw_st hE [1, 2, 3, 4, 15] [1, 2, 3, 9, 35] fun K hK => ?_
    simp only [go_sem, reduceIte, Nat.reduceLT, Nat.reduceLeDiff, Nat.reduceEqDiff, Nat.reduceAdd, Nat.reduceMul, Nat.reduceSub, Nat.reduceBEq, Int.reduceToNat, List.reduceReplicate, reduceCtorEq]
    refine hK _ (Aw_cond rfl (fun hc5 => ?_) (fun hc5 => ?_))
    · simp only [decide_eq_true_eq] at hc5
      have hil : 0 < l.length := by omega
      have hget := grows_get l 0 hil
      have hln := hlen _ (List.getElem_mem hil)
      have htk := List.take_succ_eq_append_getElem hil
      generalize l[0] = x at hget hln htk
      obtain ⟨⟨rf, rb, p, rk, m⟩, old⟩ := x
      simp only at hln
      refine Aw_skip (hB4 _ ?_)
      refine Aw_sq fun B6 hB6 hR6 hX6 => ?_
      refine Aw_bk fun B7 hN7 hE7 hR7 hX7 => ?_
      refine Aw_te hE [0, 2, 4, 9, 11, 1, 3, 5, 6, 7, 8, 10, 12, 13, 14, 15, 16, 17, 18, 19] [0, 1, 0, 4, 0, 28, 60, 124, 252, 0, 512, 0, 3584, 7680, 15872, 32764, 65532, 131071, 262143, 524287] [1, 2, 3, 4] [1, 2, 3, 9, 35] (by kernel_rfl) fun K hK => ?_
      simp only [go_sem, reduceIte, Nat.reduceLT, Nat.reduceLeDiff, Nat.reduceEqDiff, Nat.reduceAdd, Nat.reduceMul, Nat.reduceSub, Nat.reduceBEq, Int.reduceToNat, List.reduceReplicate, reduceCtorEq, hget, gcs_flat, gcs_leaf, gcs_strip]
      refine ⟨by omega, ⟨by omega, by omega⟩, by omega, by simp, fun cap hcap => ?_⟩
      refine hK _ (hN7 _ (hB6 _ ?_))
      refine Aw_tx hE [1, 2, 3, 4] [1, 2, 3, 9, 35] fun K hK => ?_
      simp only [go_sem, reduceIte, Nat.reduceLT, Nat.reduceLeDiff, Nat.reduceEqDiff, Nat.reduceAdd, Nat.reduceMul, Nat.reduceSub, Nat.reduceBEq, Int.reduceToNat, List.reduceReplicate, reduceCtorEq]
      repeat (refine And.intro (by first | omega | (and_intros <;> first | omega | exact rows_row _ | decide | (simp; done) | (simp; omega)) | fail) ?_)
      refine hK _ (hN3 (1, cap) _ ⟨by simp only; omega, by simp only; omega⟩ (by simp only; omega) ?_)
      simp only [l21S]
      rw [htk]
      exact Le.refl _
    · simp only [decide_eq_false_iff_not] at hc5
      have hl0 : l = [] := List.eq_nil_of_length_eq_zero (by omega)
      refine Aw_exit (hX4 _ _ (hX3 _ _ (hE2 _ (hB1 _ ?_))))
      refine Aw_st hE [2] [2, 9, 35] fun K hK => ?_
      simp only [go_sem, reduceIte, Nat.reduceLT, Nat.reduceLeDiff, Nat.reduceEqDiff, Nat.reduceAdd, Nat.reduceMul, Nat.reduceSub, Nat.reduceBEq, Int.reduceToNat, List.reduceReplicate, reduceCtorEq]
      refine hK _ (Aw_ret (hQ _ ?_))
      simp only [go_sem, reduceIte, Nat.reduceLT, Nat.reduceLeDiff, Nat.reduceEqDiff, Nat.reduceAdd, Nat.reduceMul, Nat.reduceSub, Nat.reduceBEq, Int.reduceToNat, List.reduceReplicate, reduceCtorEq]
      intro h' up' l' he K' hK'
      obtain ⟨rfl, rfl, rfl⟩ := rbav_inj he
      exact hK'.1 hl0
  | succ j =>
    simp only [l21S]
    refine Aw_st hE [1, 2, 3, 4, 15] [1, 2, 3, 9, 35] fun K hK => ?_
    simp only [go_sem, reduceIte, Nat.reduceLT, Nat.reduceLeDiff, Nat.reduceEqDiff, Nat.reduceAdd, Nat.reduceMul, Nat.reduceSub, Nat.reduceBEq, Int.reduceToNat, List.reduceReplicate, reduceCtorEq]
    refine hK _ (Aw_cond rfl (fun hc5 => ?_) (fun hc5 => ?_))
    · simp only [decide_eq_true_eq] at hc5
      have hil : j + 1 < l.length := by omega
      have hget := grows_get l (j + 1) hil
      have hln := hlen _ (List.getElem_mem hil)
      have htk := List.take_succ_eq_append_getElem hil
      generalize l[j + 1] = x at hget hln htk
      obtain ⟨⟨rf, rb, p, rk, m⟩, old⟩ := x
      simp only at hln
      refine Aw_skip (hB4 _ ?_)
      refine Aw_sq fun B6 hB6 hR6 hX6 => ?_
      refine Aw_bk fun B7 hN7 hE7 hR7 hX7 => ?_
      have htl : (l.take (j + 1)).length = j + 1 := by rw [List.length_take]; omega
      have hin := cGs_in (l.take (j + 1)) ⟨⟨rf, rb, p, rk, m⟩, old⟩ (c - (j + 1))
      have htk2 := cGs_take (l.take (j + 1)) (jk ((c - (j + 1)) * 6))
      rw [htl] at hin htk2
      refine Aw_te hE [0, 2, 4, 9, 11, 1, 3, 5, 6, 7, 8, 10, 12, 13, 14, 15, 16, 17, 18, 19] [0, 1, 0, 4, 0, 28, 60, 124, 252, 0, 512, 0, 3584, 7680, 15872, 32764, 65532, 131071, 262143, 524287] [1, 2, 3, 4] [1, 2, 3, 9, 35] (by kernel_rfl) fun K hK => ?_
      simp only [go_sem, reduceIte, Nat.reduceLT, Nat.reduceLeDiff, Nat.reduceEqDiff, Nat.reduceAdd, Nat.reduceMul, Nat.reduceSub, Nat.reduceBEq, Int.reduceToNat, List.reduceReplicate, reduceCtorEq, hget, gcs_flat, gcs_leaf, gcs_strip, htk2, cGs_strip]
      refine ⟨by omega, ⟨by omega, by omega⟩, by omega, ⟨by simp, by omega, by rw [List.length_append, cGs_len, htl, List.length_replicate]; omega⟩, fun hle => ?_, fun hgt cap hcap => ?_⟩
      · rw [hin (by omega)]
        refine hK _ (hN7 _ (hB6 _ ?_))
        refine Aw_tx hE [1, 2, 3, 4] [1, 2, 3, 9, 35] fun K hK => ?_
        simp only [go_sem, reduceIte, Nat.reduceLT, Nat.reduceLeDiff, Nat.reduceEqDiff, Nat.reduceAdd, Nat.reduceMul, Nat.reduceSub, Nat.reduceBEq, Int.reduceToNat, List.reduceReplicate, reduceCtorEq]
        repeat (refine And.intro (by first | omega | (and_intros <;> first | omega | exact rows_row _ | decide | (simp; done) | (simp; omega)) | fail) ?_)
        refine hK _ (hN3 (j + 1 + 1, c) _ ⟨by simp only; omega, by simp only; omega⟩ (by simp only; omega) ?_)
        simp only [l21S]
        rw [htk, show c - (j + 1) - 1 = c - (j + 1 + 1) by omega]
        exact Le.refl _
      · refine hK _ (hN7 _ (hB6 _ ?_))
        refine Aw_tx hE [1, 2, 3, 4] [1, 2, 3, 9, 35] fun K hK => ?_
        simp only [go_sem, reduceIte, Nat.reduceLT, Nat.reduceLeDiff, Nat.reduceEqDiff, Nat.reduceAdd, Nat.reduceMul, Nat.reduceSub, Nat.reduceBEq, Int.reduceToNat, List.reduceReplicate, reduceCtorEq]
        repeat (refine And.intro (by first | omega | (and_intros <;> first | omega | exact rows_row _ | decide | (simp; done) | (simp; omega)) | fail) ?_)
        refine hK _ (hN3 (j + 1 + 1, cap) _ ⟨by simp only; omega, by simp only; omega⟩ (by simp only; omega) ?_)
        simp only [l21S]
        rw [htk, cGs_app]
        simp only [cGs, List.append_nil]
        exact Le.refl _
    · simp only [decide_eq_false_iff_not] at hc5
      refine Aw_exit (hX4 _ _ (hX3 _ _ (hE2 _ (hB1 _ ?_))))
      have hj : j + 1 = l.length := by omega
      rw [hj, List.take_length]
      refine Aw_st hE [2] [2, 9, 35] fun K hK => ?_
      simp only [go_sem, reduceIte, Nat.reduceLT, Nat.reduceLeDiff, Nat.reduceEqDiff, Nat.reduceAdd, Nat.reduceMul, Nat.reduceSub, Nat.reduceBEq, Int.reduceToNat, List.reduceReplicate, reduceCtorEq]
      refine hK _ (Aw_ret (hQ _ ?_))
      simp only [go_sem, reduceIte, Nat.reduceLT, Nat.reduceLeDiff, Nat.reduceEqDiff, Nat.reduceAdd, Nat.reduceMul, Nat.reduceSub, Nat.reduceBEq, Int.reduceToNat, List.reduceReplicate, reduceCtorEq]
      intro h' up' l' he K' hK'
      obtain ⟨rfl, rfl, rfl⟩ := rbav_inj he
      rw [cGs_nt]
      exact hK'.2 (fun e => by rw [e] at hj; simp at hj) c (by omega)
end Go.Proofs.W
end
