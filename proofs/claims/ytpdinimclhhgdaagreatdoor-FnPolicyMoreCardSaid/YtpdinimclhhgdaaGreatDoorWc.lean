/- YtpdinimclhhgdaaGreatDoorWc: part of the proof that a clause behind all changes just what no other one fits, for every input that the row speaks of (no condition of ours). -/
import Derived.Test.YtpdinimclhhgdaaGreatDoorWb
import Derived.Test.YtpdinimclhhgdaaGreatDoorWa
set_option linter.unusedVariables false
set_option linter.unusedSimpArgs false
section
namespace Go.Proofs.W
open Go Go.Eng Go.RowKit
set_option linter.unusedSimpArgs false
set_option maxRecDepth 100000

/-! laws' drawn inputs -/
def cDPD : Con := { pre := codeArg, post := fun _ r => ∃ (l : List Cl) (x : Rt), l.length ≤ 4 ∧ okRt x ∧ r = .tup [.sl none (crows l), x.av] }
theorem cDPD_own : cDPD.own = false := rfl
theorem cDPD_draws : cDPD.draws = false := rfl
theorem cDPD_cost : cDPD.cost = 0 := rfl
attribute [go_sem] cDPD_own cDPD_draws cDPD_cost
theorem dpd_pre (bs : List Nat) (h : ∀ b ∈ bs, b < 256) : cDPD.pre [.sl none (byteRows bs)] := ⟨bs, h, rfl⟩
theorem dpd_post (args : List AV) (K : AV → Prop) : (∀ r, cDPD.post args r → K r) = (∀ (l : List Cl) (x : Rt), l.length ≤ 4 → okRt x → K (.tup [.sl none (crows l), x.av])) := by
  apply propext
  exact ⟨fun h x n h1 h2 => h _ ⟨x, n, h1, h2, rfl⟩, fun h r ⟨x, n, h1, h2, e⟩ => e ▸ h x n h1 h2⟩
attribute [go_sem] dpd_post
theorem drawPolicyDo_ok : Fine Tryz.prog 12 cDPD := by
  refine fine_draw (T := TT) (C := cDPD) Tryz.func12 rfl Tryz.ntmps12 (by rw [Tryz.results12]) rfl rfl tt rfl rfl (G := [(34, cPolD), (35, cRouteD)]) (D := []) (gs_cons l91Policy_ok (gs_cons l91Route_ok gs_nil)) ds_nil (l1 := [_]) (l2 := [_]) rfl rfl rfl rfl (by decide) open_calls ⟨_, Tryz.func33, rfl, rfl⟩ ?_ ?_
  · rintro args r ⟨x, n, _, _, rfl⟩; rfl
  rintro args ⟨bs, hbs, rfl⟩
  refine ⟨by simp, bs, hbs, fun n E hE J hJ => ?_⟩
  refine Aw_tx hE [0, 3] [3] fun K hK => ?_
  simp only [go_sem, reduceIte, Nat.reduceLT, Nat.reduceLeDiff, Nat.reduceEqDiff, Nat.reduceAdd, Nat.reduceMul, Nat.reduceSub, Nat.reduceBEq, Int.reduceToNat, List.reduceReplicate, reduceCtorEq]
  refine hK _ ?_
  simp only [thenA]
  simp only [go_sem, reduceIte, Nat.reduceLT, Nat.reduceLeDiff, Nat.reduceEqDiff, Nat.reduceAdd, Nat.reduceMul, Nat.reduceSub, Nat.reduceBEq, Int.reduceToNat, List.reduceReplicate, reduceCtorEq]
  refine hJ _ rfl rfl fun E hE Q hQ => ?_
  simp only [go_sem, reduceIte, Nat.reduceLT, Nat.reduceLeDiff, Nat.reduceEqDiff, Nat.reduceAdd, Nat.reduceMul, Nat.reduceSub, Nat.reduceBEq, Int.reduceToNat, List.reduceReplicate, reduceCtorEq]
  refine Aw_st hE [2, 3] [3] fun K hK => ?_
  simp only [go_sem, reduceIte, Nat.reduceLT, Nat.reduceLeDiff, Nat.reduceEqDiff, Nat.reduceAdd, Nat.reduceMul, Nat.reduceSub, Nat.reduceBEq, Int.reduceToNat, List.reduceReplicate, reduceCtorEq]
  intro l hl
  intro x hx
  refine hK _ (Aw_ret (hQ _ ?_))
  simp only [go_sem, reduceIte, Nat.reduceLT, Nat.reduceLeDiff, Nat.reduceEqDiff, Nat.reduceAdd, Nat.reduceMul, Nat.reduceSub, Nat.reduceBEq, Int.reduceToNat, List.reduceReplicate, reduceCtorEq]
  exact ⟨l, x, hl, hx, rfl⟩

def cDPA : Con := { pre := codeArg, post := fun _ r => ∃ (l : List Cl) (x : List Rt), l.length ≤ 4 ∧ (x.length ≤ 5 ∧ ∀ y ∈ x, okRt y) ∧ r = .tup [.sl none (crows l), .sl none (rrows x)] }
theorem cDPA_own : cDPA.own = false := rfl
theorem cDPA_draws : cDPA.draws = false := rfl
theorem cDPA_cost : cDPA.cost = 0 := rfl
attribute [go_sem] cDPA_own cDPA_draws cDPA_cost
theorem dpa_pre (bs : List Nat) (h : ∀ b ∈ bs, b < 256) : cDPA.pre [.sl none (byteRows bs)] := ⟨bs, h, rfl⟩
theorem dpa_post (args : List AV) (K : AV → Prop) : (∀ r, cDPA.post args r → K r) = (∀ (l : List Cl) (x : List Rt), l.length ≤ 4 → (x.length ≤ 5 ∧ ∀ y ∈ x, okRt y) → K (.tup [.sl none (crows l), .sl none (rrows x)])) := by
  apply propext
  exact ⟨fun h x n h1 h2 => h _ ⟨x, n, h1, h2, rfl⟩, fun h r ⟨x, n, h1, h2, e⟩ => e ▸ h x n h1 h2⟩
attribute [go_sem] dpa_post
theorem drawPolicyAll_ok : Fine Tryz.prog 24 cDPA := by
  refine fine_draw (T := TT) (C := cDPA) Tryz.func24 rfl Tryz.ntmps24 (by rw [Tryz.results24]) rfl rfl tt rfl rfl (G := [(34, cPolD), (59, cRtsD)]) (D := []) (gs_cons l91Policy_ok (gs_cons l91Routes_ok gs_nil)) ds_nil (l1 := [_]) (l2 := [_]) rfl rfl rfl rfl (by decide) open_calls ⟨_, Tryz.func33, rfl, rfl⟩ ?_ ?_
  · rintro args r ⟨x, n, _, _, rfl⟩; rfl
  rintro args ⟨bs, hbs, rfl⟩
  refine ⟨by simp, bs, hbs, fun n E hE J hJ => ?_⟩
  refine Aw_tx hE [0] [] fun K hK => ?_
  simp only [go_sem, reduceIte, Nat.reduceLT, Nat.reduceLeDiff, Nat.reduceEqDiff, Nat.reduceAdd, Nat.reduceMul, Nat.reduceSub, Nat.reduceBEq, Int.reduceToNat, List.reduceReplicate, reduceCtorEq]
  refine hK _ ?_
  simp only [thenA]
  simp only [go_sem, reduceIte, Nat.reduceLT, Nat.reduceLeDiff, Nat.reduceEqDiff, Nat.reduceAdd, Nat.reduceMul, Nat.reduceSub, Nat.reduceBEq, Int.reduceToNat, List.reduceReplicate, reduceCtorEq]
  refine hJ _ rfl rfl fun E hE Q hQ => ?_
  simp only [go_sem, reduceIte, Nat.reduceLT, Nat.reduceLeDiff, Nat.reduceEqDiff, Nat.reduceAdd, Nat.reduceMul, Nat.reduceSub, Nat.reduceBEq, Int.reduceToNat, List.reduceReplicate, reduceCtorEq]
  refine Aw_st hE [2, 3] [] fun K hK => ?_
  simp only [go_sem, reduceIte, Nat.reduceLT, Nat.reduceLeDiff, Nat.reduceEqDiff, Nat.reduceAdd, Nat.reduceMul, Nat.reduceSub, Nat.reduceBEq, Int.reduceToNat, List.reduceReplicate, reduceCtorEq]
  intro l hl
  refine ⟨by omega, fun x hx => ?_⟩
  refine hK _ (Aw_ret (hQ _ ?_))
  simp only [go_sem, reduceIte, Nat.reduceLT, Nat.reduceLeDiff, Nat.reduceEqDiff, Nat.reduceAdd, Nat.reduceMul, Nat.reduceSub, Nat.reduceBEq, Int.reduceToNat, List.reduceReplicate, reduceCtorEq]
  exact ⟨l, x, hl, hx, rfl⟩

/-! spec's side -/
def gHas1 : List AV → Option (Prop × AV) | [.agg [.v (.int .i64 f), .v (.int .i64 b)], .v (.int .i64 a)] => some (rngOk f b = true ∧ 0 ≤ a ∧ a ≤ 255, bv (rHas f b a)) | _ => none
def dHas1 : DFn := { g := gHas1 }
def gIn1 : List AV → Option (Prop × AV) | [.agg [.v (.int .i64 f), .v (.int .i64 b)], .agg [.v (.int .i64 f'), .v (.int .i64 b')]] => some (rngOk f b = true ∧ rngOk f' b' = true, bv (rIn f b f' b')) | _ => none
def dIn1 : DFn := { g := gIn1 }
attribute [go_sem] gHas1 dHas1 gIn1 dIn1
theorem rngOk_parts {f b : Int} (h : rngOk f b = true) : (0 ≤ b ∧ b ≤ 8) ∧ (0 ≤ f ∧ f ≤ 255) ∧ f.tmod (szR b) = 0 := by
  simp only [rngOk, Bool.and_eq_true, decide_eq_true_eq] at h
  exact ⟨⟨h.1, h.2.1⟩, h.2.2.1, h.2.2.2⟩
theorem has1_ok : Fine Tryz.prog 118 dHas1.con := by
  refine fine_det (T := TT) Tryz.func118 rfl Tryz.ntmps118 (by rw [Tryz.results118]) rfl rfl tt (gs_nil) (ds_cons size_ok ds_nil) ?_
  intro args c r h hc
  simp only [dHas1, gHas1] at h
  split at h
  rotate_left
  · cases h
  obtain ⟨rfl, rfl⟩ := Prod.mk.inj (Option.some.inj h)
  refine ⟨by simp, fun k E hE Q hQ => ?_⟩
  rename_i f b a
  obtain ⟨hr, ha1, ha2⟩ := hc
  obtain ⟨⟨hb1, hb2⟩, ⟨hf1, hf2⟩, _⟩ := rngOk_parts hr
  obtain ⟨_, _, t1, t2, t3⟩ := tdiv_szR a b ha1 (by omega) hb1 hb2
  obtain ⟨_, _, u1, u2, u3⟩ := tdiv_szR f b hf1 (by omega) hb1 hb2
  refine Aw_st hE [1, 2] [2] fun K hK => ?_
  simp only [go_sem, reduceIte, Nat.reduceLT, Nat.reduceLeDiff, Nat.reduceEqDiff, Nat.reduceAdd, Nat.reduceMul, Nat.reduceSub, Nat.reduceBEq, Int.reduceToNat, List.reduceReplicate, reduceCtorEq]
  repeat (refine And.intro (by first | omega | (and_intros <;> first | omega | exact rows_row _ | decide | (simp; done) | (simp; omega)) | fail) ?_)
  refine hK _ ?_; clear hK K
  refine Aw_sd hE [4] [] 6 (by kernel_rfl) fun K hK => ?_
  simp only [go_sem, reduceIte, Nat.reduceLT, Nat.reduceLeDiff, Nat.reduceEqDiff, Nat.reduceAdd, Nat.reduceMul, Nat.reduceSub, Nat.reduceBEq, Int.reduceToNat, List.reduceReplicate, reduceCtorEq]
  repeat (refine And.intro (by first | omega | (and_intros <;> first | omega | exact rows_row _ | decide | (simp; done) | (simp; omega)) | fail) ?_)
  repeat' (first | exact t2 | (refine And.intro (by first | omega | exact t2) ?_))
  refine hK _ (Aw_ret (hQ _ ?_))
  simp only [go_sem, reduceIte, Nat.reduceLT, Nat.reduceLeDiff, Nat.reduceEqDiff, Nat.reduceAdd, Nat.reduceMul, Nat.reduceSub, Nat.reduceBEq, Int.reduceToNat, List.reduceReplicate, reduceCtorEq, rHas]
theorem in1_ok : Fine Tryz.prog 105 dIn1.con := by
  refine fine_det (T := TT) Tryz.func105 rfl Tryz.ntmps105 (by rw [Tryz.results105]) rfl rfl tt (gs_nil) (ds_cons has1_ok ds_nil) ?_
  intro args c r h hc
  simp only [dIn1, gIn1] at h
  split at h
  rotate_left
  · cases h
  obtain ⟨rfl, rfl⟩ := Prod.mk.inj (Option.some.inj h)
  refine ⟨by simp, fun k E hE Q hQ => ?_⟩
  rename_i f b f' b'
  obtain ⟨hr, hr'⟩ := hc
  obtain ⟨⟨hb1, hb2⟩, ⟨hf1, hf2⟩, _⟩ := rngOk_parts hr
  refine Aw_st hE [2, 3] [2, 3] fun K hK => ?_
  simp only [go_sem, reduceIte, Nat.reduceLT, Nat.reduceLeDiff, Nat.reduceEqDiff, Nat.reduceAdd, Nat.reduceMul, Nat.reduceSub, Nat.reduceBEq, Int.reduceToNat, List.reduceReplicate, reduceCtorEq]
  repeat (refine And.intro (by first | omega | (and_intros <;> first | omega | exact rows_row _ | decide | (simp; done) | (simp; omega)) | fail) ?_)
  refine hK _ ?_; clear hK K
  refine Aw_st hE [4] [] fun K hK => ?_
  simp only [go_sem, reduceIte, Nat.reduceLT, Nat.reduceLeDiff, Nat.reduceEqDiff, Nat.reduceAdd, Nat.reduceMul, Nat.reduceSub, Nat.reduceBEq, Int.reduceToNat, List.reduceReplicate, reduceCtorEq]
  repeat (refine And.intro (by first | omega | (and_intros <;> first | omega | exact rows_row _ | decide | (simp; done) | (simp; omega)) | fail) ?_)
  refine ⟨fun h1 => ⟨⟨hr', hf1, hf2⟩, ?_⟩, fun h1 => ?_⟩
  all_goals
    refine hK _ (Aw_ret (hQ _ ?_))
    simp only [go_sem, reduceIte, Nat.reduceLT, Nat.reduceLeDiff, Nat.reduceEqDiff, Nat.reduceAdd, Nat.reduceMul, Nat.reduceSub, Nat.reduceBEq, Int.reduceToNat, List.reduceReplicate, reduceCtorEq, rIn, h1, Bool.true_and, Bool.false_and]

def gFits : List AV → Option (Prop × AV)
  | [.agg [.v (.int .i64 ci), .v (.int .i64 n), .v (.int .i64 f), .v (.int .i64 b), .v (.bool ref), .v (.int .i64 like), .v (.int .i64 mark), .v (.int .i64 clear)], .agg [.v (.int .i64 rf), .v (.int .i64 rb), .sl _ e1, .v (.int .i64 rk), .sl _ e2]] => (match intsL e1, intsL e2 with
    | some p, some m => some ((clOk ⟨ci, n, f, b, ref, like, mark, clear⟩ = true ∧ okR ⟨rf, rb, p, rk, m⟩ = true) ∧ p.length ≤ 1000000 ∧ m.length ≤ 1000000, bv (fitsB ⟨ci, n, f, b, ref, like, mark, clear⟩ ⟨rf, rb, p, rk, m⟩))
    | _, _ => none)
  | _ => none
def dFits : DFn := { g := gFits }
def gClOk : List AV → Option (Prop × AV) | [.agg [.v (.int .i64 ci), .v (.int .i64 n), .v (.int .i64 f), .v (.int .i64 b), .v (.bool ref), .v (.int .i64 like), .v (.int .i64 mark), .v (.int .i64 clear)]] => some (True, bv (clOk ⟨ci, n, f, b, ref, like, mark, clear⟩)) | _ => none
def dClOk : DFn := { g := gClOk }
attribute [go_sem] gFits dFits gClOk dClOk
theorem fits11_ok : Fine Tryz.prog 72 dFits.con := by
  refine fine_det (T := TT) Tryz.func72 rfl Tryz.ntmps72 (by rw [Tryz.results72]) rfl rfl tt (gs_nil) (ds_cons in1_ok (ds_cons has3_ok ds_nil)) ?_
  intro args c r h hc
  simp only [dFits, gFits] at h
  split at h
  rotate_left
  · cases h
  split at h
  rotate_left
  · cases h
  rename_i ci n f b ref like mark clear rf rb t1 e1 rk t2 e2 _ _ p m hl1 hl2
  obtain rfl := intsL_eq hl1
  obtain rfl := intsL_eq hl2
  obtain ⟨rfl, rfl⟩ := Prod.mk.inj (Option.some.inj h)
  refine ⟨by simp, fun k E hE Q hQ => ?_⟩
  obtain ⟨⟨hck, hrk⟩, hp, hm⟩ := hc
  have hrr := (okR_parts hrk).1
  have hsub := (clOk_parts hck).2.2.2
  simp only at hrr hsub
  refine Aw_st hE [2, 3] [2, 3] fun K hK => ?_
  simp only [go_sem, reduceIte, Nat.reduceLT, Nat.reduceLeDiff, Nat.reduceEqDiff, Nat.reduceAdd, Nat.reduceMul, Nat.reduceSub, Nat.reduceBEq, Int.reduceToNat, List.reduceReplicate, reduceCtorEq]
  repeat (refine And.intro (by first | omega | (and_intros <;> first | omega | exact rows_row _ | decide | (simp; done) | (simp; omega)) | fail) ?_)
  refine hK _ ?_; clear hK K
  refine Aw_sq fun B1 hB1 hR1 hX1 => ?_
  refine Aw_st hE [2, 3, 6] [2, 3] fun K hK => ?_
  simp only [go_sem, reduceIte, Nat.reduceLT, Nat.reduceLeDiff, Nat.reduceEqDiff, Nat.reduceAdd, Nat.reduceMul, Nat.reduceSub, Nat.reduceBEq, Int.reduceToNat, List.reduceReplicate, reduceCtorEq]
  repeat (refine And.intro (by first | omega | (and_intros <;> first | omega | exact rows_row _ | decide | (simp; done) | (simp; omega)) | fail) ?_)
  refine hK _ ?_; clear hK K
  refine Aw_bk fun B2 hN2 hE2 hR2 hX2 => ?_
  refine Aw_st hE [2, 3, 6, 7] [2, 3] fun K hK => ?_
  simp only [go_sem, reduceIte, Nat.reduceLT, Nat.reduceLeDiff, Nat.reduceEqDiff, Nat.reduceAdd, Nat.reduceMul, Nat.reduceSub, Nat.reduceBEq, Int.reduceToNat, List.reduceReplicate, reduceCtorEq]
  repeat (refine And.intro (by first | omega | (and_intros <;> first | omega | exact rows_row _ | decide | (simp; done) | (simp; omega)) | fail) ?_)
  refine hK _ (Aw_cond rfl (fun hc3 => ?_) (fun hc3 => ?_))
  · simp only [decide_eq_true_eq] at hc3
    have hcr : rngOk f b = true := by simp [subOk, hc3] at hsub; exact hsub.2
    refine Aw_st hE [4] [] fun K hK => ?_
    simp only [go_sem, reduceIte, Nat.reduceLT, Nat.reduceLeDiff, Nat.reduceEqDiff, Nat.reduceAdd, Nat.reduceMul, Nat.reduceSub, Nat.reduceBEq, Int.reduceToNat, List.reduceReplicate, reduceCtorEq, hrr, hcr]
    repeat (refine And.intro (by first | omega | (and_intros <;> first | omega | exact rows_row _ | decide | (simp; done) | (simp; omega)) | fail) ?_)
    skip
    refine hK _ (Aw_ret (hR2 _ (hR1 _ (hQ _ ?_))))
    simp only [go_sem, reduceIte, Nat.reduceLT, Nat.reduceLeDiff, Nat.reduceEqDiff, Nat.reduceAdd, Nat.reduceMul, Nat.reduceSub, Nat.reduceBEq, Int.reduceToNat, List.reduceReplicate, reduceCtorEq]
    simp [fitsB, hc3]
  · simp only [decide_eq_false_iff_not] at hc3
    refine Aw_st hE [2, 3, 6, 14] [2, 3] fun K hK => ?_
    simp only [go_sem, reduceIte, Nat.reduceLT, Nat.reduceLeDiff, Nat.reduceEqDiff, Nat.reduceAdd, Nat.reduceMul, Nat.reduceSub, Nat.reduceBEq, Int.reduceToNat, List.reduceReplicate, reduceCtorEq]
    repeat (refine And.intro (by first | omega | (and_intros <;> first | omega | exact rows_row _ | decide | (simp; done) | (simp; omega)) | fail) ?_)
    refine hK _ (Aw_cond rfl (fun hc4 => ?_) (fun hc4 => ?_))
    · simp only [decide_eq_true_eq] at hc4
      refine Aw_st hE [4] [] fun K hK => ?_
      simp only [go_sem, reduceIte, Nat.reduceLT, Nat.reduceLeDiff, Nat.reduceEqDiff, Nat.reduceAdd, Nat.reduceMul, Nat.reduceSub, Nat.reduceBEq, Int.reduceToNat, List.reduceReplicate, reduceCtorEq]
      repeat (refine And.intro (by first | omega | (and_intros <;> first | omega | exact rows_row _ | decide | (simp; done) | (simp; omega)) | fail) ?_)
      refine hK _ (Aw_ret (hR2 _ (hR1 _ (hQ _ ?_))))
      simp only [go_sem, reduceIte, Nat.reduceLT, Nat.reduceLeDiff, Nat.reduceEqDiff, Nat.reduceAdd, Nat.reduceMul, Nat.reduceSub, Nat.reduceBEq, Int.reduceToNat, List.reduceReplicate, reduceCtorEq]
      simp [fitsB, hc4]
    · simp only [decide_eq_false_iff_not] at hc4
      refine Aw_st hE [2, 3, 6, 21] [2, 3] fun K hK => ?_
      simp only [go_sem, reduceIte, Nat.reduceLT, Nat.reduceLeDiff, Nat.reduceEqDiff, Nat.reduceAdd, Nat.reduceMul, Nat.reduceSub, Nat.reduceBEq, Int.reduceToNat, List.reduceReplicate, reduceCtorEq]
      repeat (refine And.intro (by first | omega | (and_intros <;> first | omega | exact rows_row _ | decide | (simp; done) | (simp; omega)) | fail) ?_)
      refine hK _ (Aw_cond rfl (fun hc5 => ?_) (fun hc5 => ?_))
      · simp only [decide_eq_true_eq] at hc5
        refine Aw_st hE [4] [] fun K hK => ?_
        simp only [go_sem, reduceIte, Nat.reduceLT, Nat.reduceLeDiff, Nat.reduceEqDiff, Nat.reduceAdd, Nat.reduceMul, Nat.reduceSub, Nat.reduceBEq, Int.reduceToNat, List.reduceReplicate, reduceCtorEq]
        repeat (refine And.intro (by first | omega | (and_intros <;> first | omega | exact rows_row _ | decide | (simp; done) | (simp; omega)) | fail) ?_)
        refine hK _ (Aw_ret (hR2 _ (hR1 _ (hQ _ ?_))))
        simp only [go_sem, reduceIte, Nat.reduceLT, Nat.reduceLeDiff, Nat.reduceEqDiff, Nat.reduceAdd, Nat.reduceMul, Nat.reduceSub, Nat.reduceBEq, Int.reduceToNat, List.reduceReplicate, reduceCtorEq]
        simp [fitsB, hc5]
      · simp only [decide_eq_false_iff_not] at hc5
        refine Aw_st hE [2, 3, 28] [2, 3] fun K hK => ?_
        simp only [go_sem, reduceIte, Nat.reduceLT, Nat.reduceLeDiff, Nat.reduceEqDiff, Nat.reduceAdd, Nat.reduceMul, Nat.reduceSub, Nat.reduceBEq, Int.reduceToNat, List.reduceReplicate, reduceCtorEq]
        repeat (refine And.intro (by first | omega | (and_intros <;> first | omega | exact rows_row _ | decide | (simp; done) | (simp; omega)) | fail) ?_)
        refine hK _ (Aw_cond rfl (fun hc6 => ?_) (fun hc6 => ?_))
        · simp only [decide_eq_true_eq] at hc6
          refine Aw_st hE [4] [] fun K hK => ?_
          simp only [go_sem, reduceIte, Nat.reduceLT, Nat.reduceLeDiff, Nat.reduceEqDiff, Nat.reduceAdd, Nat.reduceMul, Nat.reduceSub, Nat.reduceBEq, Int.reduceToNat, List.reduceReplicate, reduceCtorEq]
          repeat (refine And.intro (by first | omega | (and_intros <;> first | omega | exact rows_row _ | decide | (simp; done) | (simp; omega)) | fail) ?_)
          refine hK _ (Aw_ret (hR2 _ (hR1 _ (hQ _ ?_))))
          simp only [go_sem, reduceIte, Nat.reduceLT, Nat.reduceLeDiff, Nat.reduceEqDiff, Nat.reduceAdd, Nat.reduceMul, Nat.reduceSub, Nat.reduceBEq, Int.reduceToNat, List.reduceReplicate, reduceCtorEq]
          simp [fitsB, hc6]
        · simp only [decide_eq_false_iff_not] at hc6
          refine Aw_skip (hN2 _ (hB1 _ ?_))
          refine Aw_st hE [4] [] fun K hK => ?_
          simp only [go_sem, reduceIte, Nat.reduceLT, Nat.reduceLeDiff, Nat.reduceEqDiff, Nat.reduceAdd, Nat.reduceMul, Nat.reduceSub, Nat.reduceBEq, Int.reduceToNat, List.reduceReplicate, reduceCtorEq]
          repeat (refine And.intro (by first | omega | (and_intros <;> first | omega | exact rows_row _ | decide | (simp; done) | (simp; omega)) | fail) ?_)
          refine hK _ (Aw_ret (hQ _ ?_))
          simp only [go_sem, reduceIte, Nat.reduceLT, Nat.reduceLeDiff, Nat.reduceEqDiff, Nat.reduceAdd, Nat.reduceMul, Nat.reduceSub, Nat.reduceBEq, Int.reduceToNat, List.reduceReplicate, reduceCtorEq]
          simp [fitsB, hc3, hc4, hc5, hc6]
theorem beqI (a b : Int) : (a == b) = decide (a = b) := rfl
theorem sClOk_ok : Fine Tryz.prog 41 dClOk.con := by
  refine fine_det (T := TT) Tryz.func41 rfl Tryz.ntmps41 (by rw [Tryz.results41]) rfl rfl tt (gs_nil) (ds_cons in_ok (ds_cons sRangeOk_ok (ds_cons sIsH_ok ds_nil))) ?_
  intro args c r h hc
  simp only [dClOk, gClOk] at h
  split at h
  rotate_left
  · cases h
  obtain ⟨rfl, rfl⟩ := Prod.mk.inj (Option.some.inj h)
  refine ⟨by simp, fun k E hE Q hQ => ?_⟩
  rename_i ci n f b ref like mark clear
  have hH : ∀ x, (decide (1 ≤ x) && decide (x ≤ 9)) = isM x := fun _ => rfl
  refine Aw_st hE [1] [1] fun K hK => ?_
  simp only [go_sem, reduceIte, Nat.reduceLT, Nat.reduceLeDiff, Nat.reduceEqDiff, Nat.reduceAdd, Nat.reduceMul, Nat.reduceSub, Nat.reduceBEq, Int.reduceToNat, List.reduceReplicate, reduceCtorEq]
  repeat (refine And.intro (by first | omega | (and_intros <;> first | omega | exact rows_row _ | decide | (simp; done) | (simp; omega)) | fail) ?_)
  refine hK _ ?_; clear hK K
  refine Aw_sq fun B1 hB1 hR1 hX1 => ?_
  refine Aw_st hE [1, 18] [1] fun K hK => ?_
  simp only [go_sem, reduceIte, Nat.reduceLT, Nat.reduceLeDiff, Nat.reduceEqDiff, Nat.reduceAdd, Nat.reduceMul, Nat.reduceSub, Nat.reduceBEq, Int.reduceToNat, List.reduceReplicate, reduceCtorEq]
  repeat (refine And.intro (by first | omega | (and_intros <;> first | omega | exact rows_row _ | decide | (simp; done) | (simp; omega)) | fail) ?_)
  refine ⟨fun hg3 => ?_, fun hg3 => ?_⟩
  · repeat (refine And.intro (by first | omega | (and_intros <;> first | omega | exact rows_row _ | decide | (simp; done) | (simp; omega)) | fail) ?_)
    refine hK _ (Aw_yes rfl ?_)
    refine Aw_st hE [2] [] fun K hK => ?_
    simp only [go_sem, reduceIte, Nat.reduceLT, Nat.reduceLeDiff, Nat.reduceEqDiff, Nat.reduceAdd, Nat.reduceMul, Nat.reduceSub, Nat.reduceBEq, Int.reduceToNat, List.reduceReplicate, reduceCtorEq]
    repeat (refine And.intro (by first | omega | (and_intros <;> first | omega | exact rows_row _ | decide | (simp; done) | (simp; omega)) | fail) ?_)
    refine hK _ (Aw_ret (hR1 _ (hQ _ ?_)))
    simp only [go_sem, reduceIte, Nat.reduceLT, Nat.reduceLeDiff, Nat.reduceEqDiff, Nat.reduceAdd, Nat.reduceMul, Nat.reduceSub, Nat.reduceBEq, Int.reduceToNat, List.reduceReplicate, reduceCtorEq]
    simp_all [clOk]
    all_goals (intros; omega)
  · repeat (refine And.intro (by first | omega | (and_intros <;> first | omega | exact rows_row _ | decide | (simp; done) | (simp; omega)) | fail) ?_)
    refine ⟨fun hg4 => ?_, fun hg4 => ?_⟩
    · repeat (refine And.intro (by first | omega | (and_intros <;> first | omega | exact rows_row _ | decide | (simp; done) | (simp; omega)) | fail) ?_)
      refine hK _ (Aw_yes rfl ?_)
      refine Aw_st hE [2] [] fun K hK => ?_
      simp only [go_sem, reduceIte, Nat.reduceLT, Nat.reduceLeDiff, Nat.reduceEqDiff, Nat.reduceAdd, Nat.reduceMul, Nat.reduceSub, Nat.reduceBEq, Int.reduceToNat, List.reduceReplicate, reduceCtorEq]
      repeat (refine And.intro (by first | omega | (and_intros <;> first | omega | exact rows_row _ | decide | (simp; done) | (simp; omega)) | fail) ?_)
      refine hK _ (Aw_ret (hR1 _ (hQ _ ?_)))
      simp only [go_sem, reduceIte, Nat.reduceLT, Nat.reduceLeDiff, Nat.reduceEqDiff, Nat.reduceAdd, Nat.reduceMul, Nat.reduceSub, Nat.reduceBEq, Int.reduceToNat, List.reduceReplicate, reduceCtorEq]
      simp_all [clOk]
      all_goals (intros; omega)
    · repeat (refine And.intro (by first | omega | (and_intros <;> first | omega | exact rows_row _ | decide | (simp; done) | (simp; omega)) | fail) ?_)
      refine hK _ (Aw_cond rfl (fun hc5 => ?_) (fun hc5 => ?_))
      · refine Aw_st hE [2] [] fun K hK => ?_
        simp only [go_sem, reduceIte, Nat.reduceLT, Nat.reduceLeDiff, Nat.reduceEqDiff, Nat.reduceAdd, Nat.reduceMul, Nat.reduceSub, Nat.reduceBEq, Int.reduceToNat, List.reduceReplicate, reduceCtorEq]
        repeat (refine And.intro (by first | omega | (and_intros <;> first | omega | exact rows_row _ | decide | (simp; done) | (simp; omega)) | fail) ?_)
        refine hK _ (Aw_ret (hR1 _ (hQ _ ?_)))
        simp only [go_sem, reduceIte, Nat.reduceLT, Nat.reduceLeDiff, Nat.reduceEqDiff, Nat.reduceAdd, Nat.reduceMul, Nat.reduceSub, Nat.reduceBEq, Int.reduceToNat, List.reduceReplicate, reduceCtorEq]
        simp_all [clOk]
        all_goals (intros; omega)
      · simp only [Bool.not_eq_false', Bool.and_eq_true, decide_eq_true_eq] at hg3 hg4 hc5
        refine Aw_skip (hB1 _ ?_)
        refine Aw_sq fun B6 hB6 hR6 hX6 => ?_
        refine Aw_st hE [1, 20] [1] fun K hK => ?_
        simp only [go_sem, reduceIte, Nat.reduceLT, Nat.reduceLeDiff, Nat.reduceEqDiff, Nat.reduceAdd, Nat.reduceMul, Nat.reduceSub, Nat.reduceBEq, Int.reduceToNat, List.reduceReplicate, reduceCtorEq]
        repeat (refine And.intro (by first | omega | (and_intros <;> first | omega | exact rows_row _ | decide | (simp; done) | (simp; omega)) | fail) ?_)
        refine hK _ ?_; clear hK K
        refine Aw_bk fun B7 hN7 hE7 hR7 hX7 => ?_
        refine Aw_st hE [1, 20, 21] [1] fun K hK => ?_
        simp only [go_sem, reduceIte, Nat.reduceLT, Nat.reduceLeDiff, Nat.reduceEqDiff, Nat.reduceAdd, Nat.reduceMul, Nat.reduceSub, Nat.reduceBEq, Int.reduceToNat, List.reduceReplicate, reduceCtorEq]
        repeat (refine And.intro (by first | omega | (and_intros <;> first | omega | exact rows_row _ | decide | (simp; done) | (simp; omega)) | fail) ?_)
        refine hK _ (Aw_cond rfl (fun hc8 => ?_) (fun hc8 => ?_))
        · simp only [decide_eq_true_eq] at hc8
          refine Aw_st hE [2] [] fun K hK => ?_
          simp only [go_sem, reduceIte, Nat.reduceLT, Nat.reduceLeDiff, Nat.reduceEqDiff, Nat.reduceAdd, Nat.reduceMul, Nat.reduceSub, Nat.reduceBEq, Int.reduceToNat, List.reduceReplicate, reduceCtorEq]
          repeat (refine And.intro (by first | omega | (and_intros <;> first | omega | exact rows_row _ | decide | (simp; done) | (simp; omega)) | fail) ?_)
          refine ⟨fun h1 => ?_, fun h1 => ?_⟩
          all_goals
            refine hK _ (Aw_ret (hR7 _ (hR6 _ (hQ _ ?_))))
            simp only [go_sem, reduceIte, Nat.reduceLT, Nat.reduceLeDiff, Nat.reduceEqDiff, Nat.reduceAdd, Nat.reduceMul, Nat.reduceSub, Nat.reduceBEq, Int.reduceToNat, List.reduceReplicate, reduceCtorEq]
            simp [clOk, subOk, hg3, hg4, hc5, beqI, hc8, h1]
        · simp only [decide_eq_false_iff_not] at hc8
          refine Aw_st hE [1, 20, 32] [1] fun K hK => ?_
          simp only [go_sem, reduceIte, Nat.reduceLT, Nat.reduceLeDiff, Nat.reduceEqDiff, Nat.reduceAdd, Nat.reduceMul, Nat.reduceSub, Nat.reduceBEq, Int.reduceToNat, List.reduceReplicate, reduceCtorEq]
          repeat (refine And.intro (by first | omega | (and_intros <;> first | omega | exact rows_row _ | decide | (simp; done) | (simp; omega)) | fail) ?_)
          refine hK _ (Aw_cond rfl (fun hc9 => ?_) (fun hc9 => ?_))
          · simp only [decide_eq_true_eq] at hc9
            refine Aw_st hE [2] [] fun K hK => ?_
            simp only [go_sem, reduceIte, Nat.reduceLT, Nat.reduceLeDiff, Nat.reduceEqDiff, Nat.reduceAdd, Nat.reduceMul, Nat.reduceSub, Nat.reduceBEq, Int.reduceToNat, List.reduceReplicate, reduceCtorEq]
            repeat (refine And.intro (by first | omega | (and_intros <;> first | omega | exact rows_row _ | decide | (simp; done) | (simp; omega)) | fail) ?_)
            refine ⟨fun h1 => ?_, fun h1 => ?_⟩
            all_goals
              refine hK _ (Aw_ret (hR7 _ (hR6 _ (hQ _ ?_))))
              simp only [go_sem, reduceIte, Nat.reduceLT, Nat.reduceLeDiff, Nat.reduceEqDiff, Nat.reduceAdd, Nat.reduceMul, Nat.reduceSub, Nat.reduceBEq, Int.reduceToNat, List.reduceReplicate, reduceCtorEq]
              simp [clOk, subOk, hg3, hg4, hc5, beqI, hc9, h1]
          · simp only [decide_eq_false_iff_not] at hc9
            refine Aw_st hE [1, 20, 42] [1] fun K hK => ?_
            simp only [go_sem, reduceIte, Nat.reduceLT, Nat.reduceLeDiff, Nat.reduceEqDiff, Nat.reduceAdd, Nat.reduceMul, Nat.reduceSub, Nat.reduceBEq, Int.reduceToNat, List.reduceReplicate, reduceCtorEq]
            repeat (refine And.intro (by first | omega | (and_intros <;> first | omega | exact rows_row _ | decide | (simp; done) | (simp; omega)) | fail) ?_)
            refine hK _ (Aw_cond rfl (fun hc10 => ?_) (fun hc10 => ?_))
            · simp only [decide_eq_true_eq] at hc10
              refine Aw_st hE [2] [] fun K hK => ?_
              simp only [go_sem, reduceIte, Nat.reduceLT, Nat.reduceLeDiff, Nat.reduceEqDiff, Nat.reduceAdd, Nat.reduceMul, Nat.reduceSub, Nat.reduceBEq, Int.reduceToNat, List.reduceReplicate, reduceCtorEq]
              repeat (refine And.intro (by first | omega | (and_intros <;> first | omega | exact rows_row _ | decide | (simp; done) | (simp; omega)) | fail) ?_)
              refine ⟨fun h1 => ?_, fun h1 => ?_⟩
              all_goals
                refine hK _ (Aw_ret (hR7 _ (hR6 _ (hQ _ ?_))))
                simp only [go_sem, reduceIte, Nat.reduceLT, Nat.reduceLeDiff, Nat.reduceEqDiff, Nat.reduceAdd, Nat.reduceMul, Nat.reduceSub, Nat.reduceBEq, Int.reduceToNat, List.reduceReplicate, reduceCtorEq]
                rw [hH] at h1
                simp [clOk, subOk, hg3, hg4, hc5, beqI, hc10, h1]
            · simp only [decide_eq_false_iff_not] at hc10
              refine Aw_sq fun B11 hB11 hR11 hX11 => ?_
              refine Aw_st hE [1, 20, 53] [1] fun K hK => ?_
              simp only [go_sem, reduceIte, Nat.reduceLT, Nat.reduceLeDiff, Nat.reduceEqDiff, Nat.reduceAdd, Nat.reduceMul, Nat.reduceSub, Nat.reduceBEq, Int.reduceToNat, List.reduceReplicate, reduceCtorEq]
              repeat (refine And.intro (by first | omega | (and_intros <;> first | omega | exact rows_row _ | decide | (simp; done) | (simp; omega)) | fail) ?_)
              refine hK _ (Aw_cond rfl (fun hc12 => ?_) (fun hc12 => ?_))
              · simp only [decide_eq_true_eq] at hc12
                refine Aw_skip (hB11 _ ?_)
                refine Aw_cond rfl (fun hc13 => ?_) (fun hc13 => ?_)
                · refine Aw_st hE [2] [] fun K hK => ?_
                  simp only [go_sem, reduceIte, Nat.reduceLT, Nat.reduceLeDiff, Nat.reduceEqDiff, Nat.reduceAdd, Nat.reduceMul, Nat.reduceSub, Nat.reduceBEq, Int.reduceToNat, List.reduceReplicate, reduceCtorEq]
                  repeat (refine And.intro (by first | omega | (and_intros <;> first | omega | exact rows_row _ | decide | (simp; done) | (simp; omega)) | fail) ?_)
                  refine ⟨fun h1 => ?_, fun h1 => ?_⟩
                  all_goals
                    refine hK _ (Aw_ret (hR7 _ (hR6 _ (hQ _ ?_))))
                    simp only [go_sem, reduceIte, Nat.reduceLT, Nat.reduceLeDiff, Nat.reduceEqDiff, Nat.reduceAdd, Nat.reduceMul, Nat.reduceSub, Nat.reduceBEq, Int.reduceToNat, List.reduceReplicate, reduceCtorEq]
                    simp [clOk, subOk, hg3, hg4, hc5, beqI, hc8, hc9, hc10, hc12, h1]
                · refine Aw_skip (hN7 _ (hB6 _ ?_))
                  refine Aw_st hE [2] [] fun K hK => ?_
                  simp only [go_sem, reduceIte, Nat.reduceLT, Nat.reduceLeDiff, Nat.reduceEqDiff, Nat.reduceAdd, Nat.reduceMul, Nat.reduceSub, Nat.reduceBEq, Int.reduceToNat, List.reduceReplicate, reduceCtorEq]
                  repeat (refine And.intro (by first | omega | (and_intros <;> first | omega | exact rows_row _ | decide | (simp; done) | (simp; omega)) | fail) ?_)
                  refine hK _ (Aw_ret (hQ _ ?_))
                  simp only [go_sem, reduceIte, Nat.reduceLT, Nat.reduceLeDiff, Nat.reduceEqDiff, Nat.reduceAdd, Nat.reduceMul, Nat.reduceSub, Nat.reduceBEq, Int.reduceToNat, List.reduceReplicate, reduceCtorEq]
                  simp only [decide_eq_false_iff_not] at hc13
                  exact absurd hc12 hc13
              · simp only [decide_eq_false_iff_not] at hc12
                refine Aw_tx hE [1, 53] [1] fun K hK => ?_
                simp only [go_sem, reduceIte, Nat.reduceLT, Nat.reduceLeDiff, Nat.reduceEqDiff, Nat.reduceAdd, Nat.reduceMul, Nat.reduceSub, Nat.reduceBEq, Int.reduceToNat, List.reduceReplicate, reduceCtorEq]
                repeat (refine And.intro (by first | omega | (and_intros <;> first | omega | exact rows_row _ | decide | (simp; done) | (simp; omega)) | fail) ?_)
                refine hK _ (hB11 _ ?_)
                refine Aw_cond rfl (fun hc14 => ?_) (fun hc14 => ?_)
                · refine Aw_st hE [2] [] fun K hK => ?_
                  simp only [go_sem, reduceIte, Nat.reduceLT, Nat.reduceLeDiff, Nat.reduceEqDiff, Nat.reduceAdd, Nat.reduceMul, Nat.reduceSub, Nat.reduceBEq, Int.reduceToNat, List.reduceReplicate, reduceCtorEq]
                  repeat (refine And.intro (by first | omega | (and_intros <;> first | omega | exact rows_row _ | decide | (simp; done) | (simp; omega)) | fail) ?_)
                  refine ⟨fun h1 => ?_, fun h1 => ?_⟩
                  all_goals
                    refine hK _ (Aw_ret (hR7 _ (hR6 _ (hQ _ ?_))))
                    simp only [go_sem, reduceIte, Nat.reduceLT, Nat.reduceLeDiff, Nat.reduceEqDiff, Nat.reduceAdd, Nat.reduceMul, Nat.reduceSub, Nat.reduceBEq, Int.reduceToNat, List.reduceReplicate, reduceCtorEq]
                    simp only [decide_eq_true_eq] at hc14
                    simp [clOk, subOk, hg3, hg4, hc5, beqI, hc14, h1]
                · refine Aw_skip (hN7 _ (hB6 _ ?_))
                  refine Aw_st hE [2] [] fun K hK => ?_
                  simp only [go_sem, reduceIte, Nat.reduceLT, Nat.reduceLeDiff, Nat.reduceEqDiff, Nat.reduceAdd, Nat.reduceMul, Nat.reduceSub, Nat.reduceBEq, Int.reduceToNat, List.reduceReplicate, reduceCtorEq]
                  repeat (refine And.intro (by first | omega | (and_intros <;> first | omega | exact rows_row _ | decide | (simp; done) | (simp; omega)) | fail) ?_)
                  refine hK _ (Aw_ret (hQ _ ?_))
                  simp only [go_sem, reduceIte, Nat.reduceLT, Nat.reduceLeDiff, Nat.reduceEqDiff, Nat.reduceAdd, Nat.reduceMul, Nat.reduceSub, Nat.reduceBEq, Int.reduceToNat, List.reduceReplicate, reduceCtorEq]
                  simp only [decide_eq_false_iff_not] at hc14
                  simp [clOk, subOk, hg3, hg4, hc5, hc8, hc9, hc10, hc12, hc14]

/-- clauses -/
def cl0 : Cl := ⟨0, 0, 0, 0, false, 0, 0, 0⟩
def rt0 : Rt := ⟨0, 0, [], 0, []⟩
def gPolOk : List AV → Option (Prop × AV) | [.sl _ els] => (match clsL els with | some l => some (l.length ≤ 1000000, bv (polOk l)) | none => none) | _ => none
def dPolOk : DFn := { g := gPolOk }
def resR : Option Rt → AV
  | some x => .tup [x.av, bv true]
  | none => .tup [rt0.av, bv false]
def gDo : List AV → Option (Prop × AV)
  | [.sl _ els, .agg [.v (.int .i64 rf), .v (.int .i64 rb), .sl _ e1, .v (.int .i64 rk), .sl _ e2]] => (match clsL els, intsL e1, intsL e2 with
    | some l, some p, some m => some (((∀ c ∈ l, clOk c = true) ∧ okR ⟨rf, rb, p, rk, m⟩ = true) ∧ l.length ≤ 1000000 ∧ p.length ≤ 1000000 ∧ m.length ≤ 1000, resR (polDo l ⟨rf, rb, p, rk, m⟩))
    | _, _, _ => none)
  | _ => none
def dDo : DFn := { g := gDo }
def gPDo : List AV → Option (Prop × AV)
  | [.sl _ els, .agg [.v (.int .i64 rf), .v (.int .i64 rb), .sl _ e1, .v (.int .i64 rk), .sl _ e2]] => (match clsL els, intsL e1, intsL e2 with
    | some l, some p, some m => some (l.length ≤ 1000000 ∧ p.length ≤ 1000000 ∧ m.length ≤ 1000, resR (policyDo l ⟨rf, rb, p, rk, m⟩))
    | _, _, _ => none)
  | _ => none
def dPDo : DFn := { g := gPDo }
attribute [go_sem] gPolOk dPolOk gDo dDo gPDo dPDo

theorem all_take {l : List Cl} {i : Nat} (h : i < l.length) (f : Cl → Bool) : (l.take (i + 1)).all f = ((l.take i).all f && f l[i]) := by
  rw [List.take_succ_eq_append_getElem h, List.all_append]
  simp only [List.all_cons, List.all_nil, Bool.and_true]
theorem all_stop {l : List Cl} {i : Nat} (h : i < l.length) {f : Cl → Bool} (hf : f l[i] = false) : l.all f = false := by
  rw [List.all_eq_false]
  exact ⟨l[i], List.getElem_mem h, by simp [hf]⟩
theorem sPolOk_ok : Fine Tryz.prog 16 dPolOk.con := by
  refine fine_det (T := TT) Tryz.func16 rfl Tryz.ntmps16 (by rw [Tryz.results16]) rfl rfl tt (gs_nil) (ds_cons sClOk_ok ds_nil) ?_
  intro args c r h hc
  simp only [dPolOk, gPolOk] at h
  split at h
  rotate_left
  · cases h
  split at h
  rotate_left
  · cases h
  rename_i t els _ l hcl
  obtain rfl := clsL_eq hcl
  obtain ⟨rfl, rfl⟩ := Prod.mk.inj (Option.some.inj h)
  refine ⟨by simp, fun k E hE Q hQ => ?_⟩
  refine Aw_st hE [0] [] fun K hK => ?_
  simp only [go_sem, reduceIte, Nat.reduceLT, Nat.reduceLeDiff, Nat.reduceEqDiff, Nat.reduceAdd, Nat.reduceMul, Nat.reduceSub, Nat.reduceBEq, Int.reduceToNat, List.reduceReplicate, reduceCtorEq]
  repeat (refine And.intro (by first | omega | (and_intros <;> first | omega | exact rows_row _ | decide | (simp; done) | (simp; omega)) | fail) ?_)
  refine hK _ ?_; clear hK K
  refine Aw_sq fun B1 hB1 hR1 hX1 => ?_
  refine Aw_st hE [0, 3] [] fun K hK => ?_
  simp only [go_sem, reduceIte, Nat.reduceLT, Nat.reduceLeDiff, Nat.reduceEqDiff, Nat.reduceAdd, Nat.reduceMul, Nat.reduceSub, Nat.reduceBEq, Int.reduceToNat, List.reduceReplicate, reduceCtorEq]
  repeat (refine And.intro (by first | omega | (and_intros <;> first | omega | exact rows_row _ | decide | (simp; done) | (simp; omega)) | fail) ?_)
  refine hK _ ?_; clear hK K
  refine Aw_bk fun B2 hN2 hE2 hR2 hX2 => ?_
  refine Aw_lp (fun i : Nat => ⟨19, [(0, .sl t (crows l)), (3, iv i)], [], k⟩) (fun i : Nat => i ≤ l.length ∧ (l.take i).all clOk = true) (fun i : Nat => l.length - i) (0) (Le.refl _) (⟨by omega, by simp⟩) fun i hi B3 hN3 hR3 hX3 => ?_
  refine Aw_sq fun B4 hB4 hR4 hX4 => ?_
  refine Aw_st hE [0, 3, 7] [] fun K hK => ?_
  simp only [go_sem, reduceIte, Nat.reduceLT, Nat.reduceLeDiff, Nat.reduceEqDiff, Nat.reduceAdd, Nat.reduceMul, Nat.reduceSub, Nat.reduceBEq, Int.reduceToNat, List.reduceReplicate, reduceCtorEq]
  repeat (refine And.intro (by first | omega | (and_intros <;> first | omega | exact rows_row _ | decide | (simp; done) | (simp; omega)) | fail) ?_)
  refine hK _ (Aw_cond rfl (fun hc5 => ?_) (fun hc5 => ?_))
  · simp only [decide_eq_true_eq] at hc5
    have hil : i < l.length := by omega
    have hs := all_take hil clOk
    refine Aw_skip (hB4 _ ?_)
    refine Aw_sq fun B6 hB6 hR6 hX6 => ?_
    refine Aw_bk fun B7 hN7 hE7 hR7 hX7 => ?_
    refine Aw_st hE [0, 3, 15] [] fun K hK => ?_
    simp only [go_sem, reduceIte, Nat.reduceLT, Nat.reduceLeDiff, Nat.reduceEqDiff, Nat.reduceAdd, Nat.reduceMul, Nat.reduceSub, Nat.reduceBEq, Int.reduceToNat, List.reduceReplicate, reduceCtorEq, crows_get l i hil]
    repeat (refine And.intro (by first | omega | (and_intros <;> first | omega | exact rows_row _ | decide | (simp; done) | (simp; omega)) | fail) ?_)
    refine hK _ (Aw_cond rfl (fun hc8 => ?_) (fun hc8 => ?_))
    · simp only [Bool.not_eq_true'] at hc8
      refine Aw_st hE [2] [] fun K hK => ?_
      simp only [go_sem, reduceIte, Nat.reduceLT, Nat.reduceLeDiff, Nat.reduceEqDiff, Nat.reduceAdd, Nat.reduceMul, Nat.reduceSub, Nat.reduceBEq, Int.reduceToNat, List.reduceReplicate, reduceCtorEq]
      repeat (refine And.intro (by first | omega | (and_intros <;> first | omega | exact rows_row _ | decide | (simp; done) | (simp; omega)) | fail) ?_)
      refine hK _ (Aw_ret (hR7 _ (hR6 _ (hR3 _ (hR2 _ (hR1 _ (hQ _ ?_)))))))
      simp only [go_sem, reduceIte, Nat.reduceLT, Nat.reduceLeDiff, Nat.reduceEqDiff, Nat.reduceAdd, Nat.reduceMul, Nat.reduceSub, Nat.reduceBEq, Int.reduceToNat, List.reduceReplicate, reduceCtorEq]
      rw [polOk, all_stop hil hc8, Bool.and_false]
    · simp only [Bool.not_eq_false'] at hc8
      rw [hi.2, hc8] at hs
      refine Aw_skip (hN7 _ (hB6 _ ?_))
      refine Aw_tx hE [0, 3] [] fun K hK => ?_
      simp only [go_sem, reduceIte, Nat.reduceLT, Nat.reduceLeDiff, Nat.reduceEqDiff, Nat.reduceAdd, Nat.reduceMul, Nat.reduceSub, Nat.reduceBEq, Int.reduceToNat, List.reduceReplicate, reduceCtorEq]
      repeat (refine And.intro (by first | omega | (and_intros <;> first | omega | exact rows_row _ | decide | (simp; done) | (simp; omega)) | fail) ?_)
      refine hK _ (hN3 (i + 1) _ (⟨by omega, hs⟩) (by omega) (Le.refl _))
  · simp only [decide_eq_false_iff_not] at hc5
    refine Aw_exit (hX4 _ _ (hX3 _ _ (hE2 _ (hB1 _ ?_))))
    refine Aw_st hE [2] [] fun K hK => ?_
    simp only [go_sem, reduceIte, Nat.reduceLT, Nat.reduceLeDiff, Nat.reduceEqDiff, Nat.reduceAdd, Nat.reduceMul, Nat.reduceSub, Nat.reduceBEq, Int.reduceToNat, List.reduceReplicate, reduceCtorEq]
    repeat (refine And.intro (by first | omega | (and_intros <;> first | omega | exact rows_row _ | decide | (simp; done) | (simp; omega)) | fail) ?_)
    refine hK _ (Aw_ret (hQ _ ?_))
    simp only [go_sem, reduceIte, Nat.reduceLT, Nat.reduceLeDiff, Nat.reduceEqDiff, Nat.reduceAdd, Nat.reduceMul, Nat.reduceSub, Nat.reduceBEq, Int.reduceToNat, List.reduceReplicate, reduceCtorEq]
    have e := hi.2
    rw [List.take_of_length_le (by omega)] at e
    rw [polOk, e, Bool.and_true]
    congr 1
    exact propext (by omega)
end Go.Proofs.W
end
section
namespace Go.Proofs.W
open Go Go.Eng Go.RowKit
set_option linter.unusedSimpArgs false
set_option maxRecDepth 100000

/-! copies as data -/
def gCloneD : List AV → Option (Prop × AV) | [.sl _ els] => (match intsL els with | some l => some (l.length ≤ 1000000, isl l) | none => none) | _ => none
def dCloneD : DFn := { g := gCloneD }
attribute [go_sem] gCloneD dCloneD
theorem cloneD_ok : Fine Tryz.prog 78 dCloneD.con := by
  refine fine_det (T := TT) Tryz.func78 rfl Tryz.ntmps78 (by rw [Tryz.results78]) rfl rfl tt (gs_nil) (ds_nil) ?_
  intro args c r h hc
  simp only [dCloneD, gCloneD] at h
  split at h
  rotate_left
  · cases h
  split at h
  rotate_left
  · cases h
  rename_i t els _ l hl
  obtain rfl := intsL_eq hl
  obtain ⟨rfl, rfl⟩ := Prod.mk.inj (Option.some.inj h)
  refine ⟨by simp, fun k E hE Q hQ => ?_⟩
  refine Aw_st hE [0] [] fun K hK => ?_
  simp only [go_sem, reduceIte, Nat.reduceLT, Nat.reduceLeDiff, Nat.reduceEqDiff, Nat.reduceAdd, Nat.reduceMul, Nat.reduceSub, Nat.reduceBEq, Int.reduceToNat, List.reduceReplicate, reduceCtorEq]
  repeat (refine And.intro (by first | omega | (and_intros <;> first | omega | exact rows_row _ | decide | (simp; done) | (simp; omega)) | fail) ?_)
  refine hK _ ?_; clear hK K
  refine Aw_sq fun B1 hB1 hR1 hX1 => ?_
  refine Aw_st hE [0, 4] [] fun K hK => ?_
  simp only [go_sem, reduceIte, Nat.reduceLT, Nat.reduceLeDiff, Nat.reduceEqDiff, Nat.reduceAdd, Nat.reduceMul, Nat.reduceSub, Nat.reduceBEq, Int.reduceToNat, List.reduceReplicate, reduceCtorEq]
  repeat (refine And.intro (by first | omega | (and_intros <;> first | omega | exact rows_row _ | decide | (simp; done) | (simp; omega)) | fail) ?_)
  rintro b _ hb rfl
  refine hK _ (Aw_cond rfl (fun hc2 => ?_) (fun hc2 => ?_))
  · refine Aw_st hE [2] [] fun K hK => ?_
    simp only [go_sem, reduceIte, Nat.reduceLT, Nat.reduceLeDiff, Nat.reduceEqDiff, Nat.reduceAdd, Nat.reduceMul, Nat.reduceSub, Nat.reduceBEq, Int.reduceToNat, List.reduceReplicate, reduceCtorEq]
    repeat (refine And.intro (by first | omega | (and_intros <;> first | omega | exact rows_row _ | decide | (simp; done) | (simp; omega)) | fail) ?_)
    refine hK _ (Aw_ret (hR1 _ (hQ _ ?_)))
    simp only [go_sem, reduceIte, Nat.reduceLT, Nat.reduceLeDiff, Nat.reduceEqDiff, Nat.reduceAdd, Nat.reduceMul, Nat.reduceSub, Nat.reduceBEq, Int.reduceToNat, List.reduceReplicate, reduceCtorEq]
    have : l = [] := by
      cases l with
      | nil => rfl
      | cons x l => have := hb (by simp [rows]); rw [this] at hc2; cases hc2
    rw [this]; rfl
  · refine Aw_skip (hB1 _ ?_)
    refine Aw_st hE [2] [] fun K hK => ?_
    simp only [go_sem, reduceIte, Nat.reduceLT, Nat.reduceLeDiff, Nat.reduceEqDiff, Nat.reduceAdd, Nat.reduceMul, Nat.reduceSub, Nat.reduceBEq, Int.reduceToNat, List.reduceReplicate, reduceCtorEq]
    repeat (refine And.intro (by first | omega | (and_intros <;> first | omega | exact rows_row _ | decide | (simp; done) | (simp; omega)) | fail) ?_)
    refine hK _ (Aw_ret (hQ _ ?_))
    simp only [go_sem, reduceIte, Nat.reduceLT, Nat.reduceLeDiff, Nat.reduceEqDiff, Nat.reduceAdd, Nat.reduceMul, Nat.reduceSub, Nat.reduceBEq, Int.reduceToNat, List.reduceReplicate, reduceCtorEq]
def gCopyD : List AV → Option (Prop × AV)
  | [.agg [.v (.int .i64 f), .v (.int .i64 b), .sl _ e1, .v (.int .i64 k), .sl _ e2]] => (match intsL e1, intsL e2 with
    | some p, some m => some (p.length ≤ 1000000 ∧ m.length ≤ 1000000, .agg [iv f, iv b, isl p, iv k, isl m])
    | _, _ => none)
  | _ => none
def dCopyD : DFn := { g := gCopyD }
attribute [go_sem] gCopyD dCopyD
theorem copyD_ok : Fine Tryz.prog 40 dCopyD.con := by
  refine fine_det (T := TT) Tryz.func40 rfl Tryz.ntmps40 (by rw [Tryz.results40]) rfl rfl tt gs_nil (ds_cons cloneD_ok ds_nil) ?_
  intro args c r h hc
  simp only [dCopyD, gCopyD] at h
  split at h
  rotate_left
  · cases h
  split at h
  rotate_left
  · cases h
  rename_i f b t1 e1 lk t2 e2 _ _ p m hl1 hl2
  obtain rfl := intsL_eq hl1
  obtain rfl := intsL_eq hl2
  obtain ⟨rfl, rfl⟩ := Prod.mk.inj (Option.some.inj h)
  refine ⟨by simp, fun k E hE Q hQ => ?_⟩
  refine Aw_st hE [1, 2] [1, 2] fun K hK => ?_
  simp only [go_sem, reduceIte, Nat.reduceLT, Nat.reduceLeDiff, Nat.reduceEqDiff, Nat.reduceAdd, Nat.reduceMul, Nat.reduceSub, Nat.reduceBEq, Int.reduceToNat, List.reduceReplicate, reduceCtorEq]
  refine hK _ ?_; clear hK K
  refine Aw_sd hE [1, 2] [1, 2] 6 (by kernel_rfl) fun K hK => ?_
  simp only [go_sem, reduceIte, Nat.reduceLT, Nat.reduceLeDiff, Nat.reduceEqDiff, Nat.reduceAdd, Nat.reduceMul, Nat.reduceSub, Nat.reduceBEq, Int.reduceToNat, List.reduceReplicate, reduceCtorEq]
  refine ⟨hc.1, hc.2, ?_⟩
  refine hK _ ?_; clear hK K
  refine Aw_st hE [2] [2] fun K hK => ?_
  simp only [go_sem, reduceIte, Nat.reduceLT, Nat.reduceLeDiff, Nat.reduceEqDiff, Nat.reduceAdd, Nat.reduceMul, Nat.reduceSub, Nat.reduceBEq, Int.reduceToNat, List.reduceReplicate, reduceCtorEq]
  refine hK _ (Aw_ret (hQ _ ?_))
  simp only [go_sem, reduceIte, Nat.reduceLT, Nat.reduceLeDiff, Nat.reduceEqDiff, Nat.reduceAdd, Nat.reduceMul, Nat.reduceSub, Nat.reduceBEq, Int.reduceToNat, List.reduceReplicate, reduceCtorEq]
end Go.Proofs.W
end
section
namespace Go.Proofs.W
open Go Go.Eng Go.RowKit
set_option linter.unusedSimpArgs false
set_option maxRecDepth 100000

/-! the program's side: what a clause asks -/
def idxB {α : Type} (f : α → Bool) : List α → Nat → Int
  | [], _ => -1
  | x :: l, k => if f x then k else idxB f l (k + 1)
theorem idxB_drop {α : Type} {f : α → Bool} {l : List α} {i : Nat} (h : i < l.length) : idxB f (l.drop i) i = if f l[i] then (i : Int) else idxB f (l.drop (i + 1)) (i + 1) := by
  rw [List.drop_eq_getElem_cons h, idxB]
theorem idxB_any {α : Type} {f : α → Bool} : ∀ (l : List α) (k : Nat), decide (0 ≤ idxB f l k) = l.any f
  | [], _ => rfl
  | x :: l, k => by
    rw [idxB, List.any_cons]
    cases hf : f x with
    | true =>
      rw [if_pos rfl, Bool.true_or]
      exact decide_eq_true (by omega)
    | false =>
      rw [if_neg (by simp), Bool.false_or]
      exact idxB_any l (k + 1)
theorem idxB_some {α : Type} {f : α → Bool} : ∀ {l : List α} {k : Nat}, (idxB f l k = -1 ∧ ∀ x ∈ l, f x = false) ∨ ∃ i, ∃ h : i < l.length, idxB f l k = (k + i : Nat) ∧ f l[i] = true ∧ ∀ x ∈ l.take i, f x = false
  | [], _ => .inl ⟨rfl, by simp⟩
  | x :: l, k => by
    rw [idxB]
    cases hf : f x with
    | true => exact .inr ⟨0, by simp, by simp, by simpa using hf, by simp⟩
    | false =>
      rw [if_neg (by simp)]
      rcases idxB_some (f := f) (l := l) (k := k + 1) with ⟨h1, h2⟩ | ⟨i, h, h1, h2, h3⟩
      · exact .inl ⟨h1, fun y hy => (List.mem_cons.1 hy).elim (fun e => e ▸ hf) (h2 y)⟩
      · refine .inr ⟨i + 1, by simp; omega, by rw [h1]; congr 1; omega, by simpa using h2, fun y hy => ?_⟩
        rw [List.take_succ_cons] at hy
        exact (List.mem_cons.1 hy).elim (fun e => e ▸ hf) (h3 y)

def gIdxI : List AV → Option (Prop × AV) | [.sl _ els, .v (.int .i64 n)] => (match intsL els with | some l => some (l.length ≤ 4294967296, iv (idxB (fun x => decide (n = x)) l 0)) | none => none) | _ => none
def dIdxI : DFn := { g := gIdxI }
attribute [go_sem] gIdxI dIdxI
theorem idxI_ok : Fine Tryz.prog 156 dIdxI.con := by
  refine fine_det (T := TT) Tryz.func156 rfl Tryz.ntmps156 (by rw [Tryz.results156]) rfl rfl tt (gs_nil) (ds_nil) ?_
  intro args c r h hc
  simp only [dIdxI, gIdxI] at h
  split at h
  rotate_left
  · cases h
  split at h
  rotate_left
  · cases h
  rename_i t els n _ l hl
  obtain rfl := intsL_eq hl
  obtain ⟨rfl, rfl⟩ := Prod.mk.inj (Option.some.inj h)
  refine ⟨by simp, fun k E hE Q hQ => ?_⟩
  refine Aw_st hE [0, 1] [] fun K hK => ?_
  simp only [go_sem, reduceIte, Nat.reduceLT, Nat.reduceLeDiff, Nat.reduceEqDiff, Nat.reduceAdd, Nat.reduceMul, Nat.reduceSub, Nat.reduceBEq, Int.reduceToNat, List.reduceReplicate, reduceCtorEq]
  repeat (refine And.intro (by first | omega | (and_intros <;> first | omega | exact rows_row _ | decide | (simp; done) | (simp; omega)) | fail) ?_)
  refine hK _ ?_; clear hK K
  refine Aw_sq fun B1 hB1 hR1 hX1 => ?_
  refine Aw_st hE [0, 1, 7, 8] [] fun K hK => ?_
  simp only [go_sem, reduceIte, Nat.reduceLT, Nat.reduceLeDiff, Nat.reduceEqDiff, Nat.reduceAdd, Nat.reduceMul, Nat.reduceSub, Nat.reduceBEq, Int.reduceToNat, List.reduceReplicate, reduceCtorEq]
  repeat (refine And.intro (by first | omega | (and_intros <;> first | omega | exact rows_row _ | decide | (simp; done) | (simp; omega)) | fail) ?_)
  refine hK _ ?_; clear hK K
  refine Aw_bk fun B2 hN2 hE2 hR2 hX2 => ?_
  refine Aw_lp (fun i : Nat => ⟨19, [(0, .sl t (rows l)), (1, iv n), (7, iv l.length), (8, iv i)], [], k⟩) (fun i : Nat => i ≤ l.length ∧ idxB (fun x => decide (n = x)) l 0 = idxB (fun x => decide (n = x)) (l.drop i) i) (fun i : Nat => l.length - i) (0) (Le.refl _) (⟨by omega, rfl⟩) fun i hi B3 hN3 hR3 hX3 => ?_
  refine Aw_st hE [0, 1, 7, 8, 9] [] fun K hK => ?_
  simp only [go_sem, reduceIte, Nat.reduceLT, Nat.reduceLeDiff, Nat.reduceEqDiff, Nat.reduceAdd, Nat.reduceMul, Nat.reduceSub, Nat.reduceBEq, Int.reduceToNat, List.reduceReplicate, reduceCtorEq]
  repeat (refine And.intro (by first | omega | (and_intros <;> first | omega | exact rows_row _ | decide | (simp; done) | (simp; omega)) | fail) ?_)
  refine hK _ ?_; clear hK K
  refine Aw_sq fun B4 hB4 hR4 hX4 => ?_
  refine Aw_cond rfl (fun hc5 => ?_) (fun hc5 => ?_)
  · simp only [decide_eq_true_eq] at hc5
    have hil : i < l.length := by omega
    have hs := hi.2.trans (idxB_drop hil)
    have hget : (rows l)[i]? = some [.v (.int .i64 l[i])] := by simp [rows, hil]
    generalize l[i] = x at hget hs
    refine Aw_skip (hB4 _ ?_)
    refine Aw_sq fun B6 hB6 hR6 hX6 => ?_
    refine Aw_bk fun B7 hN7 hE7 hR7 hX7 => ?_
    refine Aw_st hE [0, 1, 5, 7, 8] [] fun K hK => ?_
    simp only [go_sem, reduceIte, Nat.reduceLT, Nat.reduceLeDiff, Nat.reduceEqDiff, Nat.reduceAdd, Nat.reduceMul, Nat.reduceSub, Nat.reduceBEq, Int.reduceToNat, List.reduceReplicate, reduceCtorEq]
    repeat (refine And.intro (by first | omega | (and_intros <;> first | omega | exact rows_row _ | decide | (simp; done) | (simp; omega)) | fail) ?_)
    refine hK _ ?_; clear hK K
    refine Aw_st hE [0, 1, 5, 7, 8, 16] [] fun K hK => ?_
    simp only [go_sem, reduceIte, Nat.reduceLT, Nat.reduceLeDiff, Nat.reduceEqDiff, Nat.reduceAdd, Nat.reduceMul, Nat.reduceSub, Nat.reduceBEq, Int.reduceToNat, List.reduceReplicate, reduceCtorEq, hget]
    repeat (refine And.intro (by first | omega | (and_intros <;> first | omega | exact rows_row _ | decide | (simp; done) | (simp; omega)) | fail) ?_)
    refine hK _ (Aw_cond rfl (fun hc8 => ?_) (fun hc8 => ?_))
    · rw [hc8] at hs
      refine Aw_st hE [4] [] fun K hK => ?_
      simp only [go_sem, reduceIte, Nat.reduceLT, Nat.reduceLeDiff, Nat.reduceEqDiff, Nat.reduceAdd, Nat.reduceMul, Nat.reduceSub, Nat.reduceBEq, Int.reduceToNat, List.reduceReplicate, reduceCtorEq]
      repeat (refine And.intro (by first | omega | (and_intros <;> first | omega | exact rows_row _ | decide | (simp; done) | (simp; omega)) | fail) ?_)
      refine hK _ (Aw_ret (hR7 _ (hR6 _ (hR3 _ (hR2 _ (hR1 _ (hQ _ ?_)))))))
      simp only [go_sem, reduceIte, Nat.reduceLT, Nat.reduceLeDiff, Nat.reduceEqDiff, Nat.reduceAdd, Nat.reduceMul, Nat.reduceSub, Nat.reduceBEq, Int.reduceToNat, List.reduceReplicate, reduceCtorEq, hs]
    · rw [hc8] at hs
      refine Aw_skip (hN7 _ (hB6 _ ?_))
      refine Aw_tx hE [0, 1, 7, 8] [] fun K hK => ?_
      simp only [go_sem, reduceIte, Nat.reduceLT, Nat.reduceLeDiff, Nat.reduceEqDiff, Nat.reduceAdd, Nat.reduceMul, Nat.reduceSub, Nat.reduceBEq, Int.reduceToNat, List.reduceReplicate, reduceCtorEq]
      repeat (refine And.intro (by first | omega | (and_intros <;> first | omega | exact rows_row _ | decide | (simp; done) | (simp; omega)) | fail) ?_)
      refine hK _ (hN3 (i + 1) _ (⟨by omega, hs⟩) (by omega) (Le.refl _))
  · simp only [decide_eq_false_iff_not] at hc5
    refine Aw_exit (hX4 _ _ (hX3 _ _ (hE2 _ (hB1 _ ?_))))
    refine Aw_st hE [4] [] fun K hK => ?_
    simp only [go_sem, reduceIte, Nat.reduceLT, Nat.reduceLeDiff, Nat.reduceEqDiff, Nat.reduceAdd, Nat.reduceMul, Nat.reduceSub, Nat.reduceBEq, Int.reduceToNat, List.reduceReplicate, reduceCtorEq]
    repeat (refine And.intro (by first | omega | (and_intros <;> first | omega | exact rows_row _ | decide | (simp; done) | (simp; omega)) | fail) ?_)
    refine hK _ (Aw_ret (hQ _ ?_))
    simp only [go_sem, reduceIte, Nat.reduceLT, Nat.reduceLeDiff, Nat.reduceEqDiff, Nat.reduceAdd, Nat.reduceMul, Nat.reduceSub, Nat.reduceBEq, Int.reduceToNat, List.reduceReplicate, reduceCtorEq]
    rw [hi.2, List.drop_eq_nil_of_le (by omega)]
    rfl
theorem any_contains (l : List Int) (n : Int) : (l.any fun x => decide (n = x)) = l.contains n := by
  rw [Bool.eq_iff_iff]
  simp [List.contains_eq_mem]
theorem containsI_ok : Fine Tryz.prog 155 dHas.con := by
  refine fine_det (T := TT) Tryz.func155 rfl Tryz.ntmps155 (by rw [Tryz.results155]) rfl rfl tt (gs_nil) (ds_cons idxI_ok ds_nil) ?_
  intro args c r h hc
  simp only [dHas, gHas] at h
  split at h
  rotate_left
  · cases h
  split at h
  rotate_left
  · cases h
  rename_i t els n _ l hl
  obtain rfl := intsL_eq hl
  obtain ⟨rfl, rfl⟩ := Prod.mk.inj (Option.some.inj h)
  refine ⟨by simp, fun k E hE Q hQ => ?_⟩
  refine Aw_st hE [0, 1] [] fun K hK => ?_
  simp only [go_sem, reduceIte, Nat.reduceLT, Nat.reduceLeDiff, Nat.reduceEqDiff, Nat.reduceAdd, Nat.reduceMul, Nat.reduceSub, Nat.reduceBEq, Int.reduceToNat, List.reduceReplicate, reduceCtorEq]
  repeat (refine And.intro (by first | omega | (and_intros <;> first | omega | exact rows_row _ | decide | (simp; done) | (simp; omega)) | fail) ?_)
  refine hK _ ?_; clear hK K
  refine Aw_st hE [4] [] fun K hK => ?_
  simp only [go_sem, reduceIte, Nat.reduceLT, Nat.reduceLeDiff, Nat.reduceEqDiff, Nat.reduceAdd, Nat.reduceMul, Nat.reduceSub, Nat.reduceBEq, Int.reduceToNat, List.reduceReplicate, reduceCtorEq]
  repeat (refine And.intro (by first | omega | (and_intros <;> first | omega | exact rows_row _ | decide | (simp; done) | (simp; omega)) | fail) ?_)
  refine hK _ (Aw_ret (hQ _ ?_))
  simp only [go_sem, reduceIte, Nat.reduceLT, Nat.reduceLeDiff, Nat.reduceEqDiff, Nat.reduceAdd, Nat.reduceMul, Nat.reduceSub, Nat.reduceBEq, Int.reduceToNat, List.reduceReplicate, reduceCtorEq]
  rw [← any_contains]
  exact idxB_any l 0
/-- a path has a house -/
def gPHas : List AV → Option (Prop × AV) | [.sl _ els, .v (.int .i64 n)] => (match intsL els with | some l => some (l.length ≤ 4294967296, bv (pathOk l && (isH n && l.contains n))) | none => none) | _ => none
def dPHasI (pb : Addr) : DFn := { g := gPHas, inv := WP pb }
attribute [go_sem] gPHas dPHasI
theorem iPHas_ok (pb : Addr) : Fine Tryz.prog 21 (dPHasI pb).con := by
  refine fine_detG [(0, errV pb)] (wp_gl pb) [] ms_nil (T := TT) Tryz.func21 rfl Tryz.ntmps21 (by rw [Tryz.results21]) rfl rfl tt (gs_cons (trail_ok pb) gs_nil (wp_inh pb)) (ds_cons is_ok (ds_cons thas_ok ds_nil)) ?_
  intro args c r h hc
  simp only [dPHasI, gPHas] at h
  split at h
  rotate_left
  · cases h
  split at h
  rotate_left
  · cases h
  rename_i t els n _ p hl
  obtain rfl := intsL_eq hl
  obtain ⟨rfl, rfl⟩ := Prod.mk.inj (Option.some.inj h)
  refine ⟨by simp, fun k E hE Q hQ => ?_⟩
  have hbd := setv_bd p
  refine Aw_st hE [0, 1] [] fun K hK => ?_
  simp only [go_sem, reduceIte, Nat.reduceLT, Nat.reduceLeDiff, Nat.reduceEqDiff, Nat.reduceAdd, Nat.reduceMul, Nat.reduceSub, Nat.reduceBEq, Int.reduceToNat, List.reduceReplicate, reduceCtorEq]
  repeat (refine And.intro (by first | omega | (and_intros <;> first | omega | exact rows_row _ | decide | (simp; done) | (simp; omega)) | fail) ?_)
  refine hK _ ?_; clear hK K
  refine Aw_st hE [1, 5, 6] [5] fun K hK => ?_
  simp only [go_sem, reduceIte, Nat.reduceLT, Nat.reduceLeDiff, Nat.reduceEqDiff, Nat.reduceAdd, Nat.reduceMul, Nat.reduceSub, Nat.reduceBEq, Int.reduceToNat, List.reduceReplicate, reduceCtorEq]
  repeat (refine And.intro (by first | omega | (and_intros <;> first | omega | exact rows_row _ | decide | (simp; done) | (simp; omega)) | fail) ?_)
  refine ⟨fun hp => ?_, fun hp s => ?_⟩
  all_goals
    refine hK _ ?_; clear hK K
    refine Aw_st hE [4] [] fun K hK => ?_
    simp only [go_sem, reduceIte, Nat.reduceLT, Nat.reduceLeDiff, Nat.reduceEqDiff, Nat.reduceAdd, Nat.reduceMul, Nat.reduceSub, Nat.reduceBEq, Int.reduceToNat, List.reduceReplicate, reduceCtorEq, hp]
    repeat (refine And.intro (by first | omega | (and_intros <;> first | omega | exact rows_row _ | decide | (simp; done) | (simp; omega)) | fail) ?_)
    skip
    refine hK _ (Aw_ret (hQ _ ?_))
    simp only [go_sem, reduceIte, Nat.reduceLT, Nat.reduceLeDiff, Nat.reduceEqDiff, Nat.reduceAdd, Nat.reduceMul, Nat.reduceSub, Nat.reduceBEq, Int.reduceToNat, List.reduceReplicate, reduceCtorEq, hp, Bool.true_and, Bool.false_and]
    all_goals (cases hh : isH n <;> simp [hh, bitOf_setv])

/-! ranges in ranges -/
theorem covers_eq {f b a : Int} (h : rngOk f b = true) (ha : 0 ≤ a) : (decide (f ≤ a) && decide (a < f + szR b)) = rHas f b a := by
  obtain ⟨⟨hb1, hb2⟩, ⟨hf1, hf2⟩, hm⟩ := rngOk_parts h
  have hs : 0 < szR b := by unfold szR; exact Int.pow_pos (by omega)
  unfold rHas
  generalize szR b = s at hs hm
  rw [Int.tmod_eq_emod_of_nonneg hf1] at hm
  rw [Int.tdiv_eq_ediv_of_nonneg hf1, Int.tdiv_eq_ediv_of_nonneg ha, ← Bool.decide_and]
  have e1 := Int.mul_ediv_add_emod f s
  have e2 := Int.mul_ediv_add_emod a s
  have e3 := Int.emod_nonneg a (show s ≠ 0 by omega)
  have e4 := Int.emod_lt_of_pos a hs
  rw [hm] at e1
  generalize f / s = q at e1 ⊢
  generalize a / s = p at e2 ⊢
  generalize a % s = r at e2 e3 e4
  congr 1
  apply propext
  constructor
  · rintro ⟨h1, h2⟩
    have h3 : ¬ p < q := fun hlt => by
      have := Int.mul_le_mul_of_nonneg_left (show p + 1 ≤ q by omega) (show 0 ≤ s by omega)
      rw [Int.mul_add, Int.mul_one] at this
      omega
    have h4 : ¬ q < p := fun hlt => by
      have := Int.mul_le_mul_of_nonneg_left (show q + 1 ≤ p by omega) (show 0 ≤ s by omega)
      rw [Int.mul_add, Int.mul_one] at this
      omega
    omega
  · intro h
    rw [h] at e2
    omega
def gCov : List AV → Option (Prop × AV) | [.agg [.v (.int .i64 f), .v (.int .i64 b)], .v (.int .i64 a)] => some (rngOk f b = true ∧ 0 ≤ a ∧ a ≤ 255, bv (rHas f b a)) | _ => none
def dCov : DFn := { g := gCov }
def gRIn : List AV → Option (Prop × AV) | [.agg [.v (.int .i64 f), .v (.int .i64 b)], .agg [.v (.int .i64 f'), .v (.int .i64 b')]] => some (True, bv (rngOk f b && (rngOk f' b' && rIn f b f' b'))) | _ => none
def dRIn : DFn := { g := gRIn }
attribute [go_sem] gCov dCov gRIn dRIn
theorem szR_bd {b : Int} (h1 : 0 ≤ b) (h2 : b ≤ 8) : 1 ≤ szR b ∧ szR b ≤ 256 := by
  have : b = 0 ∨ b = 1 ∨ b = 2 ∨ b = 3 ∨ b = 4 ∨ b = 5 ∨ b = 6 ∨ b = 7 ∨ b = 8 := by omega
  rcases this with rfl | rfl | rfl | rfl | rfl | rfl | rfl | rfl | rfl <;> decide
theorem covers_ok : Fine Tryz.prog 153 dCov.con := by
  refine fine_det (T := TT) Tryz.func153 rfl Tryz.ntmps153 (by rw [Tryz.results153]) rfl rfl tt (gs_nil) (ds_cons many_ok ds_nil) ?_
  intro args c r h hc
  simp only [dCov, gCov] at h
  split at h
  rotate_left
  · cases h
  obtain ⟨rfl, rfl⟩ := Prod.mk.inj (Option.some.inj h)
  refine ⟨by simp, fun k E hE Q hQ => ?_⟩
  rename_i f b a
  obtain ⟨hr, ha1, ha2⟩ := hc
  obtain ⟨⟨hb1, hb2⟩, ⟨hf1, hf2⟩, _⟩ := rngOk_parts hr
  have hsz := szR_bd hb1 hb2
  refine Aw_st hE [1, 2] [2] fun K hK => ?_
  simp only [go_sem, reduceIte, Nat.reduceLT, Nat.reduceLeDiff, Nat.reduceEqDiff, Nat.reduceAdd, Nat.reduceMul, Nat.reduceSub, Nat.reduceBEq, Int.reduceToNat, List.reduceReplicate, reduceCtorEq]
  repeat (refine And.intro (by first | omega | (and_intros <;> first | omega | exact rows_row _ | decide | (simp; done) | (simp; omega)) | fail) ?_)
  refine hK _ ?_; clear hK K
  refine Aw_sd hE [4] [] 6 (by kernel_rfl) fun K hK => ?_
  simp only [go_sem, reduceIte, Nat.reduceLT, Nat.reduceLeDiff, Nat.reduceEqDiff, Nat.reduceAdd, Nat.reduceMul, Nat.reduceSub, Nat.reduceBEq, Int.reduceToNat, List.reduceReplicate, reduceCtorEq]
  repeat (refine And.intro (by first | omega | (and_intros <;> first | omega | exact rows_row _ | decide | (simp; done) | (simp; omega)) | fail) ?_)
  refine ⟨fun h1 => ⟨⟨by omega, by omega⟩, ⟨by omega, by omega⟩, ?_⟩, fun h1 => ?_⟩
  all_goals
    refine hK _ (Aw_ret (hQ _ ?_))
    simp only [go_sem, reduceIte, Nat.reduceLT, Nat.reduceLeDiff, Nat.reduceEqDiff, Nat.reduceAdd, Nat.reduceMul, Nat.reduceSub, Nat.reduceBEq, Int.reduceToNat, List.reduceReplicate, reduceCtorEq]
    rw [← covers_eq hr ha1, h1]
    simp
theorem iRIn_ok : Fine Tryz.prog 152 dRIn.con := by
  refine fine_det (T := TT) Tryz.func152 rfl Tryz.ntmps152 (by rw [Tryz.results152]) rfl rfl tt (gs_nil) (ds_cons rangeOk_ok (ds_cons covers_ok ds_nil)) ?_
  intro args c r h hc
  simp only [dRIn, gRIn] at h
  split at h
  rotate_left
  · cases h
  obtain ⟨rfl, rfl⟩ := Prod.mk.inj (Option.some.inj h)
  refine ⟨by simp, fun k E hE Q hQ => ?_⟩
  rename_i f b f' b'
  refine Aw_st hE [2, 3] [2, 3] fun K hK => ?_
  simp only [go_sem, reduceIte, Nat.reduceLT, Nat.reduceLeDiff, Nat.reduceEqDiff, Nat.reduceAdd, Nat.reduceMul, Nat.reduceSub, Nat.reduceBEq, Int.reduceToNat, List.reduceReplicate, reduceCtorEq]
  repeat (refine And.intro (by first | omega | (and_intros <;> first | omega | exact rows_row _ | decide | (simp; done) | (simp; omega)) | fail) ?_)
  refine hK _ ?_; clear hK K
  refine Aw_st hE [4] [] fun K hK => ?_
  simp only [go_sem, reduceIte, Nat.reduceLT, Nat.reduceLeDiff, Nat.reduceEqDiff, Nat.reduceAdd, Nat.reduceMul, Nat.reduceSub, Nat.reduceBEq, Int.reduceToNat, List.reduceReplicate, reduceCtorEq]
  repeat (refine And.intro (by first | omega | (and_intros <;> first | omega | exact rows_row _ | decide | (simp; done) | (simp; omega)) | fail) ?_)
  refine ⟨fun h1 => ⟨fun h2 => ⟨fun h3 => ⟨⟨h2, (rngOk_parts h1).2.1⟩, ?_⟩, fun h3 => ?_⟩, fun h2 => ?_⟩, fun h1 => ?_⟩
  all_goals
    refine hK _ (Aw_ret (hQ _ ?_))
    simp only [go_sem, reduceIte, Nat.reduceLT, Nat.reduceLeDiff, Nat.reduceEqDiff, Nat.reduceAdd, Nat.reduceMul, Nat.reduceSub, Nat.reduceBEq, Int.reduceToNat, List.reduceReplicate, reduceCtorEq]
    first | (simp [rIn, h1, h2, h3]; done) | (simp [h1, h2]; done) | (simp [h1]; done) | fail
end Go.Proofs.W
end
section
namespace Go.Proofs.W
open Go Go.Eng Go.RowKit
set_option linter.unusedSimpArgs false
set_option maxRecDepth 100000

theorem polDo_drop {l : List Cl} {i : Nat} (h : i < l.length) (r : Rt) : polDo (l.drop i) r = if fitsB l[i] r then (if l[i].ref then none else some (doC l[i] r)) else polDo (l.drop (i + 1)) r := by
  rw [List.drop_eq_getElem_cons h, polDo]
theorem l11Do_ok : Fine Tryz.prog 36 dDo.con := by
  refine fine_det (T := TT) Tryz.func36 rfl Tryz.ntmps36 (by rw [Tryz.results36]) rfl rfl tt (gs_nil) (ds_cons fits11_ok (ds_cons l4Copy_ok (ds_cons l4Mark_ok (ds_cons l4Clear_ok ds_nil)))) ?_
  intro args c r h hc
  simp only [dDo, gDo] at h
  split at h
  rotate_left
  · cases h
  split at h
  rotate_left
  · cases h
  rename_i t els rf rb t1 e1 rk t2 e2 _ _ _ l p m hcl hl1 hl2
  obtain rfl := clsL_eq hcl
  obtain rfl := intsL_eq hl1
  obtain rfl := intsL_eq hl2
  obtain ⟨rfl, rfl⟩ := Prod.mk.inj (Option.some.inj h)
  refine ⟨by simp, fun k E hE Q hQ => ?_⟩
  obtain ⟨⟨hall, hrk⟩, hll, hpl, hml⟩ := hc
  have hsr := mOk_srt (okR_parts hrk).2.2.2.2
  simp only at hsr
  refine Aw_st hE [0, 3, 4] [3, 4] fun K hK => ?_
  simp only [go_sem, reduceIte, Nat.reduceLT, Nat.reduceLeDiff, Nat.reduceEqDiff, Nat.reduceAdd, Nat.reduceMul, Nat.reduceSub, Nat.reduceBEq, Int.reduceToNat, List.reduceReplicate, reduceCtorEq]
  repeat (refine And.intro (by first | omega | (and_intros <;> first | omega | exact rows_row _ | decide | (simp; done) | (simp; omega)) | fail) ?_)
  refine hK _ ?_; clear hK K
  refine Aw_sq fun B1 hB1 hR1 hX1 => ?_
  refine Aw_st hE [0, 3, 4, 6] [3, 4] fun K hK => ?_
  simp only [go_sem, reduceIte, Nat.reduceLT, Nat.reduceLeDiff, Nat.reduceEqDiff, Nat.reduceAdd, Nat.reduceMul, Nat.reduceSub, Nat.reduceBEq, Int.reduceToNat, List.reduceReplicate, reduceCtorEq]
  repeat (refine And.intro (by first | omega | (and_intros <;> first | omega | exact rows_row _ | decide | (simp; done) | (simp; omega)) | fail) ?_)
  refine hK _ ?_; clear hK K
  refine Aw_bk fun B2 hN2 hE2 hR2 hX2 => ?_
  refine Aw_lp (fun i : Nat => ⟨54, [(0, .sl t (crows l)), (3, .loc 3 0), (4, .loc 4 0), (6, iv i)], [(3, [iv rf, iv rb, .sl t1 (rows p), iv rk, .sl t2 (rows m)]), (4, [iv 0, iv 0, .nl, iv 0, .nl])], k⟩) (fun i : Nat => i ≤ l.length ∧ polDo l ⟨rf, rb, p, rk, m⟩ = polDo (l.drop i) ⟨rf, rb, p, rk, m⟩) (fun i : Nat => l.length - i) (0) (Le.refl _) (⟨by omega, by simp⟩) fun i hi B3 hN3 hR3 hX3 => ?_
  refine Aw_sq fun B4 hB4 hR4 hX4 => ?_
  refine Aw_st hE [0, 3, 4, 6, 12] [3, 4] fun K hK => ?_
  simp only [go_sem, reduceIte, Nat.reduceLT, Nat.reduceLeDiff, Nat.reduceEqDiff, Nat.reduceAdd, Nat.reduceMul, Nat.reduceSub, Nat.reduceBEq, Int.reduceToNat, List.reduceReplicate, reduceCtorEq]
  repeat (refine And.intro (by first | omega | (and_intros <;> first | omega | exact rows_row _ | decide | (simp; done) | (simp; omega)) | fail) ?_)
  refine hK _ (Aw_cond rfl (fun hc5 => ?_) (fun hc5 => ?_))
  · simp only [decide_eq_true_eq] at hc5
    have hil : i < l.length := by omega
    have hget := crows_get l i hil
    have hst := hi.2.trans (polDo_drop hil ⟨rf, rb, p, rk, m⟩)
    have hco := hall _ (List.getElem_mem hil)
    generalize l[i] = c at hget hst hco
    obtain ⟨ci, n, f, b, ref, like, mark, clear⟩ := c
    refine Aw_skip (hB4 _ ?_)
    refine Aw_sq fun B6 hB6 hR6 hX6 => ?_
    refine Aw_bk fun B7 hN7 hE7 hR7 hX7 => ?_
    refine Aw_st hE [0, 3, 4, 6, 7] [3, 4, 7] fun K hK => ?_
    simp only [go_sem, reduceIte, Nat.reduceLT, Nat.reduceLeDiff, Nat.reduceEqDiff, Nat.reduceAdd, Nat.reduceMul, Nat.reduceSub, Nat.reduceBEq, Int.reduceToNat, List.reduceReplicate, reduceCtorEq, hget]
    repeat (refine And.intro (by first | omega | (and_intros <;> first | omega | exact rows_row _ | decide | (simp; done) | (simp; omega)) | fail) ?_)
    refine hK _ ?_; clear hK K
    refine Aw_sq fun B8 hB8 hR8 hX8 => ?_
    refine Aw_st hE [0, 3, 4, 6, 7, 22] [3, 4, 7] fun K hK => ?_
    simp only [go_sem, reduceIte, Nat.reduceLT, Nat.reduceLeDiff, Nat.reduceEqDiff, Nat.reduceAdd, Nat.reduceMul, Nat.reduceSub, Nat.reduceBEq, Int.reduceToNat, List.reduceReplicate, reduceCtorEq, hco, hrk]
    repeat (refine And.intro (by first | omega | (and_intros <;> first | omega | exact rows_row _ | decide | (simp; done) | (simp; omega)) | fail) ?_)
    skip
    refine hK _ (Aw_cond rfl (fun hc9 => ?_) (fun hc9 => ?_))
    · simp only [Bool.not_eq_true'] at hc9
      rw [hc9] at hst
      refine Aw_exit (hX8 _ _ (hE7 _ (hB6 _ ?_)))
      refine Aw_tx hE [0, 3, 4, 6] [3, 4] fun K hK => ?_
      simp only [go_sem, reduceIte, Nat.reduceLT, Nat.reduceLeDiff, Nat.reduceEqDiff, Nat.reduceAdd, Nat.reduceMul, Nat.reduceSub, Nat.reduceBEq, Int.reduceToNat, List.reduceReplicate, reduceCtorEq]
      repeat (refine And.intro (by first | omega | (and_intros <;> first | omega | exact rows_row _ | decide | (simp; done) | (simp; omega)) | fail) ?_)
      refine hK _ (hN3 (i + 1) _ (⟨by omega, hst⟩) (by omega) (Le.refl _))
    · simp only [Bool.not_eq_false'] at hc9
      rw [hc9] at hst
      refine Aw_skip (hB8 _ ?_)
      refine Aw_sq fun B10 hB10 hR10 hX10 => ?_
      refine Aw_st hE [3, 4, 7, 24] [3, 4, 7] fun K hK => ?_
      simp only [go_sem, reduceIte, Nat.reduceLT, Nat.reduceLeDiff, Nat.reduceEqDiff, Nat.reduceAdd, Nat.reduceMul, Nat.reduceSub, Nat.reduceBEq, Int.reduceToNat, List.reduceReplicate, reduceCtorEq]
      repeat (refine And.intro (by first | omega | (and_intros <;> first | omega | exact rows_row _ | decide | (simp; done) | (simp; omega)) | fail) ?_)
      refine hK _ (Aw_cond rfl (fun hc11 => ?_) (fun hc11 => ?_))
      · rw [hc11] at hst
        refine Aw_st hE [4, 5] [4] fun K hK => ?_
        simp only [go_sem, reduceIte, Nat.reduceLT, Nat.reduceLeDiff, Nat.reduceEqDiff, Nat.reduceAdd, Nat.reduceMul, Nat.reduceSub, Nat.reduceBEq, Int.reduceToNat, List.reduceReplicate, reduceCtorEq]
        repeat (refine And.intro (by first | omega | (and_intros <;> first | omega | exact rows_row _ | decide | (simp; done) | (simp; omega)) | fail) ?_)
        refine hK _ (Aw_ret (hR10 _ (hR7 _ (hR6 _ (hR3 _ (hR2 _ (hR1 _ (hQ _ ?_))))))))
        simp only [go_sem, reduceIte, Nat.reduceLT, Nat.reduceLeDiff, Nat.reduceEqDiff, Nat.reduceAdd, Nat.reduceMul, Nat.reduceSub, Nat.reduceBEq, Int.reduceToNat, List.reduceReplicate, reduceCtorEq]
        simp [hst, resR, rt0, rows]
      · rw [hc11] at hst
        have hlm : (mkL m mark).length ≤ 100000 := by have := mkL_len hsr mark; omega
        refine Aw_skip (hB10 _ ?_)
        refine Aw_st hE [4, 7, 8] [4, 7, 8] fun K hK => ?_
        simp only [go_sem, reduceIte, Nat.reduceLT, Nat.reduceLeDiff, Nat.reduceEqDiff, Nat.reduceAdd, Nat.reduceMul, Nat.reduceSub, Nat.reduceBEq, Int.reduceToNat, List.reduceReplicate, reduceCtorEq]
        repeat (refine And.intro (by first | omega | (and_intros <;> first | omega | exact rows_row _ | decide | (simp; done) | (simp; omega)) | fail) ?_)
        refine hK _ ?_; clear hK K
        refine Aw_sq fun B12 hB12 hR12 hX12 => ?_
        refine Aw_st hE [4, 7, 8, 30] [4, 7, 8] fun K hK => ?_
        simp only [go_sem, reduceIte, Nat.reduceLT, Nat.reduceLeDiff, Nat.reduceEqDiff, Nat.reduceAdd, Nat.reduceMul, Nat.reduceSub, Nat.reduceBEq, Int.reduceToNat, List.reduceReplicate, reduceCtorEq]
        repeat (refine And.intro (by first | omega | (and_intros <;> first | omega | exact rows_row _ | decide | (simp; done) | (simp; omega)) | fail) ?_)
        refine hK _ (Aw_cond rfl (fun hc13 => ?_) (fun hc13 => ?_))
        · simp only [decide_eq_true_eq] at hc13
          refine Aw_tx hE [4, 7, 8] [4, 7, 8] fun K hK => ?_
          simp only [go_sem, reduceIte, Nat.reduceLT, Nat.reduceLeDiff, Nat.reduceEqDiff, Nat.reduceAdd, Nat.reduceMul, Nat.reduceSub, Nat.reduceBEq, Int.reduceToNat, List.reduceReplicate, reduceCtorEq]
          repeat (refine And.intro (by first | omega | (and_intros <;> first | omega | exact rows_row _ | decide | (simp; done) | (simp; omega)) | fail) ?_)
          refine hK _ (hB12 _ ?_)
          refine Aw_sq fun B14 hB14 hR14 hX14 => ?_
          refine Aw_st hE [4, 7, 8, 36] [4, 7, 8] fun K hK => ?_
          simp only [go_sem, reduceIte, Nat.reduceLT, Nat.reduceLeDiff, Nat.reduceEqDiff, Nat.reduceAdd, Nat.reduceMul, Nat.reduceSub, Nat.reduceBEq, Int.reduceToNat, List.reduceReplicate, reduceCtorEq]
          repeat (refine And.intro (by first | omega | (and_intros <;> first | omega | exact rows_row _ | decide | (simp; done) | (simp; omega)) | fail) ?_)
          refine hK _ (Aw_cond rfl (fun hc15 => ?_) (fun hc15 => ?_))
          · simp only [decide_eq_true_eq] at hc15
            refine Aw_tx hE [4, 7, 8] [4, 7, 8] fun K hK => ?_
            simp only [go_sem, reduceIte, Nat.reduceLT, Nat.reduceLeDiff, Nat.reduceEqDiff, Nat.reduceAdd, Nat.reduceMul, Nat.reduceSub, Nat.reduceBEq, Int.reduceToNat, List.reduceReplicate, reduceCtorEq]
            repeat (refine And.intro (by first | omega | (and_intros <;> first | omega | exact rows_row _ | decide | (simp; done) | (simp; omega)) | fail) ?_)
            refine hK _ (hB14 _ ?_)
            refine Aw_sq fun B16 hB16 hR16 hX16 => ?_
            refine Aw_st hE [4, 7, 8, 45] [4, 7, 8] fun K hK => ?_
            simp only [go_sem, reduceIte, Nat.reduceLT, Nat.reduceLeDiff, Nat.reduceEqDiff, Nat.reduceAdd, Nat.reduceMul, Nat.reduceSub, Nat.reduceBEq, Int.reduceToNat, List.reduceReplicate, reduceCtorEq]
            repeat (refine And.intro (by first | omega | (and_intros <;> first | omega | exact rows_row _ | decide | (simp; done) | (simp; omega)) | fail) ?_)
            refine hK _ (Aw_cond rfl (fun hc17 => ?_) (fun hc17 => ?_))
            · simp only [decide_eq_true_eq] at hc17
              refine Aw_tx hE [4, 8] [4, 8] fun K hK => ?_
              simp only [go_sem, reduceIte, Nat.reduceLT, Nat.reduceLeDiff, Nat.reduceEqDiff, Nat.reduceAdd, Nat.reduceMul, Nat.reduceSub, Nat.reduceBEq, Int.reduceToNat, List.reduceReplicate, reduceCtorEq]
              repeat (refine And.intro (by first | omega | (and_intros <;> first | omega | exact rows_row _ | decide | (simp; done) | (simp; omega)) | fail) ?_)
              refine hK _ (hB16 _ ?_)
              refine Aw_st hE [4, 5] [4] fun K hK => ?_
              simp only [go_sem, reduceIte, Nat.reduceLT, Nat.reduceLeDiff, Nat.reduceEqDiff, Nat.reduceAdd, Nat.reduceMul, Nat.reduceSub, Nat.reduceBEq, Int.reduceToNat, List.reduceReplicate, reduceCtorEq]
              repeat (refine And.intro (by first | omega | (and_intros <;> first | omega | exact rows_row _ | decide | (simp; done) | (simp; omega)) | fail) ?_)
              refine hK _ (Aw_ret (hR7 _ (hR6 _ (hR3 _ (hR2 _ (hR1 _ (hQ _ ?_)))))))
              simp only [go_sem, reduceIte, Nat.reduceLT, Nat.reduceLeDiff, Nat.reduceEqDiff, Nat.reduceAdd, Nat.reduceMul, Nat.reduceSub, Nat.reduceBEq, Int.reduceToNat, List.reduceReplicate, reduceCtorEq]
              simp [hst, resR, doC, marksC, hc13, hc15, hc17]
            · simp only [decide_eq_false_iff_not] at hc17
              refine Aw_skip (hB16 _ ?_)
              refine Aw_st hE [4, 5] [4] fun K hK => ?_
              simp only [go_sem, reduceIte, Nat.reduceLT, Nat.reduceLeDiff, Nat.reduceEqDiff, Nat.reduceAdd, Nat.reduceMul, Nat.reduceSub, Nat.reduceBEq, Int.reduceToNat, List.reduceReplicate, reduceCtorEq]
              repeat (refine And.intro (by first | omega | (and_intros <;> first | omega | exact rows_row _ | decide | (simp; done) | (simp; omega)) | fail) ?_)
              refine hK _ (Aw_ret (hR7 _ (hR6 _ (hR3 _ (hR2 _ (hR1 _ (hQ _ ?_)))))))
              simp only [go_sem, reduceIte, Nat.reduceLT, Nat.reduceLeDiff, Nat.reduceEqDiff, Nat.reduceAdd, Nat.reduceMul, Nat.reduceSub, Nat.reduceBEq, Int.reduceToNat, List.reduceReplicate, reduceCtorEq]
              simp [hst, resR, doC, marksC, hc13, hc15, hc17]
          · simp only [decide_eq_false_iff_not] at hc15
            refine Aw_skip (hB14 _ ?_)
            refine Aw_sq fun B18 hB18 hR18 hX18 => ?_
            refine Aw_st hE [4, 7, 8, 45] [4, 7, 8] fun K hK => ?_
            simp only [go_sem, reduceIte, Nat.reduceLT, Nat.reduceLeDiff, Nat.reduceEqDiff, Nat.reduceAdd, Nat.reduceMul, Nat.reduceSub, Nat.reduceBEq, Int.reduceToNat, List.reduceReplicate, reduceCtorEq]
            repeat (refine And.intro (by first | omega | (and_intros <;> first | omega | exact rows_row _ | decide | (simp; done) | (simp; omega)) | fail) ?_)
            refine hK _ (Aw_cond rfl (fun hc19 => ?_) (fun hc19 => ?_))
            · simp only [decide_eq_true_eq] at hc19
              refine Aw_tx hE [4, 8] [4, 8] fun K hK => ?_
              simp only [go_sem, reduceIte, Nat.reduceLT, Nat.reduceLeDiff, Nat.reduceEqDiff, Nat.reduceAdd, Nat.reduceMul, Nat.reduceSub, Nat.reduceBEq, Int.reduceToNat, List.reduceReplicate, reduceCtorEq]
              repeat (refine And.intro (by first | omega | (and_intros <;> first | omega | exact rows_row _ | decide | (simp; done) | (simp; omega)) | fail) ?_)
              refine hK _ (hB18 _ ?_)
              refine Aw_st hE [4, 5] [4] fun K hK => ?_
              simp only [go_sem, reduceIte, Nat.reduceLT, Nat.reduceLeDiff, Nat.reduceEqDiff, Nat.reduceAdd, Nat.reduceMul, Nat.reduceSub, Nat.reduceBEq, Int.reduceToNat, List.reduceReplicate, reduceCtorEq]
              repeat (refine And.intro (by first | omega | (and_intros <;> first | omega | exact rows_row _ | decide | (simp; done) | (simp; omega)) | fail) ?_)
              refine hK _ (Aw_ret (hR7 _ (hR6 _ (hR3 _ (hR2 _ (hR1 _ (hQ _ ?_)))))))
              simp only [go_sem, reduceIte, Nat.reduceLT, Nat.reduceLeDiff, Nat.reduceEqDiff, Nat.reduceAdd, Nat.reduceMul, Nat.reduceSub, Nat.reduceBEq, Int.reduceToNat, List.reduceReplicate, reduceCtorEq]
              simp [hst, resR, doC, marksC, hc13, hc15, hc19]
            · simp only [decide_eq_false_iff_not] at hc19
              refine Aw_skip (hB18 _ ?_)
              refine Aw_st hE [4, 5] [4] fun K hK => ?_
              simp only [go_sem, reduceIte, Nat.reduceLT, Nat.reduceLeDiff, Nat.reduceEqDiff, Nat.reduceAdd, Nat.reduceMul, Nat.reduceSub, Nat.reduceBEq, Int.reduceToNat, List.reduceReplicate, reduceCtorEq]
              repeat (refine And.intro (by first | omega | (and_intros <;> first | omega | exact rows_row _ | decide | (simp; done) | (simp; omega)) | fail) ?_)
              refine hK _ (Aw_ret (hR7 _ (hR6 _ (hR3 _ (hR2 _ (hR1 _ (hQ _ ?_)))))))
              simp only [go_sem, reduceIte, Nat.reduceLT, Nat.reduceLeDiff, Nat.reduceEqDiff, Nat.reduceAdd, Nat.reduceMul, Nat.reduceSub, Nat.reduceBEq, Int.reduceToNat, List.reduceReplicate, reduceCtorEq]
              simp [hst, resR, doC, marksC, hc13, hc15, hc19]
        · simp only [decide_eq_false_iff_not] at hc13
          refine Aw_skip (hB12 _ ?_)
          refine Aw_sq fun B20 hB20 hR20 hX20 => ?_
          refine Aw_st hE [4, 7, 8, 36] [4, 7, 8] fun K hK => ?_
          simp only [go_sem, reduceIte, Nat.reduceLT, Nat.reduceLeDiff, Nat.reduceEqDiff, Nat.reduceAdd, Nat.reduceMul, Nat.reduceSub, Nat.reduceBEq, Int.reduceToNat, List.reduceReplicate, reduceCtorEq]
          repeat (refine And.intro (by first | omega | (and_intros <;> first | omega | exact rows_row _ | decide | (simp; done) | (simp; omega)) | fail) ?_)
          refine hK _ (Aw_cond rfl (fun hc21 => ?_) (fun hc21 => ?_))
          · simp only [decide_eq_true_eq] at hc21
            refine Aw_tx hE [4, 7, 8] [4, 7, 8] fun K hK => ?_
            simp only [go_sem, reduceIte, Nat.reduceLT, Nat.reduceLeDiff, Nat.reduceEqDiff, Nat.reduceAdd, Nat.reduceMul, Nat.reduceSub, Nat.reduceBEq, Int.reduceToNat, List.reduceReplicate, reduceCtorEq]
            repeat (refine And.intro (by first | omega | (and_intros <;> first | omega | exact rows_row _ | decide | (simp; done) | (simp; omega)) | fail) ?_)
            refine hK _ (hB20 _ ?_)
            refine Aw_sq fun B22 hB22 hR22 hX22 => ?_
            refine Aw_st hE [4, 7, 8, 45] [4, 7, 8] fun K hK => ?_
            simp only [go_sem, reduceIte, Nat.reduceLT, Nat.reduceLeDiff, Nat.reduceEqDiff, Nat.reduceAdd, Nat.reduceMul, Nat.reduceSub, Nat.reduceBEq, Int.reduceToNat, List.reduceReplicate, reduceCtorEq]
            repeat (refine And.intro (by first | omega | (and_intros <;> first | omega | exact rows_row _ | decide | (simp; done) | (simp; omega)) | fail) ?_)
            refine hK _ (Aw_cond rfl (fun hc23 => ?_) (fun hc23 => ?_))
            · simp only [decide_eq_true_eq] at hc23
              refine Aw_tx hE [4, 8] [4, 8] fun K hK => ?_
              simp only [go_sem, reduceIte, Nat.reduceLT, Nat.reduceLeDiff, Nat.reduceEqDiff, Nat.reduceAdd, Nat.reduceMul, Nat.reduceSub, Nat.reduceBEq, Int.reduceToNat, List.reduceReplicate, reduceCtorEq]
              repeat (refine And.intro (by first | omega | (and_intros <;> first | omega | exact rows_row _ | decide | (simp; done) | (simp; omega)) | fail) ?_)
              refine hK _ (hB22 _ ?_)
              refine Aw_st hE [4, 5] [4] fun K hK => ?_
              simp only [go_sem, reduceIte, Nat.reduceLT, Nat.reduceLeDiff, Nat.reduceEqDiff, Nat.reduceAdd, Nat.reduceMul, Nat.reduceSub, Nat.reduceBEq, Int.reduceToNat, List.reduceReplicate, reduceCtorEq]
              repeat (refine And.intro (by first | omega | (and_intros <;> first | omega | exact rows_row _ | decide | (simp; done) | (simp; omega)) | fail) ?_)
              refine hK _ (Aw_ret (hR7 _ (hR6 _ (hR3 _ (hR2 _ (hR1 _ (hQ _ ?_)))))))
              simp only [go_sem, reduceIte, Nat.reduceLT, Nat.reduceLeDiff, Nat.reduceEqDiff, Nat.reduceAdd, Nat.reduceMul, Nat.reduceSub, Nat.reduceBEq, Int.reduceToNat, List.reduceReplicate, reduceCtorEq]
              simp [hst, resR, doC, marksC, hc13, hc21, hc23]
            · simp only [decide_eq_false_iff_not] at hc23
              refine Aw_skip (hB22 _ ?_)
              refine Aw_st hE [4, 5] [4] fun K hK => ?_
              simp only [go_sem, reduceIte, Nat.reduceLT, Nat.reduceLeDiff, Nat.reduceEqDiff, Nat.reduceAdd, Nat.reduceMul, Nat.reduceSub, Nat.reduceBEq, Int.reduceToNat, List.reduceReplicate, reduceCtorEq]
              repeat (refine And.intro (by first | omega | (and_intros <;> first | omega | exact rows_row _ | decide | (simp; done) | (simp; omega)) | fail) ?_)
              refine hK _ (Aw_ret (hR7 _ (hR6 _ (hR3 _ (hR2 _ (hR1 _ (hQ _ ?_)))))))
              simp only [go_sem, reduceIte, Nat.reduceLT, Nat.reduceLeDiff, Nat.reduceEqDiff, Nat.reduceAdd, Nat.reduceMul, Nat.reduceSub, Nat.reduceBEq, Int.reduceToNat, List.reduceReplicate, reduceCtorEq]
              simp [hst, resR, doC, marksC, hc13, hc21, hc23]
          · simp only [decide_eq_false_iff_not] at hc21
            refine Aw_skip (hB20 _ ?_)
            refine Aw_sq fun B24 hB24 hR24 hX24 => ?_
            refine Aw_st hE [4, 7, 8, 45] [4, 7, 8] fun K hK => ?_
            simp only [go_sem, reduceIte, Nat.reduceLT, Nat.reduceLeDiff, Nat.reduceEqDiff, Nat.reduceAdd, Nat.reduceMul, Nat.reduceSub, Nat.reduceBEq, Int.reduceToNat, List.reduceReplicate, reduceCtorEq]
            repeat (refine And.intro (by first | omega | (and_intros <;> first | omega | exact rows_row _ | decide | (simp; done) | (simp; omega)) | fail) ?_)
            refine hK _ (Aw_cond rfl (fun hc25 => ?_) (fun hc25 => ?_))
            · simp only [decide_eq_true_eq] at hc25
              refine Aw_tx hE [4, 8] [4, 8] fun K hK => ?_
              simp only [go_sem, reduceIte, Nat.reduceLT, Nat.reduceLeDiff, Nat.reduceEqDiff, Nat.reduceAdd, Nat.reduceMul, Nat.reduceSub, Nat.reduceBEq, Int.reduceToNat, List.reduceReplicate, reduceCtorEq]
              repeat (refine And.intro (by first | omega | (and_intros <;> first | omega | exact rows_row _ | decide | (simp; done) | (simp; omega)) | fail) ?_)
              refine hK _ (hB24 _ ?_)
              refine Aw_st hE [4, 5] [4] fun K hK => ?_
              simp only [go_sem, reduceIte, Nat.reduceLT, Nat.reduceLeDiff, Nat.reduceEqDiff, Nat.reduceAdd, Nat.reduceMul, Nat.reduceSub, Nat.reduceBEq, Int.reduceToNat, List.reduceReplicate, reduceCtorEq]
              repeat (refine And.intro (by first | omega | (and_intros <;> first | omega | exact rows_row _ | decide | (simp; done) | (simp; omega)) | fail) ?_)
              refine hK _ (Aw_ret (hR7 _ (hR6 _ (hR3 _ (hR2 _ (hR1 _ (hQ _ ?_)))))))
              simp only [go_sem, reduceIte, Nat.reduceLT, Nat.reduceLeDiff, Nat.reduceEqDiff, Nat.reduceAdd, Nat.reduceMul, Nat.reduceSub, Nat.reduceBEq, Int.reduceToNat, List.reduceReplicate, reduceCtorEq]
              simp [hst, resR, doC, marksC, hc13, hc21, hc25]
            · simp only [decide_eq_false_iff_not] at hc25
              refine Aw_skip (hB24 _ ?_)
              refine Aw_st hE [4, 5] [4] fun K hK => ?_
              simp only [go_sem, reduceIte, Nat.reduceLT, Nat.reduceLeDiff, Nat.reduceEqDiff, Nat.reduceAdd, Nat.reduceMul, Nat.reduceSub, Nat.reduceBEq, Int.reduceToNat, List.reduceReplicate, reduceCtorEq]
              repeat (refine And.intro (by first | omega | (and_intros <;> first | omega | exact rows_row _ | decide | (simp; done) | (simp; omega)) | fail) ?_)
              refine hK _ (Aw_ret (hR7 _ (hR6 _ (hR3 _ (hR2 _ (hR1 _ (hQ _ ?_)))))))
              simp only [go_sem, reduceIte, Nat.reduceLT, Nat.reduceLeDiff, Nat.reduceEqDiff, Nat.reduceAdd, Nat.reduceMul, Nat.reduceSub, Nat.reduceBEq, Int.reduceToNat, List.reduceReplicate, reduceCtorEq]
              simp [hst, resR, doC, marksC, hc13, hc21, hc25]
  · simp only [decide_eq_false_iff_not] at hc5
    refine Aw_exit (hX4 _ _ (hX3 _ _ (hE2 _ (hB1 _ ?_))))
    refine Aw_st hE [4, 5] [4] fun K hK => ?_
    simp only [go_sem, reduceIte, Nat.reduceLT, Nat.reduceLeDiff, Nat.reduceEqDiff, Nat.reduceAdd, Nat.reduceMul, Nat.reduceSub, Nat.reduceBEq, Int.reduceToNat, List.reduceReplicate, reduceCtorEq]
    repeat (refine And.intro (by first | omega | (and_intros <;> first | omega | exact rows_row _ | decide | (simp; done) | (simp; omega)) | fail) ?_)
    refine hK _ (Aw_ret (hQ _ ?_))
    simp only [go_sem, reduceIte, Nat.reduceLT, Nat.reduceLeDiff, Nat.reduceEqDiff, Nat.reduceAdd, Nat.reduceMul, Nat.reduceSub, Nat.reduceBEq, Int.reduceToNat, List.reduceReplicate, reduceCtorEq]
    rw [hi.2, List.drop_eq_nil_of_le (by omega)]
    simp [polDo, resR, rt0, rows]

theorem sPDo_ok : Fine Tryz.prog 13 dPDo.con := by
  refine fine_det (T := TT) Tryz.func13 rfl Tryz.ntmps13 (by rw [Tryz.results13]) rfl rfl tt (gs_nil) (ds_cons sPolOk_ok (ds_cons sRtOk_ok (ds_cons l11Do_ok ds_nil))) ?_
  intro args c r h hc
  simp only [dPDo, gPDo] at h
  split at h
  rotate_left
  · cases h
  split at h
  rotate_left
  · cases h
  rename_i t els rf rb t1 e1 rk t2 e2 _ _ _ l p m hcl hl1 hl2
  obtain rfl := clsL_eq hcl
  obtain rfl := intsL_eq hl1
  obtain rfl := intsL_eq hl2
  obtain ⟨rfl, rfl⟩ := Prod.mk.inj (Option.some.inj h)
  refine ⟨by simp, fun k E hE Q hQ => ?_⟩
  obtain ⟨hll, hpl, hml⟩ := hc
  cases h1 : polOk l with
  | false =>
    have hres : policyDo l ⟨rf, rb, p, rk, m⟩ = none := by simp [policyDo, h1]
    refine Aw_st hE [0, 3, 4] [3, 4] fun K hK => ?_
    simp only [go_sem, reduceIte, Nat.reduceLT, Nat.reduceLeDiff, Nat.reduceEqDiff, Nat.reduceAdd, Nat.reduceMul, Nat.reduceSub, Nat.reduceBEq, Int.reduceToNat, List.reduceReplicate, reduceCtorEq]
    repeat (refine And.intro (by first | omega | (and_intros <;> first | omega | exact rows_row _ | decide | (simp; done) | (simp; omega)) | fail) ?_)
    refine hK _ ?_; clear hK K
    refine Aw_sq fun B1 hB1 hR1 hX1 => ?_
    refine Aw_st hE [0, 3, 4, 13] [3, 4] fun K hK => ?_
    simp only [go_sem, reduceIte, Nat.reduceLT, Nat.reduceLeDiff, Nat.reduceEqDiff, Nat.reduceAdd, Nat.reduceMul, Nat.reduceSub, Nat.reduceBEq, Int.reduceToNat, List.reduceReplicate, reduceCtorEq, h1]
    repeat (refine And.intro (by first | omega | (and_intros <;> first | omega | exact rows_row _ | decide | (simp; done) | (simp; omega)) | fail) ?_)
    refine hK _ (Aw_yes rfl ?_)
    refine Aw_st hE [4, 5] [4] fun K hK => ?_
    simp only [go_sem, reduceIte, Nat.reduceLT, Nat.reduceLeDiff, Nat.reduceEqDiff, Nat.reduceAdd, Nat.reduceMul, Nat.reduceSub, Nat.reduceBEq, Int.reduceToNat, List.reduceReplicate, reduceCtorEq]
    repeat (refine And.intro (by first | omega | (and_intros <;> first | omega | exact rows_row _ | decide | (simp; done) | (simp; omega)) | fail) ?_)
    refine hK _ (Aw_ret (hR1 _ (hQ _ ?_)))
    simp only [go_sem, reduceIte, Nat.reduceLT, Nat.reduceLeDiff, Nat.reduceEqDiff, Nat.reduceAdd, Nat.reduceMul, Nat.reduceSub, Nat.reduceBEq, Int.reduceToNat, List.reduceReplicate, reduceCtorEq, hres, resR, rt0]
    rfl
  | true =>
    cases h2 : okR ⟨rf, rb, p, rk, m⟩ with
    | false =>
      have hres : policyDo l ⟨rf, rb, p, rk, m⟩ = none := by simp [policyDo, h1, h2]
      have h3 : rtOk rf rb p rk m = false := h2
      refine Aw_st hE [0, 3, 4] [3, 4] fun K hK => ?_
      simp only [go_sem, reduceIte, Nat.reduceLT, Nat.reduceLeDiff, Nat.reduceEqDiff, Nat.reduceAdd, Nat.reduceMul, Nat.reduceSub, Nat.reduceBEq, Int.reduceToNat, List.reduceReplicate, reduceCtorEq]
      repeat (refine And.intro (by first | omega | (and_intros <;> first | omega | exact rows_row _ | decide | (simp; done) | (simp; omega)) | fail) ?_)
      refine hK _ ?_; clear hK K
      refine Aw_sq fun B1 hB1 hR1 hX1 => ?_
      refine Aw_st hE [0, 3, 4, 13] [3, 4] fun K hK => ?_
      simp only [go_sem, reduceIte, Nat.reduceLT, Nat.reduceLeDiff, Nat.reduceEqDiff, Nat.reduceAdd, Nat.reduceMul, Nat.reduceSub, Nat.reduceBEq, Int.reduceToNat, List.reduceReplicate, reduceCtorEq, h1, h3]
      repeat (refine And.intro (by first | omega | (and_intros <;> first | omega | exact rows_row _ | decide | (simp; done) | (simp; omega)) | fail) ?_)
      refine hK _ (Aw_yes rfl ?_)
      refine Aw_st hE [4, 5] [4] fun K hK => ?_
      simp only [go_sem, reduceIte, Nat.reduceLT, Nat.reduceLeDiff, Nat.reduceEqDiff, Nat.reduceAdd, Nat.reduceMul, Nat.reduceSub, Nat.reduceBEq, Int.reduceToNat, List.reduceReplicate, reduceCtorEq]
      repeat (refine And.intro (by first | omega | (and_intros <;> first | omega | exact rows_row _ | decide | (simp; done) | (simp; omega)) | fail) ?_)
      refine hK _ (Aw_ret (hR1 _ (hQ _ ?_)))
      simp only [go_sem, reduceIte, Nat.reduceLT, Nat.reduceLeDiff, Nat.reduceEqDiff, Nat.reduceAdd, Nat.reduceMul, Nat.reduceSub, Nat.reduceBEq, Int.reduceToNat, List.reduceReplicate, reduceCtorEq, hres, resR, rt0]
      rfl
    | true =>
      have h3 : rtOk rf rb p rk m = true := h2
      have hall := polOk_mem h1
      cases hd : polDo l ⟨rf, rb, p, rk, m⟩ with
      | none =>
        have hres : policyDo l ⟨rf, rb, p, rk, m⟩ = none := by simp [policyDo, h1, h2, hd]
        refine Aw_st hE [0, 3, 4] [3, 4] fun K hK => ?_
        simp only [go_sem, reduceIte, Nat.reduceLT, Nat.reduceLeDiff, Nat.reduceEqDiff, Nat.reduceAdd, Nat.reduceMul, Nat.reduceSub, Nat.reduceBEq, Int.reduceToNat, List.reduceReplicate, reduceCtorEq]
        repeat (refine And.intro (by first | omega | (and_intros <;> first | omega | exact rows_row _ | decide | (simp; done) | (simp; omega)) | fail) ?_)
        refine hK _ ?_; clear hK K
        refine Aw_sq fun B1 hB1 hR1 hX1 => ?_
        refine Aw_st hE [0, 3, 4, 13] [3, 4] fun K hK => ?_
        simp only [go_sem, reduceIte, Nat.reduceLT, Nat.reduceLeDiff, Nat.reduceEqDiff, Nat.reduceAdd, Nat.reduceMul, Nat.reduceSub, Nat.reduceBEq, Int.reduceToNat, List.reduceReplicate, reduceCtorEq, h1, h3]
        repeat (refine And.intro (by first | omega | (and_intros <;> first | omega | exact rows_row _ | decide | (simp; done) | (simp; omega)) | fail) ?_)
        refine hK _ (Aw_no rfl ?_)
        refine Aw_skip (hB1 _ ?_)
        refine Aw_st hE [4, 5] [4] fun K hK => ?_
        simp only [go_sem, reduceIte, Nat.reduceLT, Nat.reduceLeDiff, Nat.reduceEqDiff, Nat.reduceAdd, Nat.reduceMul, Nat.reduceSub, Nat.reduceBEq, Int.reduceToNat, List.reduceReplicate, reduceCtorEq, h2, hd, resR, rt0]
        refine ⟨⟨hall, hll, hpl, hml⟩, ?_⟩
        refine hK _ (Aw_ret (hQ _ ?_))
        simp only [go_sem, reduceIte, Nat.reduceLT, Nat.reduceLeDiff, Nat.reduceEqDiff, Nat.reduceAdd, Nat.reduceMul, Nat.reduceSub, Nat.reduceBEq, Int.reduceToNat, List.reduceReplicate, reduceCtorEq, hres, resR, rt0]
        rfl
      | some x =>
        have hres : policyDo l ⟨rf, rb, p, rk, m⟩ = some x := by simp [policyDo, h1, h2, hd]
        refine Aw_st hE [0, 3, 4] [3, 4] fun K hK => ?_
        simp only [go_sem, reduceIte, Nat.reduceLT, Nat.reduceLeDiff, Nat.reduceEqDiff, Nat.reduceAdd, Nat.reduceMul, Nat.reduceSub, Nat.reduceBEq, Int.reduceToNat, List.reduceReplicate, reduceCtorEq]
        repeat (refine And.intro (by first | omega | (and_intros <;> first | omega | exact rows_row _ | decide | (simp; done) | (simp; omega)) | fail) ?_)
        refine hK _ ?_; clear hK K
        refine Aw_sq fun B1 hB1 hR1 hX1 => ?_
        refine Aw_st hE [0, 3, 4, 13] [3, 4] fun K hK => ?_
        simp only [go_sem, reduceIte, Nat.reduceLT, Nat.reduceLeDiff, Nat.reduceEqDiff, Nat.reduceAdd, Nat.reduceMul, Nat.reduceSub, Nat.reduceBEq, Int.reduceToNat, List.reduceReplicate, reduceCtorEq, h1, h3]
        repeat (refine And.intro (by first | omega | (and_intros <;> first | omega | exact rows_row _ | decide | (simp; done) | (simp; omega)) | fail) ?_)
        refine hK _ (Aw_no rfl ?_)
        refine Aw_skip (hB1 _ ?_)
        refine Aw_st hE [4, 5] [4] fun K hK => ?_
        simp only [go_sem, reduceIte, Nat.reduceLT, Nat.reduceLeDiff, Nat.reduceEqDiff, Nat.reduceAdd, Nat.reduceMul, Nat.reduceSub, Nat.reduceBEq, Int.reduceToNat, List.reduceReplicate, reduceCtorEq, h2, hd, resR]
        refine ⟨⟨hall, hll, hpl, hml⟩, ?_⟩
        refine hK _ (Aw_ret (hQ _ ?_))
        simp only [go_sem, reduceIte, Nat.reduceLT, Nat.reduceLeDiff, Nat.reduceEqDiff, Nat.reduceAdd, Nat.reduceMul, Nat.reduceSub, Nat.reduceBEq, Int.reduceToNat, List.reduceReplicate, reduceCtorEq, hres, resR]

/-- routes, one by one -/
def gPAll : List AV → Option (Prop × AV)
  | [.sl _ e1, .sl _ e2] => (match clsL e1, rtsL e2 with
    | some l, some rs => some ((l.length ≤ 1000000 ∧ rs.length ≤ 1000000) ∧ ∀ r ∈ rs, r.path.length ≤ 1000000 ∧ r.marks.length ≤ 1000, .sl none (rrows (polAll l rs)))
    | _, _ => none)
  | _ => none
def dPAll : DFn := { g := gPAll }
attribute [go_sem] gPAll dPAll
theorem rall_take {l : List Rt} {i : Nat} (h : i < l.length) (f : Rt → Bool) : (l.take (i + 1)).all f = ((l.take i).all f && f l[i]) := by
  rw [List.take_succ_eq_append_getElem h, List.all_append]
  simp only [List.all_cons, List.all_nil, Bool.and_true]
theorem rall_stop {l : List Rt} {i : Nat} (h : i < l.length) {f : Rt → Bool} (hf : f l[i] = false) : l.all f = false := by
  rw [List.all_eq_false]
  exact ⟨l[i], List.getElem_mem h, by simp [hf]⟩
theorem fm_take {l : List Rt} {i : Nat} (h : i < l.length) (g : Rt → Option Rt) : (l.take (i + 1)).filterMap g = (l.take i).filterMap g ++ (g l[i]).toList := by
  rw [List.take_succ_eq_append_getElem h, List.filterMap_append, List.filterMap_cons, List.filterMap_nil]
  cases g l[i] <;> rfl
theorem resR_ex (x : Option Rt) : ∃ f b p k m z, resR x = .tup [.agg [iv f, iv b, isl p, iv k, isl m], bv z] ∧ (z = true → x = some ⟨f, b, p, k, m⟩) ∧ (z = false → x = none ∧ f = 0 ∧ b = 0 ∧ p = [] ∧ k = 0 ∧ m = []) := by
  cases x with
  | none => exact ⟨0, 0, [], 0, [], false, rfl, by simp, by simp⟩
  | some x => exact ⟨x.f, x.b, x.path, x.like, x.marks, true, rfl, by simp, by simp⟩
theorem sPAll_ok : Fine Tryz.prog 27 dPAll.con := by
  refine fine_det (T := TT) Tryz.func27 rfl Tryz.ntmps27 (by rw [Tryz.results27]) rfl rfl tt (gs_nil) (ds_cons sPolOk_ok (ds_cons sRtOk_ok (ds_cons l11Do_ok ds_nil))) ?_
  intro args c r h hc
  simp only [dPAll, gPAll] at h
  split at h
  rotate_left
  · cases h
  split at h
  rotate_left
  · cases h
  rename_i t els t2 e2 _ _ l rs hcl hrt
  obtain rfl := clsL_eq hcl
  obtain rfl := rtsL_eq hrt
  obtain ⟨rfl, rfl⟩ := Prod.mk.inj (Option.some.inj h)
  refine ⟨by simp, fun k E hE Q hQ => ?_⟩
  obtain ⟨⟨hll, hrl⟩, hlen⟩ := hc
  refine Aw_st hE [0, 1] [] fun K hK => ?_
  simp only [go_sem, reduceIte, Nat.reduceLT, Nat.reduceLeDiff, Nat.reduceEqDiff, Nat.reduceAdd, Nat.reduceMul, Nat.reduceSub, Nat.reduceBEq, Int.reduceToNat, List.reduceReplicate, reduceCtorEq]
  repeat (refine And.intro (by first | omega | (and_intros <;> first | omega | exact rows_row _ | decide | (simp; done) | (simp; omega)) | fail) ?_)
  refine hK _ ?_; clear hK K
  refine Aw_st hE [0, 1, 5] [] fun K hK => ?_
  simp only [go_sem, reduceIte, Nat.reduceLT, Nat.reduceLeDiff, Nat.reduceEqDiff, Nat.reduceAdd, Nat.reduceMul, Nat.reduceSub, Nat.reduceBEq, Int.reduceToNat, List.reduceReplicate, reduceCtorEq]
  repeat (refine And.intro (by first | omega | (and_intros <;> first | omega | exact rows_row _ | decide | (simp; done) | (simp; omega)) | fail) ?_)
  refine hK _ ?_; clear hK K
  refine Aw_sq fun B1 hB1 hR1 hX1 => ?_
  refine Aw_st hE [0, 1, 5, 12] [] fun K hK => ?_
  simp only [go_sem, reduceIte, Nat.reduceLT, Nat.reduceLeDiff, Nat.reduceEqDiff, Nat.reduceAdd, Nat.reduceMul, Nat.reduceSub, Nat.reduceBEq, Int.reduceToNat, List.reduceReplicate, reduceCtorEq]
  repeat (refine And.intro (by first | omega | (and_intros <;> first | omega | exact rows_row _ | decide | (simp; done) | (simp; omega)) | fail) ?_)
  refine hK _ (Aw_cond rfl (fun hc2 => ?_) (fun hc2 => ?_))
  · simp only [Bool.not_eq_true'] at hc2
    refine Aw_st hE [4] [] fun K hK => ?_
    simp only [go_sem, reduceIte, Nat.reduceLT, Nat.reduceLeDiff, Nat.reduceEqDiff, Nat.reduceAdd, Nat.reduceMul, Nat.reduceSub, Nat.reduceBEq, Int.reduceToNat, List.reduceReplicate, reduceCtorEq]
    repeat (refine And.intro (by first | omega | (and_intros <;> first | omega | exact rows_row _ | decide | (simp; done) | (simp; omega)) | fail) ?_)
    refine hK _ (Aw_ret (hR1 _ (hQ _ ?_)))
    simp only [go_sem, reduceIte, Nat.reduceLT, Nat.reduceLeDiff, Nat.reduceEqDiff, Nat.reduceAdd, Nat.reduceMul, Nat.reduceSub, Nat.reduceBEq, Int.reduceToNat, List.reduceReplicate, reduceCtorEq]
    simp [polAll, hc2, rrows]
  · simp only [Bool.not_eq_false'] at hc2
    have hall := polOk_mem hc2
    refine Aw_skip (hB1 _ ?_)
    refine Aw_sq fun B3 hB3 hR3 hX3 => ?_
    refine Aw_st hE [0, 1, 5, 6] [] fun K hK => ?_
    simp only [go_sem, reduceIte, Nat.reduceLT, Nat.reduceLeDiff, Nat.reduceEqDiff, Nat.reduceAdd, Nat.reduceMul, Nat.reduceSub, Nat.reduceBEq, Int.reduceToNat, List.reduceReplicate, reduceCtorEq]
    repeat (refine And.intro (by first | omega | (and_intros <;> first | omega | exact rows_row _ | decide | (simp; done) | (simp; omega)) | fail) ?_)
    refine hK _ ?_; clear hK K
    refine Aw_bk fun B4 hN4 hE4 hR4 hX4 => ?_
    refine Aw_lp (fun i : Nat × List Rt => ⟨42, [(0, .sl none (crows l)), (1, .sl none (rrows rs)), (5, .sl (some (9, 0, 28)) (rrows i.2)), (6, iv i.1)], [], k⟩) (fun i : Nat × List Rt => i.1 ≤ rs.length ∧ (rs.take i.1).all okR = true ∧ i.2 = (rs.take i.1).filterMap (polDo l) ∧ i.2.length ≤ i.1) (fun i : Nat × List Rt => rs.length - i.1) ((0, [])) (Le_wk (by first | omega | (dsimp only; omega) | (simp only; omega) | (simp; omega)) (by simp only [go_sem, reduceIte, Nat.reduceLT, Nat.reduceLeDiff, Nat.reduceEqDiff, Nat.reduceAdd, Nat.reduceMul, Nat.reduceSub, Nat.reduceBEq, Int.reduceToNat, List.reduceReplicate, reduceCtorEq]; rfl) (by simp only [go_sem, reduceIte, Nat.reduceLT, Nat.reduceLeDiff, Nat.reduceEqDiff, Nat.reduceAdd, Nat.reduceMul, Nat.reduceSub, Nat.reduceBEq, Int.reduceToNat, List.reduceReplicate, reduceCtorEq])) (⟨by simp, by simp, by simp, by simp⟩) fun i hi B5 hN5 hR5 hX5 => ?_
    refine Aw_sq fun B6 hB6 hR6 hX6 => ?_
    refine Aw_st hE [0, 1, 5, 6, 17] [] fun K hK => ?_
    simp only [go_sem, reduceIte, Nat.reduceLT, Nat.reduceLeDiff, Nat.reduceEqDiff, Nat.reduceAdd, Nat.reduceMul, Nat.reduceSub, Nat.reduceBEq, Int.reduceToNat, List.reduceReplicate, reduceCtorEq]
    repeat (refine And.intro (by first | omega | (and_intros <;> first | omega | exact rows_row _ | decide | (simp; done) | (simp; omega)) | fail) ?_)
    refine hK _ (Aw_cond rfl (fun hc7 => ?_) (fun hc7 => ?_))
    · simp only [decide_eq_true_eq] at hc7
      obtain ⟨i, out⟩ := i
      obtain ⟨hi1, hi2, hi3, hi4⟩ := hi
      simp only at hi1 hi2 hi3 hi4 hc7 ⊢
      have hil : i < rs.length := by omega
      have hget := rrows_get rs i hil
      have hst := rall_take hil okR
      have hst2 := fm_take hil (polDo l)
      have hstop := fun h => rall_stop (f := okR) hil h
      have hln := hlen _ (List.getElem_mem hil)
      generalize rs[i] = r at hget hst hst2 hstop hln
      obtain ⟨rf, rb, p, rk, m⟩ := r
      have hokR : okR ⟨rf, rb, p, rk, m⟩ = rtOk rf rb p rk m := rfl
      simp only at hln
      refine Aw_skip (hB6 _ ?_)
      refine Aw_sq fun B8 hB8 hR8 hX8 => ?_
      refine Aw_bk fun B9 hN9 hE9 hR9 hX9 => ?_
      refine Aw_sq fun B10 hB10 hR10 hX10 => ?_
      refine Aw_st hE [0, 1, 5, 6, 25] [] fun K hK => ?_
      simp only [go_sem, reduceIte, Nat.reduceLT, Nat.reduceLeDiff, Nat.reduceEqDiff, Nat.reduceAdd, Nat.reduceMul, Nat.reduceSub, Nat.reduceBEq, Int.reduceToNat, List.reduceReplicate, reduceCtorEq, hget]
      repeat (refine And.intro (by first | omega | (and_intros <;> first | omega | exact rows_row _ | decide | (simp; done) | (simp; omega)) | fail) ?_)
      refine hK _ (Aw_cond rfl (fun hc11 => ?_) (fun hc11 => ?_))
      · simp only [Bool.not_eq_true'] at hc11
        refine Aw_st hE [4] [] fun K hK => ?_
        simp only [go_sem, reduceIte, Nat.reduceLT, Nat.reduceLeDiff, Nat.reduceEqDiff, Nat.reduceAdd, Nat.reduceMul, Nat.reduceSub, Nat.reduceBEq, Int.reduceToNat, List.reduceReplicate, reduceCtorEq]
        repeat (refine And.intro (by first | omega | (and_intros <;> first | omega | exact rows_row _ | decide | (simp; done) | (simp; omega)) | fail) ?_)
        refine hK _ (Aw_ret (hR10 _ (hR9 _ (hR8 _ (hR5 _ (hR4 _ (hR3 _ (hQ _ ?_))))))))
        simp only [go_sem, reduceIte, Nat.reduceLT, Nat.reduceLeDiff, Nat.reduceEqDiff, Nat.reduceAdd, Nat.reduceMul, Nat.reduceSub, Nat.reduceBEq, Int.reduceToNat, List.reduceReplicate, reduceCtorEq]
        rw [polAll, hstop (hokR.trans hc11)]
        simp [rrows]
      · simp only [Bool.not_eq_false'] at hc11
        rw [hi2, hokR, hc11] at hst
        obtain ⟨yf, yb, yp, yk, ym, z, hres, hz1, hz0⟩ := resR_ex (polDo l ⟨rf, rb, p, rk, m⟩)
        refine Aw_skip (hB10 _ ?_)
        refine Aw_st hE [0, 1, 5, 6, 7, 8] [7] fun K hK => ?_
        simp only [go_sem, reduceIte, Nat.reduceLT, Nat.reduceLeDiff, Nat.reduceEqDiff, Nat.reduceAdd, Nat.reduceMul, Nat.reduceSub, Nat.reduceBEq, Int.reduceToNat, List.reduceReplicate, reduceCtorEq, hget, hokR, hc11, hres]
        refine ⟨by omega, ⟨⟨hall, hll, hln.1, hln.2⟩, ?_⟩⟩
        refine hK _ ?_; clear hK K
        refine Aw_st hE [0, 1, 5, 6, 7, 36] [7] fun K hK => ?_
        simp only [go_sem, reduceIte, Nat.reduceLT, Nat.reduceLeDiff, Nat.reduceEqDiff, Nat.reduceAdd, Nat.reduceMul, Nat.reduceSub, Nat.reduceBEq, Int.reduceToNat, List.reduceReplicate, reduceCtorEq]
        repeat (refine And.intro (by first | omega | (and_intros <;> first | omega | exact rows_row _ | decide | (simp; done) | (simp; omega)) | fail) ?_)
        refine hK _ (Aw_cond rfl (fun hc12 => ?_) (fun hc12 => ?_))
        · rw [hz1 hc12] at hst2
          refine Aw_tx hE [0, 1, 5, 6] [] fun K hK => ?_
          simp only [go_sem, reduceIte, Nat.reduceLT, Nat.reduceLeDiff, Nat.reduceEqDiff, Nat.reduceAdd, Nat.reduceMul, Nat.reduceSub, Nat.reduceBEq, Int.reduceToNat, List.reduceReplicate, reduceCtorEq, rrows_one]
          refine ⟨⟨rrows_row _, by omega⟩, ?_⟩
          refine hK _ (hN9 _ (hB8 _ ?_))
          refine Aw_tx hE [0, 1, 5, 6] [] fun K hK => ?_
          simp only [go_sem, reduceIte, Nat.reduceLT, Nat.reduceLeDiff, Nat.reduceEqDiff, Nat.reduceAdd, Nat.reduceMul, Nat.reduceSub, Nat.reduceBEq, Int.reduceToNat, List.reduceReplicate, reduceCtorEq]
          repeat (refine And.intro (by first | omega | (and_intros <;> first | omega | exact rows_row _ | decide | (simp; done) | (simp; omega)) | fail) ?_)
          refine hK _ (hN5 ((i + 1, out ++ [⟨yf, yb, yp, yk, ym⟩])) _ (⟨by omega, hst, by rw [hst2, hi3]; rfl, by simp; omega⟩) (by omega) (Le_tk 40 9 rfl))
        · rw [(hz0 hc12).1] at hst2
          refine Aw_skip (hN9 _ (hB8 _ ?_))
          refine Aw_tx hE [0, 1, 5, 6] [] fun K hK => ?_
          simp only [go_sem, reduceIte, Nat.reduceLT, Nat.reduceLeDiff, Nat.reduceEqDiff, Nat.reduceAdd, Nat.reduceMul, Nat.reduceSub, Nat.reduceBEq, Int.reduceToNat, List.reduceReplicate, reduceCtorEq]
          repeat (refine And.intro (by first | omega | (and_intros <;> first | omega | exact rows_row _ | decide | (simp; done) | (simp; omega)) | fail) ?_)
          refine hK _ (hN5 ((i + 1, out)) _ (⟨by omega, hst, by rw [hst2, hi3]; simp, by simp only; omega⟩) (by omega) (Le.refl _))
    · obtain ⟨i, out⟩ := i
      obtain ⟨hi1, hi2, hi3, hi4⟩ := hi
      simp only at hi1 hi2 hi3 hi4
      simp only [decide_eq_false_iff_not] at hc7
      rw [List.take_of_length_le (by omega)] at hi2 hi3
      refine Aw_exit (hX6 _ _ (hX5 _ _ (hE4 _ (hB3 _ ?_))))
      refine Aw_st hE [4] [] fun K hK => ?_
      simp only [go_sem, reduceIte, Nat.reduceLT, Nat.reduceLeDiff, Nat.reduceEqDiff, Nat.reduceAdd, Nat.reduceMul, Nat.reduceSub, Nat.reduceBEq, Int.reduceToNat, List.reduceReplicate, reduceCtorEq]
      repeat (refine And.intro (by first | omega | (and_intros <;> first | omega | exact rows_row _ | decide | (simp; done) | (simp; omega)) | fail) ?_)
      refine hK _ (Aw_ret (hQ _ ?_))
      simp only [go_sem, reduceIte, Nat.reduceLT, Nat.reduceLeDiff, Nat.reduceEqDiff, Nat.reduceAdd, Nat.reduceMul, Nat.reduceSub, Nat.reduceBEq, Int.reduceToNat, List.reduceReplicate, reduceCtorEq]
      rw [polAll, hc2, hi2, hi3]
      rfl
end Go.Proofs.W
end
section
namespace Go.Proofs.W
open Go Go.Eng Go.RowKit
set_option linter.unusedSimpArgs false
set_option maxRecDepth 100000

/-! what a clause's test says -/
def gFA : List AV → Option (Prop × AV) | [.agg [], .agg [.v (.int .i64 rf), .v (.int .i64 rb), .sl _ e1, .v (.int .i64 rk), .sl _ e2]] => (match intsL e1, intsL e2 with | some _, some _ => some (True, bv true) | _, _ => none) | _ => none
def dFA : DFn := { g := gFA }
def gFR : List AV → Option (Prop × AV) | [.agg [.v (.int .i64 f), .v (.int .i64 b)], .agg [.v (.int .i64 rf), .v (.int .i64 rb), .sl _ e1, .v (.int .i64 rk), .sl _ e2]] => (match intsL e1, intsL e2 with | some _, some _ => some (True, bv (rngOk rf rb && (rngOk f b && rIn rf rb f b))) | _, _ => none) | _ => none
def dFR : DFn := { g := gFR }
def gFM : List AV → Option (Prop × AV) | [.v (.int .i64 n), .agg [.v (.int .i64 rf), .v (.int .i64 rb), .sl _ e1, .v (.int .i64 rk), .sl _ e2]] => (match intsL e1, intsL e2 with | some _, some m => some (m.length ≤ 4294967296, bv (m.contains n)) | _, _ => none) | _ => none
def dFM : DFn := { g := gFM }
def gFH : List AV → Option (Prop × AV) | [.v (.int .i64 n), .agg [.v (.int .i64 rf), .v (.int .i64 rb), .sl _ e1, .v (.int .i64 rk), .sl _ e2]] => (match intsL e1, intsL e2 with | some p, some _ => some (p.length ≤ 4294967296, bv (pathOk p && (isH n && p.contains n))) | _, _ => none) | _ => none
def dFH (pb : Addr) : DFn := { g := gFH, inv := WP pb }
def gFS : List AV → Option (Prop × AV) | [.v (.int .i64 n), .agg [.v (.int .i64 rf), .v (.int .i64 rb), .sl _ e1, .v (.int .i64 rk), .sl _ e2]] => (match intsL e1, intsL e2 with | some p, some _ => some (p.length ≤ 4294967296, bv (decide ((p.length : Int) ≤ n))) | _, _ => none) | _ => none
def dFS : DFn := { g := gFS }
attribute [go_sem] gFA dFA gFR dFR gFM dFM gFH dFH gFS dFS
theorem fitsA_ok : Fine Tryz.prog 150 dFA.con := by
  refine fine_det (T := TT) Tryz.func150 rfl Tryz.ntmps150 (by rw [Tryz.results150]) rfl rfl tt (gs_nil) (ds_nil) ?_
  intro args c r h hc
  simp only [dFA, gFA] at h
  split at h
  rotate_left
  · cases h
  split at h
  rotate_left
  · cases h
  rename_i rf rb t1 e1 rk t2 e2 _ _ p m hl1 hl2
  obtain rfl := intsL_eq hl1
  obtain rfl := intsL_eq hl2
  obtain ⟨rfl, rfl⟩ := Prod.mk.inj (Option.some.inj h)
  refine ⟨by simp, fun k E hE Q hQ => ?_⟩
  refine Aw_st hE [] [] fun K hK => ?_
  simp only [go_sem, reduceIte, Nat.reduceLT, Nat.reduceLeDiff, Nat.reduceEqDiff, Nat.reduceAdd, Nat.reduceMul, Nat.reduceSub, Nat.reduceBEq, Int.reduceToNat, List.reduceReplicate, reduceCtorEq]
  repeat (refine And.intro (by first | omega | (and_intros <;> first | omega | exact rows_row _ | decide | (simp; done) | (simp; omega)) | fail) ?_)
  refine hK _ ?_; clear hK K
  refine Aw_st hE [4] [] fun K hK => ?_
  simp only [go_sem, reduceIte, Nat.reduceLT, Nat.reduceLeDiff, Nat.reduceEqDiff, Nat.reduceAdd, Nat.reduceMul, Nat.reduceSub, Nat.reduceBEq, Int.reduceToNat, List.reduceReplicate, reduceCtorEq]
  repeat (refine And.intro (by first | omega | (and_intros <;> first | omega | exact rows_row _ | decide | (simp; done) | (simp; omega)) | fail) ?_)
  refine hK _ (Aw_ret (hQ _ ?_))
  simp only [go_sem, reduceIte, Nat.reduceLT, Nat.reduceLeDiff, Nat.reduceEqDiff, Nat.reduceAdd, Nat.reduceMul, Nat.reduceSub, Nat.reduceBEq, Int.reduceToNat, List.reduceReplicate, reduceCtorEq]
theorem fitsR_ok : Fine Tryz.prog 151 dFR.con := by
  refine fine_det (T := TT) Tryz.func151 rfl Tryz.ntmps151 (by rw [Tryz.results151]) rfl rfl tt (gs_nil) (ds_cons iRIn_ok ds_nil) ?_
  intro args c r h hc
  simp only [dFR, gFR] at h
  split at h
  rotate_left
  · cases h
  split at h
  rotate_left
  · cases h
  rename_i f b rf rb t1 e1 rk t2 e2 _ _ p m hl1 hl2
  obtain rfl := intsL_eq hl1
  obtain rfl := intsL_eq hl2
  obtain ⟨rfl, rfl⟩ := Prod.mk.inj (Option.some.inj h)
  refine ⟨by simp, fun k E hE Q hQ => ?_⟩
  refine Aw_st hE [2, 3] [2, 3] fun K hK => ?_
  simp only [go_sem, reduceIte, Nat.reduceLT, Nat.reduceLeDiff, Nat.reduceEqDiff, Nat.reduceAdd, Nat.reduceMul, Nat.reduceSub, Nat.reduceBEq, Int.reduceToNat, List.reduceReplicate, reduceCtorEq]
  repeat (refine And.intro (by first | omega | (and_intros <;> first | omega | exact rows_row _ | decide | (simp; done) | (simp; omega)) | fail) ?_)
  refine hK _ ?_; clear hK K
  refine Aw_st hE [4] [] fun K hK => ?_
  simp only [go_sem, reduceIte, Nat.reduceLT, Nat.reduceLeDiff, Nat.reduceEqDiff, Nat.reduceAdd, Nat.reduceMul, Nat.reduceSub, Nat.reduceBEq, Int.reduceToNat, List.reduceReplicate, reduceCtorEq]
  repeat (refine And.intro (by first | omega | (and_intros <;> first | omega | exact rows_row _ | decide | (simp; done) | (simp; omega)) | fail) ?_)
  refine hK _ (Aw_ret (hQ _ ?_))
  simp only [go_sem, reduceIte, Nat.reduceLT, Nat.reduceLeDiff, Nat.reduceEqDiff, Nat.reduceAdd, Nat.reduceMul, Nat.reduceSub, Nat.reduceBEq, Int.reduceToNat, List.reduceReplicate, reduceCtorEq]
theorem fitsM_ok : Fine Tryz.prog 154 dFM.con := by
  refine fine_det (T := TT) Tryz.func154 rfl Tryz.ntmps154 (by rw [Tryz.results154]) rfl rfl tt (gs_nil) (ds_cons containsI_ok ds_nil) ?_
  intro args c r h hc
  simp only [dFM, gFM] at h
  split at h
  rotate_left
  · cases h
  split at h
  rotate_left
  · cases h
  rename_i n rf rb t1 e1 rk t2 e2 _ _ p m hl1 hl2
  obtain rfl := intsL_eq hl1
  obtain rfl := intsL_eq hl2
  obtain ⟨rfl, rfl⟩ := Prod.mk.inj (Option.some.inj h)
  refine ⟨by simp, fun k E hE Q hQ => ?_⟩
  refine Aw_st hE [0, 3] [3] fun K hK => ?_
  simp only [go_sem, reduceIte, Nat.reduceLT, Nat.reduceLeDiff, Nat.reduceEqDiff, Nat.reduceAdd, Nat.reduceMul, Nat.reduceSub, Nat.reduceBEq, Int.reduceToNat, List.reduceReplicate, reduceCtorEq]
  repeat (refine And.intro (by first | omega | (and_intros <;> first | omega | exact rows_row _ | decide | (simp; done) | (simp; omega)) | fail) ?_)
  refine hK _ ?_; clear hK K
  refine Aw_st hE [4] [] fun K hK => ?_
  simp only [go_sem, reduceIte, Nat.reduceLT, Nat.reduceLeDiff, Nat.reduceEqDiff, Nat.reduceAdd, Nat.reduceMul, Nat.reduceSub, Nat.reduceBEq, Int.reduceToNat, List.reduceReplicate, reduceCtorEq]
  repeat (refine And.intro (by first | omega | (and_intros <;> first | omega | exact rows_row _ | decide | (simp; done) | (simp; omega)) | fail) ?_)
  refine hK _ (Aw_ret (hQ _ ?_))
  simp only [go_sem, reduceIte, Nat.reduceLT, Nat.reduceLeDiff, Nat.reduceEqDiff, Nat.reduceAdd, Nat.reduceMul, Nat.reduceSub, Nat.reduceBEq, Int.reduceToNat, List.reduceReplicate, reduceCtorEq]
theorem fitsH_ok (pb : Addr) : Fine Tryz.prog 157 (dFH pb).con := by
  refine fine_det (T := TT) Tryz.func157 rfl Tryz.ntmps157 (by rw [Tryz.results157]) rfl rfl tt (gs_nil) (ds_cons (iPHas_ok pb) ds_nil (wp_inh pb)) ?_
  intro args c r h hc
  simp only [dFH, gFH] at h
  split at h
  rotate_left
  · cases h
  split at h
  rotate_left
  · cases h
  rename_i n rf rb t1 e1 rk t2 e2 _ _ p m hl1 hl2
  obtain rfl := intsL_eq hl1
  obtain rfl := intsL_eq hl2
  obtain ⟨rfl, rfl⟩ := Prod.mk.inj (Option.some.inj h)
  refine ⟨by simp, fun k E hE Q hQ => ?_⟩
  refine Aw_st hE [0, 3] [3] fun K hK => ?_
  simp only [go_sem, reduceIte, Nat.reduceLT, Nat.reduceLeDiff, Nat.reduceEqDiff, Nat.reduceAdd, Nat.reduceMul, Nat.reduceSub, Nat.reduceBEq, Int.reduceToNat, List.reduceReplicate, reduceCtorEq]
  repeat (refine And.intro (by first | omega | (and_intros <;> first | omega | exact rows_row _ | decide | (simp; done) | (simp; omega)) | fail) ?_)
  refine hK _ ?_; clear hK K
  refine Aw_st hE [4] [] fun K hK => ?_
  simp only [go_sem, reduceIte, Nat.reduceLT, Nat.reduceLeDiff, Nat.reduceEqDiff, Nat.reduceAdd, Nat.reduceMul, Nat.reduceSub, Nat.reduceBEq, Int.reduceToNat, List.reduceReplicate, reduceCtorEq]
  repeat (refine And.intro (by first | omega | (and_intros <;> first | omega | exact rows_row _ | decide | (simp; done) | (simp; omega)) | fail) ?_)
  refine hK _ (Aw_ret (hQ _ ?_))
  simp only [go_sem, reduceIte, Nat.reduceLT, Nat.reduceLeDiff, Nat.reduceEqDiff, Nat.reduceAdd, Nat.reduceMul, Nat.reduceSub, Nat.reduceBEq, Int.reduceToNat, List.reduceReplicate, reduceCtorEq]
theorem fitsS_ok : Fine Tryz.prog 158 dFS.con := by
  refine fine_det (T := TT) Tryz.func158 rfl Tryz.ntmps158 (by rw [Tryz.results158]) rfl rfl tt (gs_nil) (ds_nil) ?_
  intro args c r h hc
  simp only [dFS, gFS] at h
  split at h
  rotate_left
  · cases h
  split at h
  rotate_left
  · cases h
  rename_i n rf rb t1 e1 rk t2 e2 _ _ p m hl1 hl2
  obtain rfl := intsL_eq hl1
  obtain rfl := intsL_eq hl2
  obtain ⟨rfl, rfl⟩ := Prod.mk.inj (Option.some.inj h)
  refine ⟨by simp, fun k E hE Q hQ => ?_⟩
  refine Aw_st hE [0, 3] [3] fun K hK => ?_
  simp only [go_sem, reduceIte, Nat.reduceLT, Nat.reduceLeDiff, Nat.reduceEqDiff, Nat.reduceAdd, Nat.reduceMul, Nat.reduceSub, Nat.reduceBEq, Int.reduceToNat, List.reduceReplicate, reduceCtorEq]
  repeat (refine And.intro (by first | omega | (and_intros <;> first | omega | exact rows_row _ | decide | (simp; done) | (simp; omega)) | fail) ?_)
  refine hK _ ?_; clear hK K
  refine Aw_st hE [4] [] fun K hK => ?_
  simp only [go_sem, reduceIte, Nat.reduceLT, Nat.reduceLeDiff, Nat.reduceEqDiff, Nat.reduceAdd, Nat.reduceMul, Nat.reduceSub, Nat.reduceBEq, Int.reduceToNat, List.reduceReplicate, reduceCtorEq]
  repeat (refine And.intro (by first | omega | (and_intros <;> first | omega | exact rows_row _ | decide | (simp; done) | (simp; omega)) | fail) ?_)
  refine hK _ (Aw_ret (hQ _ ?_))
  simp only [go_sem, reduceIte, Nat.reduceLT, Nat.reduceLeDiff, Nat.reduceEqDiff, Nat.reduceAdd, Nat.reduceMul, Nat.reduceSub, Nat.reduceBEq, Int.reduceToNat, List.reduceReplicate, reduceCtorEq]

/-- the test itself, as an interface value -/
def tstV (ci n f b : Int) : Value :=
  if ci = 1 then .iface 102 (.agg #[])
  else if ci = 2 then .iface 103 (.agg #[.int .i64 f, .int .i64 b])
  else if ci = 3 then .iface 104 (.int .i64 n)
  else if ci = 4 then .iface 105 (.int .i64 n)
  else if ci = 5 then .iface 106 (.int .i64 n) else .nilIface
def gTst : List AV → Option (Prop × AV) | [.agg [.v (.int .i64 ci), .v (.int .i64 n), .v (.int .i64 f), .v (.int .i64 b), .v (.bool ref), .v (.int .i64 like), .v (.int .i64 mark), .v (.int .i64 clear)]] => some (True, .v (tstV ci n f b)) | _ => none
def dTst : DFn := { g := gTst }
def gSub : List AV → Option (Prop × AV) | [.agg [.v (.int .i64 ci), .v (.int .i64 n), .v (.int .i64 f), .v (.int .i64 b), .v (.bool ref), .v (.int .i64 like), .v (.int .i64 mark), .v (.int .i64 clear)]] => some (True, bv (subOk ci n f b)) | _ => none
def dSub : DFn := { g := gSub }
attribute [go_sem] gTst dTst gSub dSub
theorem tst1 (n f b : Int) : tstV 1 n f b = .iface 102 (.agg #[]) := rfl
theorem tst2 (n f b : Int) : tstV 2 n f b = .iface 103 (.agg #[.int .i64 f, .int .i64 b]) := rfl
theorem tst3 (n f b : Int) : tstV 3 n f b = .iface 104 (.int .i64 n) := rfl
theorem tst4 (n f b : Int) : tstV 4 n f b = .iface 105 (.int .i64 n) := rfl
theorem tst5 (n f b : Int) : tstV 5 n f b = .iface 106 (.int .i64 n) := rfl
theorem tst0 {ci : Int} (h1 : ¬ ci = 1) (h2 : ¬ ci = 2) (h3 : ¬ ci = 3) (h4 : ¬ ci = 4) (h5 : ¬ ci = 5) (n f b : Int) : tstV ci n f b = .nilIface := by
  unfold tstV
  rw [if_neg h1, if_neg h2, if_neg h3, if_neg h4, if_neg h5]
theorem testOf_ok : Fine Tryz.prog 47 dTst.con := by
  refine fine_det (T := TT) Tryz.func47 rfl Tryz.ntmps47 (by rw [Tryz.results47]) rfl rfl tt (gs_nil) (ds_nil) ?_
  intro args c r h hc
  simp only [dTst, gTst] at h
  split at h
  rotate_left
  · cases h
  obtain ⟨rfl, rfl⟩ := Prod.mk.inj (Option.some.inj h)
  refine ⟨by simp, fun k E hE Q hQ => ?_⟩
  rename_i ci n f b ref like mark clear
  refine Aw_st hE [1] [1] fun K hK => ?_
  simp only [go_sem, reduceIte, Nat.reduceLT, Nat.reduceLeDiff, Nat.reduceEqDiff, Nat.reduceAdd, Nat.reduceMul, Nat.reduceSub, Nat.reduceBEq, Int.reduceToNat, List.reduceReplicate, reduceCtorEq]
  repeat (refine And.intro (by first | omega | (and_intros <;> first | omega | exact rows_row _ | decide | (simp; done) | (simp; omega)) | fail) ?_)
  refine hK _ ?_; clear hK K
  refine Aw_sq fun B1 hB1 hR1 hX1 => ?_
  refine Aw_st hE [1, 4] [1] fun K hK => ?_
  simp only [go_sem, reduceIte, Nat.reduceLT, Nat.reduceLeDiff, Nat.reduceEqDiff, Nat.reduceAdd, Nat.reduceMul, Nat.reduceSub, Nat.reduceBEq, Int.reduceToNat, List.reduceReplicate, reduceCtorEq]
  repeat (refine And.intro (by first | omega | (and_intros <;> first | omega | exact rows_row _ | decide | (simp; done) | (simp; omega)) | fail) ?_)
  refine hK _ ?_; clear hK K
  refine Aw_bk fun B2 hN2 hE2 hR2 hX2 => ?_
  refine Aw_st hE [1, 4, 5] [1] fun K hK => ?_
  simp only [go_sem, reduceIte, Nat.reduceLT, Nat.reduceLeDiff, Nat.reduceEqDiff, Nat.reduceAdd, Nat.reduceMul, Nat.reduceSub, Nat.reduceBEq, Int.reduceToNat, List.reduceReplicate, reduceCtorEq]
  repeat (refine And.intro (by first | omega | (and_intros <;> first | omega | exact rows_row _ | decide | (simp; done) | (simp; omega)) | fail) ?_)
  refine hK _ (Aw_cond rfl (fun hc3 => ?_) (fun hc3 => ?_))
  · simp only [decide_eq_true_eq] at hc3
    refine Aw_st hE [2] [] fun K hK => ?_
    simp only [go_sem, reduceIte, Nat.reduceLT, Nat.reduceLeDiff, Nat.reduceEqDiff, Nat.reduceAdd, Nat.reduceMul, Nat.reduceSub, Nat.reduceBEq, Int.reduceToNat, List.reduceReplicate, reduceCtorEq]
    repeat (refine And.intro (by first | omega | (and_intros <;> first | omega | exact rows_row _ | decide | (simp; done) | (simp; omega)) | fail) ?_)
    refine hK _ (Aw_ret (hR2 _ (hR1 _ (hQ _ ?_))))
    simp only [go_sem, reduceIte, Nat.reduceLT, Nat.reduceLeDiff, Nat.reduceEqDiff, Nat.reduceAdd, Nat.reduceMul, Nat.reduceSub, Nat.reduceBEq, Int.reduceToNat, List.reduceReplicate, reduceCtorEq, hc3]
    rfl
  · simp only [decide_eq_false_iff_not] at hc3
    refine Aw_st hE [1, 4, 9] [1] fun K hK => ?_
    simp only [go_sem, reduceIte, Nat.reduceLT, Nat.reduceLeDiff, Nat.reduceEqDiff, Nat.reduceAdd, Nat.reduceMul, Nat.reduceSub, Nat.reduceBEq, Int.reduceToNat, List.reduceReplicate, reduceCtorEq]
    repeat (refine And.intro (by first | omega | (and_intros <;> first | omega | exact rows_row _ | decide | (simp; done) | (simp; omega)) | fail) ?_)
    refine hK _ (Aw_cond rfl (fun hc4 => ?_) (fun hc4 => ?_))
    · simp only [decide_eq_true_eq] at hc4
      refine Aw_st hE [2] [] fun K hK => ?_
      simp only [go_sem, reduceIte, Nat.reduceLT, Nat.reduceLeDiff, Nat.reduceEqDiff, Nat.reduceAdd, Nat.reduceMul, Nat.reduceSub, Nat.reduceBEq, Int.reduceToNat, List.reduceReplicate, reduceCtorEq]
      repeat (refine And.intro (by first | omega | (and_intros <;> first | omega | exact rows_row _ | decide | (simp; done) | (simp; omega)) | fail) ?_)
      refine hK _ (Aw_ret (hR2 _ (hR1 _ (hQ _ ?_))))
      simp only [go_sem, reduceIte, Nat.reduceLT, Nat.reduceLeDiff, Nat.reduceEqDiff, Nat.reduceAdd, Nat.reduceMul, Nat.reduceSub, Nat.reduceBEq, Int.reduceToNat, List.reduceReplicate, reduceCtorEq, hc4]
      rfl
    · simp only [decide_eq_false_iff_not] at hc4
      refine Aw_st hE [1, 4, 14] [1] fun K hK => ?_
      simp only [go_sem, reduceIte, Nat.reduceLT, Nat.reduceLeDiff, Nat.reduceEqDiff, Nat.reduceAdd, Nat.reduceMul, Nat.reduceSub, Nat.reduceBEq, Int.reduceToNat, List.reduceReplicate, reduceCtorEq]
      repeat (refine And.intro (by first | omega | (and_intros <;> first | omega | exact rows_row _ | decide | (simp; done) | (simp; omega)) | fail) ?_)
      refine hK _ (Aw_cond rfl (fun hc5 => ?_) (fun hc5 => ?_))
      · simp only [decide_eq_true_eq] at hc5
        refine Aw_st hE [2] [] fun K hK => ?_
        simp only [go_sem, reduceIte, Nat.reduceLT, Nat.reduceLeDiff, Nat.reduceEqDiff, Nat.reduceAdd, Nat.reduceMul, Nat.reduceSub, Nat.reduceBEq, Int.reduceToNat, List.reduceReplicate, reduceCtorEq]
        repeat (refine And.intro (by first | omega | (and_intros <;> first | omega | exact rows_row _ | decide | (simp; done) | (simp; omega)) | fail) ?_)
        refine hK _ (Aw_ret (hR2 _ (hR1 _ (hQ _ ?_))))
        simp only [go_sem, reduceIte, Nat.reduceLT, Nat.reduceLeDiff, Nat.reduceEqDiff, Nat.reduceAdd, Nat.reduceMul, Nat.reduceSub, Nat.reduceBEq, Int.reduceToNat, List.reduceReplicate, reduceCtorEq, hc5]
        rfl
      · simp only [decide_eq_false_iff_not] at hc5
        refine Aw_st hE [1, 4, 19] [1] fun K hK => ?_
        simp only [go_sem, reduceIte, Nat.reduceLT, Nat.reduceLeDiff, Nat.reduceEqDiff, Nat.reduceAdd, Nat.reduceMul, Nat.reduceSub, Nat.reduceBEq, Int.reduceToNat, List.reduceReplicate, reduceCtorEq]
        repeat (refine And.intro (by first | omega | (and_intros <;> first | omega | exact rows_row _ | decide | (simp; done) | (simp; omega)) | fail) ?_)
        refine hK _ (Aw_cond rfl (fun hc6 => ?_) (fun hc6 => ?_))
        · simp only [decide_eq_true_eq] at hc6
          refine Aw_st hE [2] [] fun K hK => ?_
          simp only [go_sem, reduceIte, Nat.reduceLT, Nat.reduceLeDiff, Nat.reduceEqDiff, Nat.reduceAdd, Nat.reduceMul, Nat.reduceSub, Nat.reduceBEq, Int.reduceToNat, List.reduceReplicate, reduceCtorEq]
          repeat (refine And.intro (by first | omega | (and_intros <;> first | omega | exact rows_row _ | decide | (simp; done) | (simp; omega)) | fail) ?_)
          refine hK _ (Aw_ret (hR2 _ (hR1 _ (hQ _ ?_))))
          simp only [go_sem, reduceIte, Nat.reduceLT, Nat.reduceLeDiff, Nat.reduceEqDiff, Nat.reduceAdd, Nat.reduceMul, Nat.reduceSub, Nat.reduceBEq, Int.reduceToNat, List.reduceReplicate, reduceCtorEq, hc6]
          rfl
        · simp only [decide_eq_false_iff_not] at hc6
          refine Aw_st hE [1, 24] [1] fun K hK => ?_
          simp only [go_sem, reduceIte, Nat.reduceLT, Nat.reduceLeDiff, Nat.reduceEqDiff, Nat.reduceAdd, Nat.reduceMul, Nat.reduceSub, Nat.reduceBEq, Int.reduceToNat, List.reduceReplicate, reduceCtorEq]
          repeat (refine And.intro (by first | omega | (and_intros <;> first | omega | exact rows_row _ | decide | (simp; done) | (simp; omega)) | fail) ?_)
          refine hK _ (Aw_cond rfl (fun hc7 => ?_) (fun hc7 => ?_))
          · simp only [decide_eq_true_eq] at hc7
            refine Aw_st hE [2] [] fun K hK => ?_
            simp only [go_sem, reduceIte, Nat.reduceLT, Nat.reduceLeDiff, Nat.reduceEqDiff, Nat.reduceAdd, Nat.reduceMul, Nat.reduceSub, Nat.reduceBEq, Int.reduceToNat, List.reduceReplicate, reduceCtorEq]
            repeat (refine And.intro (by first | omega | (and_intros <;> first | omega | exact rows_row _ | decide | (simp; done) | (simp; omega)) | fail) ?_)
            refine hK _ (Aw_ret (hR2 _ (hR1 _ (hQ _ ?_))))
            simp only [go_sem, reduceIte, Nat.reduceLT, Nat.reduceLeDiff, Nat.reduceEqDiff, Nat.reduceAdd, Nat.reduceMul, Nat.reduceSub, Nat.reduceBEq, Int.reduceToNat, List.reduceReplicate, reduceCtorEq, hc7]
            rfl
          · simp only [decide_eq_false_iff_not] at hc7
            refine Aw_skip (hN2 _ (hB1 _ ?_))
            refine Aw_st hE [2] [] fun K hK => ?_
            simp only [go_sem, reduceIte, Nat.reduceLT, Nat.reduceLeDiff, Nat.reduceEqDiff, Nat.reduceAdd, Nat.reduceMul, Nat.reduceSub, Nat.reduceBEq, Int.reduceToNat, List.reduceReplicate, reduceCtorEq]
            repeat (refine And.intro (by first | omega | (and_intros <;> first | omega | exact rows_row _ | decide | (simp; done) | (simp; omega)) | fail) ?_)
            refine hK _ (Aw_ret (hQ _ ?_))
            simp only [go_sem, reduceIte, Nat.reduceLT, Nat.reduceLeDiff, Nat.reduceEqDiff, Nat.reduceAdd, Nat.reduceMul, Nat.reduceSub, Nat.reduceBEq, Int.reduceToNat, List.reduceReplicate, reduceCtorEq, tst0 hc3 hc4 hc5 hc6 hc7]

theorem subjectOk_ok : Fine Tryz.prog 82 dSub.con := by
  refine fine_det (T := TT) Tryz.func82 rfl Tryz.ntmps82 (by rw [Tryz.results82]) rfl rfl tt (gs_nil) (ds_cons testOf_ok (ds_cons rangeOk_ok (ds_cons iIsM_ok (ds_cons iIsH_ok ds_nil)))) ?_
  intro args c r h hc
  simp only [dSub, gSub] at h
  split at h
  rotate_left
  · cases h
  obtain ⟨rfl, rfl⟩ := Prod.mk.inj (Option.some.inj h)
  refine ⟨by simp, fun k E hE Q hQ => ?_⟩
  rename_i ci n f b ref like mark clear
  by_cases h101 : ci = 1
  · subst h101
    refine Aw_st hE [1] [1] fun K hK => ?_
    simp only [go_sem, reduceIte, Nat.reduceLT, Nat.reduceLeDiff, Nat.reduceEqDiff, Nat.reduceAdd, Nat.reduceMul, Nat.reduceSub, Nat.reduceBEq, Int.reduceToNat, List.reduceReplicate, reduceCtorEq]
    repeat (refine And.intro (by first | omega | (and_intros <;> first | omega | exact rows_row _ | decide | (simp; done) | (simp; omega)) | fail) ?_)
    refine hK _ ?_; clear hK K
    refine Aw_st hE [1, 3, 4] [1, 4] fun K hK => ?_
    simp only [go_sem, reduceIte, Nat.reduceLT, Nat.reduceLeDiff, Nat.reduceEqDiff, Nat.reduceAdd, Nat.reduceMul, Nat.reduceSub, Nat.reduceBEq, Int.reduceToNat, List.reduceReplicate, reduceCtorEq]
    repeat (refine And.intro (by first | omega | (and_intros <;> first | omega | exact rows_row _ | decide | (simp; done) | (simp; omega)) | fail) ?_)
    refine hK _ ?_; clear hK K
    refine Aw_sq fun B1 hB1 hR1 hX1 => ?_
    refine Aw_st hE [1, 3, 4, 13] [1, 4] fun K hK => ?_
    simp only [go_sem, reduceIte, Nat.reduceLT, Nat.reduceLeDiff, Nat.reduceEqDiff, Nat.reduceAdd, Nat.reduceMul, Nat.reduceSub, Nat.reduceBEq, Int.reduceToNat, List.reduceReplicate, reduceCtorEq, tst1]
    repeat (refine And.intro (by first | omega | (and_intros <;> first | omega | exact rows_row _ | decide | (simp; done) | (simp; omega)) | fail) ?_)
    skip
    refine hK _ ?_; clear hK K
    refine Aw_bk fun B2 hN2 hE2 hR2 hX2 => ?_
    refine Aw_st hE [1, 3, 4, 13, 14] [1, 4] fun K hK => ?_
    simp only [go_sem, reduceIte, Nat.reduceLT, Nat.reduceLeDiff, Nat.reduceEqDiff, Nat.reduceAdd, Nat.reduceMul, Nat.reduceSub, Nat.reduceBEq, Int.reduceToNat, List.reduceReplicate, reduceCtorEq]
    repeat (refine And.intro (by first | omega | (and_intros <;> first | omega | exact rows_row _ | decide | (simp; done) | (simp; omega)) | fail) ?_)
    refine hK _ (Aw_no rfl ?_)
    refine Aw_st hE [1, 3, 4, 13, 16, 17] [1, 4] fun K hK => ?_
    simp only [go_sem, reduceIte, Nat.reduceLT, Nat.reduceLeDiff, Nat.reduceEqDiff, Nat.reduceAdd, Nat.reduceMul, Nat.reduceSub, Nat.reduceBEq, Int.reduceToNat, List.reduceReplicate, reduceCtorEq]
    repeat (refine And.intro (by first | omega | (and_intros <;> first | omega | exact rows_row _ | decide | (simp; done) | (simp; omega)) | fail) ?_)
    refine hK _ (Aw_yes rfl ?_)
    refine Aw_tx hE [1, 3, 4] [1, 4] fun K hK => ?_
    simp only [go_sem, reduceIte, Nat.reduceLT, Nat.reduceLeDiff, Nat.reduceEqDiff, Nat.reduceAdd, Nat.reduceMul, Nat.reduceSub, Nat.reduceBEq, Int.reduceToNat, List.reduceReplicate, reduceCtorEq]
    repeat (refine And.intro (by first | omega | (and_intros <;> first | omega | exact rows_row _ | decide | (simp; done) | (simp; omega)) | fail) ?_)
    refine hK _ (hN2 _ (hB1 _ ?_))
    refine Aw_st hE [2] [] fun K hK => ?_
    simp only [go_sem, reduceIte, Nat.reduceLT, Nat.reduceLeDiff, Nat.reduceEqDiff, Nat.reduceAdd, Nat.reduceMul, Nat.reduceSub, Nat.reduceBEq, Int.reduceToNat, List.reduceReplicate, reduceCtorEq]
    repeat (refine And.intro (by first | omega | (and_intros <;> first | omega | exact rows_row _ | decide | (simp; done) | (simp; omega)) | fail) ?_)
    refine ⟨fun h1 => ?_, fun h1 => ?_⟩
    all_goals
      refine hK _ (Aw_ret (hQ _ ?_))
      simp only [go_sem, reduceIte, Nat.reduceLT, Nat.reduceLeDiff, Nat.reduceEqDiff, Nat.reduceAdd, Nat.reduceMul, Nat.reduceSub, Nat.reduceBEq, Int.reduceToNat, List.reduceReplicate, reduceCtorEq]
      first | (simp [subOk, beqI, h1]; done) | fail
  by_cases h102 : ci = 2
  · subst h102
    refine Aw_st hE [1] [1] fun K hK => ?_
    simp only [go_sem, reduceIte, Nat.reduceLT, Nat.reduceLeDiff, Nat.reduceEqDiff, Nat.reduceAdd, Nat.reduceMul, Nat.reduceSub, Nat.reduceBEq, Int.reduceToNat, List.reduceReplicate, reduceCtorEq]
    repeat (refine And.intro (by first | omega | (and_intros <;> first | omega | exact rows_row _ | decide | (simp; done) | (simp; omega)) | fail) ?_)
    refine hK _ ?_; clear hK K
    refine Aw_st hE [1, 3, 4] [1, 4] fun K hK => ?_
    simp only [go_sem, reduceIte, Nat.reduceLT, Nat.reduceLeDiff, Nat.reduceEqDiff, Nat.reduceAdd, Nat.reduceMul, Nat.reduceSub, Nat.reduceBEq, Int.reduceToNat, List.reduceReplicate, reduceCtorEq]
    repeat (refine And.intro (by first | omega | (and_intros <;> first | omega | exact rows_row _ | decide | (simp; done) | (simp; omega)) | fail) ?_)
    refine hK _ ?_; clear hK K
    refine Aw_sq fun B1 hB1 hR1 hX1 => ?_
    refine Aw_st hE [1, 3, 4, 13] [1, 4] fun K hK => ?_
    simp only [go_sem, reduceIte, Nat.reduceLT, Nat.reduceLeDiff, Nat.reduceEqDiff, Nat.reduceAdd, Nat.reduceMul, Nat.reduceSub, Nat.reduceBEq, Int.reduceToNat, List.reduceReplicate, reduceCtorEq, tst2]
    repeat (refine And.intro (by first | omega | (and_intros <;> first | omega | exact rows_row _ | decide | (simp; done) | (simp; omega)) | fail) ?_)
    skip
    refine hK _ ?_; clear hK K
    refine Aw_bk fun B2 hN2 hE2 hR2 hX2 => ?_
    refine Aw_st hE [1, 3, 4, 13, 14] [1, 4] fun K hK => ?_
    simp only [go_sem, reduceIte, Nat.reduceLT, Nat.reduceLeDiff, Nat.reduceEqDiff, Nat.reduceAdd, Nat.reduceMul, Nat.reduceSub, Nat.reduceBEq, Int.reduceToNat, List.reduceReplicate, reduceCtorEq]
    repeat (refine And.intro (by first | omega | (and_intros <;> first | omega | exact rows_row _ | decide | (simp; done) | (simp; omega)) | fail) ?_)
    refine hK _ (Aw_no rfl ?_)
    refine Aw_st hE [1, 3, 4, 13, 16, 17] [1, 4] fun K hK => ?_
    simp only [go_sem, reduceIte, Nat.reduceLT, Nat.reduceLeDiff, Nat.reduceEqDiff, Nat.reduceAdd, Nat.reduceMul, Nat.reduceSub, Nat.reduceBEq, Int.reduceToNat, List.reduceReplicate, reduceCtorEq]
    repeat (refine And.intro (by first | omega | (and_intros <;> first | omega | exact rows_row _ | decide | (simp; done) | (simp; omega)) | fail) ?_)
    refine hK _ (Aw_no rfl ?_)
    refine Aw_st hE [1, 3, 4, 13, 19, 20] [1, 4] fun K hK => ?_
    simp only [go_sem, reduceIte, Nat.reduceLT, Nat.reduceLeDiff, Nat.reduceEqDiff, Nat.reduceAdd, Nat.reduceMul, Nat.reduceSub, Nat.reduceBEq, Int.reduceToNat, List.reduceReplicate, reduceCtorEq]
    repeat (refine And.intro (by first | omega | (and_intros <;> first | omega | exact rows_row _ | decide | (simp; done) | (simp; omega)) | fail) ?_)
    refine hK _ (Aw_yes rfl ?_)
    refine Aw_st hE [1, 3, 4, 7] [1, 4, 7] fun K hK => ?_
    simp only [go_sem, reduceIte, Nat.reduceLT, Nat.reduceLeDiff, Nat.reduceEqDiff, Nat.reduceAdd, Nat.reduceMul, Nat.reduceSub, Nat.reduceBEq, Int.reduceToNat, List.reduceReplicate, reduceCtorEq]
    repeat (refine And.intro (by first | omega | (and_intros <;> first | omega | exact rows_row _ | decide | (simp; done) | (simp; omega)) | fail) ?_)
    refine hK _ ?_; clear hK K
    refine Aw_sq fun B6 hB6 hR6 hX6 => ?_
    refine Aw_st hE [1, 3, 4, 7, 23] [1, 4, 7] fun K hK => ?_
    simp only [go_sem, reduceIte, Nat.reduceLT, Nat.reduceLeDiff, Nat.reduceEqDiff, Nat.reduceAdd, Nat.reduceMul, Nat.reduceSub, Nat.reduceBEq, Int.reduceToNat, List.reduceReplicate, reduceCtorEq]
    repeat (refine And.intro (by first | omega | (and_intros <;> first | omega | exact rows_row _ | decide | (simp; done) | (simp; omega)) | fail) ?_)
    refine hK _ (Aw_cond rfl (fun hc7 => ?_) (fun hc7 => ?_))
    · have hx := hc7
      simp only [Bool.not_eq_true'] at hx
      refine Aw_st hE [2] [] fun K hK => ?_
      simp only [go_sem, reduceIte, Nat.reduceLT, Nat.reduceLeDiff, Nat.reduceEqDiff, Nat.reduceAdd, Nat.reduceMul, Nat.reduceSub, Nat.reduceBEq, Int.reduceToNat, List.reduceReplicate, reduceCtorEq]
      repeat (refine And.intro (by first | omega | (and_intros <;> first | omega | exact rows_row _ | decide | (simp; done) | (simp; omega)) | fail) ?_)
      refine hK _ (Aw_ret (hR6 _ (hR2 _ (hR1 _ (hQ _ ?_)))))
      simp only [go_sem, reduceIte, Nat.reduceLT, Nat.reduceLeDiff, Nat.reduceEqDiff, Nat.reduceAdd, Nat.reduceMul, Nat.reduceSub, Nat.reduceBEq, Int.reduceToNat, List.reduceReplicate, reduceCtorEq]
      simp [subOk, hx]
    · have hx := hc7
      simp only [Bool.not_eq_false'] at hx
      refine Aw_skip (hB6 _ ?_)
      refine Aw_tx hE [1, 3, 4] [1, 4] fun K hK => ?_
      simp only [go_sem, reduceIte, Nat.reduceLT, Nat.reduceLeDiff, Nat.reduceEqDiff, Nat.reduceAdd, Nat.reduceMul, Nat.reduceSub, Nat.reduceBEq, Int.reduceToNat, List.reduceReplicate, reduceCtorEq]
      repeat (refine And.intro (by first | omega | (and_intros <;> first | omega | exact rows_row _ | decide | (simp; done) | (simp; omega)) | fail) ?_)
      refine hK _ (hN2 _ (hB1 _ ?_))
      refine Aw_st hE [2] [] fun K hK => ?_
      simp only [go_sem, reduceIte, Nat.reduceLT, Nat.reduceLeDiff, Nat.reduceEqDiff, Nat.reduceAdd, Nat.reduceMul, Nat.reduceSub, Nat.reduceBEq, Int.reduceToNat, List.reduceReplicate, reduceCtorEq]
      repeat (refine And.intro (by first | omega | (and_intros <;> first | omega | exact rows_row _ | decide | (simp; done) | (simp; omega)) | fail) ?_)
      refine ⟨fun h1 => ?_, fun h1 => ?_⟩
      all_goals
        refine hK _ (Aw_ret (hQ _ ?_))
        simp only [go_sem, reduceIte, Nat.reduceLT, Nat.reduceLeDiff, Nat.reduceEqDiff, Nat.reduceAdd, Nat.reduceMul, Nat.reduceSub, Nat.reduceBEq, Int.reduceToNat, List.reduceReplicate, reduceCtorEq]
        first | (simp [subOk, beqI, h1, hx]; done) | (simp at h1; done) | fail
  by_cases h103 : ci = 3
  · subst h103
    refine Aw_st hE [1] [1] fun K hK => ?_
    simp only [go_sem, reduceIte, Nat.reduceLT, Nat.reduceLeDiff, Nat.reduceEqDiff, Nat.reduceAdd, Nat.reduceMul, Nat.reduceSub, Nat.reduceBEq, Int.reduceToNat, List.reduceReplicate, reduceCtorEq]
    repeat (refine And.intro (by first | omega | (and_intros <;> first | omega | exact rows_row _ | decide | (simp; done) | (simp; omega)) | fail) ?_)
    refine hK _ ?_; clear hK K
    refine Aw_st hE [1, 3, 4] [1, 4] fun K hK => ?_
    simp only [go_sem, reduceIte, Nat.reduceLT, Nat.reduceLeDiff, Nat.reduceEqDiff, Nat.reduceAdd, Nat.reduceMul, Nat.reduceSub, Nat.reduceBEq, Int.reduceToNat, List.reduceReplicate, reduceCtorEq]
    repeat (refine And.intro (by first | omega | (and_intros <;> first | omega | exact rows_row _ | decide | (simp; done) | (simp; omega)) | fail) ?_)
    refine hK _ ?_; clear hK K
    refine Aw_sq fun B1 hB1 hR1 hX1 => ?_
    refine Aw_st hE [1, 3, 4, 13] [1, 4] fun K hK => ?_
    simp only [go_sem, reduceIte, Nat.reduceLT, Nat.reduceLeDiff, Nat.reduceEqDiff, Nat.reduceAdd, Nat.reduceMul, Nat.reduceSub, Nat.reduceBEq, Int.reduceToNat, List.reduceReplicate, reduceCtorEq, tst3]
    repeat (refine And.intro (by first | omega | (and_intros <;> first | omega | exact rows_row _ | decide | (simp; done) | (simp; omega)) | fail) ?_)
    skip
    refine hK _ ?_; clear hK K
    refine Aw_bk fun B2 hN2 hE2 hR2 hX2 => ?_
    refine Aw_st hE [1, 3, 4, 13, 14] [1, 4] fun K hK => ?_
    simp only [go_sem, reduceIte, Nat.reduceLT, Nat.reduceLeDiff, Nat.reduceEqDiff, Nat.reduceAdd, Nat.reduceMul, Nat.reduceSub, Nat.reduceBEq, Int.reduceToNat, List.reduceReplicate, reduceCtorEq]
    repeat (refine And.intro (by first | omega | (and_intros <;> first | omega | exact rows_row _ | decide | (simp; done) | (simp; omega)) | fail) ?_)
    refine hK _ (Aw_no rfl ?_)
    refine Aw_st hE [1, 3, 4, 13, 16, 17] [1, 4] fun K hK => ?_
    simp only [go_sem, reduceIte, Nat.reduceLT, Nat.reduceLeDiff, Nat.reduceEqDiff, Nat.reduceAdd, Nat.reduceMul, Nat.reduceSub, Nat.reduceBEq, Int.reduceToNat, List.reduceReplicate, reduceCtorEq]
    repeat (refine And.intro (by first | omega | (and_intros <;> first | omega | exact rows_row _ | decide | (simp; done) | (simp; omega)) | fail) ?_)
    refine hK _ (Aw_no rfl ?_)
    refine Aw_st hE [1, 3, 4, 13, 19, 20] [1, 4] fun K hK => ?_
    simp only [go_sem, reduceIte, Nat.reduceLT, Nat.reduceLeDiff, Nat.reduceEqDiff, Nat.reduceAdd, Nat.reduceMul, Nat.reduceSub, Nat.reduceBEq, Int.reduceToNat, List.reduceReplicate, reduceCtorEq]
    repeat (refine And.intro (by first | omega | (and_intros <;> first | omega | exact rows_row _ | decide | (simp; done) | (simp; omega)) | fail) ?_)
    refine hK _ (Aw_no rfl ?_)
    refine Aw_st hE [1, 3, 4, 13, 26, 27] [1, 4] fun K hK => ?_
    simp only [go_sem, reduceIte, Nat.reduceLT, Nat.reduceLeDiff, Nat.reduceEqDiff, Nat.reduceAdd, Nat.reduceMul, Nat.reduceSub, Nat.reduceBEq, Int.reduceToNat, List.reduceReplicate, reduceCtorEq]
    repeat (refine And.intro (by first | omega | (and_intros <;> first | omega | exact rows_row _ | decide | (simp; done) | (simp; omega)) | fail) ?_)
    refine hK _ (Aw_yes rfl ?_)
    refine Aw_st hE [1, 4, 8] [1, 4] fun K hK => ?_
    simp only [go_sem, reduceIte, Nat.reduceLT, Nat.reduceLeDiff, Nat.reduceEqDiff, Nat.reduceAdd, Nat.reduceMul, Nat.reduceSub, Nat.reduceBEq, Int.reduceToNat, List.reduceReplicate, reduceCtorEq]
    repeat (refine And.intro (by first | omega | (and_intros <;> first | omega | exact rows_row _ | decide | (simp; done) | (simp; omega)) | fail) ?_)
    refine hK _ ?_; clear hK K
    refine Aw_sq fun B7 hB7 hR7 hX7 => ?_
    refine Aw_st hE [1, 4, 8, 30] [1, 4] fun K hK => ?_
    simp only [go_sem, reduceIte, Nat.reduceLT, Nat.reduceLeDiff, Nat.reduceEqDiff, Nat.reduceAdd, Nat.reduceMul, Nat.reduceSub, Nat.reduceBEq, Int.reduceToNat, List.reduceReplicate, reduceCtorEq]
    repeat (refine And.intro (by first | omega | (and_intros <;> first | omega | exact rows_row _ | decide | (simp; done) | (simp; omega)) | fail) ?_)
    refine hK _ (Aw_cond rfl (fun hc8 => ?_) (fun hc8 => ?_))
    · have hx := hc8
      simp only [Bool.not_eq_true'] at hx
      refine Aw_st hE [2] [] fun K hK => ?_
      simp only [go_sem, reduceIte, Nat.reduceLT, Nat.reduceLeDiff, Nat.reduceEqDiff, Nat.reduceAdd, Nat.reduceMul, Nat.reduceSub, Nat.reduceBEq, Int.reduceToNat, List.reduceReplicate, reduceCtorEq]
      repeat (refine And.intro (by first | omega | (and_intros <;> first | omega | exact rows_row _ | decide | (simp; done) | (simp; omega)) | fail) ?_)
      refine hK _ (Aw_ret (hR7 _ (hR2 _ (hR1 _ (hQ _ ?_)))))
      simp only [go_sem, reduceIte, Nat.reduceLT, Nat.reduceLeDiff, Nat.reduceEqDiff, Nat.reduceAdd, Nat.reduceMul, Nat.reduceSub, Nat.reduceBEq, Int.reduceToNat, List.reduceReplicate, reduceCtorEq]
      simp [subOk, hx]
    · have hx := hc8
      simp only [Bool.not_eq_false'] at hx
      refine Aw_skip (hB7 _ ?_)
      refine Aw_tx hE [1, 3, 4] [1, 4] fun K hK => ?_
      simp only [go_sem, reduceIte, Nat.reduceLT, Nat.reduceLeDiff, Nat.reduceEqDiff, Nat.reduceAdd, Nat.reduceMul, Nat.reduceSub, Nat.reduceBEq, Int.reduceToNat, List.reduceReplicate, reduceCtorEq]
      repeat (refine And.intro (by first | omega | (and_intros <;> first | omega | exact rows_row _ | decide | (simp; done) | (simp; omega)) | fail) ?_)
      refine hK _ (hN2 _ (hB1 _ ?_))
      refine Aw_st hE [2] [] fun K hK => ?_
      simp only [go_sem, reduceIte, Nat.reduceLT, Nat.reduceLeDiff, Nat.reduceEqDiff, Nat.reduceAdd, Nat.reduceMul, Nat.reduceSub, Nat.reduceBEq, Int.reduceToNat, List.reduceReplicate, reduceCtorEq]
      repeat (refine And.intro (by first | omega | (and_intros <;> first | omega | exact rows_row _ | decide | (simp; done) | (simp; omega)) | fail) ?_)
      refine ⟨fun h1 => ?_, fun h1 => ?_⟩
      all_goals
        refine hK _ (Aw_ret (hQ _ ?_))
        simp only [go_sem, reduceIte, Nat.reduceLT, Nat.reduceLeDiff, Nat.reduceEqDiff, Nat.reduceAdd, Nat.reduceMul, Nat.reduceSub, Nat.reduceBEq, Int.reduceToNat, List.reduceReplicate, reduceCtorEq]
        first | (simp [subOk, beqI, h1, hx]; done) | (simp at h1; done) | fail
  by_cases h104 : ci = 4
  · subst h104
    refine Aw_st hE [1] [1] fun K hK => ?_
    simp only [go_sem, reduceIte, Nat.reduceLT, Nat.reduceLeDiff, Nat.reduceEqDiff, Nat.reduceAdd, Nat.reduceMul, Nat.reduceSub, Nat.reduceBEq, Int.reduceToNat, List.reduceReplicate, reduceCtorEq]
    repeat (refine And.intro (by first | omega | (and_intros <;> first | omega | exact rows_row _ | decide | (simp; done) | (simp; omega)) | fail) ?_)
    refine hK _ ?_; clear hK K
    refine Aw_st hE [1, 3, 4] [1, 4] fun K hK => ?_
    simp only [go_sem, reduceIte, Nat.reduceLT, Nat.reduceLeDiff, Nat.reduceEqDiff, Nat.reduceAdd, Nat.reduceMul, Nat.reduceSub, Nat.reduceBEq, Int.reduceToNat, List.reduceReplicate, reduceCtorEq]
    repeat (refine And.intro (by first | omega | (and_intros <;> first | omega | exact rows_row _ | decide | (simp; done) | (simp; omega)) | fail) ?_)
    refine hK _ ?_; clear hK K
    refine Aw_sq fun B1 hB1 hR1 hX1 => ?_
    refine Aw_st hE [1, 3, 4, 13] [1, 4] fun K hK => ?_
    simp only [go_sem, reduceIte, Nat.reduceLT, Nat.reduceLeDiff, Nat.reduceEqDiff, Nat.reduceAdd, Nat.reduceMul, Nat.reduceSub, Nat.reduceBEq, Int.reduceToNat, List.reduceReplicate, reduceCtorEq, tst4]
    repeat (refine And.intro (by first | omega | (and_intros <;> first | omega | exact rows_row _ | decide | (simp; done) | (simp; omega)) | fail) ?_)
    skip
    refine hK _ ?_; clear hK K
    refine Aw_bk fun B2 hN2 hE2 hR2 hX2 => ?_
    refine Aw_st hE [1, 3, 4, 13, 14] [1, 4] fun K hK => ?_
    simp only [go_sem, reduceIte, Nat.reduceLT, Nat.reduceLeDiff, Nat.reduceEqDiff, Nat.reduceAdd, Nat.reduceMul, Nat.reduceSub, Nat.reduceBEq, Int.reduceToNat, List.reduceReplicate, reduceCtorEq]
    repeat (refine And.intro (by first | omega | (and_intros <;> first | omega | exact rows_row _ | decide | (simp; done) | (simp; omega)) | fail) ?_)
    refine hK _ (Aw_no rfl ?_)
    refine Aw_st hE [1, 3, 4, 13, 16, 17] [1, 4] fun K hK => ?_
    simp only [go_sem, reduceIte, Nat.reduceLT, Nat.reduceLeDiff, Nat.reduceEqDiff, Nat.reduceAdd, Nat.reduceMul, Nat.reduceSub, Nat.reduceBEq, Int.reduceToNat, List.reduceReplicate, reduceCtorEq]
    repeat (refine And.intro (by first | omega | (and_intros <;> first | omega | exact rows_row _ | decide | (simp; done) | (simp; omega)) | fail) ?_)
    refine hK _ (Aw_no rfl ?_)
    refine Aw_st hE [1, 3, 4, 13, 19, 20] [1, 4] fun K hK => ?_
    simp only [go_sem, reduceIte, Nat.reduceLT, Nat.reduceLeDiff, Nat.reduceEqDiff, Nat.reduceAdd, Nat.reduceMul, Nat.reduceSub, Nat.reduceBEq, Int.reduceToNat, List.reduceReplicate, reduceCtorEq]
    repeat (refine And.intro (by first | omega | (and_intros <;> first | omega | exact rows_row _ | decide | (simp; done) | (simp; omega)) | fail) ?_)
    refine hK _ (Aw_no rfl ?_)
    refine Aw_st hE [1, 3, 4, 13, 26, 27] [1, 4] fun K hK => ?_
    simp only [go_sem, reduceIte, Nat.reduceLT, Nat.reduceLeDiff, Nat.reduceEqDiff, Nat.reduceAdd, Nat.reduceMul, Nat.reduceSub, Nat.reduceBEq, Int.reduceToNat, List.reduceReplicate, reduceCtorEq]
    repeat (refine And.intro (by first | omega | (and_intros <;> first | omega | exact rows_row _ | decide | (simp; done) | (simp; omega)) | fail) ?_)
    refine hK _ (Aw_no rfl ?_)
    refine Aw_st hE [1, 3, 4, 13, 33, 34] [1, 4] fun K hK => ?_
    simp only [go_sem, reduceIte, Nat.reduceLT, Nat.reduceLeDiff, Nat.reduceEqDiff, Nat.reduceAdd, Nat.reduceMul, Nat.reduceSub, Nat.reduceBEq, Int.reduceToNat, List.reduceReplicate, reduceCtorEq]
    repeat (refine And.intro (by first | omega | (and_intros <;> first | omega | exact rows_row _ | decide | (simp; done) | (simp; omega)) | fail) ?_)
    refine hK _ (Aw_yes rfl ?_)
    refine Aw_st hE [1, 4, 9] [1, 4] fun K hK => ?_
    simp only [go_sem, reduceIte, Nat.reduceLT, Nat.reduceLeDiff, Nat.reduceEqDiff, Nat.reduceAdd, Nat.reduceMul, Nat.reduceSub, Nat.reduceBEq, Int.reduceToNat, List.reduceReplicate, reduceCtorEq]
    repeat (refine And.intro (by first | omega | (and_intros <;> first | omega | exact rows_row _ | decide | (simp; done) | (simp; omega)) | fail) ?_)
    refine hK _ ?_; clear hK K
    refine Aw_sq fun B8 hB8 hR8 hX8 => ?_
    refine Aw_st hE [1, 4, 9, 37] [1, 4] fun K hK => ?_
    simp only [go_sem, reduceIte, Nat.reduceLT, Nat.reduceLeDiff, Nat.reduceEqDiff, Nat.reduceAdd, Nat.reduceMul, Nat.reduceSub, Nat.reduceBEq, Int.reduceToNat, List.reduceReplicate, reduceCtorEq]
    repeat (refine And.intro (by first | omega | (and_intros <;> first | omega | exact rows_row _ | decide | (simp; done) | (simp; omega)) | fail) ?_)
    refine hK _ (Aw_cond rfl (fun hc9 => ?_) (fun hc9 => ?_))
    · have hx := hc9
      simp only [Bool.not_eq_true'] at hx
      refine Aw_st hE [2] [] fun K hK => ?_
      simp only [go_sem, reduceIte, Nat.reduceLT, Nat.reduceLeDiff, Nat.reduceEqDiff, Nat.reduceAdd, Nat.reduceMul, Nat.reduceSub, Nat.reduceBEq, Int.reduceToNat, List.reduceReplicate, reduceCtorEq]
      repeat (refine And.intro (by first | omega | (and_intros <;> first | omega | exact rows_row _ | decide | (simp; done) | (simp; omega)) | fail) ?_)
      refine hK _ (Aw_ret (hR8 _ (hR2 _ (hR1 _ (hQ _ ?_)))))
      simp only [go_sem, reduceIte, Nat.reduceLT, Nat.reduceLeDiff, Nat.reduceEqDiff, Nat.reduceAdd, Nat.reduceMul, Nat.reduceSub, Nat.reduceBEq, Int.reduceToNat, List.reduceReplicate, reduceCtorEq]
      simp [subOk, hx]
    · have hx := hc9
      simp only [Bool.not_eq_false'] at hx
      refine Aw_skip (hB8 _ ?_)
      refine Aw_tx hE [1, 3, 4] [1, 4] fun K hK => ?_
      simp only [go_sem, reduceIte, Nat.reduceLT, Nat.reduceLeDiff, Nat.reduceEqDiff, Nat.reduceAdd, Nat.reduceMul, Nat.reduceSub, Nat.reduceBEq, Int.reduceToNat, List.reduceReplicate, reduceCtorEq]
      repeat (refine And.intro (by first | omega | (and_intros <;> first | omega | exact rows_row _ | decide | (simp; done) | (simp; omega)) | fail) ?_)
      refine hK _ (hN2 _ (hB1 _ ?_))
      refine Aw_st hE [2] [] fun K hK => ?_
      simp only [go_sem, reduceIte, Nat.reduceLT, Nat.reduceLeDiff, Nat.reduceEqDiff, Nat.reduceAdd, Nat.reduceMul, Nat.reduceSub, Nat.reduceBEq, Int.reduceToNat, List.reduceReplicate, reduceCtorEq]
      repeat (refine And.intro (by first | omega | (and_intros <;> first | omega | exact rows_row _ | decide | (simp; done) | (simp; omega)) | fail) ?_)
      refine ⟨fun h1 => ?_, fun h1 => ?_⟩
      all_goals
        refine hK _ (Aw_ret (hQ _ ?_))
        simp only [go_sem, reduceIte, Nat.reduceLT, Nat.reduceLeDiff, Nat.reduceEqDiff, Nat.reduceAdd, Nat.reduceMul, Nat.reduceSub, Nat.reduceBEq, Int.reduceToNat, List.reduceReplicate, reduceCtorEq]
        first | (simp [subOk, beqI, h1, hx]; done) | (simp at h1; done) | fail
  by_cases h105 : ci = 5
  · subst h105
    refine Aw_st hE [1] [1] fun K hK => ?_
    simp only [go_sem, reduceIte, Nat.reduceLT, Nat.reduceLeDiff, Nat.reduceEqDiff, Nat.reduceAdd, Nat.reduceMul, Nat.reduceSub, Nat.reduceBEq, Int.reduceToNat, List.reduceReplicate, reduceCtorEq]
    repeat (refine And.intro (by first | omega | (and_intros <;> first | omega | exact rows_row _ | decide | (simp; done) | (simp; omega)) | fail) ?_)
    refine hK _ ?_; clear hK K
    refine Aw_st hE [1, 3, 4] [1, 4] fun K hK => ?_
    simp only [go_sem, reduceIte, Nat.reduceLT, Nat.reduceLeDiff, Nat.reduceEqDiff, Nat.reduceAdd, Nat.reduceMul, Nat.reduceSub, Nat.reduceBEq, Int.reduceToNat, List.reduceReplicate, reduceCtorEq]
    repeat (refine And.intro (by first | omega | (and_intros <;> first | omega | exact rows_row _ | decide | (simp; done) | (simp; omega)) | fail) ?_)
    refine hK _ ?_; clear hK K
    refine Aw_sq fun B1 hB1 hR1 hX1 => ?_
    refine Aw_st hE [1, 3, 4, 13] [1, 4] fun K hK => ?_
    simp only [go_sem, reduceIte, Nat.reduceLT, Nat.reduceLeDiff, Nat.reduceEqDiff, Nat.reduceAdd, Nat.reduceMul, Nat.reduceSub, Nat.reduceBEq, Int.reduceToNat, List.reduceReplicate, reduceCtorEq, tst5]
    repeat (refine And.intro (by first | omega | (and_intros <;> first | omega | exact rows_row _ | decide | (simp; done) | (simp; omega)) | fail) ?_)
    skip
    refine hK _ ?_; clear hK K
    refine Aw_bk fun B2 hN2 hE2 hR2 hX2 => ?_
    refine Aw_st hE [1, 3, 4, 13, 14] [1, 4] fun K hK => ?_
    simp only [go_sem, reduceIte, Nat.reduceLT, Nat.reduceLeDiff, Nat.reduceEqDiff, Nat.reduceAdd, Nat.reduceMul, Nat.reduceSub, Nat.reduceBEq, Int.reduceToNat, List.reduceReplicate, reduceCtorEq]
    repeat (refine And.intro (by first | omega | (and_intros <;> first | omega | exact rows_row _ | decide | (simp; done) | (simp; omega)) | fail) ?_)
    refine hK _ (Aw_no rfl ?_)
    refine Aw_st hE [1, 3, 4, 13, 16, 17] [1, 4] fun K hK => ?_
    simp only [go_sem, reduceIte, Nat.reduceLT, Nat.reduceLeDiff, Nat.reduceEqDiff, Nat.reduceAdd, Nat.reduceMul, Nat.reduceSub, Nat.reduceBEq, Int.reduceToNat, List.reduceReplicate, reduceCtorEq]
    repeat (refine And.intro (by first | omega | (and_intros <;> first | omega | exact rows_row _ | decide | (simp; done) | (simp; omega)) | fail) ?_)
    refine hK _ (Aw_no rfl ?_)
    refine Aw_st hE [1, 3, 4, 13, 19, 20] [1, 4] fun K hK => ?_
    simp only [go_sem, reduceIte, Nat.reduceLT, Nat.reduceLeDiff, Nat.reduceEqDiff, Nat.reduceAdd, Nat.reduceMul, Nat.reduceSub, Nat.reduceBEq, Int.reduceToNat, List.reduceReplicate, reduceCtorEq]
    repeat (refine And.intro (by first | omega | (and_intros <;> first | omega | exact rows_row _ | decide | (simp; done) | (simp; omega)) | fail) ?_)
    refine hK _ (Aw_no rfl ?_)
    refine Aw_st hE [1, 3, 4, 13, 26, 27] [1, 4] fun K hK => ?_
    simp only [go_sem, reduceIte, Nat.reduceLT, Nat.reduceLeDiff, Nat.reduceEqDiff, Nat.reduceAdd, Nat.reduceMul, Nat.reduceSub, Nat.reduceBEq, Int.reduceToNat, List.reduceReplicate, reduceCtorEq]
    repeat (refine And.intro (by first | omega | (and_intros <;> first | omega | exact rows_row _ | decide | (simp; done) | (simp; omega)) | fail) ?_)
    refine hK _ (Aw_no rfl ?_)
    refine Aw_st hE [1, 3, 4, 13, 33, 34] [1, 4] fun K hK => ?_
    simp only [go_sem, reduceIte, Nat.reduceLT, Nat.reduceLeDiff, Nat.reduceEqDiff, Nat.reduceAdd, Nat.reduceMul, Nat.reduceSub, Nat.reduceBEq, Int.reduceToNat, List.reduceReplicate, reduceCtorEq]
    repeat (refine And.intro (by first | omega | (and_intros <;> first | omega | exact rows_row _ | decide | (simp; done) | (simp; omega)) | fail) ?_)
    refine hK _ (Aw_no rfl ?_)
    refine Aw_st hE [1, 3, 4, 40, 41] [1, 4] fun K hK => ?_
    simp only [go_sem, reduceIte, Nat.reduceLT, Nat.reduceLeDiff, Nat.reduceEqDiff, Nat.reduceAdd, Nat.reduceMul, Nat.reduceSub, Nat.reduceBEq, Int.reduceToNat, List.reduceReplicate, reduceCtorEq]
    repeat (refine And.intro (by first | omega | (and_intros <;> first | omega | exact rows_row _ | decide | (simp; done) | (simp; omega)) | fail) ?_)
    refine hK _ (Aw_yes rfl ?_)
    refine Aw_st hE [1, 4, 10] [1, 4] fun K hK => ?_
    simp only [go_sem, reduceIte, Nat.reduceLT, Nat.reduceLeDiff, Nat.reduceEqDiff, Nat.reduceAdd, Nat.reduceMul, Nat.reduceSub, Nat.reduceBEq, Int.reduceToNat, List.reduceReplicate, reduceCtorEq]
    repeat (refine And.intro (by first | omega | (and_intros <;> first | omega | exact rows_row _ | decide | (simp; done) | (simp; omega)) | fail) ?_)
    refine hK _ ?_; clear hK K
    refine Aw_sq fun B9 hB9 hR9 hX9 => ?_
    refine Aw_st hE [1, 4, 10, 44] [1, 4] fun K hK => ?_
    simp only [go_sem, reduceIte, Nat.reduceLT, Nat.reduceLeDiff, Nat.reduceEqDiff, Nat.reduceAdd, Nat.reduceMul, Nat.reduceSub, Nat.reduceBEq, Int.reduceToNat, List.reduceReplicate, reduceCtorEq]
    repeat (refine And.intro (by first | omega | (and_intros <;> first | omega | exact rows_row _ | decide | (simp; done) | (simp; omega)) | fail) ?_)
    refine hK _ (Aw_cond rfl (fun hc10 => ?_) (fun hc10 => ?_))
    · have hx := hc10
      simp only [Bool.not_eq_true'] at hx
      refine Aw_st hE [2] [] fun K hK => ?_
      simp only [go_sem, reduceIte, Nat.reduceLT, Nat.reduceLeDiff, Nat.reduceEqDiff, Nat.reduceAdd, Nat.reduceMul, Nat.reduceSub, Nat.reduceBEq, Int.reduceToNat, List.reduceReplicate, reduceCtorEq]
      repeat (refine And.intro (by first | omega | (and_intros <;> first | omega | exact rows_row _ | decide | (simp; done) | (simp; omega)) | fail) ?_)
      refine hK _ (Aw_ret (hR9 _ (hR2 _ (hR1 _ (hQ _ ?_)))))
      simp only [go_sem, reduceIte, Nat.reduceLT, Nat.reduceLeDiff, Nat.reduceEqDiff, Nat.reduceAdd, Nat.reduceMul, Nat.reduceSub, Nat.reduceBEq, Int.reduceToNat, List.reduceReplicate, reduceCtorEq]
      simp [subOk, hx]
    · have hx := hc10
      simp only [Bool.not_eq_false'] at hx
      refine Aw_skip (hB9 _ ?_)
      refine Aw_tx hE [1, 3, 4] [1, 4] fun K hK => ?_
      simp only [go_sem, reduceIte, Nat.reduceLT, Nat.reduceLeDiff, Nat.reduceEqDiff, Nat.reduceAdd, Nat.reduceMul, Nat.reduceSub, Nat.reduceBEq, Int.reduceToNat, List.reduceReplicate, reduceCtorEq]
      repeat (refine And.intro (by first | omega | (and_intros <;> first | omega | exact rows_row _ | decide | (simp; done) | (simp; omega)) | fail) ?_)
      refine hK _ (hN2 _ (hB1 _ ?_))
      refine Aw_st hE [2] [] fun K hK => ?_
      simp only [go_sem, reduceIte, Nat.reduceLT, Nat.reduceLeDiff, Nat.reduceEqDiff, Nat.reduceAdd, Nat.reduceMul, Nat.reduceSub, Nat.reduceBEq, Int.reduceToNat, List.reduceReplicate, reduceCtorEq]
      repeat (refine And.intro (by first | omega | (and_intros <;> first | omega | exact rows_row _ | decide | (simp; done) | (simp; omega)) | fail) ?_)
      refine ⟨fun h1 => ?_, fun h1 => ?_⟩
      all_goals
        refine hK _ (Aw_ret (hQ _ ?_))
        simp only [go_sem, reduceIte, Nat.reduceLT, Nat.reduceLeDiff, Nat.reduceEqDiff, Nat.reduceAdd, Nat.reduceMul, Nat.reduceSub, Nat.reduceBEq, Int.reduceToNat, List.reduceReplicate, reduceCtorEq]
        first | (simp [subOk, beqI, h1, hx]; done) | (simp at h1; done) | fail
  refine Aw_st hE [1] [1] fun K hK => ?_
  simp only [go_sem, reduceIte, Nat.reduceLT, Nat.reduceLeDiff, Nat.reduceEqDiff, Nat.reduceAdd, Nat.reduceMul, Nat.reduceSub, Nat.reduceBEq, Int.reduceToNat, List.reduceReplicate, reduceCtorEq]
  repeat (refine And.intro (by first | omega | (and_intros <;> first | omega | exact rows_row _ | decide | (simp; done) | (simp; omega)) | fail) ?_)
  refine hK _ ?_; clear hK K
  refine Aw_st hE [1, 3, 4] [1, 4] fun K hK => ?_
  simp only [go_sem, reduceIte, Nat.reduceLT, Nat.reduceLeDiff, Nat.reduceEqDiff, Nat.reduceAdd, Nat.reduceMul, Nat.reduceSub, Nat.reduceBEq, Int.reduceToNat, List.reduceReplicate, reduceCtorEq]
  repeat (refine And.intro (by first | omega | (and_intros <;> first | omega | exact rows_row _ | decide | (simp; done) | (simp; omega)) | fail) ?_)
  refine hK _ ?_; clear hK K
  refine Aw_sq fun B1 hB1 hR1 hX1 => ?_
  refine Aw_st hE [1, 3, 4, 13] [1, 4] fun K hK => ?_
  simp only [go_sem, reduceIte, Nat.reduceLT, Nat.reduceLeDiff, Nat.reduceEqDiff, Nat.reduceAdd, Nat.reduceMul, Nat.reduceSub, Nat.reduceBEq, Int.reduceToNat, List.reduceReplicate, reduceCtorEq, tst0 h101 h102 h103 h104 h105]
  repeat (refine And.intro (by first | omega | (and_intros <;> first | omega | exact rows_row _ | decide | (simp; done) | (simp; omega)) | fail) ?_)
  skip
  refine hK _ ?_; clear hK K
  refine Aw_bk fun B2 hN2 hE2 hR2 hX2 => ?_
  refine Aw_st hE [1, 3, 4, 13, 14] [1, 4] fun K hK => ?_
  simp only [go_sem, reduceIte, Nat.reduceLT, Nat.reduceLeDiff, Nat.reduceEqDiff, Nat.reduceAdd, Nat.reduceMul, Nat.reduceSub, Nat.reduceBEq, Int.reduceToNat, List.reduceReplicate, reduceCtorEq]
  repeat (refine And.intro (by first | omega | (and_intros <;> first | omega | exact rows_row _ | decide | (simp; done) | (simp; omega)) | fail) ?_)
  refine hK _ (Aw_yes rfl ?_)
  refine Aw_st hE [] [] fun K hK => ?_
  simp only [go_sem, reduceIte, Nat.reduceLT, Nat.reduceLeDiff, Nat.reduceEqDiff, Nat.reduceAdd, Nat.reduceMul, Nat.reduceSub, Nat.reduceBEq, Int.reduceToNat, List.reduceReplicate, reduceCtorEq]
  repeat (refine And.intro (by first | omega | (and_intros <;> first | omega | exact rows_row _ | decide | (simp; done) | (simp; omega)) | fail) ?_)
  refine hK _ ?_; clear hK K
  refine Aw_st hE [2] [] fun K hK => ?_
  simp only [go_sem, reduceIte, Nat.reduceLT, Nat.reduceLeDiff, Nat.reduceEqDiff, Nat.reduceAdd, Nat.reduceMul, Nat.reduceSub, Nat.reduceBEq, Int.reduceToNat, List.reduceReplicate, reduceCtorEq]
  repeat (refine And.intro (by first | omega | (and_intros <;> first | omega | exact rows_row _ | decide | (simp; done) | (simp; omega)) | fail) ?_)
  refine hK _ (Aw_ret (hR2 _ (hR1 _ (hQ _ ?_))))
  simp only [go_sem, reduceIte, Nat.reduceLT, Nat.reduceLeDiff, Nat.reduceEqDiff, Nat.reduceAdd, Nat.reduceMul, Nat.reduceSub, Nat.reduceBEq, Int.reduceToNat, List.reduceReplicate, reduceCtorEq]
  simp [subOk, h101, h102, h103, h104, h105]
end Go.Proofs.W
end
section
namespace Go.Proofs.W
open Go Go.Eng Go.RowKit
set_option linter.unusedSimpArgs false
set_option maxRecDepth 100000

theorem mfA (v : Value) (w : World) : (Go.method 310 102 v "loop.example/wayboard/impl.fits").run Tryz.prog w = .ok (150, v) w := by kernel_rfl
theorem mfR (v : Value) (w : World) : (Go.method 310 103 v "loop.example/wayboard/impl.fits").run Tryz.prog w = .ok (151, v) w := by kernel_rfl
theorem mfM (v : Value) (w : World) : (Go.method 310 104 v "loop.example/wayboard/impl.fits").run Tryz.prog w = .ok (154, v) w := by kernel_rfl
theorem mfH (v : Value) (w : World) : (Go.method 310 105 v "loop.example/wayboard/impl.fits").run Tryz.prog w = .ok (157, v) w := by kernel_rfl
theorem mfS (v : Value) (w : World) : (Go.method 310 106 v "loop.example/wayboard/impl.fits").run Tryz.prog w = .ok (158, v) w := by kernel_rfl
def fitsT : List ((TypeId × String) × FuncId) := [((102, "loop.example/wayboard/impl.fits"), 150), ((103, "loop.example/wayboard/impl.fits"), 151), ((104, "loop.example/wayboard/impl.fits"), 154), ((105, "loop.example/wayboard/impl.fits"), 157), ((106, "loop.example/wayboard/impl.fits"), 158)]
theorem fitsT_ok : MsOk Tryz.prog fitsT := ms_cons mfA (ms_cons mfR (ms_cons mfM (ms_cons mfH (ms_cons mfS ms_nil))))
attribute [go_sem] fitsT
end Go.Proofs.W
end
section
namespace Go.Proofs.W
open Go Go.Eng Go.RowKit
set_option linter.unusedSimpArgs false
set_option maxRecDepth 100000

theorem mkOk9 (x : Int) : (decide (0 ≤ x) && decide (x ≤ 9)) = (decide (x = 0) || isM x) := by
  rw [Bool.eq_iff_iff]
  simp only [isM, Bool.and_eq_true, Bool.or_eq_true, decide_eq_true_eq]
  omega
theorem iClOk_ok : Fine Tryz.prog 46 dClOk.con := by
  refine fine_det (T := TT) Tryz.func46 rfl Tryz.ntmps46 (by rw [Tryz.results46]) rfl rfl tt (gs_nil) (ds_cons subjectOk_ok (ds_cons iIsM_ok ds_nil)) ?_
  intro args c r h hc
  simp only [dClOk, gClOk] at h
  split at h
  rotate_left
  · cases h
  obtain ⟨rfl, rfl⟩ := Prod.mk.inj (Option.some.inj h)
  refine ⟨by simp, fun k E hE Q hQ => ?_⟩
  rename_i ci n f b ref like mark clear
  refine Aw_st hE [1] [1] fun K hK => ?_
  simp only [go_sem, reduceIte, Nat.reduceLT, Nat.reduceLeDiff, Nat.reduceEqDiff, Nat.reduceAdd, Nat.reduceMul, Nat.reduceSub, Nat.reduceBEq, Int.reduceToNat, List.reduceReplicate, reduceCtorEq]
  refine hK _ ?_; clear hK K
  cases hs : subOk ci n f b with
  | false =>
    refine Aw_st hE [2] [] fun K hK => ?_
    refine aops_cut 16 fun K1 hK1 => ?_
    simp only [go_sem, reduceIte, Nat.reduceLT, Nat.reduceLeDiff, Nat.reduceEqDiff, Nat.reduceAdd, Nat.reduceMul, Nat.reduceSub, Nat.reduceBEq, Int.reduceToNat, List.reduceReplicate, reduceCtorEq, hs]
    refine hK1 _ ?_
    clear hK1
    simp only [go_sem, reduceIte, Nat.reduceLT, Nat.reduceLeDiff, Nat.reduceEqDiff, Nat.reduceAdd, Nat.reduceMul, Nat.reduceSub, Nat.reduceBEq, Int.reduceToNat, List.reduceReplicate, reduceCtorEq, hs]
    refine hK _ (Aw_ret (hQ _ ?_))
    simp only [go_sem, reduceIte, Nat.reduceLT, Nat.reduceLeDiff, Nat.reduceEqDiff, Nat.reduceAdd, Nat.reduceMul, Nat.reduceSub, Nat.reduceBEq, Int.reduceToNat, List.reduceReplicate, reduceCtorEq]
    simp only [clOk, mkOk9, hs, Bool.and_false, Bool.false_and, Bool.and_true, Bool.true_and, Bool.or_true, Bool.true_or, Bool.false_or, Bool.or_false]
  | true =>
    cases ha : decide (-1 ≤ like) with
    | false =>
      refine Aw_st hE [2] [] fun K hK => ?_
      refine aops_cut 16 fun K1 hK1 => ?_
      simp only [go_sem, reduceIte, Nat.reduceLT, Nat.reduceLeDiff, Nat.reduceEqDiff, Nat.reduceAdd, Nat.reduceMul, Nat.reduceSub, Nat.reduceBEq, Int.reduceToNat, List.reduceReplicate, reduceCtorEq, hs, ha]
      refine hK1 _ ?_
      clear hK1
      simp only [go_sem, reduceIte, Nat.reduceLT, Nat.reduceLeDiff, Nat.reduceEqDiff, Nat.reduceAdd, Nat.reduceMul, Nat.reduceSub, Nat.reduceBEq, Int.reduceToNat, List.reduceReplicate, reduceCtorEq, hs, ha]
      refine hK _ (Aw_ret (hQ _ ?_))
      simp only [go_sem, reduceIte, Nat.reduceLT, Nat.reduceLeDiff, Nat.reduceEqDiff, Nat.reduceAdd, Nat.reduceMul, Nat.reduceSub, Nat.reduceBEq, Int.reduceToNat, List.reduceReplicate, reduceCtorEq]
      simp only [clOk, mkOk9, hs, ha, Bool.and_false, Bool.false_and, Bool.and_true, Bool.true_and, Bool.or_true, Bool.true_or, Bool.false_or, Bool.or_false]
    | true =>
      cases hb : decide (like ≤ 9) with
      | false =>
        refine Aw_st hE [2] [] fun K hK => ?_
        refine aops_cut 16 fun K1 hK1 => ?_
        simp only [go_sem, reduceIte, Nat.reduceLT, Nat.reduceLeDiff, Nat.reduceEqDiff, Nat.reduceAdd, Nat.reduceMul, Nat.reduceSub, Nat.reduceBEq, Int.reduceToNat, List.reduceReplicate, reduceCtorEq, hs, ha, hb]
        refine hK1 _ ?_
        clear hK1
        simp only [go_sem, reduceIte, Nat.reduceLT, Nat.reduceLeDiff, Nat.reduceEqDiff, Nat.reduceAdd, Nat.reduceMul, Nat.reduceSub, Nat.reduceBEq, Int.reduceToNat, List.reduceReplicate, reduceCtorEq, hs, ha, hb]
        refine hK _ (Aw_ret (hQ _ ?_))
        simp only [go_sem, reduceIte, Nat.reduceLT, Nat.reduceLeDiff, Nat.reduceEqDiff, Nat.reduceAdd, Nat.reduceMul, Nat.reduceSub, Nat.reduceBEq, Int.reduceToNat, List.reduceReplicate, reduceCtorEq]
        simp only [clOk, mkOk9, hs, ha, hb, Bool.and_false, Bool.false_and, Bool.and_true, Bool.true_and, Bool.or_true, Bool.true_or, Bool.false_or, Bool.or_false]
      | true =>
        cases hm0 : decide (mark = 0) with
        | false =>
          cases hmm : isM mark with
          | false =>
            refine Aw_st hE [2] [] fun K hK => ?_
            refine aops_cut 16 fun K1 hK1 => ?_
            simp only [go_sem, reduceIte, Nat.reduceLT, Nat.reduceLeDiff, Nat.reduceEqDiff, Nat.reduceAdd, Nat.reduceMul, Nat.reduceSub, Nat.reduceBEq, Int.reduceToNat, List.reduceReplicate, reduceCtorEq, hs, ha, hb, hm0, hmm]
            refine hK1 _ ?_
            clear hK1
            simp only [go_sem, reduceIte, Nat.reduceLT, Nat.reduceLeDiff, Nat.reduceEqDiff, Nat.reduceAdd, Nat.reduceMul, Nat.reduceSub, Nat.reduceBEq, Int.reduceToNat, List.reduceReplicate, reduceCtorEq, hs, ha, hb, hm0, hmm]
            refine hK _ (Aw_ret (hQ _ ?_))
            simp only [go_sem, reduceIte, Nat.reduceLT, Nat.reduceLeDiff, Nat.reduceEqDiff, Nat.reduceAdd, Nat.reduceMul, Nat.reduceSub, Nat.reduceBEq, Int.reduceToNat, List.reduceReplicate, reduceCtorEq]
            simp only [clOk, mkOk9, hs, ha, hb, hm0, hmm, Bool.and_false, Bool.false_and, Bool.and_true, Bool.true_and, Bool.or_true, Bool.true_or, Bool.false_or, Bool.or_false]
          | true =>
            cases hc0 : decide (clear = 0) with
            | false =>
              cases hcm : isM clear with
              | false =>
                refine Aw_st hE [2] [] fun K hK => ?_
                refine aops_cut 16 fun K1 hK1 => ?_
                simp only [go_sem, reduceIte, Nat.reduceLT, Nat.reduceLeDiff, Nat.reduceEqDiff, Nat.reduceAdd, Nat.reduceMul, Nat.reduceSub, Nat.reduceBEq, Int.reduceToNat, List.reduceReplicate, reduceCtorEq, hs, ha, hb, hm0, hmm, hc0, hcm]
                refine hK1 _ ?_
                clear hK1
                simp only [go_sem, reduceIte, Nat.reduceLT, Nat.reduceLeDiff, Nat.reduceEqDiff, Nat.reduceAdd, Nat.reduceMul, Nat.reduceSub, Nat.reduceBEq, Int.reduceToNat, List.reduceReplicate, reduceCtorEq, hs, ha, hb, hm0, hmm, hc0, hcm]
                refine hK _ (Aw_ret (hQ _ ?_))
                simp only [go_sem, reduceIte, Nat.reduceLT, Nat.reduceLeDiff, Nat.reduceEqDiff, Nat.reduceAdd, Nat.reduceMul, Nat.reduceSub, Nat.reduceBEq, Int.reduceToNat, List.reduceReplicate, reduceCtorEq]
                simp only [clOk, mkOk9, hs, ha, hb, hm0, hmm, hc0, hcm, Bool.and_false, Bool.false_and, Bool.and_true, Bool.true_and, Bool.or_true, Bool.true_or, Bool.false_or, Bool.or_false]
              | true =>
                refine Aw_st hE [2] [] fun K hK => ?_
                refine aops_cut 16 fun K1 hK1 => ?_
                simp only [go_sem, reduceIte, Nat.reduceLT, Nat.reduceLeDiff, Nat.reduceEqDiff, Nat.reduceAdd, Nat.reduceMul, Nat.reduceSub, Nat.reduceBEq, Int.reduceToNat, List.reduceReplicate, reduceCtorEq, hs, ha, hb, hm0, hmm, hc0, hcm]
                refine hK1 _ ?_
                clear hK1
                simp only [go_sem, reduceIte, Nat.reduceLT, Nat.reduceLeDiff, Nat.reduceEqDiff, Nat.reduceAdd, Nat.reduceMul, Nat.reduceSub, Nat.reduceBEq, Int.reduceToNat, List.reduceReplicate, reduceCtorEq, hs, ha, hb, hm0, hmm, hc0, hcm]
                refine hK _ (Aw_ret (hQ _ ?_))
                simp only [go_sem, reduceIte, Nat.reduceLT, Nat.reduceLeDiff, Nat.reduceEqDiff, Nat.reduceAdd, Nat.reduceMul, Nat.reduceSub, Nat.reduceBEq, Int.reduceToNat, List.reduceReplicate, reduceCtorEq]
                simp only [clOk, mkOk9, hs, ha, hb, hm0, hmm, hc0, hcm, Bool.and_false, Bool.false_and, Bool.and_true, Bool.true_and, Bool.or_true, Bool.true_or, Bool.false_or, Bool.or_false]
            | true =>
              refine Aw_st hE [2] [] fun K hK => ?_
              refine aops_cut 16 fun K1 hK1 => ?_
              simp only [go_sem, reduceIte, Nat.reduceLT, Nat.reduceLeDiff, Nat.reduceEqDiff, Nat.reduceAdd, Nat.reduceMul, Nat.reduceSub, Nat.reduceBEq, Int.reduceToNat, List.reduceReplicate, reduceCtorEq, hs, ha, hb, hm0, hmm, hc0]
              refine hK1 _ ?_
              clear hK1
              simp only [go_sem, reduceIte, Nat.reduceLT, Nat.reduceLeDiff, Nat.reduceEqDiff, Nat.reduceAdd, Nat.reduceMul, Nat.reduceSub, Nat.reduceBEq, Int.reduceToNat, List.reduceReplicate, reduceCtorEq, hs, ha, hb, hm0, hmm, hc0]
              refine hK _ (Aw_ret (hQ _ ?_))
              simp only [go_sem, reduceIte, Nat.reduceLT, Nat.reduceLeDiff, Nat.reduceEqDiff, Nat.reduceAdd, Nat.reduceMul, Nat.reduceSub, Nat.reduceBEq, Int.reduceToNat, List.reduceReplicate, reduceCtorEq]
              simp only [clOk, mkOk9, hs, ha, hb, hm0, hmm, hc0, Bool.and_false, Bool.false_and, Bool.and_true, Bool.true_and, Bool.or_true, Bool.true_or, Bool.false_or, Bool.or_false]
        | true =>
          cases hc0 : decide (clear = 0) with
          | false =>
            cases hcm : isM clear with
            | false =>
              refine Aw_st hE [2] [] fun K hK => ?_
              refine aops_cut 16 fun K1 hK1 => ?_
              simp only [go_sem, reduceIte, Nat.reduceLT, Nat.reduceLeDiff, Nat.reduceEqDiff, Nat.reduceAdd, Nat.reduceMul, Nat.reduceSub, Nat.reduceBEq, Int.reduceToNat, List.reduceReplicate, reduceCtorEq, hs, ha, hb, hm0, hc0, hcm]
              refine hK1 _ ?_
              clear hK1
              simp only [go_sem, reduceIte, Nat.reduceLT, Nat.reduceLeDiff, Nat.reduceEqDiff, Nat.reduceAdd, Nat.reduceMul, Nat.reduceSub, Nat.reduceBEq, Int.reduceToNat, List.reduceReplicate, reduceCtorEq, hs, ha, hb, hm0, hc0, hcm]
              refine hK _ (Aw_ret (hQ _ ?_))
              simp only [go_sem, reduceIte, Nat.reduceLT, Nat.reduceLeDiff, Nat.reduceEqDiff, Nat.reduceAdd, Nat.reduceMul, Nat.reduceSub, Nat.reduceBEq, Int.reduceToNat, List.reduceReplicate, reduceCtorEq]
              simp only [clOk, mkOk9, hs, ha, hb, hm0, hc0, hcm, Bool.and_false, Bool.false_and, Bool.and_true, Bool.true_and, Bool.or_true, Bool.true_or, Bool.false_or, Bool.or_false]
            | true =>
              refine Aw_st hE [2] [] fun K hK => ?_
              refine aops_cut 16 fun K1 hK1 => ?_
              simp only [go_sem, reduceIte, Nat.reduceLT, Nat.reduceLeDiff, Nat.reduceEqDiff, Nat.reduceAdd, Nat.reduceMul, Nat.reduceSub, Nat.reduceBEq, Int.reduceToNat, List.reduceReplicate, reduceCtorEq, hs, ha, hb, hm0, hc0, hcm]
              refine hK1 _ ?_
              clear hK1
              simp only [go_sem, reduceIte, Nat.reduceLT, Nat.reduceLeDiff, Nat.reduceEqDiff, Nat.reduceAdd, Nat.reduceMul, Nat.reduceSub, Nat.reduceBEq, Int.reduceToNat, List.reduceReplicate, reduceCtorEq, hs, ha, hb, hm0, hc0, hcm]
              refine hK _ (Aw_ret (hQ _ ?_))
              simp only [go_sem, reduceIte, Nat.reduceLT, Nat.reduceLeDiff, Nat.reduceEqDiff, Nat.reduceAdd, Nat.reduceMul, Nat.reduceSub, Nat.reduceBEq, Int.reduceToNat, List.reduceReplicate, reduceCtorEq]
              simp only [clOk, mkOk9, hs, ha, hb, hm0, hc0, hcm, Bool.and_false, Bool.false_and, Bool.and_true, Bool.true_and, Bool.or_true, Bool.true_or, Bool.false_or, Bool.or_false]
          | true =>
            refine Aw_st hE [2] [] fun K hK => ?_
            refine aops_cut 16 fun K1 hK1 => ?_
            simp only [go_sem, reduceIte, Nat.reduceLT, Nat.reduceLeDiff, Nat.reduceEqDiff, Nat.reduceAdd, Nat.reduceMul, Nat.reduceSub, Nat.reduceBEq, Int.reduceToNat, List.reduceReplicate, reduceCtorEq, hs, ha, hb, hm0, hc0]
            refine hK1 _ ?_
            clear hK1
            simp only [go_sem, reduceIte, Nat.reduceLT, Nat.reduceLeDiff, Nat.reduceEqDiff, Nat.reduceAdd, Nat.reduceMul, Nat.reduceSub, Nat.reduceBEq, Int.reduceToNat, List.reduceReplicate, reduceCtorEq, hs, ha, hb, hm0, hc0]
            refine hK _ (Aw_ret (hQ _ ?_))
            simp only [go_sem, reduceIte, Nat.reduceLT, Nat.reduceLeDiff, Nat.reduceEqDiff, Nat.reduceAdd, Nat.reduceMul, Nat.reduceSub, Nat.reduceBEq, Int.reduceToNat, List.reduceReplicate, reduceCtorEq]
            simp only [clOk, mkOk9, hs, ha, hb, hm0, hc0, Bool.and_false, Bool.false_and, Bool.and_true, Bool.true_and, Bool.or_true, Bool.true_or, Bool.false_or, Bool.or_false]

end Go.Proofs.W
end
section
namespace Go.Proofs.W
open Go Go.Eng Go.RowKit
set_option linter.unusedSimpArgs false
set_option maxRecDepth 100000

def gFitsI : List AV → Option (Prop × AV)
  | [.agg [.v (.int .i64 ci), .v (.int .i64 n), .v (.int .i64 f), .v (.int .i64 b), .v (.bool ref), .v (.int .i64 like), .v (.int .i64 mark), .v (.int .i64 clear)], .agg [.v (.int .i64 rf), .v (.int .i64 rb), .sl _ e1, .v (.int .i64 rk), .sl _ e2]] => (match intsL e1, intsL e2 with
    | some p, some m => some (p.length ≤ 1000000 ∧ m.length ≤ 1000000, bv (clOk ⟨ci, n, f, b, ref, like, mark, clear⟩ && (okR ⟨rf, rb, p, rk, m⟩ && fitsB ⟨ci, n, f, b, ref, like, mark, clear⟩ ⟨rf, rb, p, rk, m⟩)))
    | _, _ => none)
  | _ => none
def dFitsI (pb : Addr) : DFn := { g := gFitsI, inv := WP pb }
attribute [go_sem] gFitsI dFitsI
theorem clOk_sub {c : Cl} (h : clOk c = true) : subOk c.ci c.n c.f c.b = true := (clOk_parts h).2.2.2
theorem subOk_ci {ci n f b : Int} (h : subOk ci n f b = true) : ci = 1 ∨ ci = 2 ∨ ci = 3 ∨ ci = 4 ∨ ci = 5 := by
  unfold subOk at h
  by_cases h1 : ci = 1
  · exact .inl h1
  by_cases h2 : ci = 2
  · exact .inr (.inl h2)
  by_cases h3 : ci = 3
  · exact .inr (.inr (.inl h3))
  by_cases h4 : ci = 4
  · exact .inr (.inr (.inr (.inl h4)))
  by_cases h5 : ci = 5
  · exact .inr (.inr (.inr (.inr h5)))
  rw [if_neg h1, if_neg h2, if_neg h3, if_neg (by omega)] at h
  cases h
theorem iFits_ok (pb : Addr) : Fine Tryz.prog 18 (dFitsI pb).con := by
  refine fine_detG [] gl_nil fitsT fitsT_ok (T := TT) Tryz.func18 rfl Tryz.ntmps18 (by rw [Tryz.results18]) rfl rfl tt gs_nil (ds_cons iClOk_ok (ds_cons (iRtOk_ok pb) (ds_cons testOf_ok (ds_cons fitsA_ok (ds_cons fitsR_ok (ds_cons fitsM_ok (ds_cons (fitsH_ok pb) (ds_cons fitsS_ok ds_nil) (wp_inh pb)))))) (wp_inh pb))) ?_
  intro args c r h hc
  simp only [dFitsI, gFitsI] at h
  split at h
  rotate_left
  · cases h
  split at h
  rotate_left
  · cases h
  rename_i ci n f b ref like mark clear rf rb t1 e1 rk t2 e2 _ _ p m hl1 hl2
  obtain rfl := intsL_eq hl1
  obtain rfl := intsL_eq hl2
  obtain ⟨rfl, rfl⟩ := Prod.mk.inj (Option.some.inj h)
  refine ⟨by simp, fun k E hE Q hQ => ?_⟩
  have hrt : okR ⟨rf, rb, p, rk, m⟩ = rtOk rf rb p rk m := rfl
  cases hck : clOk ⟨ci, n, f, b, ref, like, mark, clear⟩ with
  | false =>
    refine Aw_st hE [2, 3] [2, 3] fun K hK => ?_
    simp only [go_sem, reduceIte, Nat.reduceLT, Nat.reduceLeDiff, Nat.reduceEqDiff, Nat.reduceAdd, Nat.reduceMul, Nat.reduceSub, Nat.reduceBEq, Int.reduceToNat, List.reduceReplicate, reduceCtorEq]
    repeat (refine And.intro (by first | omega | (and_intros <;> first | omega | exact rows_row _ | decide | (simp; done) | (simp; omega)) | fail) ?_)
    refine hK _ ?_; clear hK K
    refine Aw_sd hE [4] [] 6 (by kernel_rfl) fun K hK => ?_
    simp only [go_sem, reduceIte, Nat.reduceLT, Nat.reduceLeDiff, Nat.reduceEqDiff, Nat.reduceAdd, Nat.reduceMul, Nat.reduceSub, Nat.reduceBEq, Int.reduceToNat, List.reduceReplicate, reduceCtorEq, hck]
    repeat (refine And.intro (by first | omega | (and_intros <;> first | omega | exact rows_row _ | decide | (simp; done) | (simp; omega)) | fail) ?_)
    skip
    refine hK _ (Aw_ret (hQ _ ?_))
    simp only [go_sem, reduceIte, Nat.reduceLT, Nat.reduceLeDiff, Nat.reduceEqDiff, Nat.reduceAdd, Nat.reduceMul, Nat.reduceSub, Nat.reduceBEq, Int.reduceToNat, List.reduceReplicate, reduceCtorEq, hck, Bool.false_and]
  | true =>
    cases hok : rtOk rf rb p rk m with
    | false =>
      refine Aw_st hE [2, 3] [2, 3] fun K hK => ?_
      simp only [go_sem, reduceIte, Nat.reduceLT, Nat.reduceLeDiff, Nat.reduceEqDiff, Nat.reduceAdd, Nat.reduceMul, Nat.reduceSub, Nat.reduceBEq, Int.reduceToNat, List.reduceReplicate, reduceCtorEq]
      repeat (refine And.intro (by first | omega | (and_intros <;> first | omega | exact rows_row _ | decide | (simp; done) | (simp; omega)) | fail) ?_)
      refine hK _ ?_; clear hK K
      refine Aw_sd hE [4] [] 6 (by kernel_rfl) fun K hK => ?_
      simp only [go_sem, reduceIte, Nat.reduceLT, Nat.reduceLeDiff, Nat.reduceEqDiff, Nat.reduceAdd, Nat.reduceMul, Nat.reduceSub, Nat.reduceBEq, Int.reduceToNat, List.reduceReplicate, reduceCtorEq, hck, hok]
      repeat (refine And.intro (by first | omega | (and_intros <;> first | omega | exact rows_row _ | decide | (simp; done) | (simp; omega)) | fail) ?_)
      skip
      refine hK _ (Aw_ret (hQ _ ?_))
      simp only [go_sem, reduceIte, Nat.reduceLT, Nat.reduceLeDiff, Nat.reduceEqDiff, Nat.reduceAdd, Nat.reduceMul, Nat.reduceSub, Nat.reduceBEq, Int.reduceToNat, List.reduceReplicate, reduceCtorEq, hck, hrt, hok, Bool.false_and, Bool.and_false]
    | true =>
      have hsub := clOk_sub hck
      simp only at hsub
      obtain ⟨hp1, hp2, hp3, hp4, hp5⟩ := okR_parts (hrt.trans hok)
      simp only at hp1 hp2 hp3 hp4 hp5
      rcases subOk_ci hsub with rfl | rfl | rfl | rfl | rfl
      · skip
        refine Aw_st hE [2, 3] [2, 3] fun K hK => ?_
        simp only [go_sem, reduceIte, Nat.reduceLT, Nat.reduceLeDiff, Nat.reduceEqDiff, Nat.reduceAdd, Nat.reduceMul, Nat.reduceSub, Nat.reduceBEq, Int.reduceToNat, List.reduceReplicate, reduceCtorEq]
        repeat (refine And.intro (by first | omega | (and_intros <;> first | omega | exact rows_row _ | decide | (simp; done) | (simp; omega)) | fail) ?_)
        refine hK _ ?_; clear hK K
        refine Aw_sd hE [4] [] 6 (by kernel_rfl) fun K hK => ?_
        simp only [go_sem, reduceIte, Nat.reduceLT, Nat.reduceLeDiff, Nat.reduceEqDiff, Nat.reduceAdd, Nat.reduceMul, Nat.reduceSub, Nat.reduceBEq, Int.reduceToNat, List.reduceReplicate, reduceCtorEq, hck, hok, tst1]
        repeat (refine And.intro (by first | omega | (and_intros <;> first | omega | exact rows_row _ | decide | (simp; done) | (simp; omega)) | fail) ?_)
        skip
        refine hK _ (Aw_ret (hQ _ ?_))
        simp only [go_sem, reduceIte, Nat.reduceLT, Nat.reduceLeDiff, Nat.reduceEqDiff, Nat.reduceAdd, Nat.reduceMul, Nat.reduceSub, Nat.reduceBEq, Int.reduceToNat, List.reduceReplicate, reduceCtorEq, hck, hrt, hok]
        rfl
      · skip
        refine Aw_st hE [2, 3] [2, 3] fun K hK => ?_
        simp only [go_sem, reduceIte, Nat.reduceLT, Nat.reduceLeDiff, Nat.reduceEqDiff, Nat.reduceAdd, Nat.reduceMul, Nat.reduceSub, Nat.reduceBEq, Int.reduceToNat, List.reduceReplicate, reduceCtorEq]
        repeat (refine And.intro (by first | omega | (and_intros <;> first | omega | exact rows_row _ | decide | (simp; done) | (simp; omega)) | fail) ?_)
        refine hK _ ?_; clear hK K
        refine Aw_sd hE [4] [] 6 (by kernel_rfl) fun K hK => ?_
        simp only [go_sem, reduceIte, Nat.reduceLT, Nat.reduceLeDiff, Nat.reduceEqDiff, Nat.reduceAdd, Nat.reduceMul, Nat.reduceSub, Nat.reduceBEq, Int.reduceToNat, List.reduceReplicate, reduceCtorEq, hck, hok, tst2]
        repeat (refine And.intro (by first | omega | (and_intros <;> first | omega | exact rows_row _ | decide | (simp; done) | (simp; omega)) | fail) ?_)
        skip
        refine hK _ (Aw_ret (hQ _ ?_))
        simp only [go_sem, reduceIte, Nat.reduceLT, Nat.reduceLeDiff, Nat.reduceEqDiff, Nat.reduceAdd, Nat.reduceMul, Nat.reduceSub, Nat.reduceBEq, Int.reduceToNat, List.reduceReplicate, reduceCtorEq, hck, hrt, hok]
        have hfb : rngOk f b = true := by simp [subOk] at hsub; exact hsub.2
        simp [fitsB, hp1, hfb]
      · skip
        refine Aw_st hE [2, 3] [2, 3] fun K hK => ?_
        simp only [go_sem, reduceIte, Nat.reduceLT, Nat.reduceLeDiff, Nat.reduceEqDiff, Nat.reduceAdd, Nat.reduceMul, Nat.reduceSub, Nat.reduceBEq, Int.reduceToNat, List.reduceReplicate, reduceCtorEq]
        repeat (refine And.intro (by first | omega | (and_intros <;> first | omega | exact rows_row _ | decide | (simp; done) | (simp; omega)) | fail) ?_)
        refine hK _ ?_; clear hK K
        refine Aw_sd hE [4] [] 6 (by kernel_rfl) fun K hK => ?_
        simp only [go_sem, reduceIte, Nat.reduceLT, Nat.reduceLeDiff, Nat.reduceEqDiff, Nat.reduceAdd, Nat.reduceMul, Nat.reduceSub, Nat.reduceBEq, Int.reduceToNat, List.reduceReplicate, reduceCtorEq, hck, hok, tst3]
        repeat (refine And.intro (by first | omega | (and_intros <;> first | omega | exact rows_row _ | decide | (simp; done) | (simp; omega)) | fail) ?_)
        skip
        refine hK _ (Aw_ret (hQ _ ?_))
        simp only [go_sem, reduceIte, Nat.reduceLT, Nat.reduceLeDiff, Nat.reduceEqDiff, Nat.reduceAdd, Nat.reduceMul, Nat.reduceSub, Nat.reduceBEq, Int.reduceToNat, List.reduceReplicate, reduceCtorEq, hck, hrt, hok]
        rfl
      · skip
        refine Aw_st hE [2, 3] [2, 3] fun K hK => ?_
        simp only [go_sem, reduceIte, Nat.reduceLT, Nat.reduceLeDiff, Nat.reduceEqDiff, Nat.reduceAdd, Nat.reduceMul, Nat.reduceSub, Nat.reduceBEq, Int.reduceToNat, List.reduceReplicate, reduceCtorEq]
        repeat (refine And.intro (by first | omega | (and_intros <;> first | omega | exact rows_row _ | decide | (simp; done) | (simp; omega)) | fail) ?_)
        refine hK _ ?_; clear hK K
        refine Aw_sd hE [4] [] 6 (by kernel_rfl) fun K hK => ?_
        simp only [go_sem, reduceIte, Nat.reduceLT, Nat.reduceLeDiff, Nat.reduceEqDiff, Nat.reduceAdd, Nat.reduceMul, Nat.reduceSub, Nat.reduceBEq, Int.reduceToNat, List.reduceReplicate, reduceCtorEq, hck, hok, tst4]
        repeat (refine And.intro (by first | omega | (and_intros <;> first | omega | exact rows_row _ | decide | (simp; done) | (simp; omega)) | fail) ?_)
        skip
        refine hK _ (Aw_ret (hQ _ ?_))
        simp only [go_sem, reduceIte, Nat.reduceLT, Nat.reduceLeDiff, Nat.reduceEqDiff, Nat.reduceAdd, Nat.reduceMul, Nat.reduceSub, Nat.reduceBEq, Int.reduceToNat, List.reduceReplicate, reduceCtorEq, hck, hrt, hok]
        have hn : isH n = true := by simp [subOk] at hsub; exact hsub.1.1
        simp [fitsB, hp3, hn]
      · skip
        refine Aw_st hE [2, 3] [2, 3] fun K hK => ?_
        simp only [go_sem, reduceIte, Nat.reduceLT, Nat.reduceLeDiff, Nat.reduceEqDiff, Nat.reduceAdd, Nat.reduceMul, Nat.reduceSub, Nat.reduceBEq, Int.reduceToNat, List.reduceReplicate, reduceCtorEq]
        repeat (refine And.intro (by first | omega | (and_intros <;> first | omega | exact rows_row _ | decide | (simp; done) | (simp; omega)) | fail) ?_)
        refine hK _ ?_; clear hK K
        refine Aw_sd hE [4] [] 6 (by kernel_rfl) fun K hK => ?_
        simp only [go_sem, reduceIte, Nat.reduceLT, Nat.reduceLeDiff, Nat.reduceEqDiff, Nat.reduceAdd, Nat.reduceMul, Nat.reduceSub, Nat.reduceBEq, Int.reduceToNat, List.reduceReplicate, reduceCtorEq, hck, hok, tst5]
        repeat (refine And.intro (by first | omega | (and_intros <;> first | omega | exact rows_row _ | decide | (simp; done) | (simp; omega)) | fail) ?_)
        skip
        refine hK _ (Aw_ret (hQ _ ?_))
        simp only [go_sem, reduceIte, Nat.reduceLT, Nat.reduceLeDiff, Nat.reduceEqDiff, Nat.reduceAdd, Nat.reduceMul, Nat.reduceSub, Nat.reduceBEq, Int.reduceToNat, List.reduceReplicate, reduceCtorEq, hck, hrt, hok]
        rfl
end Go.Proofs.W
end
section
namespace Go.Proofs.W
open Go Go.Eng Go.RowKit
set_option linter.unusedSimpArgs false
set_option maxRecDepth 100000

/-! the program's policies -/
theorem inh_t {I : World → Prop} : Inh I (fun _ => True) false := fun _ _ _ _ _ => trivial
def gC1 : List AV → Option (Prop × AV) | [.agg [.v (.int .i64 ci), .v (.int .i64 n), .v (.int .i64 f), .v (.int .i64 b), .v (.bool ref), .v (.int .i64 like), .v (.int .i64 mark), .v (.int .i64 clear)]] => some (True, bv (!clOk ⟨ci, n, f, b, ref, like, mark, clear⟩)) | _ => none
def dC1 : DFn := { g := gC1 }
def gC2 : List AV → Option (Prop × AV)
  | [.agg [.v (.int .i64 ci), .v (.int .i64 n), .v (.int .i64 f), .v (.int .i64 b), .v (.bool ref), .v (.int .i64 like), .v (.int .i64 mark), .v (.int .i64 clear)], .el [.v (.int .i64 rf), .v (.int .i64 rb), .sl e1, .v (.int .i64 rk), .sl e2]] => (match intsL e1, intsL e2 with
    | some p, some m => some (p.length ≤ 1000000 ∧ m.length ≤ 1000000, bv (clOk ⟨ci, n, f, b, ref, like, mark, clear⟩ && (okR ⟨rf, rb, p, rk, m⟩ && fitsB ⟨ci, n, f, b, ref, like, mark, clear⟩ ⟨rf, rb, p, rk, m⟩)))
    | _, _ => none)
  | _ => none
def dC2 (pb : Addr) : DFn := { g := gC2, inv := WP pb }
attribute [go_sem] gC1 dC1 gC2 dC2
theorem polC1_ok : Fine Tryz.prog 77 dC1.con := by
  refine fine_det (T := TT) Tryz.func77 rfl Tryz.ntmps77 (by rw [Tryz.results77]) rfl rfl tt (gs_nil) (ds_cons iClOk_ok ds_nil) ?_
  intro args c r h hc
  simp only [dC1, gC1] at h
  split at h
  rotate_left
  · cases h
  obtain ⟨rfl, rfl⟩ := Prod.mk.inj (Option.some.inj h)
  refine ⟨by simp, fun k E hE Q hQ => ?_⟩
  refine Aw_st hE [1] [1] fun K hK => ?_
  simp only [go_sem, reduceIte, Nat.reduceLT, Nat.reduceLeDiff, Nat.reduceEqDiff, Nat.reduceAdd, Nat.reduceMul, Nat.reduceSub, Nat.reduceBEq, Int.reduceToNat, List.reduceReplicate, reduceCtorEq]
  repeat (refine And.intro (by first | omega | (and_intros <;> first | omega | exact rows_row _ | decide | (simp; done) | (simp; omega)) | fail) ?_)
  refine hK _ ?_; clear hK K
  refine Aw_st hE [2] [] fun K hK => ?_
  simp only [go_sem, reduceIte, Nat.reduceLT, Nat.reduceLeDiff, Nat.reduceEqDiff, Nat.reduceAdd, Nat.reduceMul, Nat.reduceSub, Nat.reduceBEq, Int.reduceToNat, List.reduceReplicate, reduceCtorEq]
  repeat (refine And.intro (by first | omega | (and_intros <;> first | omega | exact rows_row _ | decide | (simp; done) | (simp; omega)) | fail) ?_)
  refine hK _ (Aw_ret (hQ _ ?_))
  simp only [go_sem, reduceIte, Nat.reduceLT, Nat.reduceLeDiff, Nat.reduceEqDiff, Nat.reduceAdd, Nat.reduceMul, Nat.reduceSub, Nat.reduceBEq, Int.reduceToNat, List.reduceReplicate, reduceCtorEq]
theorem polC2_ok (pb : Addr) : Fine Tryz.prog 39 (dC2 pb).con := by
  refine fine_det (T := TT) Tryz.func39 rfl Tryz.ntmps39 (by rw [Tryz.results39]) rfl rfl tt (gs_nil) (ds_cons (iFits_ok pb) ds_nil (wp_inh pb)) ?_
  intro args c r h hc
  simp only [dC2, gC2] at h
  split at h
  rotate_left
  · cases h
  split at h
  rotate_left
  · cases h
  rename_i ci n f b ref like mark clear rf rb e1 rk e2 _ _ p m hl1 hl2
  obtain rfl := intsL_eq hl1
  obtain rfl := intsL_eq hl2
  obtain ⟨rfl, rfl⟩ := Prod.mk.inj (Option.some.inj h)
  refine ⟨by simp, fun k E hE Q hQ => ?_⟩
  refine Aw_st hE [1, 2] [2] fun K hK => ?_
  simp only [go_sem, reduceIte, Nat.reduceLT, Nat.reduceLeDiff, Nat.reduceEqDiff, Nat.reduceAdd, Nat.reduceMul, Nat.reduceSub, Nat.reduceBEq, Int.reduceToNat, List.reduceReplicate, reduceCtorEq]
  repeat (refine And.intro (by first | omega | (and_intros <;> first | omega | exact rows_row _ | decide | (simp; done) | (simp; omega)) | fail) ?_)
  refine hK _ ?_; clear hK K
  refine Aw_st hE [3] [] fun K hK => ?_
  simp only [go_sem, reduceIte, Nat.reduceLT, Nat.reduceLeDiff, Nat.reduceEqDiff, Nat.reduceAdd, Nat.reduceMul, Nat.reduceSub, Nat.reduceBEq, Int.reduceToNat, List.reduceReplicate, reduceCtorEq]
  repeat (refine And.intro (by first | omega | (and_intros <;> first | omega | exact rows_row _ | decide | (simp; done) | (simp; omega)) | fail) ?_)
  refine hK _ (Aw_ret (hQ _ ?_))
  simp only [go_sem, reduceIte, Nat.reduceLT, Nat.reduceLeDiff, Nat.reduceEqDiff, Nat.reduceAdd, Nat.reduceMul, Nat.reduceSub, Nat.reduceBEq, Int.reduceToNat, List.reduceReplicate, reduceCtorEq]
abbrev cloR (r : Rt) : AV := .dv (.fn 39 [.ptr [.v (.int .i64 r.f), .v (.int .i64 r.b), .sl (rows r.path), .v (.int .i64 r.like), .sl (rows r.marks)]])
/-- the first clause that is not ok; the first that fits -/
def gIdC : List AV → Option (Prop × AV)
  | [.sl _ els, .dv (.fn 39 [.ptr [.v (.int .i64 rf), .v (.int .i64 rb), .sl e1, .v (.int .i64 rk), .sl e2]])] => (match clsL els, intsL e1, intsL e2 with
    | some l, some p, some m => some (l.length ≤ 4294967296 ∧ p.length ≤ 1000000 ∧ m.length ≤ 1000000, iv (idxB (fun c => clOk c && (okR ⟨rf, rb, p, rk, m⟩ && fitsB c ⟨rf, rb, p, rk, m⟩)) l 0))
    | _, _, _ => none)
  | [.sl _ els, y] => (match fnOf y, clsL els with
    | some g, some l => if g = 77 then some (l.length ≤ 4294967296, iv (idxB (fun c => !clOk c) l 0)) else none
    | _, _ => none)
  | _ => none
def dIdC (pb : Addr) : DFn := { g := gIdC, inv := WP pb }
attribute [go_sem] gIdC dIdC
theorem idC_ok (pb : Addr) : Fine Tryz.prog 38 (dIdC pb).con := by
  refine fine_det (T := TT) Tryz.func38 rfl Tryz.ntmps38 (by rw [Tryz.results38]) rfl rfl tt gs_nil (ds_cons polC1_ok (ds_cons (polC2_ok pb) ds_nil (wp_inh pb))) ?_
  intro args c r h hc
  simp only [dIdC, gIdC] at h
  split at h
  · split at h
    rotate_left
    · cases h
    rename_i t els rf rb e1 rk e2 _ _ _ l p m hcl hl1 hl2
    obtain rfl := clsL_eq hcl
    obtain rfl := intsL_eq hl1
    obtain rfl := intsL_eq hl2
    obtain ⟨rfl, rfl⟩ := Prod.mk.inj (Option.some.inj h)
    refine ⟨by simp, fun k E hE Q hQ => ?_⟩
    refine Aw_st hE [0, 1] [] fun K hK => ?_
    simp only [go_sem, reduceIte, Nat.reduceLT, Nat.reduceLeDiff, Nat.reduceEqDiff, Nat.reduceAdd, Nat.reduceMul, Nat.reduceSub, Nat.reduceBEq, Int.reduceToNat, List.reduceReplicate, reduceCtorEq]
    repeat (refine And.intro (by first | omega | (and_intros <;> first | omega | exact rows_row _ | decide | (simp; done) | (simp; omega)) | fail) ?_)
    refine hK _ ?_; clear hK K
    refine Aw_sq fun B1 hB1 hR1 hX1 => ?_
    refine Aw_st hE [0, 1, 7, 8] [] fun K hK => ?_
    simp only [go_sem, reduceIte, Nat.reduceLT, Nat.reduceLeDiff, Nat.reduceEqDiff, Nat.reduceAdd, Nat.reduceMul, Nat.reduceSub, Nat.reduceBEq, Int.reduceToNat, List.reduceReplicate, reduceCtorEq]
    repeat (refine And.intro (by first | omega | (and_intros <;> first | omega | exact rows_row _ | decide | (simp; done) | (simp; omega)) | fail) ?_)
    refine hK _ ?_; clear hK K
    refine Aw_bk fun B2 hN2 hE2 hR2 hX2 => ?_
    refine Aw_lp (fun i : Nat => ⟨19, [(0, .sl t (crows l)), (1, cloR ⟨rf, rb, p, rk, m⟩), (7, iv l.length), (8, iv i)], [], k⟩) (fun i : Nat => i ≤ l.length ∧ idxB (fun c => clOk c && (okR ⟨rf, rb, p, rk, m⟩ && fitsB c ⟨rf, rb, p, rk, m⟩)) l 0 = idxB (fun c => clOk c && (okR ⟨rf, rb, p, rk, m⟩ && fitsB c ⟨rf, rb, p, rk, m⟩)) (l.drop i) i) (fun i : Nat => l.length - i) (0) (Le.refl _) (⟨by omega, rfl⟩) fun i hi B3 hN3 hR3 hX3 => ?_
    refine Aw_st hE [0, 1, 7, 8, 9] [] fun K hK => ?_
    simp only [go_sem, reduceIte, Nat.reduceLT, Nat.reduceLeDiff, Nat.reduceEqDiff, Nat.reduceAdd, Nat.reduceMul, Nat.reduceSub, Nat.reduceBEq, Int.reduceToNat, List.reduceReplicate, reduceCtorEq]
    repeat (refine And.intro (by first | omega | (and_intros <;> first | omega | exact rows_row _ | decide | (simp; done) | (simp; omega)) | fail) ?_)
    refine hK _ ?_; clear hK K
    refine Aw_sq fun B4 hB4 hR4 hX4 => ?_
    refine Aw_cond rfl (fun hc5 => ?_) (fun hc5 => ?_)
    · simp only [decide_eq_true_eq] at hc5
      have hil : i < l.length := by omega
      have hs := hi.2.trans (idxB_drop hil)
      have hget := crows_get l i hil
      generalize l[i] = x at hget hs
      obtain ⟨ci, n, f, b, ref, like, mark, clear⟩ := x
      refine Aw_skip (hB4 _ ?_)
      refine Aw_sq fun B6 hB6 hR6 hX6 => ?_
      refine Aw_bk fun B7 hN7 hE7 hR7 hX7 => ?_
      refine Aw_st hE [0, 1, 5, 7, 8] [] fun K hK => ?_
      simp only [go_sem, reduceIte, Nat.reduceLT, Nat.reduceLeDiff, Nat.reduceEqDiff, Nat.reduceAdd, Nat.reduceMul, Nat.reduceSub, Nat.reduceBEq, Int.reduceToNat, List.reduceReplicate, reduceCtorEq]
      repeat (refine And.intro (by first | omega | (and_intros <;> first | omega | exact rows_row _ | decide | (simp; done) | (simp; omega)) | fail) ?_)
      refine hK _ ?_; clear hK K
      refine Aw_st hE [0, 1, 5, 7, 8, 16] [] fun K hK => ?_
      simp only [go_sem, reduceIte, Nat.reduceLT, Nat.reduceLeDiff, Nat.reduceEqDiff, Nat.reduceAdd, Nat.reduceMul, Nat.reduceSub, Nat.reduceBEq, Int.reduceToNat, List.reduceReplicate, reduceCtorEq, hget]
      repeat (refine And.intro (by first | omega | (and_intros <;> first | omega | exact rows_row _ | decide | (simp; done) | (simp; omega)) | fail) ?_)
      refine hK _ (Aw_cond rfl (fun hc8 => ?_) (fun hc8 => ?_))
      · rw [hc8] at hs
        refine Aw_st hE [4] [] fun K hK => ?_
        simp only [go_sem, reduceIte, Nat.reduceLT, Nat.reduceLeDiff, Nat.reduceEqDiff, Nat.reduceAdd, Nat.reduceMul, Nat.reduceSub, Nat.reduceBEq, Int.reduceToNat, List.reduceReplicate, reduceCtorEq]
        repeat (refine And.intro (by first | omega | (and_intros <;> first | omega | exact rows_row _ | decide | (simp; done) | (simp; omega)) | fail) ?_)
        refine hK _ (Aw_ret (hR7 _ (hR6 _ (hR3 _ (hR2 _ (hR1 _ (hQ _ ?_)))))))
        simp only [go_sem, reduceIte, Nat.reduceLT, Nat.reduceLeDiff, Nat.reduceEqDiff, Nat.reduceAdd, Nat.reduceMul, Nat.reduceSub, Nat.reduceBEq, Int.reduceToNat, List.reduceReplicate, reduceCtorEq, hs]
      · rw [hc8] at hs
        refine Aw_skip (hN7 _ (hB6 _ ?_))
        refine Aw_tx hE [0, 1, 7, 8] [] fun K hK => ?_
        simp only [go_sem, reduceIte, Nat.reduceLT, Nat.reduceLeDiff, Nat.reduceEqDiff, Nat.reduceAdd, Nat.reduceMul, Nat.reduceSub, Nat.reduceBEq, Int.reduceToNat, List.reduceReplicate, reduceCtorEq]
        repeat (refine And.intro (by first | omega | (and_intros <;> first | omega | exact rows_row _ | decide | (simp; done) | (simp; omega)) | fail) ?_)
        refine hK _ (hN3 (i + 1) _ (⟨by omega, hs⟩) (by omega) (Le.refl _))
    · simp only [decide_eq_false_iff_not] at hc5
      refine Aw_exit (hX4 _ _ (hX3 _ _ (hE2 _ (hB1 _ ?_))))
      refine Aw_st hE [4] [] fun K hK => ?_
      simp only [go_sem, reduceIte, Nat.reduceLT, Nat.reduceLeDiff, Nat.reduceEqDiff, Nat.reduceAdd, Nat.reduceMul, Nat.reduceSub, Nat.reduceBEq, Int.reduceToNat, List.reduceReplicate, reduceCtorEq]
      repeat (refine And.intro (by first | omega | (and_intros <;> first | omega | exact rows_row _ | decide | (simp; done) | (simp; omega)) | fail) ?_)
      refine hK _ (Aw_ret (hQ _ ?_))
      simp only [go_sem, reduceIte, Nat.reduceLT, Nat.reduceLeDiff, Nat.reduceEqDiff, Nat.reduceAdd, Nat.reduceMul, Nat.reduceSub, Nat.reduceBEq, Int.reduceToNat, List.reduceReplicate, reduceCtorEq]
      rw [hi.2, List.drop_eq_nil_of_le (by omega)]
      rfl
  · split at h
    rotate_left
    · cases h
    split at h
    rotate_left
    · cases h
    rename_i t els y hny _ _ g l hf hcl hg
    obtain rfl := clsL_eq hcl
    subst hg
    obtain rfl := fnOf_ok hf
    obtain ⟨rfl, rfl⟩ := Prod.mk.inj (Option.some.inj h)
    refine ⟨by simp, fun k E hE Q hQ => ?_⟩
    refine Aw_st hE [0, 1] [] fun K hK => ?_
    simp only [go_sem, reduceIte, Nat.reduceLT, Nat.reduceLeDiff, Nat.reduceEqDiff, Nat.reduceAdd, Nat.reduceMul, Nat.reduceSub, Nat.reduceBEq, Int.reduceToNat, List.reduceReplicate, reduceCtorEq]
    repeat (refine And.intro (by first | omega | (and_intros <;> first | omega | exact rows_row _ | decide | (simp; done) | (simp; omega)) | fail) ?_)
    refine hK _ ?_; clear hK K
    refine Aw_sq fun B1 hB1 hR1 hX1 => ?_
    refine Aw_st hE [0, 1, 7, 8] [] fun K hK => ?_
    simp only [go_sem, reduceIte, Nat.reduceLT, Nat.reduceLeDiff, Nat.reduceEqDiff, Nat.reduceAdd, Nat.reduceMul, Nat.reduceSub, Nat.reduceBEq, Int.reduceToNat, List.reduceReplicate, reduceCtorEq]
    repeat (refine And.intro (by first | omega | (and_intros <;> first | omega | exact rows_row _ | decide | (simp; done) | (simp; omega)) | fail) ?_)
    refine hK _ ?_; clear hK K
    refine Aw_bk fun B2 hN2 hE2 hR2 hX2 => ?_
    refine Aw_lp (fun i : Nat => ⟨19, [(0, .sl t (crows l)), (1, .v (.func (.func 77) #[] #[])), (7, iv l.length), (8, iv i)], [], k⟩) (fun i : Nat => i ≤ l.length ∧ idxB (fun c => !clOk c) l 0 = idxB (fun c => !clOk c) (l.drop i) i) (fun i : Nat => l.length - i) (0) (Le.refl _) (⟨by omega, rfl⟩) fun i hi B3 hN3 hR3 hX3 => ?_
    refine Aw_st hE [0, 1, 7, 8, 9] [] fun K hK => ?_
    simp only [go_sem, reduceIte, Nat.reduceLT, Nat.reduceLeDiff, Nat.reduceEqDiff, Nat.reduceAdd, Nat.reduceMul, Nat.reduceSub, Nat.reduceBEq, Int.reduceToNat, List.reduceReplicate, reduceCtorEq]
    repeat (refine And.intro (by first | omega | (and_intros <;> first | omega | exact rows_row _ | decide | (simp; done) | (simp; omega)) | fail) ?_)
    refine hK _ ?_; clear hK K
    refine Aw_sq fun B4 hB4 hR4 hX4 => ?_
    refine Aw_cond rfl (fun hc5 => ?_) (fun hc5 => ?_)
    · simp only [decide_eq_true_eq] at hc5
      have hil : i < l.length := by omega
      have hs := hi.2.trans (idxB_drop hil)
      have hget := crows_get l i hil
      generalize l[i] = x at hget hs
      obtain ⟨ci, n, f, b, ref, like, mark, clear⟩ := x
      refine Aw_skip (hB4 _ ?_)
      refine Aw_sq fun B6 hB6 hR6 hX6 => ?_
      refine Aw_bk fun B7 hN7 hE7 hR7 hX7 => ?_
      refine Aw_st hE [0, 1, 5, 7, 8] [] fun K hK => ?_
      simp only [go_sem, reduceIte, Nat.reduceLT, Nat.reduceLeDiff, Nat.reduceEqDiff, Nat.reduceAdd, Nat.reduceMul, Nat.reduceSub, Nat.reduceBEq, Int.reduceToNat, List.reduceReplicate, reduceCtorEq]
      repeat (refine And.intro (by first | omega | (and_intros <;> first | omega | exact rows_row _ | decide | (simp; done) | (simp; omega)) | fail) ?_)
      refine hK _ ?_; clear hK K
      refine Aw_st hE [0, 1, 5, 7, 8, 16] [] fun K hK => ?_
      simp only [go_sem, reduceIte, Nat.reduceLT, Nat.reduceLeDiff, Nat.reduceEqDiff, Nat.reduceAdd, Nat.reduceMul, Nat.reduceSub, Nat.reduceBEq, Int.reduceToNat, List.reduceReplicate, reduceCtorEq, hget]
      repeat (refine And.intro (by first | omega | (and_intros <;> first | omega | exact rows_row _ | decide | (simp; done) | (simp; omega)) | fail) ?_)
      refine hK _ (Aw_cond rfl (fun hc8 => ?_) (fun hc8 => ?_))
      · rw [hc8] at hs
        refine Aw_st hE [4] [] fun K hK => ?_
        simp only [go_sem, reduceIte, Nat.reduceLT, Nat.reduceLeDiff, Nat.reduceEqDiff, Nat.reduceAdd, Nat.reduceMul, Nat.reduceSub, Nat.reduceBEq, Int.reduceToNat, List.reduceReplicate, reduceCtorEq]
        repeat (refine And.intro (by first | omega | (and_intros <;> first | omega | exact rows_row _ | decide | (simp; done) | (simp; omega)) | fail) ?_)
        refine hK _ (Aw_ret (hR7 _ (hR6 _ (hR3 _ (hR2 _ (hR1 _ (hQ _ ?_)))))))
        simp only [go_sem, reduceIte, Nat.reduceLT, Nat.reduceLeDiff, Nat.reduceEqDiff, Nat.reduceAdd, Nat.reduceMul, Nat.reduceSub, Nat.reduceBEq, Int.reduceToNat, List.reduceReplicate, reduceCtorEq, hs]
      · rw [hc8] at hs
        refine Aw_skip (hN7 _ (hB6 _ ?_))
        refine Aw_tx hE [0, 1, 7, 8] [] fun K hK => ?_
        simp only [go_sem, reduceIte, Nat.reduceLT, Nat.reduceLeDiff, Nat.reduceEqDiff, Nat.reduceAdd, Nat.reduceMul, Nat.reduceSub, Nat.reduceBEq, Int.reduceToNat, List.reduceReplicate, reduceCtorEq]
        repeat (refine And.intro (by first | omega | (and_intros <;> first | omega | exact rows_row _ | decide | (simp; done) | (simp; omega)) | fail) ?_)
        refine hK _ (hN3 (i + 1) _ (⟨by omega, hs⟩) (by omega) (Le.refl _))
    · simp only [decide_eq_false_iff_not] at hc5
      refine Aw_exit (hX4 _ _ (hX3 _ _ (hE2 _ (hB1 _ ?_))))
      refine Aw_st hE [4] [] fun K hK => ?_
      simp only [go_sem, reduceIte, Nat.reduceLT, Nat.reduceLeDiff, Nat.reduceEqDiff, Nat.reduceAdd, Nat.reduceMul, Nat.reduceSub, Nat.reduceBEq, Int.reduceToNat, List.reduceReplicate, reduceCtorEq]
      repeat (refine And.intro (by first | omega | (and_intros <;> first | omega | exact rows_row _ | decide | (simp; done) | (simp; omega)) | fail) ?_)
      refine hK _ (Aw_ret (hQ _ ?_))
      simp only [go_sem, reduceIte, Nat.reduceLT, Nat.reduceLeDiff, Nat.reduceEqDiff, Nat.reduceAdd, Nat.reduceMul, Nat.reduceSub, Nat.reduceBEq, Int.reduceToNat, List.reduceReplicate, reduceCtorEq]
      rw [hi.2, List.drop_eq_nil_of_le (by omega)]
      rfl
  · cases h
def gCtC : List AV → Option (Prop × AV)
  | [.sl _ els, y] => (match fnOf y, clsL els with
    | some g, some l => if g = 77 then some (l.length ≤ 4294967296, bv (l.any fun c => !clOk c)) else none
    | _, _ => none)
  | _ => none
def dCtC (pb : Addr) : DFn := { g := gCtC, inv := WP pb }
attribute [go_sem] gCtC dCtC
theorem ctC_ok (pb : Addr) : Fine Tryz.prog 76 (dCtC pb).con := by
  refine fine_det (T := TT) Tryz.func76 rfl Tryz.ntmps76 (by rw [Tryz.results76]) rfl rfl tt gs_nil (ds_cons (idC_ok pb) ds_nil (wp_inh pb)) ?_
  intro args c r h hc
  simp only [dCtC, gCtC] at h
  split at h
  rotate_left
  · cases h
  split at h
  rotate_left
  · cases h
  split at h
  rotate_left
  · cases h
  rename_i t els y _ _ g l hf hcl hg
  obtain rfl := clsL_eq hcl
  subst hg
  obtain rfl := fnOf_ok hf
  obtain ⟨rfl, rfl⟩ := Prod.mk.inj (Option.some.inj h)
  refine ⟨by simp, fun k E hE Q hQ => ?_⟩
  refine Aw_st hE [0, 1] [] fun K hK => ?_
  simp only [go_sem, reduceIte, Nat.reduceLT, Nat.reduceLeDiff, Nat.reduceEqDiff, Nat.reduceAdd, Nat.reduceMul, Nat.reduceSub, Nat.reduceBEq, Int.reduceToNat, List.reduceReplicate, reduceCtorEq]
  repeat (refine And.intro (by first | omega | (and_intros <;> first | omega | exact rows_row _ | decide | (simp; done) | (simp; omega)) | fail) ?_)
  refine hK _ ?_; clear hK K
  refine Aw_st hE [4] [] fun K hK => ?_
  simp only [go_sem, reduceIte, Nat.reduceLT, Nat.reduceLeDiff, Nat.reduceEqDiff, Nat.reduceAdd, Nat.reduceMul, Nat.reduceSub, Nat.reduceBEq, Int.reduceToNat, List.reduceReplicate, reduceCtorEq]
  repeat (refine And.intro (by first | omega | (and_intros <;> first | omega | exact rows_row _ | decide | (simp; done) | (simp; omega)) | fail) ?_)
  refine hK _ (Aw_ret (hQ _ ?_))
  simp only [go_sem, reduceIte, Nat.reduceLT, Nat.reduceLeDiff, Nat.reduceEqDiff, Nat.reduceAdd, Nat.reduceMul, Nat.reduceSub, Nat.reduceBEq, Int.reduceToNat, List.reduceReplicate, reduceCtorEq]
  exact idxB_any l 0
def dPolOkI (pb : Addr) : DFn := { g := gPolOk, inv := WP pb }
attribute [go_sem] dPolOkI
theorem any_not_all (l : List Cl) : (!l.any fun c => !clOk c) = l.all clOk := by
  induction l with
  | nil => rfl
  | cons c l ih => rw [List.any_cons, List.all_cons, ← ih]; cases clOk c <;> simp
theorem iPolOk_ok (pb : Addr) : Fine Tryz.prog 37 (dPolOkI pb).con := by
  refine fine_det (T := TT) Tryz.func37 rfl Tryz.ntmps37 (by rw [Tryz.results37]) rfl rfl tt gs_nil (ds_cons (ctC_ok pb) ds_nil (wp_inh pb)) ?_
  intro args c r h hc
  simp only [dPolOkI, gPolOk] at h
  split at h
  rotate_left
  · cases h
  split at h
  rotate_left
  · cases h
  rename_i t els _ l hcl
  obtain rfl := clsL_eq hcl
  obtain ⟨rfl, rfl⟩ := Prod.mk.inj (Option.some.inj h)
  refine ⟨by simp, fun k E hE Q hQ => ?_⟩
  refine Aw_st hE [0] [] fun K hK => ?_
  simp only [go_sem, reduceIte, Nat.reduceLT, Nat.reduceLeDiff, Nat.reduceEqDiff, Nat.reduceAdd, Nat.reduceMul, Nat.reduceSub, Nat.reduceBEq, Int.reduceToNat, List.reduceReplicate, reduceCtorEq]
  repeat (refine And.intro (by first | omega | (and_intros <;> first | omega | exact rows_row _ | decide | (simp; done) | (simp; omega)) | fail) ?_)
  refine hK _ ?_; clear hK K
  refine Aw_st hE [2] [] fun K hK => ?_
  simp only [go_sem, reduceIte, Nat.reduceLT, Nat.reduceLeDiff, Nat.reduceEqDiff, Nat.reduceAdd, Nat.reduceMul, Nat.reduceSub, Nat.reduceBEq, Int.reduceToNat, List.reduceReplicate, reduceCtorEq]
  repeat (refine And.intro (by first | omega | (and_intros <;> first | omega | exact rows_row _ | decide | (simp; done) | (simp; omega)) | fail) ?_)
  refine ⟨fun h5 => ⟨by omega, ?_⟩, fun h5 => ?_⟩
  all_goals
    refine hK _ (Aw_ret (hQ _ ?_))
    simp only [go_sem, reduceIte, Nat.reduceLT, Nat.reduceLeDiff, Nat.reduceEqDiff, Nat.reduceAdd, Nat.reduceMul, Nat.reduceSub, Nat.reduceBEq, Int.reduceToNat, List.reduceReplicate, reduceCtorEq]
    simp only [decide_eq_true_eq, decide_eq_false_iff_not] at h5
    first | (rw [polOk, any_not_all, decide_eq_true (show l.length ≤ 5 by omega)]; rfl) | (rw [polOk, decide_eq_false (show ¬ l.length ≤ 5 by omega)]; rfl) | fail
end Go.Proofs.W
end
