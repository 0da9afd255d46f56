/- YtpgilgnkiceggaaDoorWd: part of the proof that what was told of a range is found, for every input that the row speaks of (no condition of ours). -/
import Derived.Test.YtpgilgnkiceggaaDoorWc
import Derived.Test.YtpgilgnkiceggaaDoorWa
import Derived.Test.YtpgilgnkiceggaaDoorWb
import Derived.Test.YtpgilgnkiceggaaDoorEc
set_option linter.unusedVariables false
set_option linter.unusedSimpArgs false
section
namespace Go.Proofs.W
open Go Go.Eng Go.RowKit
set_option linter.unusedSimpArgs false
set_option maxRecDepth 100000

/-! what a house told is drawn -/
theorem fromD_pre (h : Int) : cFromD.pre [.rd, iv h] = True := by simp [cFromD]
theorem fromD_post (args : List AV) (K : AV → Prop) : (∀ r, cFromD.post args r → K r) = (∀ x : Rt, (x.path.length ≤ 3 ∧ x.marks.length ≤ 9) → K x.av) := by
  apply propext
  exact ⟨fun h p hp => h _ ⟨p, hp, rfl⟩, fun h r ⟨p, hp, e⟩ => e ▸ h p hp⟩
theorem fromD_ex (args : List AV) : (∃ r, cFromD.post args r) = True := eq_true ⟨_, ⟨0, 0, [], 0, []⟩, by simp, rfl⟩
attribute [go_sem] fromD_pre fromD_post fromD_ex upC dnC enC handG hand0
theorem LeE_fG {E : En} {tb : Tb} (hE : TbOk E tb) (ht : tb.lent = false) {st : St} (d : Nat) (L : List Gt) {rest : List AV} (hl : lkm d st.m = some (cGs L ++ rest)) : LeE E st (st.frz d (gD L)) :=
  LeE_frz (hE.nl ht) d (L.length * 6) hl (by rw [List.take_left' (cGs_len L)]; exact ofAll_cGs L)
/-- the data, or a view of it that is lent -/
def twoC (A : ConM) : ConM := { pre := fun a m => (m = [] ∧ A.pre a m) ∨ (m ≠ [] ∧ (lendC A).pre a m), post := fun a m r m2 => (m = [] → A.post a m r m2) ∧ (m ≠ [] → (lendC A).post a m r m2) }
theorem twoC_ok {P : Program} {f : FuncId} {A : ConM} (hA : FineM P f A) (iA : ∀ w, A.inv w) : FineM P f (twoC A) := by
  refine ⟨hA.1, fun c args m1 vs h1 h2 h3 h4 _ h6 h7 h8 h9 => ?_⟩
  rcases h4 with ⟨hm, hp⟩ | ⟨hm, hp⟩
  · exact (hA.2 c args m1 vs h1 h2 h3 hp (iA _) h6 h7 h8 h9).mono fun e w' ⟨v, r, m2, c', he, hq, O⟩ => ⟨v, r, m2, c', he, ⟨fun _ => hq, fun h => absurd hm h⟩, O⟩
  · exact ((lendC_ok hA).2 c args m1 vs h1 h2 h3 hp (iA _) h6 h7 h8 h9).mono fun e w' ⟨v, r, m2, c', he, hq, O⟩ => ⟨v, r, m2, c', he, ⟨fun h => absurd h hm, fun _ => hq⟩, O⟩
def cTellO : ConM := twoC cTellM
theorem ribTellO_ok : FineM Tryd.prog 57 cTellO := twoC_ok ribTellM_ok (fun _ => trivial)
section
variable {h : Int} {up : Bool} {l : List Gt} {f b : Int} {p : List Int} {k : Int} {m : List Int}
theorem tellO_pre : cTellO.pre [.agg [iv h, bv up, .sl none (grows l)], .agg [iv f, iv b, isl p, iv k, isl m]] [] = ((l.length ≤ 1000 ∧ lensG l) ∧ p.length ≤ 1000 ∧ m.length ≤ 900) := by
  rw [← tellM_pre]
  exact propext ⟨fun h => h.elim (fun h => h.2) (fun h => absurd rfl h.1), fun h => .inl ⟨rfl, h⟩⟩
theorem tellO_post (K : AV → List (Nat × List AV) → Prop) : (∀ r m2, cTellO.post [.agg [iv h, bv up, .sl none (grows l)], .agg [iv f, iv b, isl p, iv k, isl m]] [] r m2 → K r m2) = tlC ⟨h, up, l⟩ ⟨f, b, p, k, m⟩ K := by
  rw [← tellM_post h up l f b p k m [] K]
  exact propext ⟨fun hh r m2 hp => hh r m2 ⟨fun _ => hp, fun h => absurd rfl h⟩, fun hh r m2 hp => hh r m2 (hp.1 rfl)⟩
theorem tellO_some {zh : Int} {zu zo : Bool} {zl : List Gt} (hz : telO ⟨h, up, l⟩ ⟨f, b, p, k, m⟩ = some (⟨zh, zu, zl⟩, zo)) (K : AV → List (Nat × List AV) → Prop) : (∀ r m2, cTellO.post [.agg [iv h, bv up, .sl none (grows l)], .agg [iv f, iv b, isl p, iv k, isl m]] [] r m2 → K r m2) =
    (∀ cap, zl.length ≤ cap → K (.tup [.agg [iv zh, bv zu, .xs 900 0 zl.length cap 6], bv zo]) [(4, [iv zh, bv zu, .xs 900 0 zl.length cap 6]), (900, cGs zl ++ jk ((cap - zl.length) * 6))]) := by
  rw [tellO_post]
  apply propext
  refine ⟨fun hh => hh.2 _ hz, fun hh => ⟨fun e => ?_, fun z' hz' => ?_⟩⟩
  · rw [e] at hz; cases hz
  · obtain rfl := Option.some.inj (hz.symm.trans hz'); exact hh
theorem frz_args (cap : Nat) : List.map (AV.frz 1000 (gD l)) [.agg [iv h, bv up, .xs 1000 0 l.length cap 6], .agg [iv f, iv b, isl p, iv k, isl m]] = [.agg [iv h, bv up, .sl none (grows l)], .agg [iv f, iv b, isl p, iv k, isl m]] := by
  have e : AV.frz 1000 (gD l) (.xs 1000 0 l.length cap 6) = .sl none (grows l) := by
    simp only [AV.frz, if_true, Nat.zero_add, List.drop_zero]
    rw [if_pos (by rw [gD_len]; exact Nat.le_refl _), frz_grows]
  simp only [List.map_cons, List.map_nil, AV.frz, AV.frzAll]
  simp only [AV.frz] at e
  rw [e]
theorem tellV_p (cap : Nat) (rest : List AV) (hl : (l.length ≤ 1000 ∧ lensG l) ∧ p.length ≤ 1000 ∧ m.length ≤ 900) : cTellO.pre [.agg [iv h, bv up, .xs 1000 0 l.length cap 6], .agg [iv f, iv b, isl p, iv k, isl m]] [(1000, cGs l ++ rest)] :=
  .inr ⟨by simp, _, gD l, rfl, by
    show DV.ofAll ((cGs l ++ rest).take (l.length * 6)) = _
    rw [List.take_left' (cGs_len l)]; exact ofAll_cGs l, by rw [frz_args, tellM_pre]; exact hl⟩
theorem tellV_q {cap : Nat} {rest : List AV} (hf : ∀ z, telO ⟨h, up, l⟩ ⟨f, b, p, k, m⟩ = some z → z.2 = false) {r : AV} {m2 : List (Nat × List AV)} (hp : cTellO.post [.agg [iv h, bv up, .xs 1000 0 l.length cap 6], .agg [iv f, iv b, isl p, iv k, isl m]] [(1000, cGs l ++ rest)] r m2) :
    ∃ h' u' w, r = .tup [.agg [iv h', bv u', .v w], bv false] ∧ m2 = [(1000, cGs l ++ rest)] := by
  obtain ⟨ls, ys, r0, m0, e, hy, hq, hpl, e2⟩ := hp.2 (by simp)
  obtain ⟨e1, _⟩ := List.cons.inj e
  obtain ⟨_, e1⟩ := Prod.mk.inj e1
  subst e1
  have hy2 : DV.ofAll ((cGs l ++ rest).take (l.length * 6)) = some ys := hy
  rw [List.take_left' (cGs_len l), ofAll_cGs] at hy2
  obtain rfl := Option.some.inj hy2
  rw [frz_args] at hq
  have key : ∃ h' u' a, r0 = .tup [.agg [iv h', bv u', a], bv false] ∧ (a = .nl ∨ ∃ d off n cap sz, a = .xs d off n cap sz) := by
    refine hq h up l f b p k m rfl (fun r0 _ => ∃ h' u' a, r0 = .tup [.agg [iv h', bv u', a], bv false] ∧ (a = .nl ∨ ∃ d off n cap sz, a = .xs d off n cap sz)) ⟨fun _ => ⟨0, false, .nl, rfl, .inl rfl⟩, fun z hz cap hc => ?_⟩
    have := hf z hz
    obtain ⟨⟨zh, zu, zl⟩, zo⟩ := z
    simp only at this
    subst this
    exact ⟨zh, zu, _, rfl, .inr ⟨_, _, _, _, _, rfl⟩⟩
  obtain ⟨h', u', a, rfl, ha⟩ := key
  have hpl2 : ∃ w, r = .tup [.agg [iv h', bv u', .v w], bv false] := by
    rcases ha with rfl | ⟨d, off, n, cap, sz, rfl⟩
    all_goals
      simp only [Pl, PlL] at hpl
      obtain ⟨ls', rfl, y, ys, rfl, ⟨ls2, rfl, y1, ys1, rfl, rfl, y2, ys2, rfl, rfl, y3, ys3, rfl, ⟨w, rfl⟩, rfl⟩, y4, ys4, rfl, rfl, rfl⟩ := hpl
      exact ⟨w, rfl⟩
  obtain ⟨w, rfl⟩ := hpl2
  exact ⟨h', u', w, rfl, e2⟩
theorem tellV_eq {cap : Nat} {rest : List AV} (hf : ∀ z, telO ⟨h, up, l⟩ ⟨f, b, p, k, m⟩ = some z → z.2 = false) (K : AV → List (Nat × List AV) → Prop) :
    (∀ r m2, cTellO.post [.agg [iv h, bv up, .xs 1000 0 l.length cap 6], .agg [iv f, iv b, isl p, iv k, isl m]] [(1000, cGs l ++ rest)] r m2 → K r m2) =
    (∀ (h' : Int) (u' : Bool) (w : Value), cTellO.post [.agg [iv h, bv up, .xs 1000 0 l.length cap 6], .agg [iv f, iv b, isl p, iv k, isl m]] [(1000, cGs l ++ rest)] (.tup [.agg [iv h', bv u', .v w], bv false]) [(1000, cGs l ++ rest)] → K (.tup [.agg [iv h', bv u', .v w], bv false]) [(1000, cGs l ++ rest)]) := by
  apply propext
  refine ⟨fun hh h' u' w hp => hh _ _ hp, fun hh r m2 hp => ?_⟩
  obtain ⟨h', u', w, rfl, rfl⟩ := tellV_q hf hp
  exact hh h' u' w hp
end
theorem telO_two (b : Rb) (x : Rt) : (∃ h u l, telO b x = some (⟨h, u, l⟩, true)) ∨ (∀ z, telO b x = some z → z.2 = false) := by
  cases h : telO b x with
  | none => exact .inr fun z hz => by cases hz
  | some z =>
    obtain ⟨⟨zh, zu, zl⟩, zo⟩ := z
    cases zo with
    | true => exact .inl ⟨zh, zu, zl, rfl⟩
    | false => exact .inr fun z hz => by obtain rfl := Option.some.inj hz; rfl
def cRibD : Con := { pre := fun args => ∃ h : Int, args = [.rd, iv h] ∧ isH h = true, post := fun _ r => ∃ b : Rb, (b.all.length ≤ 7 ∧ lensG b.all) ∧ r = b.av, cost := 240, draws := true }
theorem cRibD_own : cRibD.own = false := rfl
theorem cRibD_draws : cRibD.draws = true := rfl
theorem cRibD_cost : cRibD.cost = 240 := rfl
attribute [go_sem] cRibD_own cRibD_draws cRibD_cost
def ribS (h0 : Int) (up : Bool) (l : List Gt) (cap : Nat) (n : Int) (rn : Nat) : St := ⟨74, [(0, .rd), (1, iv h0), (4, .loc 4 0), (5, .loc 5 0), (6, iv n)], [(4, [iv 0, bv false, .nl]), (5, [iv h0, bv up, .xs 60 0 l.length cap 6]), (60, cGs l ++ jk ((cap - l.length) * 6))], rn⟩
theorem cGs_stk (d : Nat) : ∀ l : List Gt, AV.stripAll d (cGs l) = cGs l
  | [] => rfl
  | g :: l => by
    rw [AV.stripAll_eq, cGs, List.map_append, ← AV.stripAll_eq, ← AV.stripAll_eq, cGs_stk d l]
    rfl
theorem cGj_stk (d n : Nat) (l : List Gt) : AV.stripAll d (cGs l ++ jk n) = cGs l ++ jk n := by
  rw [AV.stripAll_eq, List.map_append, ← AV.stripAll_eq, cGs_stk]
  simp [jk, AV.strip]
theorem cGj_str (d n : Nat) (l : List Gt) : AV.stripLAll d (cGs l ++ jk n) = cGs l ++ jk n := by
  rw [AV.stripLAll_eq, List.map_append, ← AV.stripLAll_eq, cGs_strip]
  simp [jk, AV.stripL]
theorem okRt_len {x : Rt} (h : okRt x) : x.path.length ≤ 1000 ∧ x.marks.length ≤ 900 := by
  obtain ⟨_, h1, _, _, _, h2⟩ := h
  exact ⟨by omega, by omega⟩
def ribT (h0 : Int) (up : Bool) (l : List Gt) (cap : Nat) (rn : Nat) : St := ⟨74, [(0, .rd), (4, .loc 4 0), (5, .loc 5 0)], [(4, [iv 0, bv false, .nl]), (5, [iv h0, bv up, .xs 60 0 l.length cap 6]), (60, cGs l ++ jk ((cap - l.length) * 6))], rn⟩
set_option maxHeartbeats 4000000 in
theorem l92Rib_ok : Fine Tryd.prog 39 cRibD := by
  refine fine_ofX [] gl_nil [] ms_nil [(18, (cDownM, [], [(4, 100), (900, 200)])), (56, (cUpM, [], [(2, 100), (900, 200)])), (22, (cEndM, [], [(2, 100), (900, 200)])), (57, (cTellO, [], [(4, 100), (900, 200)]))] (mm_cons ribDownM_ok (by decide) (mm_cons ribUpM_ok (by decide) (mm_cons ribEndM_ok (by decide) (mm_cons ribTellO_ok (by decide) mm_nil)))) [10, 71] [] ex_nil (T := TT) Tryd.func39 rfl Tryd.ntmps39 (by rw [Tryd.results39]) rfl rfl tt (gs_cons pick_ok (gs_cons l92From_ok (gs_cons l91Route_ok gs_nil))) ds_nil ?_
  rintro args ⟨h0, rfl, hh⟩
  refine ⟨by simp, fun k hk E hE Q hQ => ?_⟩
  have hk := hk rfl
  simp only [go_sem] at hk
  refine Aw_st hE [0, 1, 4] [4, 5, 7, 10, 60, 71, 125, 136, 140, 144, 154, 225, 236, 240, 244, 254] fun K hK => ?_
  simp only [go_sem, reduceIte, Nat.reduceLT, Nat.reduceLeDiff, Nat.reduceEqDiff, Nat.reduceAdd, Nat.reduceMul, Nat.reduceSub, Nat.reduceBEq, Int.reduceToNat, List.reduceReplicate, reduceCtorEq]
  refine hK _ ?_; clear hK K
  refine Aw_st hE [0, 1, 4, 5] [4, 5, 7, 10, 60, 71, 125, 136, 140, 144, 154, 225, 236, 240, 244, 254] fun K hK => ?_
  simp only [go_sem, reduceIte, Nat.reduceLT, Nat.reduceLeDiff, Nat.reduceEqDiff, Nat.reduceAdd, Nat.reduceMul, Nat.reduceSub, Nat.reduceBEq, Int.reduceToNat, List.reduceReplicate, reduceCtorEq]
  refine hK _ ?_; clear hK K
  refine Aw_sq fun B1 hB1 hR1 hX1 => ?_
  refine Aw_st hE [0, 1, 4, 5, 6] [4, 5, 7, 10, 60, 71, 125, 136, 140, 144, 154, 225, 236, 240, 244, 254] fun K hK => ?_
  simp only [go_sem, reduceIte, Nat.reduceLT, Nat.reduceLeDiff, Nat.reduceEqDiff, Nat.reduceAdd, Nat.reduceMul, Nat.reduceSub, Nat.reduceBEq, Int.reduceToNat, List.reduceReplicate, reduceCtorEq]
  repeat' (first | (refine And.intro (by first | omega | decide) ?_) | intro)
  rename_i n0 hn1 hn2
  refine hK _ ?_; clear hK K
  refine Aw_bk fun B2 hN2 hE2 hR2 hX2 => ?_
  refine Aw_lp (fun i : (Bool × List Gt × Nat) × Int => ribS h0 i.1.1 i.1.2.1 i.1.2.2 i.2 (k + 190 - 31 * i.2.toNat)) (fun i => ribOk ⟨h0, i.1.1, i.1.2.1⟩ = true ∧ lensG i.1.2.1 ∧ i.1.2.1.length ≤ i.1.2.2 ∧ 0 ≤ i.2 ∧ i.2 ≤ 6) (fun i => i.2.toNat) ((true, [], 0), n0) ((Le_bx 10 60 (by decide) (by decide) rfl).trans (Le_rn (by simp only; omega))) ⟨ribOk_nil hh, (by intro g hg; cases hg), by simp, by omega, by omega⟩ fun i hi B3 hN3 hR3 hX3 => ?_
  obtain ⟨⟨up, l, cap⟩, n⟩ := i
  obtain ⟨hok, hlg, hcap, hn1, hn2⟩ := hi
  simp only at hok hlg hcap hn1 hn2
  have hl6 := (ribOk_iff.1 hok).2.1
  simp only [ribS]
  refine Aw_sq fun B4 hB4 hR4 hX4 => ?_
  refine Aw_st hE [0, 1, 4, 5, 6, 15] [4, 5, 7, 10, 60, 71, 125, 136, 140, 144, 154, 225, 236, 240, 244, 254] fun K hK => ?_
  simp only [go_sem, reduceIte, Nat.reduceLT, Nat.reduceLeDiff, Nat.reduceEqDiff, Nat.reduceAdd, Nat.reduceMul, Nat.reduceSub, Nat.reduceBEq, Int.reduceToNat, List.reduceReplicate, reduceCtorEq, cGs_nt, cGs_stripF]
  refine hK _ (Aw_cond rfl (fun hc5 => ?_) (fun hc5 => ?_))
  · simp only [decide_eq_true_eq] at hc5
    refine Aw_skip (hB4 _ ?_)
    refine Aw_sq fun B6 hB6 hR6 hX6 => ?_
    refine Aw_bk fun B7 hN7 hE7 hR7 hX7 => ?_
    refine Aw_st hE [0, 1, 4, 5, 6, 19] [4, 5, 7, 10, 60, 71, 125, 136, 140, 144, 154, 225, 236, 240, 244, 254] fun K hK => ?_
    simp only [go_sem, reduceIte, Nat.reduceLT, Nat.reduceLeDiff, Nat.reduceEqDiff, Nat.reduceAdd, Nat.reduceMul, Nat.reduceSub, Nat.reduceBEq, Int.reduceToNat, List.reduceReplicate, reduceCtorEq, cGs_nt, cGs_stripF]
    repeat' (first | (refine And.intro (by first | omega | decide) ?_) | intro)
    rename_i x hx1 hx2
    refine hK _ ?_; clear hK K
    refine Aw_bk fun B8 hN8 hE8 hR8 hX8 => ?_
    refine Aw_st hE [0, 1, 4, 5, 6, 19, 30] [4, 5, 7, 10, 60, 71, 125, 136, 140, 144, 154, 225, 236, 240, 244, 254] fun K hK => ?_
    simp only [go_sem, reduceIte, Nat.reduceLT, Nat.reduceLeDiff, Nat.reduceEqDiff, Nat.reduceAdd, Nat.reduceMul, Nat.reduceSub, Nat.reduceBEq, Int.reduceToNat, List.reduceReplicate, reduceCtorEq, cGs_nt, cGs_stripF]
    refine hK _ (Aw_cond rfl (fun hc9 => ?_) (fun hc9 => ?_))
    · refine Aw_fG hE rfl 60 l rfl ?_
      simp only [go_sem, reduceIte, Nat.reduceLT, Nat.reduceLeDiff, Nat.reduceEqDiff, Nat.reduceAdd, Nat.reduceMul, Nat.reduceSub, Nat.reduceBEq, Int.reduceToNat, List.reduceReplicate, reduceCtorEq, gD_len, frz_grows]
      refine Aw_tS hE (.fst 1 (.alt 0 (.alt 2 (.alt 3 (.alt 4 (.alt 5 .done .non) .non) .non) .non) (.alt 2 (.alt 0 (.alt 3 (.alt 4 (.alt 5 .done .non) .non) .non) (.alt 3 (.alt 0 (.alt 4 (.alt 5 .done .non) .non) .non) .non)) .non))) [0, 1, 4, 5, 6] [4, 5, 7, 10, 60, 71, 125, 136, 140, 144, 154, 225, 236, 240, 244, 254] (by kernel_rfl) fun K hK => ?_
      simp only [go_sem, reduceIte, Nat.reduceLT, Nat.reduceLeDiff, Nat.reduceEqDiff, Nat.reduceAdd, Nat.reduceMul, Nat.reduceSub, Nat.reduceBEq, Int.reduceToNat, List.reduceReplicate, reduceCtorEq, cGs_nt, cGs_stripF, cGs_strip, cGs_mvn]
      repeat' (first | (refine And.intro (by first | omega | decide | exact ⟨by omega, hlg⟩) ?_) | (refine And.intro ?_ ?_) | intro)
      all_goals first | (exfalso; rename_i hf; rw [hok] at hf; cases hf; done) | skip
      all_goals
        rename_i y _ _ _ cap' hcap'
        have h1 := ribOk_down (g := decide (0 < y)) hok
        have h2 := lensG_down (g := decide (0 < y)) hlg
        generalize (if decide (0 < y) = true then List.map oldG l else []) = L at h1 h2 hcap' ⊢
        refine hK _ (hN8 _ (hN7 _ (hB6 _ ?_)))
        refine Aw_tx hE [0, 1, 4, 5, 6] [4, 5, 7, 10, 60, 71, 125, 136, 140, 144, 154, 225, 236, 240, 244, 254] fun K hK => ?_
        simp only [go_sem, reduceIte, Nat.reduceLT, Nat.reduceLeDiff, Nat.reduceEqDiff, Nat.reduceAdd, Nat.reduceMul, Nat.reduceSub, Nat.reduceBEq, Int.reduceToNat, List.reduceReplicate, reduceCtorEq, cGs_nt, cGs_stripF]
        repeat (refine And.intro (by first | omega | (and_intros <;> first | omega | exact rows_row _ | decide | (simp; done) | (simp; omega)) | fail) ?_)
        refine hK _ (hN3 ((false, L, cap'), n - 1) _ ⟨h1, h2, hcap', by simp only; omega, by simp only; omega⟩ (by simp only; omega) ?_)
        refine (Le_swb _ 236 60 (by decide) (by decide)).trans ?_
        simp only [St.swb, swbσ, swbm, AV.swb, AV.swbAll, swp, swbAll_app, swbAll_jk, gcs_swb, cGs_swb, Nat.reduceEqDiff, if_true, if_false, reduceIte]
        exact (Le_ks [0, 1, 4, 5, 6] [4, 5, 60]).trans (Le_rn (by simp only; omega))
    · refine Aw_st hE [0, 1, 4, 5, 6, 19, 37] [4, 5, 7, 10, 60, 71, 125, 136, 140, 144, 154, 225, 236, 240, 244, 254] fun K hK => ?_
      simp only [go_sem, reduceIte, Nat.reduceLT, Nat.reduceLeDiff, Nat.reduceEqDiff, Nat.reduceAdd, Nat.reduceMul, Nat.reduceSub, Nat.reduceBEq, Int.reduceToNat, List.reduceReplicate, reduceCtorEq, cGs_nt, cGs_stripF]
      refine hK _ (Aw_cond rfl (fun hc10 => ?_) (fun hc10 => ?_))
      · refine Aw_fG hE rfl 60 l rfl ?_
        simp only [go_sem, reduceIte, Nat.reduceLT, Nat.reduceLeDiff, Nat.reduceEqDiff, Nat.reduceAdd, Nat.reduceMul, Nat.reduceSub, Nat.reduceBEq, Int.reduceToNat, List.reduceReplicate, reduceCtorEq, gD_len, frz_grows]
        refine Aw_tx hE [0, 1, 4, 5, 6] [4, 5, 7, 10, 60, 71, 125, 136, 140, 144, 154, 225, 236, 240, 244, 254] fun K hK => ?_
        simp only [go_sem, reduceIte, Nat.reduceLT, Nat.reduceLeDiff, Nat.reduceEqDiff, Nat.reduceAdd, Nat.reduceMul, Nat.reduceSub, Nat.reduceBEq, Int.reduceToNat, List.reduceReplicate, reduceCtorEq, cGs_nt, cGs_stripF, cGs_strip, cGs_mvn]
        refine ⟨by decide, ⟨by omega, hlg⟩, fun hf => ?_, fun _ cap' hcap' => ?_⟩
        · rw [hok] at hf; cases hf
        · skip
          refine hK _ (hN8 _ (hN7 _ (hB6 _ ?_)))
          refine Aw_tx hE [0, 1, 4, 5, 6] [4, 5, 7, 10, 60, 71, 125, 136, 140, 144, 154, 225, 236, 240, 244, 254] fun K hK => ?_
          simp only [go_sem, reduceIte, Nat.reduceLT, Nat.reduceLeDiff, Nat.reduceEqDiff, Nat.reduceAdd, Nat.reduceMul, Nat.reduceSub, Nat.reduceBEq, Int.reduceToNat, List.reduceReplicate, reduceCtorEq, cGs_nt, cGs_stripF]
          repeat (refine And.intro (by first | omega | (and_intros <;> first | omega | exact rows_row _ | decide | (simp; done) | (simp; omega)) | fail) ?_)
          refine hK _ (hN3 ((true, l, cap'), n - 1) _ ⟨ribOk_up hok, hlg, hcap', by simp only; omega, by simp only; omega⟩ (by simp only; omega) ?_)
          refine (Le_swb _ 240 60 (by decide) (by decide)).trans ?_
          simp only [St.swb, swbσ, swbm, AV.swb, AV.swbAll, swp, swbAll_app, swbAll_jk, gcs_swb, cGs_swb, Nat.reduceEqDiff, if_true, if_false, reduceIte]
          exact (Le_ks [0, 1, 4, 5, 6] [4, 5, 60]).trans (Le_rn (by simp only; omega))
      · refine Aw_st hE [0, 1, 4, 5, 6, 41] [4, 5, 7, 10, 60, 71, 125, 136, 140, 144, 154, 225, 236, 240, 244, 254] fun K hK => ?_
        simp only [go_sem, reduceIte, Nat.reduceLT, Nat.reduceLeDiff, Nat.reduceEqDiff, Nat.reduceAdd, Nat.reduceMul, Nat.reduceSub, Nat.reduceBEq, Int.reduceToNat, List.reduceReplicate, reduceCtorEq, cGs_nt, cGs_stripF]
        refine hK _ (Aw_cond rfl (fun hc11 => ?_) (fun hc11 => ?_))
        · refine Aw_fG hE rfl 60 l rfl ?_
          simp only [go_sem, reduceIte, Nat.reduceLT, Nat.reduceLeDiff, Nat.reduceEqDiff, Nat.reduceAdd, Nat.reduceMul, Nat.reduceSub, Nat.reduceBEq, Int.reduceToNat, List.reduceReplicate, reduceCtorEq, gD_len, frz_grows]
          refine Aw_tx hE [0, 1, 4, 5, 6] [4, 5, 7, 10, 60, 71, 125, 136, 140, 144, 154, 225, 236, 240, 244, 254] fun K hK => ?_
          simp only [go_sem, reduceIte, Nat.reduceLT, Nat.reduceLeDiff, Nat.reduceEqDiff, Nat.reduceAdd, Nat.reduceMul, Nat.reduceSub, Nat.reduceBEq, Int.reduceToNat, List.reduceReplicate, reduceCtorEq, cGs_nt, cGs_stripF, cGs_strip, cGs_mvn]
          refine ⟨by decide, ⟨by omega, hlg⟩, fun hf => ?_, fun _ cap' hcap' => ?_⟩
          · rw [hok] at hf; cases hf
          · skip
            refine hK _ (hN8 _ (hN7 _ (hB6 _ ?_)))
            refine Aw_tx hE [0, 1, 4, 5, 6] [4, 5, 7, 10, 60, 71, 125, 136, 140, 144, 154, 225, 236, 240, 244, 254] fun K hK => ?_
            simp only [go_sem, reduceIte, Nat.reduceLT, Nat.reduceLeDiff, Nat.reduceEqDiff, Nat.reduceAdd, Nat.reduceMul, Nat.reduceSub, Nat.reduceBEq, Int.reduceToNat, List.reduceReplicate, reduceCtorEq, cGs_nt, cGs_stripF]
            repeat (refine And.intro (by first | omega | (and_intros <;> first | omega | exact rows_row _ | decide | (simp; done) | (simp; omega)) | fail) ?_)
            refine hK _ (hN3 ((up, endL l, cap'), n - 1) _ ⟨ribOk_end hok, lensG_end hlg, hcap', by simp only; omega, by simp only; omega⟩ (by simp only; omega) ?_)
            refine (Le_swb _ 244 60 (by decide) (by decide)).trans ?_
            simp only [St.swb, swbσ, swbm, AV.swb, AV.swbAll, swp, swbAll_app, swbAll_jk, gcs_swb, cGs_swb, Nat.reduceEqDiff, if_true, if_false, reduceIte]
            exact (Le_ks [0, 1, 4, 5, 6] [4, 5, 60]).trans (Le_rn (by simp only; omega))
        · refine Aw_sS hE (.fst 1 (.fst 2 (.alt 0 (.alt 3 (.cut (.alt 4 (.fst 5 (.fst 6 (.fst 7 (.alt 8 (.alt 9 (.fst 10 .done) .non) .non)))) (.alt 8 (.cut (.alt 4 (.fst 5 (.fst 6 (.fst 7 (.alt 9 (.fst 10 .done) .non)))) .non)) .non))) (.alt 8 (.alt 3 (.cut (.alt 4 (.fst 5 (.fst 6 (.fst 7 (.alt 9 (.fst 10 .done) .non)))) .non)) .non) .non)) (.alt 3 (.alt 0 (.cut (.alt 4 (.fst 5 (.fst 6 (.fst 7 (.alt 8 (.alt 9 (.fst 10 .done) .non) .non)))) (.alt 8 (.cut (.alt 4 (.fst 5 (.fst 6 (.fst 7 (.alt 9 (.fst 10 .done) .non)))) .non)) .non))) (.alt 8 (.alt 0 (.cut (.alt 4 (.fst 5 (.fst 6 (.fst 7 (.alt 9 (.fst 10 .done) .non)))) .non)) .non) .non)) (.alt 8 (.alt 0 (.alt 3 (.cut (.alt 4 (.fst 5 (.fst 6 (.fst 7 (.alt 9 (.fst 10 .done) .non)))) .non)) .non) (.alt 3 (.alt 0 (.cut (.alt 4 (.fst 5 (.fst 6 (.fst 7 (.alt 9 (.fst 10 .done) .non)))) .non)) .non) .non)) .non))))) [0, 1, 4, 5, 6, 7, 8] [4, 5, 7, 10, 60, 71, 125, 136, 140, 144, 154, 225, 236, 240, 244, 254] (by kernel_rfl) fun K hK => ?_
          simp only [go_sem, reduceIte, Nat.reduceLT, Nat.reduceLeDiff, Nat.reduceEqDiff, Nat.reduceAdd, Nat.reduceMul, Nat.reduceSub, Nat.reduceBEq, Int.reduceToNat, List.reduceReplicate, reduceCtorEq, cGs_nt, cGs_stripF, cGs_strip, cGs_mvn]
          repeat' (first | (refine And.intro (by omega) ?_) | (refine And.intro ?_ ?_) | intro)
          all_goals
            rename_i x hx
            obtain ⟨xf, xb, p, xk, m⟩ := x
            simp only at hx
            have hbd : (l.length ≤ 1000 ∧ lensG l) ∧ p.length ≤ 1000 ∧ m.length ≤ 900 := ⟨⟨by omega, hlg⟩, by omega, by omega⟩
            rcases telO_two ⟨h0, up, l⟩ ⟨xf, xb, p, xk, m⟩ with ⟨zh, zu, zl, hz⟩ | hf
            · obtain ⟨hz1, hz2, _⟩ := telO_ok hz
              have hz3 := lensG_tel hlg ⟨by simp only; omega, by simp only; omega⟩ hz
              simp only at hz1 hz2 hz3
              subst hz2
              refine ⟨_, LeE_fG hE rfl 60 l rfl, ?_⟩
              have hT := fun (K : AV → List (Nat × List AV) → Prop) => tellO_some hz K
              have hVp := hbd
              simp only [go_sem, reduceIte, Nat.reduceLT, Nat.reduceLeDiff, Nat.reduceEqDiff, Nat.reduceAdd, Nat.reduceMul, Nat.reduceSub, Nat.reduceBEq, Int.reduceToNat, List.reduceReplicate, reduceCtorEq, gD_len, frz_grows, cGs_nt, cGs_stripF, cGs_strip, cGs_mvn, ↓hT, tellO_pre]
              repeat' (first | (refine And.intro (by first | omega | decide | exact hbd) ?_) | (refine And.intro ?_ ?_) | (refine Exists.intro _ (And.intro (fun _ _ r => r) ?_); simp only [go_sem, reduceIte, Nat.reduceLT, Nat.reduceLeDiff, Nat.reduceEqDiff, Nat.reduceAdd, Nat.reduceMul, Nat.reduceSub, Nat.reduceBEq, Int.reduceToNat, List.reduceReplicate, reduceCtorEq, cGs_nt, cGs_stripF, cGs_strip, cGs_mvn, ↓hT, tellO_pre]) | (intro) | fail)
              all_goals
                rename_i cap' hcap'
                refine hK _ ?_; clear hK K
                refine Aw_st hE [0, 1, 4, 5, 6, 7, 28] [4, 5, 7, 10, 60, 71, 125, 136, 140, 144, 154, 225, 236, 240, 244, 254] fun K hK => ?_
                simp only [go_sem, reduceIte, Nat.reduceLT, Nat.reduceLeDiff, Nat.reduceEqDiff, Nat.reduceAdd, Nat.reduceMul, Nat.reduceSub, Nat.reduceBEq, Int.reduceToNat, List.reduceReplicate, reduceCtorEq, cGs_nt, cGs_stripF, cGs_strip, cGs_mvn]
                refine hK _ (Aw_yes rfl ?_)
                refine Aw_tx hE [0, 1, 4, 5, 6] [4, 5, 7, 10, 60, 71, 125, 136, 140, 144, 154, 225, 236, 240, 244, 254] fun K hK => ?_
                simp only [go_sem, reduceIte, Nat.reduceLT, Nat.reduceLeDiff, Nat.reduceEqDiff, Nat.reduceAdd, Nat.reduceMul, Nat.reduceSub, Nat.reduceBEq, Int.reduceToNat, List.reduceReplicate, reduceCtorEq, cGs_nt, cGs_stripF, cGs_strip, cGs_mvn]
                refine hK _ (hN8 _ (hN7 _ (hB6 _ ?_)))
                refine Aw_tx hE [0, 1, 4, 5, 6] [4, 5, 7, 10, 60, 71, 125, 136, 140, 144, 154, 225, 236, 240, 244, 254] fun K hK => ?_
                simp only [go_sem, reduceIte, Nat.reduceLT, Nat.reduceLeDiff, Nat.reduceEqDiff, Nat.reduceAdd, Nat.reduceMul, Nat.reduceSub, Nat.reduceBEq, Int.reduceToNat, List.reduceReplicate, reduceCtorEq, cGs_nt, cGs_stripF]
                repeat (refine And.intro (by first | omega | (and_intros <;> first | omega | exact rows_row _ | decide | (simp; done) | (simp; omega)) | fail) ?_)
                refine hK _ (hN3 ((zu, zl, cap'), n - 1) _ ⟨hz1, hz3, hcap', by simp only; omega, by simp only; omega⟩ (by simp only; omega) ?_)
                refine (Le_swb _ 225 60 (by decide) (by decide)).trans ?_
                simp only [St.swb, swbσ, swbm, AV.swb, AV.swbAll, swp, swbAll_app, swbAll_jk, gcs_swb, cGs_swb, Nat.reduceEqDiff, if_true, if_false, reduceIte]
                exact (Le_ks [0, 1, 4, 5, 6] [4, 5, 60]).trans (Le_rn (by simp only; omega))
            · have hV := fun (cap : Nat) (rest : List AV) (K : AV → List (Nat × List AV) → Prop) => tellV_eq (cap := cap) (rest := rest) hf K
              have hVp := fun (cap : Nat) (rest : List AV) => tellV_p (f := xf) (b := xb) (k := xk) (h := h0) (up := up) cap rest hbd
              refine ⟨_, fun _ _ r => r, ?_⟩
              simp only [go_sem, reduceIte, Nat.reduceLT, Nat.reduceLeDiff, Nat.reduceEqDiff, Nat.reduceAdd, Nat.reduceMul, Nat.reduceSub, Nat.reduceBEq, Int.reduceToNat, List.reduceReplicate, reduceCtorEq, cGs_nt, cGs_stripF, cGs_strip, cGs_mvn, ↓hV]
              repeat' (first | (refine And.intro (by first | omega | decide | exact hVp _ _) ?_) | (refine And.intro ?_ ?_) | (refine Exists.intro _ (And.intro (fun _ _ r => r) ?_); simp only [go_sem, reduceIte, Nat.reduceLT, Nat.reduceLeDiff, Nat.reduceEqDiff, Nat.reduceAdd, Nat.reduceMul, Nat.reduceSub, Nat.reduceBEq, Int.reduceToNat, List.reduceReplicate, reduceCtorEq, cGs_nt, cGs_stripF, cGs_strip, cGs_mvn, ↓hV]) | (intro) | fail)
              all_goals
                refine hK _ ?_; clear hK K
                refine Aw_st hE [0, 1, 4, 5, 6, 7, 28] [4, 5, 7, 10, 60, 71, 125, 136, 140, 144, 154, 225, 236, 240, 244, 254] fun K hK => ?_
                simp only [go_sem, reduceIte, Nat.reduceLT, Nat.reduceLeDiff, Nat.reduceEqDiff, Nat.reduceAdd, Nat.reduceMul, Nat.reduceSub, Nat.reduceBEq, Int.reduceToNat, List.reduceReplicate, reduceCtorEq, cGs_nt, cGs_stripF, cGs_strip, cGs_mvn]
                refine hK _ (Aw_no rfl (Aw_skip (hN8 _ (hN7 _ (hB6 _ ?_)))))
                refine Aw_tx hE [0, 1, 4, 5, 6] [4, 5, 7, 10, 60, 71, 125, 136, 140, 144, 154, 225, 236, 240, 244, 254] fun K hK => ?_
                simp only [go_sem, reduceIte, Nat.reduceLT, Nat.reduceLeDiff, Nat.reduceEqDiff, Nat.reduceAdd, Nat.reduceMul, Nat.reduceSub, Nat.reduceBEq, Int.reduceToNat, List.reduceReplicate, reduceCtorEq, cGs_nt, cGs_stripF]
                repeat (refine And.intro (by first | omega | (and_intros <;> first | omega | exact rows_row _ | decide | (simp; done) | (simp; omega)) | fail) ?_)
                refine hK _ (hN3 ((up, l, cap), n - 1) _ ⟨hok, hlg, hcap, by simp only; omega, by simp only; omega⟩ (by simp only; omega) ?_)
                exact (Le_ks [0, 1, 4, 5, 6] [4, 5, 60]).trans (Le_rn (by simp only; omega))
  · simp only [decide_eq_false_iff_not] at hc5
    refine Aw_exit (hX4 _ _ (hX3 _ _ (hE2 _ (hB1 _ ?_))))
    refine Aw_sqJ (fun q : Bool × Nat => ribT h0 q.1 l q.2 (k + 191)) (fun q => l.length ≤ q.2) (fun q hq => ?_) fun B13 hB13 hR13 hX13 => ?_
    · obtain ⟨up', cap'⟩ := q
      simp only at hq
      simp only [ribT]
      refine Aw_sq fun B17 hB17 hR17 hX17 => ?_
      refine Aw_st hE [0, 4, 5, 56] [4, 5, 7, 10, 60, 71, 125, 136, 140, 144, 154, 225, 236, 240, 244, 254] fun K hK => ?_
      simp only [go_sem, reduceIte, Nat.reduceLT, Nat.reduceLeDiff, Nat.reduceEqDiff, Nat.reduceAdd, Nat.reduceMul, Nat.reduceSub, Nat.reduceBEq, Int.reduceToNat, List.reduceReplicate, reduceCtorEq, cGs_nt, cGs_stripF, cGs_strip, cGs_mvn]
      repeat' (first | (refine And.intro (by first | omega | decide) ?_) | intro)
      rename_i x hx1 hx2
      refine hK _ ?_; clear hK K
      refine Aw_bk fun B18 hN18 hE18 hR18 hX18 => ?_
      refine Aw_st hE [0, 4, 5, 56, 57] [4, 5, 7, 10, 60, 71, 125, 136, 140, 144, 154, 225, 236, 240, 244, 254] fun K hK => ?_
      simp only [go_sem, reduceIte, Nat.reduceLT, Nat.reduceLeDiff, Nat.reduceEqDiff, Nat.reduceAdd, Nat.reduceMul, Nat.reduceSub, Nat.reduceBEq, Int.reduceToNat, List.reduceReplicate, reduceCtorEq, cGs_nt, cGs_stripF, cGs_strip, cGs_mvn]
      refine hK _ (Aw_cond rfl (fun hc19 => ?_) (fun hc19 => ?_))
      · refine Aw_tx hE [4, 5] [4, 5, 7, 10, 60, 71, 125, 136, 140, 144, 154, 225, 236, 240, 244, 254] fun K hK => ?_
        simp only [go_sem, reduceIte, Nat.reduceLT, Nat.reduceLeDiff, Nat.reduceEqDiff, Nat.reduceAdd, Nat.reduceMul, Nat.reduceSub, Nat.reduceBEq, Int.reduceToNat, List.reduceReplicate, reduceCtorEq, cGs_nt, cGs_stripF, cGs_strip, cGs_mvn]
        repeat (refine And.intro (by first | omega | (and_intros <;> first | omega | exact rows_row _ | decide | (simp; done) | (simp; omega)) | fail) ?_)
        refine hK _ (hN18 _ (hB17 _ ?_))
        refine Aw_fG hE rfl 60 l rfl ?_
        simp only [go_sem, reduceIte, Nat.reduceLT, Nat.reduceLeDiff, Nat.reduceEqDiff, Nat.reduceAdd, Nat.reduceMul, Nat.reduceSub, Nat.reduceBEq, Int.reduceToNat, List.reduceReplicate, reduceCtorEq, gD_len, frz_grows]
        refine Aw_st hE [4] [4, 5, 7, 10, 60, 71, 125, 136, 140, 144, 154, 225, 236, 240, 244, 254] fun K hK => ?_
        simp only [go_sem, reduceIte, Nat.reduceLT, Nat.reduceLeDiff, Nat.reduceEqDiff, Nat.reduceAdd, Nat.reduceMul, Nat.reduceSub, Nat.reduceBEq, Int.reduceToNat, List.reduceReplicate, reduceCtorEq]
        refine hK _ (Aw_ret (hQ _ ?_))
        simp only [go_sem, reduceIte, Nat.reduceLT, Nat.reduceLeDiff, Nat.reduceEqDiff, Nat.reduceAdd, Nat.reduceMul, Nat.reduceSub, Nat.reduceBEq, Int.reduceToNat, List.reduceReplicate, reduceCtorEq]
        exact ⟨by omega, ⟨h0, !up', l⟩, ⟨by simp only; omega, hlg⟩, rfl⟩
      · refine Aw_st hE [0, 4, 5, 63] [4, 5, 7, 10, 60, 71, 125, 136, 140, 144, 154, 225, 236, 240, 244, 254] fun K hK => ?_
        simp only [go_sem, reduceIte, Nat.reduceLT, Nat.reduceLeDiff, Nat.reduceEqDiff, Nat.reduceAdd, Nat.reduceMul, Nat.reduceSub, Nat.reduceBEq, Int.reduceToNat, List.reduceReplicate, reduceCtorEq, cGs_nt, cGs_stripF, cGs_strip, cGs_mvn]
        refine hK _ (Aw_cond rfl (fun hc20 => ?_) (fun hc20 => ?_))
        · have hta := cGs_take l (jk ((cap' - l.length) * 6))
          refine Aw_tS hE (.fst 0 (.fst 2 (.alt 1 (.alt 3 (.alt 4 (.alt 5 (.alt 6 (.fst 7 (.alt 8 .done .non)) .non) .non) .non) .non) (.alt 3 (.alt 1 (.alt 4 (.alt 5 (.alt 6 (.fst 7 (.alt 8 .done .non)) .non) .non) .non) (.alt 4 (.alt 1 (.alt 5 (.alt 6 (.fst 7 (.alt 8 .done .non)) .non) .non) (.alt 5 (.alt 1 (.alt 6 (.fst 7 (.alt 8 .done .non)) .non) .non) .non)) .non)) .non)))) [4, 5] [4, 5, 7, 10, 60, 71, 125, 136, 140, 144, 154, 225, 236, 240, 244, 254] (by kernel_rfl) fun K hK => ?_
          simp only [go_sem, reduceIte, Nat.reduceLT, Nat.reduceLeDiff, Nat.reduceEqDiff, Nat.reduceAdd, Nat.reduceMul, Nat.reduceSub, Nat.reduceBEq, Int.reduceToNat, List.reduceReplicate, reduceCtorEq, cGs_nt, cGs_stripF, cGs_strip, cGs_mvn, gcs_flat, gcs_leaf, gcs_strip, hta, cGj_stk, cGj_str]
          repeat' (first | (refine And.intro (by first | omega | exact ⟨by simp, by omega, by rw [List.length_append, cGs_len, List.length_replicate]; omega⟩) ?_) | (refine And.intro ?_ ?_) | (intro) | fail)
          all_goals first
            | (rename_i x hx _ cap2 hcap2
               obtain ⟨g0, hg0⟩ : ∃ g0 : Gt, g0 = ⟨⟨x.f, x.b, x.path, x.like, x.marks⟩, false⟩ := ⟨_, rfl⟩
               have hgl : lensG (l ++ [g0]) := lensG_app hlg (by intro g hg; rw [List.mem_singleton] at hg; rw [hg, hg0]; exact okRt_len hx)
               rw [← hg0]
               have hca := cGs_app l [g0]
               simp only [cGs, List.append_nil] at hca
               rw [← hca]
               have hon : (l ++ [g0]).length = l.length + 1 := by simp
               have hfg := frz_grows (l ++ [g0])
               rw [hon] at hfg
               refine hK _ (hN18 _ (hB17 _ ?_))
               refine Aw_fG hE rfl 71 (l ++ [g0]) rfl ?_
               simp only [go_sem, reduceIte, Nat.reduceLT, Nat.reduceLeDiff, Nat.reduceEqDiff, Nat.reduceAdd, Nat.reduceMul, Nat.reduceSub, Nat.reduceBEq, Int.reduceToNat, List.reduceReplicate, reduceCtorEq, gD_len, hon, hfg]
               refine Aw_st hE [4] [4, 5, 7, 10, 60, 71, 125, 136, 140, 144, 154, 225, 236, 240, 244, 254] fun K hK => ?_
               simp only [go_sem, reduceIte, Nat.reduceLT, Nat.reduceLeDiff, Nat.reduceEqDiff, Nat.reduceAdd, Nat.reduceMul, Nat.reduceSub, Nat.reduceBEq, Int.reduceToNat, List.reduceReplicate, reduceCtorEq]
               refine hK _ (Aw_ret (hQ _ ?_))
               simp only [go_sem, reduceIte, Nat.reduceLT, Nat.reduceLeDiff, Nat.reduceEqDiff, Nat.reduceAdd, Nat.reduceMul, Nat.reduceSub, Nat.reduceBEq, Int.reduceToNat, List.reduceReplicate, reduceCtorEq]
               exact ⟨by omega, ⟨h0, up', l ++ [g0]⟩, ⟨by simp only [hon]; omega, hgl⟩, congrArg (fun z => AV.agg [iv h0, bv up', AV.sl none z]) hfg⟩)
            | (rename_i x hx hfit
               obtain ⟨g0, hg0⟩ : ∃ g0 : Gt, g0 = ⟨⟨x.f, x.b, x.path, x.like, x.marks⟩, false⟩ := ⟨_, rfl⟩
               have hgl : lensG (l ++ [g0]) := lensG_app hlg (by intro g hg; rw [List.mem_singleton] at hg; rw [hg, hg0]; exact okRt_len hx)
               rw [← hg0, cGs_in l g0 (cap' - l.length) (by omega)]
               have hon : (l ++ [g0]).length = l.length + 1 := by simp
               have hfg := frz_grows (l ++ [g0])
               rw [hon] at hfg
               refine hK _ (hN18 _ (hB17 _ ?_))
               refine Aw_fG hE rfl 60 (l ++ [g0]) rfl ?_
               simp only [go_sem, reduceIte, Nat.reduceLT, Nat.reduceLeDiff, Nat.reduceEqDiff, Nat.reduceAdd, Nat.reduceMul, Nat.reduceSub, Nat.reduceBEq, Int.reduceToNat, List.reduceReplicate, reduceCtorEq, gD_len, hon, hfg]
               refine Aw_st hE [4] [4, 5, 7, 10, 60, 71, 125, 136, 140, 144, 154, 225, 236, 240, 244, 254] fun K hK => ?_
               simp only [go_sem, reduceIte, Nat.reduceLT, Nat.reduceLeDiff, Nat.reduceEqDiff, Nat.reduceAdd, Nat.reduceMul, Nat.reduceSub, Nat.reduceBEq, Int.reduceToNat, List.reduceReplicate, reduceCtorEq]
               refine hK _ (Aw_ret (hQ _ ?_))
               simp only [go_sem, reduceIte, Nat.reduceLT, Nat.reduceLeDiff, Nat.reduceEqDiff, Nat.reduceAdd, Nat.reduceMul, Nat.reduceSub, Nat.reduceBEq, Int.reduceToNat, List.reduceReplicate, reduceCtorEq]
               exact ⟨by omega, ⟨h0, up', l ++ [g0]⟩, ⟨by simp only [hon]; omega, hgl⟩, congrArg (fun z => AV.agg [iv h0, bv up', AV.sl none z]) hfg⟩)
            | fail
        · refine Aw_skip (hN18 _ (hB17 _ ?_))
          refine Aw_fG hE rfl 60 l rfl ?_
          simp only [go_sem, reduceIte, Nat.reduceLT, Nat.reduceLeDiff, Nat.reduceEqDiff, Nat.reduceAdd, Nat.reduceMul, Nat.reduceSub, Nat.reduceBEq, Int.reduceToNat, List.reduceReplicate, reduceCtorEq, gD_len, frz_grows]
          refine Aw_st hE [4] [4, 5, 7, 10, 60, 71, 125, 136, 140, 144, 154, 225, 236, 240, 244, 254] fun K hK => ?_
          simp only [go_sem, reduceIte, Nat.reduceLT, Nat.reduceLeDiff, Nat.reduceEqDiff, Nat.reduceAdd, Nat.reduceMul, Nat.reduceSub, Nat.reduceBEq, Int.reduceToNat, List.reduceReplicate, reduceCtorEq]
          refine hK _ (Aw_ret (hQ _ ?_))
          simp only [go_sem, reduceIte, Nat.reduceLT, Nat.reduceLeDiff, Nat.reduceEqDiff, Nat.reduceAdd, Nat.reduceMul, Nat.reduceSub, Nat.reduceBEq, Int.reduceToNat, List.reduceReplicate, reduceCtorEq]
          exact ⟨by omega, ⟨h0, up', l⟩, ⟨by simp only; omega, hlg⟩, rfl⟩
    · refine Aw_st hE [0, 4, 5, 52] [4, 5, 7, 10, 60, 71, 125, 136, 140, 144, 154, 225, 236, 240, 244, 254] fun K hK => ?_
      simp only [go_sem, reduceIte, Nat.reduceLT, Nat.reduceLeDiff, Nat.reduceEqDiff, Nat.reduceAdd, Nat.reduceMul, Nat.reduceSub, Nat.reduceBEq, Int.reduceToNat, List.reduceReplicate, reduceCtorEq, cGs_nt, cGs_stripF, cGs_strip, cGs_mvn]
      refine ⟨fun hg15 => ?_, fun hg15 => ?_⟩
      · repeat' (first | (refine And.intro (by first | omega | decide) ?_) | intro)
        rename_i y _ _
        refine hK _ (Aw_cond rfl (fun hc16 => ?_) (fun hc16 => ?_))
        · refine Aw_fG hE rfl 60 l rfl ?_
          simp only [go_sem, reduceIte, Nat.reduceLT, Nat.reduceLeDiff, Nat.reduceEqDiff, Nat.reduceAdd, Nat.reduceMul, Nat.reduceSub, Nat.reduceBEq, Int.reduceToNat, List.reduceReplicate, reduceCtorEq, gD_len, frz_grows]
          refine Aw_tx hE [0, 4, 5] [4, 5, 7, 10, 60, 71, 125, 136, 140, 144, 154, 225, 236, 240, 244, 254] fun K hK => ?_
          simp only [go_sem, reduceIte, Nat.reduceLT, Nat.reduceLeDiff, Nat.reduceEqDiff, Nat.reduceAdd, Nat.reduceMul, Nat.reduceSub, Nat.reduceBEq, Int.reduceToNat, List.reduceReplicate, reduceCtorEq, cGs_nt, cGs_stripF, cGs_strip, cGs_mvn]
          refine ⟨by decide, ⟨by omega, hlg⟩, fun hf => ?_, fun _ cap' hcap' => ?_⟩
          · rw [hok] at hf; cases hf
          · refine hK _ (hB13 (true, cap') _ hcap' (Le_E ?_))
            refine (Le_swb _ 254 60 (by decide) (by decide)).trans ?_
            simp only [St.swb, swbσ, swbm, AV.swb, AV.swbAll, swp, swbAll_app, swbAll_jk, gcs_swb, cGs_swb, Nat.reduceEqDiff, if_true, if_false, reduceIte]
            exact (Le_ks [0, 4, 5] [4, 5, 60]).trans (Le_rn (by simp only; omega))
        · exact Aw_skip (hB13 (up, cap) _ hcap (Le_E ((Le_ks [0, 4, 5] [4, 5, 60]).trans (Le_rn (by simp only; omega)))))
      · refine hK _ (Aw_no rfl ?_)
        exact Aw_skip (hB13 (up, cap) _ hcap (Le_E ((Le_ks [0, 4, 5] [4, 5, 60]).trans (Le_rn (by simp only; omega)))))
end Go.Proofs.W
end
section
namespace Go.Proofs.W
open Go Go.Eng Go.RowKit
set_option linter.unusedSimpArgs false
set_option maxRecDepth 100000

/-! what a house told, and a range, are drawn -/
theorem ribD_pre {h : Int} (hh : isH h = true) : cRibD.pre [.rd, iv h] := ⟨h, rfl, hh⟩
theorem ribD_post (args : List AV) (K : AV → Prop) : (∀ r, cRibD.post args r → K r) = (∀ b : Rb, (b.all.length ≤ 7 ∧ lensG b.all) → K b.av) := by
  apply propext
  exact ⟨fun h p hp => h _ ⟨p, hp, rfl⟩, fun h r ⟨p, hp, e⟩ => e ▸ h p hp⟩
theorem ribD_ex (args : List AV) : (∃ r, cRibD.post args r) = True := eq_true ⟨_, ⟨0, false, []⟩, ⟨by simp, by intro g hg; cases hg⟩, rfl⟩
theorem ribD_pre' (h : Int) : cRibD.pre [.rd, iv h] = (isH h = true) := by
  apply propext
  refine ⟨fun ⟨h', e, hh⟩ => ?_, fun hh => ⟨h, rfl, hh⟩⟩
  simp only [List.cons.injEq, AV.v.injEq, Value.int.injEq, true_and, and_true] at e
  rw [e]; exact hh
attribute [go_sem] ribD_post ribD_ex ribD_pre'
theorem isH_pick {x : Int} (h1 : 0 ≤ x) (h2 : x < 5 ∨ x = 0) : isH (1 + x) = true := by simp [isH]; omega
/-- what a house told, and whatever range -/
def cDRD : Con := { pre := codeArg, post := fun _ r => ∃ (b : Rb) (f c : Int), (b.all.length ≤ 7 ∧ lensG b.all) ∧ r = .tup [b.av, .agg [iv f, iv c]] }
theorem cDRD_own : cDRD.own = false := rfl
theorem cDRD_draws : cDRD.draws = false := rfl
theorem cDRD_cost : cDRD.cost = 0 := rfl
attribute [go_sem] cDRD_own cDRD_draws cDRD_cost
theorem drd_pre (bs : List Nat) (h : ∀ b ∈ bs, b < 256) : cDRD.pre [.sl none (byteRows bs)] := ⟨bs, h, rfl⟩
theorem drd_post (args : List AV) (K : AV → Prop) : (∀ r, cDRD.post args r → K r) = (∀ (b : Rb) (f c : Int), (b.all.length ≤ 7 ∧ lensG b.all) → K (.tup [b.av, .agg [iv f, iv c]])) := by
  apply propext
  exact ⟨fun h b f c h1 => h _ ⟨b, f, c, h1, rfl⟩, fun h r ⟨b, f, c, h1, e⟩ => e ▸ h b f c h1⟩
attribute [go_sem] drd_post
theorem drawRibDrop_ok : Fine Tryd.prog 23 cDRD := by
  refine fine_draw (T := TT) (C := cDRD) Tryd.func23 rfl Tryd.ntmps23 (by rw [Tryd.results23]) rfl rfl tt rfl rfl (G := [(39, cRibD), (35, cPick), (45, cRange)]) (D := []) (gs_cons l92Rib_ok (gs_cons pick_ok (gs_cons l91Range_ok gs_nil))) ds_nil (l1 := [_]) (l2 := [_]) rfl rfl rfl rfl (by decide) open_calls ⟨_, Tryd.func33, rfl, rfl⟩ ?_ ?_
  · rintro args r ⟨b, f, c, _, rfl⟩; rfl
  rintro args ⟨bs, hbs, rfl⟩
  refine ⟨by simp, bs, hbs, fun n E hE J hJ => ?_⟩
  refine Aw_tx hE [0, 2, 3] [2, 3] fun K hK => ?_
  simp only [go_sem, reduceIte, Nat.reduceLT, Nat.reduceLeDiff, Nat.reduceEqDiff, Nat.reduceAdd, Nat.reduceMul, Nat.reduceSub, Nat.reduceBEq, Int.reduceToNat, List.reduceReplicate, reduceCtorEq]
  refine hK _ ?_
  simp only [thenA]
  simp only [go_sem, reduceIte, Nat.reduceLT, Nat.reduceLeDiff, Nat.reduceEqDiff, Nat.reduceAdd, Nat.reduceMul, Nat.reduceSub, Nat.reduceBEq, Int.reduceToNat, List.reduceReplicate, reduceCtorEq]
  refine hJ _ rfl rfl fun E hE Q hQ => ?_
  simp only [go_sem, reduceIte, Nat.reduceLT, Nat.reduceLeDiff, Nat.reduceEqDiff, Nat.reduceAdd, Nat.reduceMul, Nat.reduceSub, Nat.reduceBEq, Int.reduceToNat, List.reduceReplicate, reduceCtorEq]
  refine Aw_st hE [2, 3, 4, 5] [2, 3, 5] fun K hK => ?_
  simp only [go_sem, reduceIte, Nat.reduceLT, Nat.reduceLeDiff, Nat.reduceEqDiff, Nat.reduceAdd, Nat.reduceMul, Nat.reduceSub, Nat.reduceBEq, Int.reduceToNat, List.reduceReplicate, reduceCtorEq]
  intro x hx1 hx2
  refine ⟨⟨by omega, by omega⟩, isH_pick hx1 hx2, fun b hb => ?_⟩
  refine hK _ ?_; clear hK K
  refine Aw_sq fun B1 hB1 hR1 hX1 => ?_
  refine Aw_st hE [2, 3, 4, 5, 21] [2, 3, 5] fun K hK => ?_
  simp only [go_sem, reduceIte, Nat.reduceLT, Nat.reduceLeDiff, Nat.reduceEqDiff, Nat.reduceAdd, Nat.reduceMul, Nat.reduceSub, Nat.reduceBEq, Int.reduceToNat, List.reduceReplicate, reduceCtorEq]
  refine ⟨fun h1 y hy1 hy2 => ?_, fun h1 => ?_⟩
  · refine hK _ (Aw_cond rfl (fun hc4 => ?_) (fun hc4 => ?_))
    · simp only [decide_eq_true_eq] at h1
      refine Aw_sz hE [2, 3] [2, 3] [2, 3] 6 (by kernel_rfl) fun K hK => ?_
      simp only [go_sem, reduceIte, Nat.reduceLT, Nat.reduceLeDiff, Nat.reduceEqDiff, Nat.reduceAdd, Nat.reduceMul, Nat.reduceSub, Nat.reduceBEq, Int.reduceToNat, List.reduceReplicate, reduceCtorEq]
      repeat (refine And.intro (by first | omega | (and_intros <;> first | omega | exact rows_row _ | decide | (simp; done) | (simp; omega)) | fail) ?_)
      refine fun z hz1 hz2 => ?_
      have hzl : z.toNat < b.all.length := by omega
      have hget := grows_get b.all _ hzl
      generalize b.all[z.toNat] = g at hget
      simp only [hget, Gt.row]
      simp only [go_sem, reduceIte, Nat.reduceLT, Nat.reduceLeDiff, Nat.reduceEqDiff, Nat.reduceAdd, Nat.reduceMul, Nat.reduceSub, Nat.reduceBEq, Int.reduceToNat, List.reduceReplicate, reduceCtorEq]
      repeat (refine And.intro (by first | omega | (and_intros <;> first | omega | exact rows_row _ | decide | (simp; done) | (simp; omega)) | fail) ?_)
      refine hK _ (Aw_ret (hR1 _ (hQ _ ?_)))
      simp only [go_sem, reduceIte, Nat.reduceLT, Nat.reduceLeDiff, Nat.reduceEqDiff, Nat.reduceAdd, Nat.reduceMul, Nat.reduceSub, Nat.reduceBEq, Int.reduceToNat, List.reduceReplicate, reduceCtorEq]
      exact ⟨b, g.r.f, g.r.b, hb, rfl⟩
    · refine Aw_skip (hB1 _ ?_)
      refine Aw_sz hE [2, 3] [2, 3] [2, 3] 6 (by kernel_rfl) fun K hK => ?_
      simp only [go_sem, reduceIte, Nat.reduceLT, Nat.reduceLeDiff, Nat.reduceEqDiff, Nat.reduceAdd, Nat.reduceMul, Nat.reduceSub, Nat.reduceBEq, Int.reduceToNat, List.reduceReplicate, reduceCtorEq]
      intro f c hfc
      refine hK _ (Aw_ret (hQ _ ?_))
      simp only [go_sem, reduceIte, Nat.reduceLT, Nat.reduceLeDiff, Nat.reduceEqDiff, Nat.reduceAdd, Nat.reduceMul, Nat.reduceSub, Nat.reduceBEq, Int.reduceToNat, List.reduceReplicate, reduceCtorEq]
      exact ⟨b, f, c, hb, rfl⟩
  · refine hK _ (Aw_no rfl (Aw_skip (hB1 _ ?_)))
    refine Aw_sz hE [2, 3] [2, 3] [2, 3] 6 (by kernel_rfl) fun K hK => ?_
    simp only [go_sem, reduceIte, Nat.reduceLT, Nat.reduceLeDiff, Nat.reduceEqDiff, Nat.reduceAdd, Nat.reduceMul, Nat.reduceSub, Nat.reduceBEq, Int.reduceToNat, List.reduceReplicate, reduceCtorEq]
    intro f c hfc
    refine hK _ (Aw_ret (hQ _ ?_))
    simp only [go_sem, reduceIte, Nat.reduceLT, Nat.reduceLeDiff, Nat.reduceEqDiff, Nat.reduceAdd, Nat.reduceMul, Nat.reduceSub, Nat.reduceBEq, Int.reduceToNat, List.reduceReplicate, reduceCtorEq]
    exact ⟨b, f, c, hb, rfl⟩
theorem drawRibFind_ok : Fine Tryd.prog 7 cDRD := by
  refine fine_of (T := TT) Tryd.func7 rfl Tryd.ntmps7 (by rw [Tryd.results7]) rfl rfl tt (gs_cons drawRibDrop_ok gs_nil) (ds_nil) ?_
  rintro args ⟨bs, hbs, rfl⟩
  refine ⟨by simp, fun k hk E hE Q hQ => ?_⟩
  refine Aw_st hE [0, 2, 3] [2, 3] fun K hK => ?_
  simp only [go_sem, reduceIte, Nat.reduceLT, Nat.reduceLeDiff, Nat.reduceEqDiff, Nat.reduceAdd, Nat.reduceMul, Nat.reduceSub, Nat.reduceBEq, Int.reduceToNat, List.reduceReplicate, reduceCtorEq]
  refine hK _ ?_; clear hK K
  refine Aw_st hE [2, 3] [2, 3] fun K hK => ?_
  simp only [go_sem, reduceIte, Nat.reduceLT, Nat.reduceLeDiff, Nat.reduceEqDiff, Nat.reduceAdd, Nat.reduceMul, Nat.reduceSub, Nat.reduceBEq, Int.reduceToNat, List.reduceReplicate, reduceCtorEq]
  refine ⟨drd_pre bs hbs, fun b f c hb => ?_⟩
  refine hK _ (Aw_ret (hQ _ ?_))
  simp only [go_sem, reduceIte, Nat.reduceLT, Nat.reduceLeDiff, Nat.reduceEqDiff, Nat.reduceAdd, Nat.reduceMul, Nat.reduceSub, Nat.reduceBEq, Int.reduceToNat, List.reduceReplicate, reduceCtorEq]
  exact ⟨b, f, c, hb, rfl⟩
end Go.Proofs.W
end
section
namespace Go.Proofs.W
open Go Go.Eng Go.RowKit
set_option linter.unusedSimpArgs false
set_option maxRecDepth 100000

def dRibOkI (pb : Addr) : DFn := { g := gRibOk, inv := WP pb }
attribute [go_sem] dRibOkI
set_option maxHeartbeats 4000000 in
theorem iRibOk_ok (pb : Addr) : Fine Tryd.prog 19 (dRibOkI pb).con := by
  refine fine_det (T := TT) Tryd.func19 rfl Tryd.ntmps19 (by rw [Tryd.results19]) rfl rfl tt (gs_nil) (ds_cons iIsH_ok (ds_cons (iRtOk_ok pb) (ds_cons iRgCmp_ok ds_nil) (wp_inh pb))) ?_
  intro args c r h hc
  simp only [dRibOkI, gRibOk] at h
  split at h
  rotate_left
  · cases h
  split at h
  rotate_left
  · cases h
  rename_i h0 up t els _ l hgo
  obtain rfl := gotsL_eq hgo
  obtain ⟨rfl, rfl⟩ := Prod.mk.inj (Option.some.inj h)
  refine ⟨by simp, fun k E hE Q hQ => ?_⟩
  obtain ⟨hll, hlen⟩ := hc
  refine Aw_st hE [1] [1] fun K hK => ?_
  simp only [go_sem, reduceIte, Nat.reduceLT, Nat.reduceLeDiff, Nat.reduceEqDiff, Nat.reduceAdd, Nat.reduceMul, Nat.reduceSub, Nat.reduceBEq, Int.reduceToNat, List.reduceReplicate, reduceCtorEq]
  refine hK _ ?_; clear hK K
  refine Aw_sq fun B1 hB1 hR1 hX1 => ?_
  refine Aw_st hE [1, 14] [1] fun K hK => ?_
  simp only [go_sem, reduceIte, Nat.reduceLT, Nat.reduceLeDiff, Nat.reduceEqDiff, Nat.reduceAdd, Nat.reduceMul, Nat.reduceSub, Nat.reduceBEq, Int.reduceToNat, List.reduceReplicate, reduceCtorEq]
  refine ⟨fun hg3 => ?_, fun hg3 => ?_⟩
  · have hg3 : isH h0 = false := by simpa using hg3
    refine hK _ (Aw_yes rfl ?_)
    refine Aw_st hE [2] [] fun K hK => ?_
    simp only [go_sem, reduceIte, Nat.reduceLT, Nat.reduceLeDiff, Nat.reduceEqDiff, Nat.reduceAdd, Nat.reduceMul, Nat.reduceSub, Nat.reduceBEq, Int.reduceToNat, List.reduceReplicate, reduceCtorEq]
    refine hK _ (Aw_ret (hR1 _ (hQ _ ?_)))
    simp only [go_sem, reduceIte, Nat.reduceLT, Nat.reduceLeDiff, Nat.reduceEqDiff, Nat.reduceAdd, Nat.reduceMul, Nat.reduceSub, Nat.reduceBEq, Int.reduceToNat, List.reduceReplicate, reduceCtorEq, ribOk, hg3, Bool.false_and]
  have hg3 : isH h0 = true := by simpa using hg3
  refine hK _ (Aw_cond rfl (fun hc4 => ?_) (fun hc4 => ?_))
  · refine Aw_st hE [2] [] fun K hK => ?_
    simp only [go_sem, reduceIte, Nat.reduceLT, Nat.reduceLeDiff, Nat.reduceEqDiff, Nat.reduceAdd, Nat.reduceMul, Nat.reduceSub, Nat.reduceBEq, Int.reduceToNat, List.reduceReplicate, reduceCtorEq]
    refine hK _ (Aw_ret (hR1 _ (hQ _ ?_)))
    simp only [decide_eq_true_eq] at hc4
    simp only [go_sem, reduceIte, Nat.reduceLT, Nat.reduceLeDiff, Nat.reduceEqDiff, Nat.reduceAdd, Nat.reduceMul, Nat.reduceSub, Nat.reduceBEq, Int.reduceToNat, List.reduceReplicate, reduceCtorEq, ribOk, hg3, Bool.true_and, show decide (l.length ≤ 6) = false from decide_eq_false (by omega), Bool.false_and]
  simp only [decide_eq_false_iff_not] at hc4
  refine Aw_skip (hB1 _ ?_)
  refine Aw_sq fun B5 hB5 hR5 hX5 => ?_
  refine Aw_st hE [1, 16, 17, 18] [1] fun K hK => ?_
  simp only [go_sem, reduceIte, Nat.reduceLT, Nat.reduceLeDiff, Nat.reduceEqDiff, Nat.reduceAdd, Nat.reduceMul, Nat.reduceSub, Nat.reduceBEq, Int.reduceToNat, List.reduceReplicate, reduceCtorEq]
  refine hK _ ?_; clear hK K
  refine Aw_bk fun B6 hN6 hE6 hR6 hX6 => ?_
  refine Aw_lp (fun i : Nat => ⟨65, [(1, .loc 1 0), (16, .sl t (grows l)), (17, iv l.length), (18, iv i)], [(1, [iv h0, bv up, .sl t (grows l)])], k⟩) (fun i => i ≤ l.length ∧ allG h0 up none l = allG h0 up (prevG l i) (l.drop i) ∧ ∀ j, j < i → ∀ g, l[j]? = some g → rngOk g.r.f g.r.b = true) (fun i => l.length - i) 0 (Le.refl _) ⟨by omega, rfl, fun j hj => by omega⟩ fun i hi B7 hN7 hR7 hX7 => ?_
  obtain ⟨hi1, hi2, hi3⟩ := hi
  refine Aw_st hE [1, 16, 17, 18, 19] [1] fun K hK => ?_
  simp only [go_sem, reduceIte, Nat.reduceLT, Nat.reduceLeDiff, Nat.reduceEqDiff, Nat.reduceAdd, Nat.reduceMul, Nat.reduceSub, Nat.reduceBEq, Int.reduceToNat, List.reduceReplicate, reduceCtorEq]
  refine hK _ ?_; clear hK K
  refine Aw_sq fun B8 hB8 hR8 hX8 => ?_
  refine Aw_cond rfl (fun hc9 => ?_) (fun hc9 => ?_)
  rotate_left
  · refine Aw_exit (hX8 _ _ (hX7 _ _ (hE6 _ (hB5 _ ?_))))
    simp only [decide_eq_false_iff_not] at hc9
    have hal : allG h0 up none l = true := by rw [hi2, List.drop_eq_nil_of_le (by omega)]; rfl
    refine Aw_st hE [2] [] fun K hK => ?_
    simp only [go_sem, reduceIte, Nat.reduceLT, Nat.reduceLeDiff, Nat.reduceEqDiff, Nat.reduceAdd, Nat.reduceMul, Nat.reduceSub, Nat.reduceBEq, Int.reduceToNat, List.reduceReplicate, reduceCtorEq]
    refine hK _ (Aw_ret (hQ _ ?_))
    simp only [go_sem, reduceIte, Nat.reduceLT, Nat.reduceLeDiff, Nat.reduceEqDiff, Nat.reduceAdd, Nat.reduceMul, Nat.reduceSub, Nat.reduceBEq, Int.reduceToNat, List.reduceReplicate, reduceCtorEq, ribOk, hal, hg3, show decide (l.length ≤ 6) = true from decide_eq_true (by omega), Bool.and_self]
  simp only [decide_eq_true_eq] at hc9
  have hil : i < l.length := by omega
  have hget := grows_get l i hil
  have hln := hlen _ (List.getElem_mem hil)
  have hstop := fun h => ribOk_stop hil hi2 h
  have hst := hi2.trans (allG_drop hil)
  have hnx : ∀ (hr : rngOk l[i].r.f l[i].r.b = true), ∀ j, j < i + 1 → ∀ g, l[j]? = some g → rngOk g.r.f g.r.b = true := fun hr j hj g hg => by
    by_cases hji : j = i
    · subst hji
      rw [List.getElem?_eq_getElem hil] at hg
      obtain rfl := Option.some.inj hg
      exact hr
    · exact hi3 j (by omega) g hg
  generalize l[i] = x at hget hln hstop hst hnx
  obtain ⟨⟨rf, rb, p, rk, m⟩, old⟩ := x
  simp only at hln hnx
  refine Aw_skip (hB8 _ ?_)
  refine Aw_sq fun B10 hB10 hR10 hX10 => ?_
  refine Aw_bk fun B11 hN11 hE11 hR11 hX11 => ?_
  refine Aw_st hE [1, 3, 4, 16, 17, 18] [1, 4] fun K hK => ?_
  simp only [go_sem, reduceIte, Nat.reduceLT, Nat.reduceLeDiff, Nat.reduceEqDiff, Nat.reduceAdd, Nat.reduceMul, Nat.reduceSub, Nat.reduceBEq, Int.reduceToNat, List.reduceReplicate, reduceCtorEq, hget]
  repeat (refine And.intro (by first | omega | (and_intros <;> first | omega | exact rows_row _ | decide | (simp; done) | (simp; omega)) | fail) ?_)
  refine hK _ ?_; clear hK K
  refine Aw_sq fun B12 hB12 hR12 hX12 => ?_
  have hokR : okR ⟨rf, rb, p, rk, m⟩ = rtOk rf rb p rk m := rfl
  cases h1 : rtOk rf rb p rk m with
  | false =>
    have hf := hstop (by simp only [gotOk, hokR, h1, Bool.false_and])
    refine Aw_se hE [0, 1, 2, 3, 4, 5, 6, 7, 8, 9, 10, 11, 12, 13, 14, 15, 16, 17, 18, 19, 20, 21, 22, 23] [0, 1, 3, 7, 15, 31, 63, 127, 255, 511, 31, 1055, 4095, 8191, 16383, 32767, 65535, 131071, 262143, 524287, 1048575, 2097151, 4194303, 8388607] [1, 3, 4, 16, 17, 18, 46] [1, 4] (by kernel_rfl) fun K hK => ?_
    refine daopsE_cut 6 fun K1 hK1 => ?_
    simp only [go_sem, reduceIte, Nat.reduceLT, Nat.reduceLeDiff, Nat.reduceEqDiff, Nat.reduceAdd, Nat.reduceMul, Nat.reduceSub, Nat.reduceBEq, Int.reduceToNat, List.reduceReplicate, reduceCtorEq, h1]
    repeat (refine And.intro (by first | omega | (and_intros <;> first | omega | exact rows_row _ | decide | (simp; done) | (simp; omega)) | fail) ?_)
    refine hK1 _ ?_
    clear hK1
    refine daopsE_cut 6 fun K1 hK1 => ?_
    simp only [go_sem, reduceIte, Nat.reduceLT, Nat.reduceLeDiff, Nat.reduceEqDiff, Nat.reduceAdd, Nat.reduceMul, Nat.reduceSub, Nat.reduceBEq, Int.reduceToNat, List.reduceReplicate, reduceCtorEq, h1]
    repeat (refine And.intro (by first | omega | (and_intros <;> first | omega | exact rows_row _ | decide | (simp; done) | (simp; omega)) | fail) ?_)
    refine hK1 _ ?_
    clear hK1
    refine daopsE_cut 6 fun K1 hK1 => ?_
    simp only [go_sem, reduceIte, Nat.reduceLT, Nat.reduceLeDiff, Nat.reduceEqDiff, Nat.reduceAdd, Nat.reduceMul, Nat.reduceSub, Nat.reduceBEq, Int.reduceToNat, List.reduceReplicate, reduceCtorEq, h1]
    repeat (refine And.intro (by first | omega | (and_intros <;> first | omega | exact rows_row _ | decide | (simp; done) | (simp; omega)) | fail) ?_)
    refine hK1 _ ?_
    clear hK1
    simp only [go_sem, reduceIte, Nat.reduceLT, Nat.reduceLeDiff, Nat.reduceEqDiff, Nat.reduceAdd, Nat.reduceMul, Nat.reduceSub, Nat.reduceBEq, Int.reduceToNat, List.reduceReplicate, reduceCtorEq, h1]
    repeat (refine And.intro (by first | omega | (and_intros <;> first | omega | exact rows_row _ | decide | (simp; done) | (simp; omega)) | fail) ?_)
    refine hK _ (Aw_yes rfl ?_)
    refine Aw_st hE [2] [] fun K hK => ?_
    simp only [go_sem, reduceIte, Nat.reduceLT, Nat.reduceLeDiff, Nat.reduceEqDiff, Nat.reduceAdd, Nat.reduceMul, Nat.reduceSub, Nat.reduceBEq, Int.reduceToNat, List.reduceReplicate, reduceCtorEq]
    refine hK _ (Aw_ret (hR12 _ (hR11 _ (hR10 _ (hR7 _ (hR6 _ (hR5 _ (hQ _ ?_))))))))
    simp only [go_sem, reduceIte, Nat.reduceLT, Nat.reduceLeDiff, Nat.reduceEqDiff, Nat.reduceAdd, Nat.reduceMul, Nat.reduceSub, Nat.reduceBEq, Int.reduceToNat, List.reduceReplicate, reduceCtorEq, hf]
  | true =>
  have hrr := rtOk_r h1
  have hnx := hnx hrr
  obtain ⟨p0, p', rfl⟩ : ∃ p0 p', p = p0 :: p' := by
    have := (okR_parts (hokR.trans h1)).2.1
    cases p with
    | nil => simp at this
    | cons a b => exact ⟨a, b, rfl⟩
  obtain ⟨hln1, hln2⟩ := hln
  have hpl : p'.length ≤ 1000 := by simp at hln1; omega
  have hp0 : (rows (p0 :: p'))[0]? = some [.v (.int .i64 p0)] := rfl
  by_cases h2 : p0 = h0
  rotate_left
  · have hf := hstop (by simp [gotOk, h2])
    have h2d : decide (p0 = h0) = false := decide_eq_false h2
    refine Aw_se hE [0, 1, 2, 3, 4, 5, 6, 7, 8, 9, 10, 11, 12, 13, 14, 15, 16, 17, 18, 19, 20, 21, 22, 23] [0, 1, 3, 7, 15, 31, 63, 127, 255, 511, 31, 1055, 4095, 8191, 16383, 32767, 65535, 131071, 262143, 524287, 1048575, 2097151, 4194303, 8388607] [1, 3, 4, 16, 17, 18, 46] [1, 4] (by kernel_rfl) fun K hK => ?_
    refine daopsE_cut 6 fun K1 hK1 => ?_
    simp only [go_sem, reduceIte, Nat.reduceLT, Nat.reduceLeDiff, Nat.reduceEqDiff, Nat.reduceAdd, Nat.reduceMul, Nat.reduceSub, Nat.reduceBEq, Int.reduceToNat, List.reduceReplicate, reduceCtorEq, h1, hp0, h2d]
    repeat (refine And.intro (by first | omega | (and_intros <;> first | omega | exact rows_row _ | decide | (simp; done) | (simp; omega)) | fail) ?_)
    refine hK1 _ ?_
    clear hK1
    refine daopsE_cut 6 fun K1 hK1 => ?_
    simp only [go_sem, reduceIte, Nat.reduceLT, Nat.reduceLeDiff, Nat.reduceEqDiff, Nat.reduceAdd, Nat.reduceMul, Nat.reduceSub, Nat.reduceBEq, Int.reduceToNat, List.reduceReplicate, reduceCtorEq, h1, hp0, h2d]
    repeat (refine And.intro (by first | omega | (and_intros <;> first | omega | exact rows_row _ | decide | (simp; done) | (simp; omega)) | fail) ?_)
    refine hK1 _ ?_
    clear hK1
    refine daopsE_cut 6 fun K1 hK1 => ?_
    simp only [go_sem, reduceIte, Nat.reduceLT, Nat.reduceLeDiff, Nat.reduceEqDiff, Nat.reduceAdd, Nat.reduceMul, Nat.reduceSub, Nat.reduceBEq, Int.reduceToNat, List.reduceReplicate, reduceCtorEq, h1, hp0, h2d]
    repeat (refine And.intro (by first | omega | (and_intros <;> first | omega | exact rows_row _ | decide | (simp; done) | (simp; omega)) | fail) ?_)
    refine hK1 _ ?_
    clear hK1
    simp only [go_sem, reduceIte, Nat.reduceLT, Nat.reduceLeDiff, Nat.reduceEqDiff, Nat.reduceAdd, Nat.reduceMul, Nat.reduceSub, Nat.reduceBEq, Int.reduceToNat, List.reduceReplicate, reduceCtorEq, h1, hp0, h2d]
    repeat (refine And.intro (by first | omega | (and_intros <;> first | omega | exact rows_row _ | decide | (simp; done) | (simp; omega)) | fail) ?_)
    refine hK _ (Aw_yes rfl ?_)
    refine Aw_st hE [2] [] fun K hK => ?_
    simp only [go_sem, reduceIte, Nat.reduceLT, Nat.reduceLeDiff, Nat.reduceEqDiff, Nat.reduceAdd, Nat.reduceMul, Nat.reduceSub, Nat.reduceBEq, Int.reduceToNat, List.reduceReplicate, reduceCtorEq]
    refine hK _ (Aw_ret (hR12 _ (hR11 _ (hR10 _ (hR7 _ (hR6 _ (hR5 _ (hQ _ ?_))))))))
    simp only [go_sem, reduceIte, Nat.reduceLT, Nat.reduceLeDiff, Nat.reduceEqDiff, Nat.reduceAdd, Nat.reduceMul, Nat.reduceSub, Nat.reduceBEq, Int.reduceToNat, List.reduceReplicate, reduceCtorEq, hf]
  have h2d : decide (p0 = h0) = true := decide_eq_true h2
  cases h3 : (up || old) with
  | false =>
    have hf := hstop (by simp only [gotOk, h3, Bool.false_and, Bool.and_false])
    simp only [Bool.or_eq_false_iff] at h3
    refine Aw_se hE [0, 1, 2, 3, 4, 5, 6, 7, 8, 9, 10, 11, 12, 13, 14, 15, 16, 17, 18, 19, 20, 21, 22, 23] [0, 1, 3, 7, 15, 31, 63, 127, 255, 511, 31, 1055, 4095, 8191, 16383, 32767, 65535, 131071, 262143, 524287, 1048575, 2097151, 4194303, 8388607] [1, 3, 4, 16, 17, 18, 46] [1, 4] (by kernel_rfl) fun K hK => ?_
    refine daopsE_cut 6 fun K1 hK1 => ?_
    simp only [go_sem, reduceIte, Nat.reduceLT, Nat.reduceLeDiff, Nat.reduceEqDiff, Nat.reduceAdd, Nat.reduceMul, Nat.reduceSub, Nat.reduceBEq, Int.reduceToNat, List.reduceReplicate, reduceCtorEq, h1, hp0, h2d, h3.1, h3.2]
    repeat (refine And.intro (by first | omega | (and_intros <;> first | omega | exact rows_row _ | decide | (simp; done) | (simp; omega)) | fail) ?_)
    refine hK1 _ ?_
    clear hK1
    refine daopsE_cut 6 fun K1 hK1 => ?_
    simp only [go_sem, reduceIte, Nat.reduceLT, Nat.reduceLeDiff, Nat.reduceEqDiff, Nat.reduceAdd, Nat.reduceMul, Nat.reduceSub, Nat.reduceBEq, Int.reduceToNat, List.reduceReplicate, reduceCtorEq, h1, hp0, h2d, h3.1, h3.2]
    repeat (refine And.intro (by first | omega | (and_intros <;> first | omega | exact rows_row _ | decide | (simp; done) | (simp; omega)) | fail) ?_)
    refine hK1 _ ?_
    clear hK1
    refine daopsE_cut 6 fun K1 hK1 => ?_
    simp only [go_sem, reduceIte, Nat.reduceLT, Nat.reduceLeDiff, Nat.reduceEqDiff, Nat.reduceAdd, Nat.reduceMul, Nat.reduceSub, Nat.reduceBEq, Int.reduceToNat, List.reduceReplicate, reduceCtorEq, h1, hp0, h2d, h3.1, h3.2]
    repeat (refine And.intro (by first | omega | (and_intros <;> first | omega | exact rows_row _ | decide | (simp; done) | (simp; omega)) | fail) ?_)
    refine hK1 _ ?_
    clear hK1
    simp only [go_sem, reduceIte, Nat.reduceLT, Nat.reduceLeDiff, Nat.reduceEqDiff, Nat.reduceAdd, Nat.reduceMul, Nat.reduceSub, Nat.reduceBEq, Int.reduceToNat, List.reduceReplicate, reduceCtorEq, h1, hp0, h2d, h3.1, h3.2]
    repeat (refine And.intro (by first | omega | (and_intros <;> first | omega | exact rows_row _ | decide | (simp; done) | (simp; omega)) | fail) ?_)
    refine hK _ (Aw_yes rfl ?_)
    refine Aw_st hE [2] [] fun K hK => ?_
    simp only [go_sem, reduceIte, Nat.reduceLT, Nat.reduceLeDiff, Nat.reduceEqDiff, Nat.reduceAdd, Nat.reduceMul, Nat.reduceSub, Nat.reduceBEq, Int.reduceToNat, List.reduceReplicate, reduceCtorEq]
    refine hK _ (Aw_ret (hR12 _ (hR11 _ (hR10 _ (hR7 _ (hR6 _ (hR5 _ (hQ _ ?_))))))))
    simp only [go_sem, reduceIte, Nat.reduceLT, Nat.reduceLeDiff, Nat.reduceEqDiff, Nat.reduceAdd, Nat.reduceMul, Nat.reduceSub, Nat.reduceBEq, Int.reduceToNat, List.reduceReplicate, reduceCtorEq, hf]
  | true =>
  have e1 : okR ⟨rf, rb, h0 :: p', rk, m⟩ = true := by rw [← h2]; exact hokR.trans h1
  have hgo2 : gotOk h0 up (prevG l i) ⟨⟨rf, rb, p0 :: p', rk, m⟩, old⟩ = (match prevG l i with | none => true | some q => decide (rCmp q.r.f q.r.b rf rb < 0)) := by
    simp only [gotOk, e1, h3, h2, List.head?_cons, Bool.true_and, decide_true]
    all_goals (cases prevG l i <;> rfl)
  rw [hgo2] at hst hstop
  have hupo : up = true ∨ (up = false ∧ old = true) := by
    cases up <;> simp_all
  rcases hupo with hu | ⟨hu, ho⟩
  · subst hu
    refine Aw_se hE [0, 1, 2, 3, 4, 5, 6, 7, 8, 9, 10, 11, 12, 13, 14, 15, 16, 17, 18, 19, 20, 21, 22, 23] [0, 1, 3, 7, 15, 31, 63, 127, 255, 511, 31, 1055, 4095, 8191, 16383, 32767, 65535, 131071, 262143, 524287, 1048575, 2097151, 4194303, 8388607] [1, 3, 4, 16, 17, 18, 46] [1, 4] (by kernel_rfl) fun K hK => ?_
    refine daopsE_cut 6 fun K1 hK1 => ?_
    simp only [go_sem, reduceIte, Nat.reduceLT, Nat.reduceLeDiff, Nat.reduceEqDiff, Nat.reduceAdd, Nat.reduceMul, Nat.reduceSub, Nat.reduceBEq, Int.reduceToNat, List.reduceReplicate, reduceCtorEq, h1, hp0, h2d]
    repeat (refine And.intro (by first | omega | (and_intros <;> first | omega | exact rows_row _ | decide | (simp; done) | (simp; omega)) | fail) ?_)
    refine hK1 _ ?_
    clear hK1
    refine daopsE_cut 6 fun K1 hK1 => ?_
    simp only [go_sem, reduceIte, Nat.reduceLT, Nat.reduceLeDiff, Nat.reduceEqDiff, Nat.reduceAdd, Nat.reduceMul, Nat.reduceSub, Nat.reduceBEq, Int.reduceToNat, List.reduceReplicate, reduceCtorEq, h1, hp0, h2d]
    repeat (refine And.intro (by first | omega | (and_intros <;> first | omega | exact rows_row _ | decide | (simp; done) | (simp; omega)) | fail) ?_)
    refine hK1 _ ?_
    clear hK1
    refine daopsE_cut 6 fun K1 hK1 => ?_
    simp only [go_sem, reduceIte, Nat.reduceLT, Nat.reduceLeDiff, Nat.reduceEqDiff, Nat.reduceAdd, Nat.reduceMul, Nat.reduceSub, Nat.reduceBEq, Int.reduceToNat, List.reduceReplicate, reduceCtorEq, h1, hp0, h2d]
    repeat (refine And.intro (by first | omega | (and_intros <;> first | omega | exact rows_row _ | decide | (simp; done) | (simp; omega)) | fail) ?_)
    refine hK1 _ ?_
    clear hK1
    simp only [go_sem, reduceIte, Nat.reduceLT, Nat.reduceLeDiff, Nat.reduceEqDiff, Nat.reduceAdd, Nat.reduceMul, Nat.reduceSub, Nat.reduceBEq, Int.reduceToNat, List.reduceReplicate, reduceCtorEq, h1, hp0, h2d]
    repeat (refine And.intro (by first | omega | (and_intros <;> first | omega | exact rows_row _ | decide | (simp; done) | (simp; omega)) | fail) ?_)
    refine hK _ (Aw_no rfl (Aw_skip (hB12 _ ?_)))
    by_cases hi0 : i = 0
    · have hz : decide ((0 : Int) < (i : Int)) = false := decide_eq_false (by omega)
      have hpv : prevG l i = none := by rw [hi0]; rfl
      rw [hpv] at hst
      simp only [Bool.true_and] at hst
      have hst : allG h0 true none l = allG h0 true (prevG l (i + 1)) (l.drop (i + 1)) := hst
      refine Aw_se hE [0, 1, 2, 3, 4, 5, 6, 7, 8, 9, 10, 11, 12, 13, 14, 15, 16] [0, 1, 3, 7, 15, 7, 39, 127, 255, 511, 1023, 7, 2055, 6151, 16383, 32767, 65535] [1, 16, 17, 18, 63] [1] (by kernel_rfl) fun K hK => ?_
      refine daopsE_cut 6 fun K1 hK1 => ?_
      simp only [go_sem, reduceIte, Nat.reduceLT, Nat.reduceLeDiff, Nat.reduceEqDiff, Nat.reduceAdd, Nat.reduceMul, Nat.reduceSub, Nat.reduceBEq, Int.reduceToNat, List.reduceReplicate, reduceCtorEq, hz]
      repeat (refine And.intro (by first | omega | (and_intros <;> first | omega | exact rows_row _ | decide | (simp; done) | (simp; omega)) | fail) ?_)
      refine hK1 _ ?_
      clear hK1
      refine daopsE_cut 6 fun K1 hK1 => ?_
      simp only [go_sem, reduceIte, Nat.reduceLT, Nat.reduceLeDiff, Nat.reduceEqDiff, Nat.reduceAdd, Nat.reduceMul, Nat.reduceSub, Nat.reduceBEq, Int.reduceToNat, List.reduceReplicate, reduceCtorEq, hz]
      repeat (refine And.intro (by first | omega | (and_intros <;> first | omega | exact rows_row _ | decide | (simp; done) | (simp; omega)) | fail) ?_)
      refine hK1 _ ?_
      clear hK1
      simp only [go_sem, reduceIte, Nat.reduceLT, Nat.reduceLeDiff, Nat.reduceEqDiff, Nat.reduceAdd, Nat.reduceMul, Nat.reduceSub, Nat.reduceBEq, Int.reduceToNat, List.reduceReplicate, reduceCtorEq, hz]
      repeat (refine And.intro (by first | omega | (and_intros <;> first | omega | exact rows_row _ | decide | (simp; done) | (simp; omega)) | fail) ?_)
      refine hK _ (Aw_no rfl (Aw_skip (hN11 _ (hB10 _ ?_))))
      refine Aw_tx hE [1, 16, 17, 18] [1] fun K hK => ?_
      simp only [go_sem, reduceIte, Nat.reduceLT, Nat.reduceLeDiff, Nat.reduceEqDiff, Nat.reduceAdd, Nat.reduceMul, Nat.reduceSub, Nat.reduceBEq, Int.reduceToNat, List.reduceReplicate, reduceCtorEq]
      repeat (refine And.intro (by first | omega | (and_intros <;> first | omega | exact rows_row _ | decide | (simp; done) | (simp; omega)) | fail) ?_)
      refine hK _ (hN7 (i + 1) _ ⟨by omega, hst, hnx⟩ (by omega) (Le.refl _))
    · have hz : decide ((0 : Int) < (i : Int)) = true := decide_eq_true (by omega)
      have et : ((i : Int) - 1).toNat = i - 1 := by omega
      have hget2 := grows_get l (i - 1) (by omega)
      have hrq := hi3 (i - 1) (by omega) _ (List.getElem?_eq_getElem (by omega))
      have hpv : prevG l i = some l[i - 1] := by
        cases i with
        | zero => exact absurd rfl hi0
        | succ j => exact List.getElem?_eq_getElem (by omega)
      rw [hpv] at hst hstop
      generalize l[i - 1] = y at hget2 hst hstop hrq
      obtain ⟨⟨qf, qb, qp, qk, qm⟩, qo⟩ := y
      simp only at hst hstop hrq
      cases hq : decide (rCmp qf qb rf rb < 0) with
      | true =>
        rw [hq, Bool.true_and] at hst
        have hq2 : decide (0 ≤ rCmp qf qb rf rb) = false := by
          simp only [decide_eq_true_eq] at hq
          exact decide_eq_false (by omega)
        refine Aw_se hE [0, 1, 2, 3, 4, 5, 6, 7, 8, 9, 10, 11, 12, 13, 14, 15, 16] [0, 1, 3, 7, 15, 7, 39, 127, 255, 511, 1023, 7, 2055, 6151, 16383, 32767, 65535] [1, 16, 17, 18, 63] [1] (by kernel_rfl) fun K hK => ?_
        refine daopsE_cut 6 fun K1 hK1 => ?_
        simp only [go_sem, reduceIte, Nat.reduceLT, Nat.reduceLeDiff, Nat.reduceEqDiff, Nat.reduceAdd, Nat.reduceMul, Nat.reduceSub, Nat.reduceBEq, Int.reduceToNat, List.reduceReplicate, reduceCtorEq, hz, et, hget2, hrq, hrr, hq2, Bool.and_self, if_true]
        repeat (refine And.intro (by first | omega | (and_intros <;> first | omega | exact rows_row _ | decide | (simp; done) | (simp; omega)) | fail) ?_)
        refine hK1 _ ?_
        clear hK1
        refine daopsE_cut 6 fun K1 hK1 => ?_
        simp only [go_sem, reduceIte, Nat.reduceLT, Nat.reduceLeDiff, Nat.reduceEqDiff, Nat.reduceAdd, Nat.reduceMul, Nat.reduceSub, Nat.reduceBEq, Int.reduceToNat, List.reduceReplicate, reduceCtorEq, hz, et, hget2, hrq, hrr, hq2, Bool.and_self, if_true]
        repeat (refine And.intro (by first | omega | (and_intros <;> first | omega | exact rows_row _ | decide | (simp; done) | (simp; omega)) | fail) ?_)
        refine hK1 _ ?_
        clear hK1
        simp only [go_sem, reduceIte, Nat.reduceLT, Nat.reduceLeDiff, Nat.reduceEqDiff, Nat.reduceAdd, Nat.reduceMul, Nat.reduceSub, Nat.reduceBEq, Int.reduceToNat, List.reduceReplicate, reduceCtorEq, hz, et, hget2, hrq, hrr, hq2, Bool.and_self, if_true]
        repeat (refine And.intro (by first | omega | (and_intros <;> first | omega | exact rows_row _ | decide | (simp; done) | (simp; omega)) | fail) ?_)
        refine hK _ (Aw_no rfl (Aw_skip (hN11 _ (hB10 _ ?_))))
        refine Aw_tx hE [1, 16, 17, 18] [1] fun K hK => ?_
        simp only [go_sem, reduceIte, Nat.reduceLT, Nat.reduceLeDiff, Nat.reduceEqDiff, Nat.reduceAdd, Nat.reduceMul, Nat.reduceSub, Nat.reduceBEq, Int.reduceToNat, List.reduceReplicate, reduceCtorEq]
        repeat (refine And.intro (by first | omega | (and_intros <;> first | omega | exact rows_row _ | decide | (simp; done) | (simp; omega)) | fail) ?_)
        refine hK _ (hN7 (i + 1) _ ⟨by omega, hst, hnx⟩ (by omega) (Le.refl _))
      | false =>
        have hf := hstop hq
        have hq2 : decide (0 ≤ rCmp qf qb rf rb) = true := by
          simp only [decide_eq_false_iff_not] at hq
          exact decide_eq_true (by omega)
        refine Aw_se hE [0, 1, 2, 3, 4, 5, 6, 7, 8, 9, 10, 11, 12, 13, 14, 15, 16] [0, 1, 3, 7, 15, 7, 39, 127, 255, 511, 1023, 7, 2055, 6151, 16383, 32767, 65535] [1, 16, 17, 18, 63] [1] (by kernel_rfl) fun K hK => ?_
        refine daopsE_cut 6 fun K1 hK1 => ?_
        simp only [go_sem, reduceIte, Nat.reduceLT, Nat.reduceLeDiff, Nat.reduceEqDiff, Nat.reduceAdd, Nat.reduceMul, Nat.reduceSub, Nat.reduceBEq, Int.reduceToNat, List.reduceReplicate, reduceCtorEq, hz, et, hget2, hrq, hrr, hq2, Bool.and_self, if_true]
        repeat (refine And.intro (by first | omega | (and_intros <;> first | omega | exact rows_row _ | decide | (simp; done) | (simp; omega)) | fail) ?_)
        refine hK1 _ ?_
        clear hK1
        refine daopsE_cut 6 fun K1 hK1 => ?_
        simp only [go_sem, reduceIte, Nat.reduceLT, Nat.reduceLeDiff, Nat.reduceEqDiff, Nat.reduceAdd, Nat.reduceMul, Nat.reduceSub, Nat.reduceBEq, Int.reduceToNat, List.reduceReplicate, reduceCtorEq, hz, et, hget2, hrq, hrr, hq2, Bool.and_self, if_true]
        repeat (refine And.intro (by first | omega | (and_intros <;> first | omega | exact rows_row _ | decide | (simp; done) | (simp; omega)) | fail) ?_)
        refine hK1 _ ?_
        clear hK1
        simp only [go_sem, reduceIte, Nat.reduceLT, Nat.reduceLeDiff, Nat.reduceEqDiff, Nat.reduceAdd, Nat.reduceMul, Nat.reduceSub, Nat.reduceBEq, Int.reduceToNat, List.reduceReplicate, reduceCtorEq, hz, et, hget2, hrq, hrr, hq2, Bool.and_self, if_true]
        repeat (refine And.intro (by first | omega | (and_intros <;> first | omega | exact rows_row _ | decide | (simp; done) | (simp; omega)) | fail) ?_)
        refine hK _ (Aw_yes rfl ?_)
        refine Aw_st hE [2] [] fun K hK => ?_
        simp only [go_sem, reduceIte, Nat.reduceLT, Nat.reduceLeDiff, Nat.reduceEqDiff, Nat.reduceAdd, Nat.reduceMul, Nat.reduceSub, Nat.reduceBEq, Int.reduceToNat, List.reduceReplicate, reduceCtorEq]
        refine hK _ (Aw_ret (hR11 _ (hR10 _ (hR7 _ (hR6 _ (hR5 _ (hQ _ ?_)))))))
        simp only [go_sem, reduceIte, Nat.reduceLT, Nat.reduceLeDiff, Nat.reduceEqDiff, Nat.reduceAdd, Nat.reduceMul, Nat.reduceSub, Nat.reduceBEq, Int.reduceToNat, List.reduceReplicate, reduceCtorEq, hf]
  · subst hu ho
    refine Aw_se hE [0, 1, 2, 3, 4, 5, 6, 7, 8, 9, 10, 11, 12, 13, 14, 15, 16, 17, 18, 19, 20, 21, 22, 23] [0, 1, 3, 7, 15, 31, 63, 127, 255, 511, 31, 1055, 4095, 8191, 16383, 32767, 65535, 131071, 262143, 524287, 1048575, 2097151, 4194303, 8388607] [1, 3, 4, 16, 17, 18, 46] [1, 4] (by kernel_rfl) fun K hK => ?_
    refine daopsE_cut 6 fun K1 hK1 => ?_
    simp only [go_sem, reduceIte, Nat.reduceLT, Nat.reduceLeDiff, Nat.reduceEqDiff, Nat.reduceAdd, Nat.reduceMul, Nat.reduceSub, Nat.reduceBEq, Int.reduceToNat, List.reduceReplicate, reduceCtorEq, h1, hp0, h2d]
    repeat (refine And.intro (by first | omega | (and_intros <;> first | omega | exact rows_row _ | decide | (simp; done) | (simp; omega)) | fail) ?_)
    refine hK1 _ ?_
    clear hK1
    refine daopsE_cut 6 fun K1 hK1 => ?_
    simp only [go_sem, reduceIte, Nat.reduceLT, Nat.reduceLeDiff, Nat.reduceEqDiff, Nat.reduceAdd, Nat.reduceMul, Nat.reduceSub, Nat.reduceBEq, Int.reduceToNat, List.reduceReplicate, reduceCtorEq, h1, hp0, h2d]
    repeat (refine And.intro (by first | omega | (and_intros <;> first | omega | exact rows_row _ | decide | (simp; done) | (simp; omega)) | fail) ?_)
    refine hK1 _ ?_
    clear hK1
    refine daopsE_cut 6 fun K1 hK1 => ?_
    simp only [go_sem, reduceIte, Nat.reduceLT, Nat.reduceLeDiff, Nat.reduceEqDiff, Nat.reduceAdd, Nat.reduceMul, Nat.reduceSub, Nat.reduceBEq, Int.reduceToNat, List.reduceReplicate, reduceCtorEq, h1, hp0, h2d]
    repeat (refine And.intro (by first | omega | (and_intros <;> first | omega | exact rows_row _ | decide | (simp; done) | (simp; omega)) | fail) ?_)
    refine hK1 _ ?_
    clear hK1
    simp only [go_sem, reduceIte, Nat.reduceLT, Nat.reduceLeDiff, Nat.reduceEqDiff, Nat.reduceAdd, Nat.reduceMul, Nat.reduceSub, Nat.reduceBEq, Int.reduceToNat, List.reduceReplicate, reduceCtorEq, h1, hp0, h2d]
    repeat (refine And.intro (by first | omega | (and_intros <;> first | omega | exact rows_row _ | decide | (simp; done) | (simp; omega)) | fail) ?_)
    refine hK _ (Aw_no rfl (Aw_skip (hB12 _ ?_)))
    by_cases hi0 : i = 0
    · have hz : decide ((0 : Int) < (i : Int)) = false := decide_eq_false (by omega)
      have hpv : prevG l i = none := by rw [hi0]; rfl
      rw [hpv] at hst
      simp only [Bool.true_and] at hst
      have hst : allG h0 false none l = allG h0 false (prevG l (i + 1)) (l.drop (i + 1)) := hst
      refine Aw_se hE [0, 1, 2, 3, 4, 5, 6, 7, 8, 9, 10, 11, 12, 13, 14, 15, 16] [0, 1, 3, 7, 15, 7, 39, 127, 255, 511, 1023, 7, 2055, 6151, 16383, 32767, 65535] [1, 16, 17, 18, 63] [1] (by kernel_rfl) fun K hK => ?_
      refine daopsE_cut 6 fun K1 hK1 => ?_
      simp only [go_sem, reduceIte, Nat.reduceLT, Nat.reduceLeDiff, Nat.reduceEqDiff, Nat.reduceAdd, Nat.reduceMul, Nat.reduceSub, Nat.reduceBEq, Int.reduceToNat, List.reduceReplicate, reduceCtorEq, hz]
      repeat (refine And.intro (by first | omega | (and_intros <;> first | omega | exact rows_row _ | decide | (simp; done) | (simp; omega)) | fail) ?_)
      refine hK1 _ ?_
      clear hK1
      refine daopsE_cut 6 fun K1 hK1 => ?_
      simp only [go_sem, reduceIte, Nat.reduceLT, Nat.reduceLeDiff, Nat.reduceEqDiff, Nat.reduceAdd, Nat.reduceMul, Nat.reduceSub, Nat.reduceBEq, Int.reduceToNat, List.reduceReplicate, reduceCtorEq, hz]
      repeat (refine And.intro (by first | omega | (and_intros <;> first | omega | exact rows_row _ | decide | (simp; done) | (simp; omega)) | fail) ?_)
      refine hK1 _ ?_
      clear hK1
      simp only [go_sem, reduceIte, Nat.reduceLT, Nat.reduceLeDiff, Nat.reduceEqDiff, Nat.reduceAdd, Nat.reduceMul, Nat.reduceSub, Nat.reduceBEq, Int.reduceToNat, List.reduceReplicate, reduceCtorEq, hz]
      repeat (refine And.intro (by first | omega | (and_intros <;> first | omega | exact rows_row _ | decide | (simp; done) | (simp; omega)) | fail) ?_)
      refine hK _ (Aw_no rfl (Aw_skip (hN11 _ (hB10 _ ?_))))
      refine Aw_tx hE [1, 16, 17, 18] [1] fun K hK => ?_
      simp only [go_sem, reduceIte, Nat.reduceLT, Nat.reduceLeDiff, Nat.reduceEqDiff, Nat.reduceAdd, Nat.reduceMul, Nat.reduceSub, Nat.reduceBEq, Int.reduceToNat, List.reduceReplicate, reduceCtorEq]
      repeat (refine And.intro (by first | omega | (and_intros <;> first | omega | exact rows_row _ | decide | (simp; done) | (simp; omega)) | fail) ?_)
      refine hK _ (hN7 (i + 1) _ ⟨by omega, hst, hnx⟩ (by omega) (Le.refl _))
    · have hz : decide ((0 : Int) < (i : Int)) = true := decide_eq_true (by omega)
      have et : ((i : Int) - 1).toNat = i - 1 := by omega
      have hget2 := grows_get l (i - 1) (by omega)
      have hrq := hi3 (i - 1) (by omega) _ (List.getElem?_eq_getElem (by omega))
      have hpv : prevG l i = some l[i - 1] := by
        cases i with
        | zero => exact absurd rfl hi0
        | succ j => exact List.getElem?_eq_getElem (by omega)
      rw [hpv] at hst hstop
      generalize l[i - 1] = y at hget2 hst hstop hrq
      obtain ⟨⟨qf, qb, qp, qk, qm⟩, qo⟩ := y
      simp only at hst hstop hrq
      cases hq : decide (rCmp qf qb rf rb < 0) with
      | true =>
        rw [hq, Bool.true_and] at hst
        have hq2 : decide (0 ≤ rCmp qf qb rf rb) = false := by
          simp only [decide_eq_true_eq] at hq
          exact decide_eq_false (by omega)
        refine Aw_se hE [0, 1, 2, 3, 4, 5, 6, 7, 8, 9, 10, 11, 12, 13, 14, 15, 16] [0, 1, 3, 7, 15, 7, 39, 127, 255, 511, 1023, 7, 2055, 6151, 16383, 32767, 65535] [1, 16, 17, 18, 63] [1] (by kernel_rfl) fun K hK => ?_
        refine daopsE_cut 6 fun K1 hK1 => ?_
        simp only [go_sem, reduceIte, Nat.reduceLT, Nat.reduceLeDiff, Nat.reduceEqDiff, Nat.reduceAdd, Nat.reduceMul, Nat.reduceSub, Nat.reduceBEq, Int.reduceToNat, List.reduceReplicate, reduceCtorEq, hz, et, hget2, hrq, hrr, hq2, Bool.and_self, if_true]
        repeat (refine And.intro (by first | omega | (and_intros <;> first | omega | exact rows_row _ | decide | (simp; done) | (simp; omega)) | fail) ?_)
        refine hK1 _ ?_
        clear hK1
        refine daopsE_cut 6 fun K1 hK1 => ?_
        simp only [go_sem, reduceIte, Nat.reduceLT, Nat.reduceLeDiff, Nat.reduceEqDiff, Nat.reduceAdd, Nat.reduceMul, Nat.reduceSub, Nat.reduceBEq, Int.reduceToNat, List.reduceReplicate, reduceCtorEq, hz, et, hget2, hrq, hrr, hq2, Bool.and_self, if_true]
        repeat (refine And.intro (by first | omega | (and_intros <;> first | omega | exact rows_row _ | decide | (simp; done) | (simp; omega)) | fail) ?_)
        refine hK1 _ ?_
        clear hK1
        simp only [go_sem, reduceIte, Nat.reduceLT, Nat.reduceLeDiff, Nat.reduceEqDiff, Nat.reduceAdd, Nat.reduceMul, Nat.reduceSub, Nat.reduceBEq, Int.reduceToNat, List.reduceReplicate, reduceCtorEq, hz, et, hget2, hrq, hrr, hq2, Bool.and_self, if_true]
        repeat (refine And.intro (by first | omega | (and_intros <;> first | omega | exact rows_row _ | decide | (simp; done) | (simp; omega)) | fail) ?_)
        refine hK _ (Aw_no rfl (Aw_skip (hN11 _ (hB10 _ ?_))))
        refine Aw_tx hE [1, 16, 17, 18] [1] fun K hK => ?_
        simp only [go_sem, reduceIte, Nat.reduceLT, Nat.reduceLeDiff, Nat.reduceEqDiff, Nat.reduceAdd, Nat.reduceMul, Nat.reduceSub, Nat.reduceBEq, Int.reduceToNat, List.reduceReplicate, reduceCtorEq]
        repeat (refine And.intro (by first | omega | (and_intros <;> first | omega | exact rows_row _ | decide | (simp; done) | (simp; omega)) | fail) ?_)
        refine hK _ (hN7 (i + 1) _ ⟨by omega, hst, hnx⟩ (by omega) (Le.refl _))
      | false =>
        have hf := hstop hq
        have hq2 : decide (0 ≤ rCmp qf qb rf rb) = true := by
          simp only [decide_eq_false_iff_not] at hq
          exact decide_eq_true (by omega)
        refine Aw_se hE [0, 1, 2, 3, 4, 5, 6, 7, 8, 9, 10, 11, 12, 13, 14, 15, 16] [0, 1, 3, 7, 15, 7, 39, 127, 255, 511, 1023, 7, 2055, 6151, 16383, 32767, 65535] [1, 16, 17, 18, 63] [1] (by kernel_rfl) fun K hK => ?_
        refine daopsE_cut 6 fun K1 hK1 => ?_
        simp only [go_sem, reduceIte, Nat.reduceLT, Nat.reduceLeDiff, Nat.reduceEqDiff, Nat.reduceAdd, Nat.reduceMul, Nat.reduceSub, Nat.reduceBEq, Int.reduceToNat, List.reduceReplicate, reduceCtorEq, hz, et, hget2, hrq, hrr, hq2, Bool.and_self, if_true]
        repeat (refine And.intro (by first | omega | (and_intros <;> first | omega | exact rows_row _ | decide | (simp; done) | (simp; omega)) | fail) ?_)
        refine hK1 _ ?_
        clear hK1
        refine daopsE_cut 6 fun K1 hK1 => ?_
        simp only [go_sem, reduceIte, Nat.reduceLT, Nat.reduceLeDiff, Nat.reduceEqDiff, Nat.reduceAdd, Nat.reduceMul, Nat.reduceSub, Nat.reduceBEq, Int.reduceToNat, List.reduceReplicate, reduceCtorEq, hz, et, hget2, hrq, hrr, hq2, Bool.and_self, if_true]
        repeat (refine And.intro (by first | omega | (and_intros <;> first | omega | exact rows_row _ | decide | (simp; done) | (simp; omega)) | fail) ?_)
        refine hK1 _ ?_
        clear hK1
        simp only [go_sem, reduceIte, Nat.reduceLT, Nat.reduceLeDiff, Nat.reduceEqDiff, Nat.reduceAdd, Nat.reduceMul, Nat.reduceSub, Nat.reduceBEq, Int.reduceToNat, List.reduceReplicate, reduceCtorEq, hz, et, hget2, hrq, hrr, hq2, Bool.and_self, if_true]
        repeat (refine And.intro (by first | omega | (and_intros <;> first | omega | exact rows_row _ | decide | (simp; done) | (simp; omega)) | fail) ?_)
        refine hK _ (Aw_yes rfl ?_)
        refine Aw_st hE [2] [] fun K hK => ?_
        simp only [go_sem, reduceIte, Nat.reduceLT, Nat.reduceLeDiff, Nat.reduceEqDiff, Nat.reduceAdd, Nat.reduceMul, Nat.reduceSub, Nat.reduceBEq, Int.reduceToNat, List.reduceReplicate, reduceCtorEq]
        refine hK _ (Aw_ret (hR11 _ (hR10 _ (hR7 _ (hR6 _ (hR5 _ (hQ _ ?_)))))))
        simp only [go_sem, reduceIte, Nat.reduceLT, Nat.reduceLeDiff, Nat.reduceEqDiff, Nat.reduceAdd, Nat.reduceMul, Nat.reduceSub, Nat.reduceBEq, Int.reduceToNat, List.reduceReplicate, reduceCtorEq, hf]
end Go.Proofs.W
end
section
namespace Go.Proofs.W
open Go Go.Eng Go.RowKit
set_option linter.unusedSimpArgs false
set_option maxRecDepth 100000

/-! what is found -/
theorem find_at {f : Gt → Bool} : ∀ {l : List Gt} {i : Nat} (hi : i < l.length), f l[i] = true → (∀ x ∈ l.take i, f x = false) → l.find? f = some l[i]
  | [], i, hi, _, _ => by simp at hi
  | x :: l, 0, _, h, _ => by
    rw [List.find?_cons, show f x = true from h]
    rfl
  | x :: l, i + 1, hi, h, hn => by
    have hx : f x = false := hn x (by simp)
    rw [List.find?_cons, hx]
    exact find_at (l := l) (i := i) (by simpa using hi) (by simpa using h) fun y hy => hn y (by simp [hy])
theorem ribFind_cases {h : Int} {up : Bool} {l : List Gt} (f c : Int) (hok : ribOk ⟨h, up, l⟩ = true) :
    (atG l f c = -1 ∧ ribFind ⟨h, up, l⟩ f c = none) ∨ ∃ i, ∃ hi : i < l.length, atG l f c = (i : Nat) ∧ ribFind ⟨h, up, l⟩ f c = some l[i].r := by
  unfold ribFind
  rw [hok, if_pos rfl]
  rcases idxB_some (f := sameRg f c) (l := l) (k := 0) with ⟨h1, h2⟩ | ⟨i, hi, h1, h2, h3⟩
  · left
    refine ⟨h1, ?_⟩
    have : l.find? (sameRg f c) = none := List.find?_eq_none.2 fun x hx => by rw [h2 x hx]; simp
    simp only [this, Option.map_none]
  · right
    refine ⟨i, hi, by unfold atG; rw [h1]; simp, ?_⟩
    simp only [find_at hi h2 h3, Option.map_some]
def gRibFind : List AV → Option (Prop × AV)
  | [.agg [.v (.int .i64 h), .v (.bool up), .sl _ els], .agg [.v (.int .i64 f), .v (.int .i64 c)]] => (match gotsL els with
    | some l => some (l.length ≤ 1000000 ∧ lensG l, resR (ribFind ⟨h, up, l⟩ f c))
    | none => none)
  | _ => none
def dRibFind : DFn := { g := gRibFind }
def dRibFindI (pb : Addr) : DFn := { g := gRibFind, inv := WP pb }
attribute [go_sem] gRibFind dRibFind dRibFindI
theorem sRibFind_ok : Fine Tryd.prog 8 dRibFind.con := by
  refine fine_det (T := TT) Tryd.func8 rfl Tryd.ntmps8 (by rw [Tryd.results8]) rfl rfl tt (gs_nil) (ds_cons sRibOk_ok (ds_cons l21At_ok (ds_cons l4Copy_ok ds_nil))) ?_
  intro args c r h hc
  simp only [dRibFind, gRibFind] at h
  split at h
  rotate_left
  · cases h
  split at h
  rotate_left
  · cases h
  rename_i h0 up t els f c _ l hgo
  obtain rfl := gotsL_eq hgo
  obtain ⟨rfl, rfl⟩ := Prod.mk.inj (Option.some.inj h)
  refine ⟨by simp, fun k E hE Q hQ => ?_⟩
  obtain ⟨hll, hlen⟩ := hc
  refine Aw_st hE [2, 3, 4] [2, 3, 4] fun K hK => ?_
  simp only [go_sem, reduceIte, Nat.reduceLT, Nat.reduceLeDiff, Nat.reduceEqDiff, Nat.reduceAdd, Nat.reduceMul, Nat.reduceSub, Nat.reduceBEq, Int.reduceToNat, List.reduceReplicate, reduceCtorEq]
  refine hK _ ?_; clear hK K
  refine Aw_sq fun B1 hB1 hR1 hX1 => ?_
  cases hok : ribOk ⟨h0, up, l⟩ with
  | false =>
    have hz : resR (ribFind ⟨h0, up, l⟩ f c) = .tup [.agg [iv 0, iv 0, isl [], iv 0, isl []], bv false] := by simp [ribFind, hok, resR, rt0]
    refine Aw_st hE [2, 3, 4, 14] [2, 3, 4] fun K hK => ?_
    simp only [go_sem, reduceIte, Nat.reduceLT, Nat.reduceLeDiff, Nat.reduceEqDiff, Nat.reduceAdd, Nat.reduceMul, Nat.reduceSub, Nat.reduceBEq, Int.reduceToNat, List.reduceReplicate, reduceCtorEq, hok]
    refine ⟨⟨hll, hlen⟩, ?_⟩
    refine hK _ (Aw_yes rfl ?_)
    refine Aw_st hE [4, 5] [4] fun K hK => ?_
    simp only [go_sem, reduceIte, Nat.reduceLT, Nat.reduceLeDiff, Nat.reduceEqDiff, Nat.reduceAdd, Nat.reduceMul, Nat.reduceSub, Nat.reduceBEq, Int.reduceToNat, List.reduceReplicate, reduceCtorEq]
    refine hK _ (Aw_ret (hR1 _ (hQ _ ?_)))
    simp only [go_sem, reduceIte, Nat.reduceLT, Nat.reduceLeDiff, Nat.reduceEqDiff, Nat.reduceAdd, Nat.reduceMul, Nat.reduceSub, Nat.reduceBEq, Int.reduceToNat, List.reduceReplicate, reduceCtorEq, hz]
    rfl
  | true =>
    rcases ribFind_cases f c hok with ⟨h1, h2⟩ | ⟨i, hi, h1, h2⟩
    · have hz : resR (ribFind ⟨h0, up, l⟩ f c) = .tup [.agg [iv 0, iv 0, isl [], iv 0, isl []], bv false] := by rw [h2]; rfl
      refine Aw_st hE [2, 3, 4, 14] [2, 3, 4] fun K hK => ?_
      simp only [go_sem, reduceIte, Nat.reduceLT, Nat.reduceLeDiff, Nat.reduceEqDiff, Nat.reduceAdd, Nat.reduceMul, Nat.reduceSub, Nat.reduceBEq, Int.reduceToNat, List.reduceReplicate, reduceCtorEq, hok, h1]
      refine ⟨⟨hll, hlen⟩, hll, ?_⟩
      refine hK _ (Aw_yes rfl ?_)
      refine Aw_st hE [4, 5] [4] fun K hK => ?_
      simp only [go_sem, reduceIte, Nat.reduceLT, Nat.reduceLeDiff, Nat.reduceEqDiff, Nat.reduceAdd, Nat.reduceMul, Nat.reduceSub, Nat.reduceBEq, Int.reduceToNat, List.reduceReplicate, reduceCtorEq]
      refine hK _ (Aw_ret (hR1 _ (hQ _ ?_)))
      simp only [go_sem, reduceIte, Nat.reduceLT, Nat.reduceLeDiff, Nat.reduceEqDiff, Nat.reduceAdd, Nat.reduceMul, Nat.reduceSub, Nat.reduceBEq, Int.reduceToNat, List.reduceReplicate, reduceCtorEq, hz]
      rfl
    · have hget := grows_get l i hi
      have hln := hlen _ (List.getElem_mem hi)
      generalize l[i] = x at hget hln h2
      obtain ⟨⟨rf, rb, p, rk, m⟩, old⟩ := x
      simp only at hln
      have hz : resR (ribFind ⟨h0, up, l⟩ f c) = .tup [.agg [iv rf, iv rb, isl p, iv rk, isl m], bv true] := by rw [h2]; rfl
      have hlt : decide ((i : Int) < 0) = false := decide_eq_false (by omega)
      refine Aw_st hE [2, 3, 4, 14] [2, 3, 4] fun K hK => ?_
      simp only [go_sem, reduceIte, Nat.reduceLT, Nat.reduceLeDiff, Nat.reduceEqDiff, Nat.reduceAdd, Nat.reduceMul, Nat.reduceSub, Nat.reduceBEq, Int.reduceToNat, List.reduceReplicate, reduceCtorEq, hok, h1, hlt]
      refine ⟨⟨hll, hlen⟩, hll, ?_⟩
      refine hK _ (Aw_no rfl (Aw_skip (hB1 _ ?_)))
      refine Aw_se hE [0, 1, 2, 3, 4, 5, 6, 7, 8, 9, 10] [0, 1, 0, 0, 12, 31, 63, 127, 255, 511, 1023] [4, 5] [4] (by kernel_rfl) fun K hK => ?_
      simp only [go_sem, reduceIte, Nat.reduceLT, Nat.reduceLeDiff, Nat.reduceEqDiff, Nat.reduceAdd, Nat.reduceMul, Nat.reduceSub, Nat.reduceBEq, Int.reduceToNat, List.reduceReplicate, reduceCtorEq, h1, hget, Int.toNat_natCast]
      refine ⟨hll, by omega, ⟨by omega, by omega⟩, ?_⟩
      refine hK _ (Aw_ret (hQ _ ?_))
      simp only [go_sem, reduceIte, Nat.reduceLT, Nat.reduceLeDiff, Nat.reduceEqDiff, Nat.reduceAdd, Nat.reduceMul, Nat.reduceSub, Nat.reduceBEq, Int.reduceToNat, List.reduceReplicate, reduceCtorEq, hz]
def gRfC : List AV → Option (Prop × AV)
  | [.agg [.v (.int .i64 rf), .v (.int .i64 rb), .sl _ _, .v (.int .i64 _), .sl _ _, .v (.bool _)], .el [.v (.int .i64 f), .v (.int .i64 c)]] => some (True, bv (decide (rf = f) && decide (rb = c)))
  | _ => none
def dRfC : DFn := { g := gRfC }
attribute [go_sem] gRfC dRfC
theorem ribFindC_ok : Fine Tryd.prog 27 dRfC.con := by
  refine fine_det (T := TT) Tryd.func27 rfl Tryd.ntmps27 (by rw [Tryd.results27]) rfl rfl tt (gs_nil) (ds_nil) ?_
  intro args c r h hc
  simp only [dRfC, gRfC] at h
  split at h
  rotate_left
  · cases h
  obtain ⟨rfl, rfl⟩ := Prod.mk.inj (Option.some.inj h)
  refine ⟨by simp, fun k E hE Q hQ => ?_⟩
  refine Aw_st hE [1, 2] [2] fun K hK => ?_
  simp only [go_sem, reduceIte, Nat.reduceLT, Nat.reduceLeDiff, Nat.reduceEqDiff, Nat.reduceAdd, Nat.reduceMul, Nat.reduceSub, Nat.reduceBEq, Int.reduceToNat, List.reduceReplicate, reduceCtorEq]
  repeat (refine And.intro (by first | omega | (and_intros <;> first | omega | exact rows_row _ | decide | (simp; done) | (simp; omega)) | fail) ?_)
  refine hK _ ?_; clear hK K
  refine Aw_st hE [3] [] fun K hK => ?_
  simp only [go_sem, reduceIte, Nat.reduceLT, Nat.reduceLeDiff, Nat.reduceEqDiff, Nat.reduceAdd, Nat.reduceMul, Nat.reduceSub, Nat.reduceBEq, Int.reduceToNat, List.reduceReplicate, reduceCtorEq]
  repeat (refine And.intro (by first | omega | (and_intros <;> first | omega | exact rows_row _ | decide | (simp; done) | (simp; omega)) | fail) ?_)
  refine hK _ (Aw_ret (hQ _ ?_))
  simp only [go_sem, reduceIte, Nat.reduceLT, Nat.reduceLeDiff, Nat.reduceEqDiff, Nat.reduceAdd, Nat.reduceMul, Nat.reduceSub, Nat.reduceBEq, Int.reduceToNat, List.reduceReplicate, reduceCtorEq]
  rfl
abbrev cloF (f c : Int) : AV := .dv (.fn 27 [.ptr [.v (.int .i64 f), .v (.int .i64 c)]])
def gIdG : List AV → Option (Prop × AV)
  | [.sl _ els, .dv (.fn 27 [.ptr [.v (.int .i64 f), .v (.int .i64 c)]])] => (match gotsL els with
    | some l => some (l.length ≤ 1000000, iv (atG l f c))
    | none => none)
  | _ => none
def dIdG : DFn := { g := gIdG }
attribute [go_sem] gIdG dIdG
theorem idG_ok : Fine Tryd.prog 26 dIdG.con := by
  refine fine_det (T := TT) Tryd.func26 rfl Tryd.ntmps26 (by rw [Tryd.results26]) rfl rfl tt (gs_nil) (ds_cons ribFindC_ok ds_nil) ?_
  intro args c r h hc
  simp only [dIdG, gIdG] at h
  split at h
  rotate_left
  · cases h
  split at h
  rotate_left
  · cases h
  rename_i t els f c _ l hgo
  obtain rfl := gotsL_eq hgo
  obtain ⟨rfl, rfl⟩ := Prod.mk.inj (Option.some.inj h)
  refine ⟨by simp, fun k E hE Q hQ => ?_⟩
  refine Aw_st hE [0, 1] [] fun K hK => ?_
  simp only [go_sem, reduceIte, Nat.reduceLT, Nat.reduceLeDiff, Nat.reduceEqDiff, Nat.reduceAdd, Nat.reduceMul, Nat.reduceSub, Nat.reduceBEq, Int.reduceToNat, List.reduceReplicate, reduceCtorEq]
  repeat (refine And.intro (by first | omega | (and_intros <;> first | omega | exact rows_row _ | decide | (simp; done) | (simp; omega)) | fail) ?_)
  refine hK _ ?_; clear hK K
  refine Aw_sq fun B1 hB1 hR1 hX1 => ?_
  refine Aw_st hE [0, 1, 7, 8] [] fun K hK => ?_
  simp only [go_sem, reduceIte, Nat.reduceLT, Nat.reduceLeDiff, Nat.reduceEqDiff, Nat.reduceAdd, Nat.reduceMul, Nat.reduceSub, Nat.reduceBEq, Int.reduceToNat, List.reduceReplicate, reduceCtorEq]
  repeat (refine And.intro (by first | omega | (and_intros <;> first | omega | exact rows_row _ | decide | (simp; done) | (simp; omega)) | fail) ?_)
  refine hK _ ?_; clear hK K
  refine Aw_bk fun B2 hN2 hE2 hR2 hX2 => ?_
  refine Aw_lp (fun i : Nat => ⟨19, [(0, .sl t (grows l)), (1, cloF f c), (7, iv l.length), (8, iv i)], [], k⟩) (fun i : Nat => i ≤ l.length ∧ atG l f c = idxB (sameRg f c) (l.drop i) i) (fun i : Nat => l.length - i) (0) (Le.refl _) (⟨by omega, rfl⟩) fun i hi B3 hN3 hR3 hX3 => ?_
  refine Aw_st hE [0, 1, 7, 8, 9] [] fun K hK => ?_
  simp only [go_sem, reduceIte, Nat.reduceLT, Nat.reduceLeDiff, Nat.reduceEqDiff, Nat.reduceAdd, Nat.reduceMul, Nat.reduceSub, Nat.reduceBEq, Int.reduceToNat, List.reduceReplicate, reduceCtorEq]
  repeat (refine And.intro (by first | omega | (and_intros <;> first | omega | exact rows_row _ | decide | (simp; done) | (simp; omega)) | fail) ?_)
  refine hK _ ?_; clear hK K
  refine Aw_sq fun B4 hB4 hR4 hX4 => ?_
  refine Aw_cond rfl (fun hc5 => ?_) (fun hc5 => ?_)
  · simp only [decide_eq_true_eq] at hc5
    have hil : i < l.length := by omega
    have hs := hi.2.trans (idxB_drop hil)
    have hget := grows_get l i hil
    generalize l[i] = x at hget hs
    obtain ⟨⟨rf, rb, p, rk, m⟩, old⟩ := x
    refine Aw_skip (hB4 _ ?_)
    refine Aw_sq fun B6 hB6 hR6 hX6 => ?_
    refine Aw_bk fun B7 hN7 hE7 hR7 hX7 => ?_
    refine Aw_st hE [0, 1, 5, 7, 8] [] fun K hK => ?_
    simp only [go_sem, reduceIte, Nat.reduceLT, Nat.reduceLeDiff, Nat.reduceEqDiff, Nat.reduceAdd, Nat.reduceMul, Nat.reduceSub, Nat.reduceBEq, Int.reduceToNat, List.reduceReplicate, reduceCtorEq]
    repeat (refine And.intro (by first | omega | (and_intros <;> first | omega | exact rows_row _ | decide | (simp; done) | (simp; omega)) | fail) ?_)
    refine hK _ ?_; clear hK K
    refine Aw_st hE [0, 1, 5, 7, 8, 16] [] fun K hK => ?_
    simp only [go_sem, reduceIte, Nat.reduceLT, Nat.reduceLeDiff, Nat.reduceEqDiff, Nat.reduceAdd, Nat.reduceMul, Nat.reduceSub, Nat.reduceBEq, Int.reduceToNat, List.reduceReplicate, reduceCtorEq, hget]
    repeat (refine And.intro (by first | omega | (and_intros <;> first | omega | exact rows_row _ | decide | (simp; done) | (simp; omega)) | fail) ?_)
    refine hK _ (Aw_cond rfl (fun hc8 => ?_) (fun hc8 => ?_))
    · have hsr : sameRg f c ⟨⟨rf, rb, p, rk, m⟩, old⟩ = true := hc8
      rw [hsr] at hs
      refine Aw_st hE [4] [] fun K hK => ?_
      simp only [go_sem, reduceIte, Nat.reduceLT, Nat.reduceLeDiff, Nat.reduceEqDiff, Nat.reduceAdd, Nat.reduceMul, Nat.reduceSub, Nat.reduceBEq, Int.reduceToNat, List.reduceReplicate, reduceCtorEq]
      repeat (refine And.intro (by first | omega | (and_intros <;> first | omega | exact rows_row _ | decide | (simp; done) | (simp; omega)) | fail) ?_)
      refine hK _ (Aw_ret (hR7 _ (hR6 _ (hR3 _ (hR2 _ (hR1 _ (hQ _ ?_)))))))
      simp only [go_sem, reduceIte, Nat.reduceLT, Nat.reduceLeDiff, Nat.reduceEqDiff, Nat.reduceAdd, Nat.reduceMul, Nat.reduceSub, Nat.reduceBEq, Int.reduceToNat, List.reduceReplicate, reduceCtorEq, hs]
    · have hsr : sameRg f c ⟨⟨rf, rb, p, rk, m⟩, old⟩ = false := hc8
      rw [hsr] at hs
      refine Aw_skip (hN7 _ (hB6 _ ?_))
      refine Aw_tx hE [0, 1, 7, 8] [] fun K hK => ?_
      simp only [go_sem, reduceIte, Nat.reduceLT, Nat.reduceLeDiff, Nat.reduceEqDiff, Nat.reduceAdd, Nat.reduceMul, Nat.reduceSub, Nat.reduceBEq, Int.reduceToNat, List.reduceReplicate, reduceCtorEq]
      repeat (refine And.intro (by first | omega | (and_intros <;> first | omega | exact rows_row _ | decide | (simp; done) | (simp; omega)) | fail) ?_)
      refine hK _ (hN3 (i + 1) _ (⟨by omega, hs⟩) (by omega) (Le.refl _))
  · simp only [decide_eq_false_iff_not] at hc5
    refine Aw_exit (hX4 _ _ (hX3 _ _ (hE2 _ (hB1 _ ?_))))
    refine Aw_st hE [4] [] fun K hK => ?_
    simp only [go_sem, reduceIte, Nat.reduceLT, Nat.reduceLeDiff, Nat.reduceEqDiff, Nat.reduceAdd, Nat.reduceMul, Nat.reduceSub, Nat.reduceBEq, Int.reduceToNat, List.reduceReplicate, reduceCtorEq]
    repeat (refine And.intro (by first | omega | (and_intros <;> first | omega | exact rows_row _ | decide | (simp; done) | (simp; omega)) | fail) ?_)
    refine hK _ (Aw_ret (hQ _ ?_))
    simp only [go_sem, reduceIte, Nat.reduceLT, Nat.reduceLeDiff, Nat.reduceEqDiff, Nat.reduceAdd, Nat.reduceMul, Nat.reduceSub, Nat.reduceBEq, Int.reduceToNat, List.reduceReplicate, reduceCtorEq]
    rw [hi.2, List.drop_eq_nil_of_le (by omega)]
    rfl
theorem iRibFind_ok (pb : Addr) : Fine Tryd.prog 9 (dRibFindI pb).con := by
  refine fine_det (T := TT) Tryd.func9 rfl Tryd.ntmps9 (by rw [Tryd.results9]) rfl rfl tt (gs_nil) (ds_cons (iRibOk_ok pb) (ds_cons idG_ok (ds_cons copyD_ok ds_nil)) (wp_inh pb)) ?_
  intro args c r h hc
  simp only [dRibFindI, gRibFind] at h
  split at h
  rotate_left
  · cases h
  split at h
  rotate_left
  · cases h
  rename_i h0 up t els f c _ l hgo
  obtain rfl := gotsL_eq hgo
  obtain ⟨rfl, rfl⟩ := Prod.mk.inj (Option.some.inj h)
  refine ⟨by simp, fun k E hE Q hQ => ?_⟩
  obtain ⟨hll, hlen⟩ := hc
  refine Aw_st hE [2, 3, 4] [2, 3, 4] fun K hK => ?_
  simp only [go_sem, reduceIte, Nat.reduceLT, Nat.reduceLeDiff, Nat.reduceEqDiff, Nat.reduceAdd, Nat.reduceMul, Nat.reduceSub, Nat.reduceBEq, Int.reduceToNat, List.reduceReplicate, reduceCtorEq]
  refine hK _ ?_; clear hK K
  refine Aw_sq fun B1 hB1 hR1 hX1 => ?_
  refine Aw_st hE [2, 3, 4, 9] [2, 3, 4] fun K hK => ?_
  simp only [go_sem, reduceIte, Nat.reduceLT, Nat.reduceLeDiff, Nat.reduceEqDiff, Nat.reduceAdd, Nat.reduceMul, Nat.reduceSub, Nat.reduceBEq, Int.reduceToNat, List.reduceReplicate, reduceCtorEq]
  refine ⟨⟨hll, hlen⟩, ?_⟩
  refine hK _ (Aw_cond rfl (fun hc2 => ?_) (fun hc2 => ?_))
  · have hok : ribOk ⟨h0, up, l⟩ = false := by simpa using hc2
    have hz : resR (ribFind ⟨h0, up, l⟩ f c) = .tup [.agg [iv 0, iv 0, isl [], iv 0, isl []], bv false] := by simp [ribFind, hok, resR, rt0]
    refine Aw_st hE [4, 5] [4] fun K hK => ?_
    simp only [go_sem, reduceIte, Nat.reduceLT, Nat.reduceLeDiff, Nat.reduceEqDiff, Nat.reduceAdd, Nat.reduceMul, Nat.reduceSub, Nat.reduceBEq, Int.reduceToNat, List.reduceReplicate, reduceCtorEq]
    refine hK _ (Aw_ret (hR1 _ (hQ _ ?_)))
    simp only [go_sem, reduceIte, Nat.reduceLT, Nat.reduceLeDiff, Nat.reduceEqDiff, Nat.reduceAdd, Nat.reduceMul, Nat.reduceSub, Nat.reduceBEq, Int.reduceToNat, List.reduceReplicate, reduceCtorEq, hz]
    rfl
  have hok : ribOk ⟨h0, up, l⟩ = true := by simpa using hc2
  refine Aw_skip (hB1 _ ?_)
  rcases ribFind_cases f c hok with ⟨h1, h2⟩ | ⟨i, hi, h1, h2⟩
  · have hz : resR (ribFind ⟨h0, up, l⟩ f c) = .tup [.agg [iv 0, iv 0, isl [], iv 0, isl []], bv false] := by rw [h2]; rfl
    refine Aw_st hE [2, 4, 6] [2, 4] fun K hK => ?_
    simp only [go_sem, reduceIte, Nat.reduceLT, Nat.reduceLeDiff, Nat.reduceEqDiff, Nat.reduceAdd, Nat.reduceMul, Nat.reduceSub, Nat.reduceBEq, Int.reduceToNat, List.reduceReplicate, reduceCtorEq, h1]
    refine ⟨hll, ?_⟩
    refine hK _ ?_; clear hK K
    refine Aw_sq fun B3 hB3 hR3 hX3 => ?_
    refine Aw_st hE [2, 4, 6, 16] [2, 4] fun K hK => ?_
    simp only [go_sem, reduceIte, Nat.reduceLT, Nat.reduceLeDiff, Nat.reduceEqDiff, Nat.reduceAdd, Nat.reduceMul, Nat.reduceSub, Nat.reduceBEq, Int.reduceToNat, List.reduceReplicate, reduceCtorEq]
    refine hK _ (Aw_yes rfl ?_)
    refine Aw_st hE [4, 5] [4] fun K hK => ?_
    simp only [go_sem, reduceIte, Nat.reduceLT, Nat.reduceLeDiff, Nat.reduceEqDiff, Nat.reduceAdd, Nat.reduceMul, Nat.reduceSub, Nat.reduceBEq, Int.reduceToNat, List.reduceReplicate, reduceCtorEq]
    refine hK _ (Aw_ret (hR3 _ (hQ _ ?_)))
    simp only [go_sem, reduceIte, Nat.reduceLT, Nat.reduceLeDiff, Nat.reduceEqDiff, Nat.reduceAdd, Nat.reduceMul, Nat.reduceSub, Nat.reduceBEq, Int.reduceToNat, List.reduceReplicate, reduceCtorEq, hz]
    rfl
  · have hget := grows_get l i hi
    have hln := hlen _ (List.getElem_mem hi)
    generalize l[i] = x at hget hln h2
    obtain ⟨⟨rf, rb, p, rk, m⟩, old⟩ := x
    simp only at hln
    have hz : resR (ribFind ⟨h0, up, l⟩ f c) = .tup [.agg [iv rf, iv rb, isl p, iv rk, isl m], bv true] := by rw [h2]; rfl
    have hlt : decide ((i : Int) < 0) = false := decide_eq_false (by omega)
    refine Aw_st hE [2, 4, 6] [2, 4] fun K hK => ?_
    simp only [go_sem, reduceIte, Nat.reduceLT, Nat.reduceLeDiff, Nat.reduceEqDiff, Nat.reduceAdd, Nat.reduceMul, Nat.reduceSub, Nat.reduceBEq, Int.reduceToNat, List.reduceReplicate, reduceCtorEq, h1]
    refine ⟨hll, ?_⟩
    refine hK _ ?_; clear hK K
    refine Aw_sq fun B3 hB3 hR3 hX3 => ?_
    refine Aw_st hE [2, 4, 6, 16] [2, 4] fun K hK => ?_
    simp only [go_sem, reduceIte, Nat.reduceLT, Nat.reduceLeDiff, Nat.reduceEqDiff, Nat.reduceAdd, Nat.reduceMul, Nat.reduceSub, Nat.reduceBEq, Int.reduceToNat, List.reduceReplicate, reduceCtorEq, hlt]
    refine hK _ (Aw_no rfl (Aw_skip (hB3 _ ?_)))
    refine Aw_st hE [4, 5] [4] fun K hK => ?_
    simp only [go_sem, reduceIte, Nat.reduceLT, Nat.reduceLeDiff, Nat.reduceEqDiff, Nat.reduceAdd, Nat.reduceMul, Nat.reduceSub, Nat.reduceBEq, Int.reduceToNat, List.reduceReplicate, reduceCtorEq, hget, Int.toNat_natCast]
    refine ⟨by omega, ⟨by omega, by omega⟩, ?_⟩
    refine hK _ (Aw_ret (hQ _ ?_))
    simp only [go_sem, reduceIte, Nat.reduceLT, Nat.reduceLeDiff, Nat.reduceEqDiff, Nat.reduceAdd, Nat.reduceMul, Nat.reduceSub, Nat.reduceBEq, Int.reduceToNat, List.reduceReplicate, reduceCtorEq, hz]
end Go.Proofs.W
end
section
namespace Go.Proofs.W
open Go Go.Eng Go.RowKit
set_option linter.unusedSimpArgs false
set_option maxRecDepth 100000

theorem ribFind_none {b : Rb} {f c : Int} (h : ribOk b = true) (hn : ∀ g ∈ b.all, sameRg f c g = false) : ribFind b f c = none := by
  unfold ribFind
  rw [h, if_pos rfl, List.find?_eq_none.2 fun x hx => by rw [hn x hx]; simp]
  rfl
theorem ribFind_some {b : Rb} {f c : Int} (h : ribOk b = true) {i : Nat} (hi : i < b.all.length) (hs : sameRg f c b.all[i] = true) (hn : ∀ x ∈ b.all.take i, sameRg f c x = false) : ribFind b f c = some b.all[i].r := by
  unfold ribFind
  rw [h, if_pos rfl, find_at hi hs hn]
  rfl
theorem ribFind_len {b : Rb} {f c : Int} {x : Rt} (hl : lensG b.all) (h : ribFind b f c = some x) : x.path.length ≤ 1000 ∧ x.marks.length ≤ 900 := by
  unfold ribFind at h
  split at h
  · obtain ⟨g, hg, rfl⟩ := Option.map_eq_some_iff.1 h
    exact hl g (List.mem_of_find?_eq_some hg)
  · cases h
theorem fnRibFind_ok (pb : Addr) : Fine Tryd.prog 3 (cLawP pb) := by
  refine fine_of (T := TT) Tryd.func3 rfl Tryd.ntmps3 (by rw [Tryd.results3]) rfl rfl tt (gs_cons drawRibFind_ok gs_nil) (ds_cons sRibFind_ok (ds_cons (iRibFind_ok pb) (ds_cons lyRoute_ok (ds_cons sRibOk_ok ds_nil)) (wp_inh pb))) ?_
  rintro args ⟨bs, hbs, rfl⟩
  refine ⟨by simp, fun k hk E hE Q hQ => ?_⟩
  refine Aw_st hE [0] [] fun K hK => ?_
  simp only [go_sem, reduceIte, Nat.reduceLT, Nat.reduceLeDiff, Nat.reduceEqDiff, Nat.reduceAdd, Nat.reduceMul, Nat.reduceSub, Nat.reduceBEq, Int.reduceToNat, List.reduceReplicate, reduceCtorEq]
  refine hK _ ?_; clear hK K
  refine Aw_sq fun B1 hB1 hR1 hX1 => ?_
  refine Aw_st hE [0, 12] [] fun K hK => ?_
  simp only [go_sem, reduceIte, Nat.reduceLT, Nat.reduceLeDiff, Nat.reduceEqDiff, Nat.reduceAdd, Nat.reduceMul, Nat.reduceSub, Nat.reduceBEq, Int.reduceToNat, List.reduceReplicate, reduceCtorEq]
  refine hK _ (Aw_cond rfl (fun hc2 => ?_) (fun hc2 => ?_))
  · refine Aw_st hE [2] [] fun K hK => ?_
    simp only [go_sem, reduceIte, Nat.reduceLT, Nat.reduceLeDiff, Nat.reduceEqDiff, Nat.reduceAdd, Nat.reduceMul, Nat.reduceSub, Nat.reduceBEq, Int.reduceToNat, List.reduceReplicate, reduceCtorEq]
    refine hK _ (Aw_ret (hR1 _ (hQ _ ?_)))
    simp only [go_sem, reduceIte, Nat.reduceLT, Nat.reduceLeDiff, Nat.reduceEqDiff, Nat.reduceAdd, Nat.reduceMul, Nat.reduceSub, Nat.reduceBEq, Int.reduceToNat, List.reduceReplicate, reduceCtorEq]
  refine Aw_skip (hB1 _ ?_)
  refine Aw_st hE [3, 4] [3, 4] fun K hK => ?_
  simp only [go_sem, reduceIte, Nat.reduceLT, Nat.reduceLeDiff, Nat.reduceEqDiff, Nat.reduceAdd, Nat.reduceMul, Nat.reduceSub, Nat.reduceBEq, Int.reduceToNat, List.reduceReplicate, reduceCtorEq]
  refine ⟨drd_pre bs hbs, fun b f c hb => ?_⟩
  obtain ⟨h0, up, l⟩ := b
  obtain ⟨hb1, hlg⟩ := hb
  simp only at hb1 hlg
  obtain ⟨yf, yb, yp, yk, ym, z, hres, hz1, hz0⟩ := resR_ex (ribFind ⟨h0, up, l⟩ f c)
  have hlen : yp.length ≤ 1000 ∧ ym.length ≤ 900 := by
    cases z with
    | true => exact ribFind_len (b := ⟨h0, up, l⟩) hlg (hz1 rfl)
    | false => obtain ⟨_, _, _, h3, _, h4⟩ := hz0 rfl; rw [h3, h4]; exact ⟨by simp, by simp⟩
  refine hK _ ?_; clear hK K
  refine Aw_st hE [3, 4, 5, 6] [3, 4, 5] fun K hK => ?_
  simp only [go_sem, reduceIte, Nat.reduceLT, Nat.reduceLeDiff, Nat.reduceEqDiff, Nat.reduceAdd, Nat.reduceMul, Nat.reduceSub, Nat.reduceBEq, Int.reduceToNat, List.reduceReplicate, reduceCtorEq, hres]
  refine ⟨⟨by omega, hlg⟩, ?_⟩
  refine hK _ ?_; clear hK K
  refine Aw_st hE [3, 4, 5, 6, 7, 8] [3, 4, 5, 7] fun K hK => ?_
  simp only [go_sem, reduceIte, Nat.reduceLT, Nat.reduceLeDiff, Nat.reduceEqDiff, Nat.reduceAdd, Nat.reduceMul, Nat.reduceSub, Nat.reduceBEq, Int.reduceToNat, List.reduceReplicate, reduceCtorEq, hres]
  refine ⟨⟨by omega, hlg⟩, ?_⟩
  refine hK _ ?_; clear hK K
  refine Aw_sq fun B3 hB3 hR3 hX3 => ?_
  cases hok : ribOk ⟨h0, up, l⟩ with
  | false =>
    refine Aw_st hE [3, 4, 5, 6, 7, 8, 43] [3, 4, 5, 7] fun K hK => ?_
    simp only [go_sem, reduceIte, Nat.reduceLT, Nat.reduceLeDiff, Nat.reduceEqDiff, Nat.reduceAdd, Nat.reduceMul, Nat.reduceSub, Nat.reduceBEq, Int.reduceToNat, List.reduceReplicate, reduceCtorEq, hok, bne_self_eq_false, and_self, decide_true]
    refine ⟨by omega, ⟨by omega, hlg⟩, ?_⟩
    refine hK _ (Aw_yes rfl ?_)
    refine Aw_st hE [2] [] fun K hK => ?_
    simp only [go_sem, reduceIte, Nat.reduceLT, Nat.reduceLeDiff, Nat.reduceEqDiff, Nat.reduceAdd, Nat.reduceMul, Nat.reduceSub, Nat.reduceBEq, Int.reduceToNat, List.reduceReplicate, reduceCtorEq, beq_self_eq_true, and_self, decide_true]
    refine ⟨by omega, ?_⟩
    refine hK _ (Aw_ret (hR3 _ (hQ _ ?_)))
    simp only [go_sem, reduceIte, Nat.reduceLT, Nat.reduceLeDiff, Nat.reduceEqDiff, Nat.reduceAdd, Nat.reduceMul, Nat.reduceSub, Nat.reduceBEq, Int.reduceToNat, List.reduceReplicate, reduceCtorEq]
  | true =>
  refine Aw_st hE [3, 4, 5, 6, 7, 8, 43] [3, 4, 5, 7] fun K hK => ?_
  simp only [go_sem, reduceIte, Nat.reduceLT, Nat.reduceLeDiff, Nat.reduceEqDiff, Nat.reduceAdd, Nat.reduceMul, Nat.reduceSub, Nat.reduceBEq, Int.reduceToNat, List.reduceReplicate, reduceCtorEq, hok, bne_self_eq_false, and_self, decide_true]
  refine ⟨by omega, ⟨by omega, hlg⟩, ?_⟩
  refine hK _ (Aw_no rfl (Aw_skip (hB3 _ ?_)))
  refine Aw_sq fun B8 hB8 hR8 hX8 => ?_
  refine Aw_st hE [3, 4, 7, 8, 9] [3, 4, 7] fun K hK => ?_
  simp only [go_sem, reduceIte, Nat.reduceLT, Nat.reduceLeDiff, Nat.reduceEqDiff, Nat.reduceAdd, Nat.reduceMul, Nat.reduceSub, Nat.reduceBEq, Int.reduceToNat, List.reduceReplicate, reduceCtorEq]
  refine hK _ ?_; clear hK K
  refine Aw_bk fun B9 hN9 hE9 hR9 hX9 => ?_
  refine Aw_lp (fun i : Nat => ⟨81, [(3, .loc 3 0), (4, .loc 4 0), (7, .loc 7 0), (8, bv z), (9, iv i)], [(3, [iv h0, bv up, .sl none (grows l)]), (4, [iv f, iv c]), (7, [iv yf, iv yb, isl yp, iv yk, isl ym])], k⟩) (fun i => i ≤ l.length ∧ ∀ x ∈ l.take i, sameRg f c x = false) (fun i => l.length - i) 0 (Le.refl _) ⟨by omega, by simp⟩ fun i hi B10 hN10 hR10 hX10 => ?_
  obtain ⟨hi1, hi2⟩ := hi
  refine Aw_sq fun B11 hB11 hR11 hX11 => ?_
  refine Aw_st hE [3, 4, 7, 8, 9, 56] [3, 4, 7] fun K hK => ?_
  simp only [go_sem, reduceIte, Nat.reduceLT, Nat.reduceLeDiff, Nat.reduceEqDiff, Nat.reduceAdd, Nat.reduceMul, Nat.reduceSub, Nat.reduceBEq, Int.reduceToNat, List.reduceReplicate, reduceCtorEq]
  refine hK _ (Aw_cond rfl (fun hc12 => ?_) (fun hc12 => ?_))
  · simp only [decide_eq_true_eq] at hc12
    have hil : i < l.length := by omega
    have hget := grows_get l i hil
    have hln := hlg _ (List.getElem_mem hil)
    have hso := fun hs => ribFind_some (b := ⟨h0, up, l⟩) hok hil hs hi2
    have htk : l.take (i + 1) = l.take i ++ [l[i]] := List.take_succ_eq_append_getElem hil
    simp only at hso
    generalize l[i] = g at hget hln hso htk
    obtain ⟨⟨rf, rb, p, rk, m⟩, old⟩ := g
    simp only at hln hso
    refine Aw_skip (hB11 _ ?_)
    refine Aw_sq fun B13 hB13 hR13 hX13 => ?_
    refine Aw_bk fun B14 hN14 hE14 hR14 hX14 => ?_
    cases hs : sameRg f c ⟨⟨rf, rb, p, rk, m⟩, old⟩ with
    | true =>
      have hx := hso hs
      have hs2 : (rf == f && rb == c) = true := hs
      rw [hx] at hres
      have hres2 : resR (some ⟨rf, rb, p, rk, m⟩) = .tup [.agg [iv rf, iv rb, isl p, iv rk, isl m], bv true] := rfl
      have hinj := hres2.symm.trans hres
      have hz : z = true := by
        cases z with
        | true => rfl
        | false => exact absurd ((hz0 rfl).1.symm.trans hx) (by simp)
      subst hz
      have hy := (hz1 rfl).symm.trans hx
      obtain ⟨rfl, rfl, rfl, rfl, rfl⟩ : yf = rf ∧ yb = rb ∧ yp = p ∧ yk = rk ∧ ym = m := by
        have := Option.some.inj hy
        simp only [Rt.mk.injEq] at this
        exact this
      apply (fun F0 F1 F2 => Aw_sD hE [([0, 1, 2, 7], (.alt 3 (.fst 4 (.fst 5 (.ref 1))) .non)), ([0, 1, 2, 3, 4, 5, 7], (.alt 6 (.ref 2) .non)), ([0, 1, 2, 3, 4, 5, 6, 7], (.alt 8 .done .non))] (.fst 0 (.fst 2 (.alt 1 (.alt 3 (.fst 4 (.fst 5 (.alt 6 (.alt 7 (.ref 2) .non) (.alt 7 (.ref 1) .non)))) (.alt 7 (.ref 0) .non)) (.alt 7 (.alt 1 (.ref 0) .non) .non)))) [F0, F1, F2] [3, 4, 7, 8, 9, 67] [3, 4, 7])
      · kernel_rfl
      intro K hK
      refine And.intro ?_ ?_
      · simp only [go_sem, reduceIte, Nat.reduceLT, Nat.reduceLeDiff, Nat.reduceEqDiff, Nat.reduceAdd, Nat.reduceMul, Nat.reduceSub, Nat.reduceBEq, Int.reduceToNat, List.reduceReplicate, reduceCtorEq, hget, hs2]
        repeat' (first | exact (fun _ _ r => r) | exact LeE_wk (by simp only [go_sem, reduceIte, Nat.reduceLT, Nat.reduceLeDiff, Nat.reduceEqDiff, Nat.reduceAdd, Nat.reduceMul, Nat.reduceSub, Nat.reduceBEq, Int.reduceToNat, List.reduceReplicate, reduceCtorEq, hget, hs2]) (by simp only [go_sem, reduceIte, Nat.reduceLT, Nat.reduceLeDiff, Nat.reduceEqDiff, Nat.reduceAdd, Nat.reduceMul, Nat.reduceSub, Nat.reduceBEq, Int.reduceToNat, List.reduceReplicate, reduceCtorEq, hget, hs2]) | refine And.intro (by first | omega | exact crows_row _ | exact rrows_row _ | exact rows_row _ | (and_intros <;> first | omega | exact crows_row _ | exact rrows_row _ | exact rows_row _ | decide | (simp; done) | (simp; omega)) | fail) ?_ | refine And.intro ?_ ?_)
      refine And.intro ?_ ?_
      · simp only [go_sem, reduceIte, Nat.reduceLT, Nat.reduceLeDiff, Nat.reduceEqDiff, Nat.reduceAdd, Nat.reduceMul, Nat.reduceSub, Nat.reduceBEq, Int.reduceToNat, List.reduceReplicate, reduceCtorEq, hget, hs2]
        repeat' (first | exact (fun _ _ r => r) | exact LeE_wk (by simp only [go_sem, reduceIte, Nat.reduceLT, Nat.reduceLeDiff, Nat.reduceEqDiff, Nat.reduceAdd, Nat.reduceMul, Nat.reduceSub, Nat.reduceBEq, Int.reduceToNat, List.reduceReplicate, reduceCtorEq, hget, hs2]) (by simp only [go_sem, reduceIte, Nat.reduceLT, Nat.reduceLeDiff, Nat.reduceEqDiff, Nat.reduceAdd, Nat.reduceMul, Nat.reduceSub, Nat.reduceBEq, Int.reduceToNat, List.reduceReplicate, reduceCtorEq, hget, hs2]) | refine And.intro (by first | omega | exact crows_row _ | exact rrows_row _ | exact rows_row _ | (and_intros <;> first | omega | exact crows_row _ | exact rrows_row _ | exact rows_row _ | decide | (simp; done) | (simp; omega)) | fail) ?_ | refine And.intro ?_ ?_)
      refine And.intro ?_ ?_
      · simp only [go_sem, reduceIte, Nat.reduceLT, Nat.reduceLeDiff, Nat.reduceEqDiff, Nat.reduceAdd, Nat.reduceMul, Nat.reduceSub, Nat.reduceBEq, Int.reduceToNat, List.reduceReplicate, reduceCtorEq, hget, hs2]
        repeat' (first | exact (fun _ _ r => r) | exact LeE_wk (by simp only [go_sem, reduceIte, Nat.reduceLT, Nat.reduceLeDiff, Nat.reduceEqDiff, Nat.reduceAdd, Nat.reduceMul, Nat.reduceSub, Nat.reduceBEq, Int.reduceToNat, List.reduceReplicate, reduceCtorEq, hget, hs2]) (by simp only [go_sem, reduceIte, Nat.reduceLT, Nat.reduceLeDiff, Nat.reduceEqDiff, Nat.reduceAdd, Nat.reduceMul, Nat.reduceSub, Nat.reduceBEq, Int.reduceToNat, List.reduceReplicate, reduceCtorEq, hget, hs2]) | refine And.intro (by first | omega | exact crows_row _ | exact rrows_row _ | exact rows_row _ | (and_intros <;> first | omega | exact crows_row _ | exact rrows_row _ | exact rows_row _ | decide | (simp; done) | (simp; omega)) | fail) ?_ | refine And.intro ?_ ?_)
      refine And.intro ?_ trivial
      simp only [go_sem, reduceIte, Nat.reduceLT, Nat.reduceLeDiff, Nat.reduceEqDiff, Nat.reduceAdd, Nat.reduceMul, Nat.reduceSub, Nat.reduceBEq, Int.reduceToNat, List.reduceReplicate, reduceCtorEq, hget, hs2]
      repeat (refine And.intro (by first | omega | (and_intros <;> first | omega | exact rows_row _ | decide | (simp; done) | (simp; omega)) | fail) ?_)
      refine hK _ (Aw_yes rfl ?_)
      apply (fun F0 F1 F2 F3 F4 F5 F6 F7 F8 F9 => Aw_sD hE [([0, 1, 2, 3], (.alt 4 (.ref 3) (.alt 5 (.ref 4) .non))), ([0, 1, 2, 5], (.alt 3 (.ref 4) .non)), ([0, 1, 3, 5], (.alt 2 (.ref 4) (.alt 4 (.ref 5) .non))), ([0, 1, 2, 3, 4], (.alt 5 (.ref 6) .non)), ([0, 1, 2, 3, 5], (.alt 4 (.ref 6) .non)), ([0, 1, 3, 4, 5], (.alt 2 (.ref 6) (.alt 6 (.alt 2 (.ref 7) (.alt 7 (.alt 2 (.ref 8) (.alt 8 (.alt 2 (.ref 9) .non) .non)) .non)) .non))), ([0, 1, 2, 3, 4, 5], (.alt 6 (.ref 7) .non)), ([0, 1, 2, 3, 4, 5, 6], (.alt 7 (.ref 8) .non)), ([0, 1, 2, 3, 4, 5, 6, 7], (.alt 8 (.ref 9) .non)), ([0, 1, 2, 3, 4, 5, 6, 7, 8], (.alt 9 (.alt 10 (.fst 11 .done) .non) .non))] (.fst 0 (.fst 1 (.alt 2 (.alt 3 (.ref 0) (.alt 5 (.ref 1) .non)) (.alt 3 (.alt 2 (.ref 0) (.alt 4 (.alt 2 (.ref 3) (.alt 5 (.ref 5) .non)) (.alt 5 (.ref 2) .non))) (.alt 5 (.alt 2 (.ref 1) (.alt 3 (.ref 2) .non)) .non))))) [F0, F1, F2, F3, F4, F5, F6, F7, F8, F9] [2] [])
      · kernel_rfl
      intro K hK
      refine And.intro ?_ ?_
      · simp only [go_sem, reduceIte, Nat.reduceLT, Nat.reduceLeDiff, Nat.reduceEqDiff, Nat.reduceAdd, Nat.reduceMul, Nat.reduceSub, Nat.reduceBEq, Int.reduceToNat, List.reduceReplicate, reduceCtorEq, hget, and_self, decide_true]
        repeat' (first | exact (fun _ _ r => r) | exact LeE_wk (by simp only [go_sem, reduceIte, Nat.reduceLT, Nat.reduceLeDiff, Nat.reduceEqDiff, Nat.reduceAdd, Nat.reduceMul, Nat.reduceSub, Nat.reduceBEq, Int.reduceToNat, List.reduceReplicate, reduceCtorEq, hget, and_self, decide_true]) (by simp only [go_sem, reduceIte, Nat.reduceLT, Nat.reduceLeDiff, Nat.reduceEqDiff, Nat.reduceAdd, Nat.reduceMul, Nat.reduceSub, Nat.reduceBEq, Int.reduceToNat, List.reduceReplicate, reduceCtorEq, hget, and_self, decide_true]) | refine And.intro (by first | omega | exact crows_row _ | exact rrows_row _ | exact rows_row _ | (and_intros <;> first | omega | exact crows_row _ | exact rrows_row _ | exact rows_row _ | decide | (simp; done) | (simp; omega)) | fail) ?_ | refine And.intro ?_ ?_)
      refine And.intro ?_ ?_
      · simp only [go_sem, reduceIte, Nat.reduceLT, Nat.reduceLeDiff, Nat.reduceEqDiff, Nat.reduceAdd, Nat.reduceMul, Nat.reduceSub, Nat.reduceBEq, Int.reduceToNat, List.reduceReplicate, reduceCtorEq, hget, and_self, decide_true]
        repeat' (first | exact (fun _ _ r => r) | exact LeE_wk (by simp only [go_sem, reduceIte, Nat.reduceLT, Nat.reduceLeDiff, Nat.reduceEqDiff, Nat.reduceAdd, Nat.reduceMul, Nat.reduceSub, Nat.reduceBEq, Int.reduceToNat, List.reduceReplicate, reduceCtorEq, hget, and_self, decide_true]) (by simp only [go_sem, reduceIte, Nat.reduceLT, Nat.reduceLeDiff, Nat.reduceEqDiff, Nat.reduceAdd, Nat.reduceMul, Nat.reduceSub, Nat.reduceBEq, Int.reduceToNat, List.reduceReplicate, reduceCtorEq, hget, and_self, decide_true]) | refine And.intro (by first | omega | exact crows_row _ | exact rrows_row _ | exact rows_row _ | (and_intros <;> first | omega | exact crows_row _ | exact rrows_row _ | exact rows_row _ | decide | (simp; done) | (simp; omega)) | fail) ?_ | refine And.intro ?_ ?_)
      refine And.intro ?_ ?_
      · simp only [go_sem, reduceIte, Nat.reduceLT, Nat.reduceLeDiff, Nat.reduceEqDiff, Nat.reduceAdd, Nat.reduceMul, Nat.reduceSub, Nat.reduceBEq, Int.reduceToNat, List.reduceReplicate, reduceCtorEq, hget, and_self, decide_true]
        repeat' (first | exact (fun _ _ r => r) | exact LeE_wk (by simp only [go_sem, reduceIte, Nat.reduceLT, Nat.reduceLeDiff, Nat.reduceEqDiff, Nat.reduceAdd, Nat.reduceMul, Nat.reduceSub, Nat.reduceBEq, Int.reduceToNat, List.reduceReplicate, reduceCtorEq, hget, and_self, decide_true]) (by simp only [go_sem, reduceIte, Nat.reduceLT, Nat.reduceLeDiff, Nat.reduceEqDiff, Nat.reduceAdd, Nat.reduceMul, Nat.reduceSub, Nat.reduceBEq, Int.reduceToNat, List.reduceReplicate, reduceCtorEq, hget, and_self, decide_true]) | refine And.intro (by first | omega | exact crows_row _ | exact rrows_row _ | exact rows_row _ | (and_intros <;> first | omega | exact crows_row _ | exact rrows_row _ | exact rows_row _ | decide | (simp; done) | (simp; omega)) | fail) ?_ | refine And.intro ?_ ?_)
      refine And.intro ?_ ?_
      · simp only [go_sem, reduceIte, Nat.reduceLT, Nat.reduceLeDiff, Nat.reduceEqDiff, Nat.reduceAdd, Nat.reduceMul, Nat.reduceSub, Nat.reduceBEq, Int.reduceToNat, List.reduceReplicate, reduceCtorEq, hget, and_self, decide_true]
        repeat' (first | exact (fun _ _ r => r) | exact LeE_wk (by simp only [go_sem, reduceIte, Nat.reduceLT, Nat.reduceLeDiff, Nat.reduceEqDiff, Nat.reduceAdd, Nat.reduceMul, Nat.reduceSub, Nat.reduceBEq, Int.reduceToNat, List.reduceReplicate, reduceCtorEq, hget, and_self, decide_true]) (by simp only [go_sem, reduceIte, Nat.reduceLT, Nat.reduceLeDiff, Nat.reduceEqDiff, Nat.reduceAdd, Nat.reduceMul, Nat.reduceSub, Nat.reduceBEq, Int.reduceToNat, List.reduceReplicate, reduceCtorEq, hget, and_self, decide_true]) | refine And.intro (by first | omega | exact crows_row _ | exact rrows_row _ | exact rows_row _ | (and_intros <;> first | omega | exact crows_row _ | exact rrows_row _ | exact rows_row _ | decide | (simp; done) | (simp; omega)) | fail) ?_ | refine And.intro ?_ ?_)
      refine And.intro ?_ ?_
      · simp only [go_sem, reduceIte, Nat.reduceLT, Nat.reduceLeDiff, Nat.reduceEqDiff, Nat.reduceAdd, Nat.reduceMul, Nat.reduceSub, Nat.reduceBEq, Int.reduceToNat, List.reduceReplicate, reduceCtorEq, hget, and_self, decide_true]
        repeat' (first | exact (fun _ _ r => r) | exact LeE_wk (by simp only [go_sem, reduceIte, Nat.reduceLT, Nat.reduceLeDiff, Nat.reduceEqDiff, Nat.reduceAdd, Nat.reduceMul, Nat.reduceSub, Nat.reduceBEq, Int.reduceToNat, List.reduceReplicate, reduceCtorEq, hget, and_self, decide_true]) (by simp only [go_sem, reduceIte, Nat.reduceLT, Nat.reduceLeDiff, Nat.reduceEqDiff, Nat.reduceAdd, Nat.reduceMul, Nat.reduceSub, Nat.reduceBEq, Int.reduceToNat, List.reduceReplicate, reduceCtorEq, hget, and_self, decide_true]) | refine And.intro (by first | omega | exact crows_row _ | exact rrows_row _ | exact rows_row _ | (and_intros <;> first | omega | exact crows_row _ | exact rrows_row _ | exact rows_row _ | decide | (simp; done) | (simp; omega)) | fail) ?_ | refine And.intro ?_ ?_)
      refine And.intro ?_ ?_
      · simp only [go_sem, reduceIte, Nat.reduceLT, Nat.reduceLeDiff, Nat.reduceEqDiff, Nat.reduceAdd, Nat.reduceMul, Nat.reduceSub, Nat.reduceBEq, Int.reduceToNat, List.reduceReplicate, reduceCtorEq, hget, and_self, decide_true]
        repeat' (first | exact (fun _ _ r => r) | exact LeE_wk (by simp only [go_sem, reduceIte, Nat.reduceLT, Nat.reduceLeDiff, Nat.reduceEqDiff, Nat.reduceAdd, Nat.reduceMul, Nat.reduceSub, Nat.reduceBEq, Int.reduceToNat, List.reduceReplicate, reduceCtorEq, hget, and_self, decide_true]) (by simp only [go_sem, reduceIte, Nat.reduceLT, Nat.reduceLeDiff, Nat.reduceEqDiff, Nat.reduceAdd, Nat.reduceMul, Nat.reduceSub, Nat.reduceBEq, Int.reduceToNat, List.reduceReplicate, reduceCtorEq, hget, and_self, decide_true]) | refine And.intro (by first | omega | exact crows_row _ | exact rrows_row _ | exact rows_row _ | (and_intros <;> first | omega | exact crows_row _ | exact rrows_row _ | exact rows_row _ | decide | (simp; done) | (simp; omega)) | fail) ?_ | refine And.intro ?_ ?_)
      refine And.intro ?_ ?_
      · simp only [go_sem, reduceIte, Nat.reduceLT, Nat.reduceLeDiff, Nat.reduceEqDiff, Nat.reduceAdd, Nat.reduceMul, Nat.reduceSub, Nat.reduceBEq, Int.reduceToNat, List.reduceReplicate, reduceCtorEq, hget, and_self, decide_true]
        repeat' (first | exact (fun _ _ r => r) | exact LeE_wk (by simp only [go_sem, reduceIte, Nat.reduceLT, Nat.reduceLeDiff, Nat.reduceEqDiff, Nat.reduceAdd, Nat.reduceMul, Nat.reduceSub, Nat.reduceBEq, Int.reduceToNat, List.reduceReplicate, reduceCtorEq, hget, and_self, decide_true]) (by simp only [go_sem, reduceIte, Nat.reduceLT, Nat.reduceLeDiff, Nat.reduceEqDiff, Nat.reduceAdd, Nat.reduceMul, Nat.reduceSub, Nat.reduceBEq, Int.reduceToNat, List.reduceReplicate, reduceCtorEq, hget, and_self, decide_true]) | refine And.intro (by first | omega | exact crows_row _ | exact rrows_row _ | exact rows_row _ | (and_intros <;> first | omega | exact crows_row _ | exact rrows_row _ | exact rows_row _ | decide | (simp; done) | (simp; omega)) | fail) ?_ | refine And.intro ?_ ?_)
      refine And.intro ?_ ?_
      · simp only [go_sem, reduceIte, Nat.reduceLT, Nat.reduceLeDiff, Nat.reduceEqDiff, Nat.reduceAdd, Nat.reduceMul, Nat.reduceSub, Nat.reduceBEq, Int.reduceToNat, List.reduceReplicate, reduceCtorEq, hget, and_self, decide_true]
        repeat' (first | exact (fun _ _ r => r) | exact LeE_wk (by simp only [go_sem, reduceIte, Nat.reduceLT, Nat.reduceLeDiff, Nat.reduceEqDiff, Nat.reduceAdd, Nat.reduceMul, Nat.reduceSub, Nat.reduceBEq, Int.reduceToNat, List.reduceReplicate, reduceCtorEq, hget, and_self, decide_true]) (by simp only [go_sem, reduceIte, Nat.reduceLT, Nat.reduceLeDiff, Nat.reduceEqDiff, Nat.reduceAdd, Nat.reduceMul, Nat.reduceSub, Nat.reduceBEq, Int.reduceToNat, List.reduceReplicate, reduceCtorEq, hget, and_self, decide_true]) | refine And.intro (by first | omega | exact crows_row _ | exact rrows_row _ | exact rows_row _ | (and_intros <;> first | omega | exact crows_row _ | exact rrows_row _ | exact rows_row _ | decide | (simp; done) | (simp; omega)) | fail) ?_ | refine And.intro ?_ ?_)
      refine And.intro ?_ ?_
      · simp only [go_sem, reduceIte, Nat.reduceLT, Nat.reduceLeDiff, Nat.reduceEqDiff, Nat.reduceAdd, Nat.reduceMul, Nat.reduceSub, Nat.reduceBEq, Int.reduceToNat, List.reduceReplicate, reduceCtorEq, hget, and_self, decide_true]
        repeat' (first | exact (fun _ _ r => r) | exact LeE_wk (by simp only [go_sem, reduceIte, Nat.reduceLT, Nat.reduceLeDiff, Nat.reduceEqDiff, Nat.reduceAdd, Nat.reduceMul, Nat.reduceSub, Nat.reduceBEq, Int.reduceToNat, List.reduceReplicate, reduceCtorEq, hget, and_self, decide_true]) (by simp only [go_sem, reduceIte, Nat.reduceLT, Nat.reduceLeDiff, Nat.reduceEqDiff, Nat.reduceAdd, Nat.reduceMul, Nat.reduceSub, Nat.reduceBEq, Int.reduceToNat, List.reduceReplicate, reduceCtorEq, hget, and_self, decide_true]) | refine And.intro (by first | omega | exact crows_row _ | exact rrows_row _ | exact rows_row _ | (and_intros <;> first | omega | exact crows_row _ | exact rrows_row _ | exact rows_row _ | decide | (simp; done) | (simp; omega)) | fail) ?_ | refine And.intro ?_ ?_)
      refine And.intro ?_ ?_
      · simp only [go_sem, reduceIte, Nat.reduceLT, Nat.reduceLeDiff, Nat.reduceEqDiff, Nat.reduceAdd, Nat.reduceMul, Nat.reduceSub, Nat.reduceBEq, Int.reduceToNat, List.reduceReplicate, reduceCtorEq, hget, and_self, decide_true]
        repeat' (first | exact (fun _ _ r => r) | exact LeE_wk (by simp only [go_sem, reduceIte, Nat.reduceLT, Nat.reduceLeDiff, Nat.reduceEqDiff, Nat.reduceAdd, Nat.reduceMul, Nat.reduceSub, Nat.reduceBEq, Int.reduceToNat, List.reduceReplicate, reduceCtorEq, hget, and_self, decide_true]) (by simp only [go_sem, reduceIte, Nat.reduceLT, Nat.reduceLeDiff, Nat.reduceEqDiff, Nat.reduceAdd, Nat.reduceMul, Nat.reduceSub, Nat.reduceBEq, Int.reduceToNat, List.reduceReplicate, reduceCtorEq, hget, and_self, decide_true]) | refine And.intro (by first | omega | exact crows_row _ | exact rrows_row _ | exact rows_row _ | (and_intros <;> first | omega | exact crows_row _ | exact rrows_row _ | exact rows_row _ | decide | (simp; done) | (simp; omega)) | fail) ?_ | refine And.intro ?_ ?_)
      refine And.intro ?_ trivial
      simp only [go_sem, reduceIte, Nat.reduceLT, Nat.reduceLeDiff, Nat.reduceEqDiff, Nat.reduceAdd, Nat.reduceMul, Nat.reduceSub, Nat.reduceBEq, Int.reduceToNat, List.reduceReplicate, reduceCtorEq, hget, and_self, decide_true]
      refine ⟨⟨by omega, by omega⟩, ?_⟩
      refine hK _ (Aw_ret (hR14 _ (hR13 _ (hR10 _ (hR9 _ (hR8 _ (hQ _ ?_)))))))
      simp only [go_sem, reduceIte, Nat.reduceLT, Nat.reduceLeDiff, Nat.reduceEqDiff, Nat.reduceAdd, Nat.reduceMul, Nat.reduceSub, Nat.reduceBEq, Int.reduceToNat, List.reduceReplicate, reduceCtorEq]
    | false =>
      have hs2 : (rf == f && rb == c) = false := hs
      apply (fun F0 F1 F2 => Aw_sD hE [([0, 1, 2, 7], (.alt 3 (.fst 4 (.fst 5 (.ref 1))) .non)), ([0, 1, 2, 3, 4, 5, 7], (.alt 6 (.ref 2) .non)), ([0, 1, 2, 3, 4, 5, 6, 7], (.alt 8 .done .non))] (.fst 0 (.fst 2 (.alt 1 (.alt 3 (.fst 4 (.fst 5 (.alt 6 (.alt 7 (.ref 2) .non) (.alt 7 (.ref 1) .non)))) (.alt 7 (.ref 0) .non)) (.alt 7 (.alt 1 (.ref 0) .non) .non)))) [F0, F1, F2] [3, 4, 7, 8, 9, 67] [3, 4, 7])
      · kernel_rfl
      intro K hK
      refine And.intro ?_ ?_
      · simp only [go_sem, reduceIte, Nat.reduceLT, Nat.reduceLeDiff, Nat.reduceEqDiff, Nat.reduceAdd, Nat.reduceMul, Nat.reduceSub, Nat.reduceBEq, Int.reduceToNat, List.reduceReplicate, reduceCtorEq, hget, hs2]
        repeat' (first | exact (fun _ _ r => r) | exact LeE_wk (by simp only [go_sem, reduceIte, Nat.reduceLT, Nat.reduceLeDiff, Nat.reduceEqDiff, Nat.reduceAdd, Nat.reduceMul, Nat.reduceSub, Nat.reduceBEq, Int.reduceToNat, List.reduceReplicate, reduceCtorEq, hget, hs2]) (by simp only [go_sem, reduceIte, Nat.reduceLT, Nat.reduceLeDiff, Nat.reduceEqDiff, Nat.reduceAdd, Nat.reduceMul, Nat.reduceSub, Nat.reduceBEq, Int.reduceToNat, List.reduceReplicate, reduceCtorEq, hget, hs2]) | refine And.intro (by first | omega | exact crows_row _ | exact rrows_row _ | exact rows_row _ | (and_intros <;> first | omega | exact crows_row _ | exact rrows_row _ | exact rows_row _ | decide | (simp; done) | (simp; omega)) | fail) ?_ | refine And.intro ?_ ?_)
      refine And.intro ?_ ?_
      · simp only [go_sem, reduceIte, Nat.reduceLT, Nat.reduceLeDiff, Nat.reduceEqDiff, Nat.reduceAdd, Nat.reduceMul, Nat.reduceSub, Nat.reduceBEq, Int.reduceToNat, List.reduceReplicate, reduceCtorEq, hget, hs2]
        repeat' (first | exact (fun _ _ r => r) | exact LeE_wk (by simp only [go_sem, reduceIte, Nat.reduceLT, Nat.reduceLeDiff, Nat.reduceEqDiff, Nat.reduceAdd, Nat.reduceMul, Nat.reduceSub, Nat.reduceBEq, Int.reduceToNat, List.reduceReplicate, reduceCtorEq, hget, hs2]) (by simp only [go_sem, reduceIte, Nat.reduceLT, Nat.reduceLeDiff, Nat.reduceEqDiff, Nat.reduceAdd, Nat.reduceMul, Nat.reduceSub, Nat.reduceBEq, Int.reduceToNat, List.reduceReplicate, reduceCtorEq, hget, hs2]) | refine And.intro (by first | omega | exact crows_row _ | exact rrows_row _ | exact rows_row _ | (and_intros <;> first | omega | exact crows_row _ | exact rrows_row _ | exact rows_row _ | decide | (simp; done) | (simp; omega)) | fail) ?_ | refine And.intro ?_ ?_)
      refine And.intro ?_ ?_
      · simp only [go_sem, reduceIte, Nat.reduceLT, Nat.reduceLeDiff, Nat.reduceEqDiff, Nat.reduceAdd, Nat.reduceMul, Nat.reduceSub, Nat.reduceBEq, Int.reduceToNat, List.reduceReplicate, reduceCtorEq, hget, hs2]
        repeat' (first | exact (fun _ _ r => r) | exact LeE_wk (by simp only [go_sem, reduceIte, Nat.reduceLT, Nat.reduceLeDiff, Nat.reduceEqDiff, Nat.reduceAdd, Nat.reduceMul, Nat.reduceSub, Nat.reduceBEq, Int.reduceToNat, List.reduceReplicate, reduceCtorEq, hget, hs2]) (by simp only [go_sem, reduceIte, Nat.reduceLT, Nat.reduceLeDiff, Nat.reduceEqDiff, Nat.reduceAdd, Nat.reduceMul, Nat.reduceSub, Nat.reduceBEq, Int.reduceToNat, List.reduceReplicate, reduceCtorEq, hget, hs2]) | refine And.intro (by first | omega | exact crows_row _ | exact rrows_row _ | exact rows_row _ | (and_intros <;> first | omega | exact crows_row _ | exact rrows_row _ | exact rows_row _ | decide | (simp; done) | (simp; omega)) | fail) ?_ | refine And.intro ?_ ?_)
      refine And.intro ?_ trivial
      simp only [go_sem, reduceIte, Nat.reduceLT, Nat.reduceLeDiff, Nat.reduceEqDiff, Nat.reduceAdd, Nat.reduceMul, Nat.reduceSub, Nat.reduceBEq, Int.reduceToNat, List.reduceReplicate, reduceCtorEq, hget, hs2]
      repeat (refine And.intro (by first | omega | (and_intros <;> first | omega | exact rows_row _ | decide | (simp; done) | (simp; omega)) | fail) ?_)
      refine hK _ (Aw_no rfl (Aw_skip (hN14 _ (hB13 _ ?_))))
      refine Aw_tx hE [3, 4, 7, 8, 9] [3, 4, 7] fun K hK => ?_
      simp only [go_sem, reduceIte, Nat.reduceLT, Nat.reduceLeDiff, Nat.reduceEqDiff, Nat.reduceAdd, Nat.reduceMul, Nat.reduceSub, Nat.reduceBEq, Int.reduceToNat, List.reduceReplicate, reduceCtorEq]
      repeat (refine And.intro (by first | omega | (and_intros <;> first | omega | exact rows_row _ | decide | (simp; done) | (simp; omega)) | fail) ?_)
      refine hK _ (hN10 (i + 1) _ ⟨by omega, fun x hx => ?_⟩ (by omega) (Le.refl _))
      rw [htk] at hx
      rcases List.mem_append.1 hx with hx | hx
      · exact hi2 x hx
      · rw [List.mem_singleton] at hx; rw [hx]; exact hs
  · simp only [decide_eq_false_iff_not] at hc12
    rw [List.take_of_length_le (by omega)] at hi2
    have hx := ribFind_none (b := ⟨h0, up, l⟩) hok hi2
    have hz : z = false := by
      cases z with
      | false => rfl
      | true => exact absurd ((hz1 rfl).symm.trans hx) (by simp)
    subst hz
    refine Aw_exit (hX11 _ _ (hX10 _ _ (hE9 _ (hB8 _ ?_))))
    refine Aw_st hE [2] [] fun K hK => ?_
    simp only [go_sem, reduceIte, Nat.reduceLT, Nat.reduceLeDiff, Nat.reduceEqDiff, Nat.reduceAdd, Nat.reduceMul, Nat.reduceSub, Nat.reduceBEq, Int.reduceToNat, List.reduceReplicate, reduceCtorEq]
    refine hK _ (Aw_ret (hQ _ ?_))
    simp only [go_sem, reduceIte, Nat.reduceLT, Nat.reduceLeDiff, Nat.reduceEqDiff, Nat.reduceAdd, Nat.reduceMul, Nat.reduceSub, Nat.reduceBEq, Int.reduceToNat, List.reduceReplicate, reduceCtorEq]
end Go.Proofs.W
end
