/- YtpdinimclhhgdaaGreatDoorWb: part of the proof that a clause behind all changes just what no other one fits, for every input that the row speaks of (no condition of ours). -/
import Derived.Test.YtpdinimclhhgdaaGreatDoorWa
import Derived.Lib.Overlaps
set_option linter.unusedVariables false
set_option linter.unusedSimpArgs false
section
namespace Go.Proofs.W
open Go Go.Eng Go.RowKit
set_option linter.unusedSimpArgs false
set_option maxRecDepth 10000

/-! integers in boxes -/
def cI (l : List Int) : List AV := l.map fun n => iv n
theorem cI_len (l : List Int) : (cI l).length = l.length := by simp [cI]
theorem cI_app (a b : List Int) : cI a ++ cI b = cI (a ++ b) := by simp [cI]
theorem cI_head (l : List Int) (r : List AV) (i : Nat) (h : i < l.length) : ((cI l ++ r).drop i).head? = some (iv (l.getD i 0)) := by
  rw [List.head?_drop, List.getElem?_append_left (by rw [cI_len]; exact h)]
  simp [cI, List.getD_eq_getElem?_getD, h]
theorem flatA_rows (l : List Int) : flatA (rows l) = cI l := by
  induction l with
  | nil => rfl
  | cons n l ih =>
    have : flatA (rows (n :: l)) = iv n :: flatA (rows l) := rfl
    rw [this, ih]; rfl
theorem cI_inj : ∀ {a b : List Int}, cI a = cI b → a = b
  | [], [], _ => rfl
  | [], _ :: _, h => by simp [cI] at h
  | _ :: _, [], h => by simp [cI] at h
  | y :: a, z :: b, h => by
    simp only [cI, List.map_cons, List.cons.injEq, AV.v.injEq, Value.int.injEq, true_and] at h
    rw [h.1, cI_inj h.2]
theorem setL_mid (a b c r : List AV) (off : Nat) (ho : off = a.length) (h : c.length = b.length) : setL (a ++ b ++ r) off c = a ++ c ++ r := by
  subst ho
  induction c generalizing a b with
  | nil => cases b with
    | nil => rfl
    | cons => simp at h
  | cons x c ih =>
    cases b with
    | nil => simp at h
    | cons y b =>
      simp only [setL]
      have e : (a ++ y :: b ++ r).set a.length x = (a ++ [x]) ++ b ++ r := by simp [List.set_append]
      rw [e, show a.length + 1 = (a ++ [x]).length by simp, ih (a ++ [x]) b (by simpa using h)]
      simp
theorem setL_at (L c : List AV) (off : Nat) (h : off + c.length ≤ L.length) : setL L off c = L.take off ++ c ++ L.drop (off + c.length) := by
  have := setL_mid (L.take off) ((L.drop off).take c.length) c (L.drop (off + c.length)) off (by simp; omega) (by simp; omega)
  rw [← this]; congr 1
  rw [List.append_assoc, ← List.drop_drop, List.take_append_drop, List.take_append_drop]
theorem strip_cI (d : Nat) (l : List Int) : AV.stripLAll d (cI l) = cI l := by
  rw [AV.stripLAll_eq]; simp [cI, AV.stripL]
theorem stripLAll_app (d : Nat) (a b : List AV) : AV.stripLAll d (a ++ b) = AV.stripLAll d a ++ AV.stripLAll d b := by simp [AV.stripLAll_eq]
theorem stripLAll_junk (d n : Nat) : AV.stripLAll d (List.replicate n .junk) = List.replicate n .junk := by simp [AV.stripLAll_eq, AV.stripL]
theorem nt_cI (l : List Int) : AV.ntAll (cI l) = cI l := by
  rw [ntAll_eq]; simp [cI, AV.nt]
theorem ntAll_app (a b : List AV) : AV.ntAll (a ++ b) = AV.ntAll a ++ AV.ntAll b := by simp [ntAll_eq]
theorem ntAll_junk (n : Nat) : AV.ntAll (List.replicate n .junk) = List.replicate n .junk := by simp [ntAll_eq, AV.nt]
theorem mvn_cI (f : Nat → Option Nat) (l : List Int) : AV.mvnAll f (cI l) = cI l := by
  rw [mvnAll_eq]; simp [cI, AV.mvn]
theorem mvnAll_app (f : Nat → Option Nat) (a b : List AV) : AV.mvnAll f (a ++ b) = AV.mvnAll f a ++ AV.mvnAll f b := by simp [mvnAll_eq]
theorem allLeaf_cI (l : List Int) : allLeaf (cI l) = true := by
  induction l with
  | nil => rfl
  | cons n l ih => exact ih
theorem ofAll_cI (l : List Int) : DV.ofAll (cI l) = some (l.map fun n => .v (.int .i64 n)) := by
  induction l with
  | nil => rfl
  | cons n l ih => simp only [cI, List.map_cons, DV.ofAll, DV.ofAV] at *; rw [ih]
theorem chunks_one (l : List Int) : chunks 1 l.length (l.map fun n => DV.v (.int .i64 n)) = rows l := by
  induction l with
  | nil => rfl
  | cons n l ih => simp only [List.length_cons, List.map_cons, chunks, List.take_succ_cons, List.take_zero, List.drop_succ_cons, List.drop_zero, ih]; rfl
theorem mvnAll_junk (f : Nat → Option Nat) (n : Nat) : AV.mvnAll f (List.replicate n .junk) = List.replicate n .junk := by simp [mvnAll_eq, AV.mvn]
theorem stripFAll_cI (F : Nat → Bool) (l : List Int) : AV.stripFAll F (cI l) = cI l := by
  rw [stripFAll_eq]; simp [cI, AV.stripF]
theorem stripFAll_app (F : Nat → Bool) (a b : List AV) : AV.stripFAll F (a ++ b) = AV.stripFAll F a ++ AV.stripFAll F b := by simp [stripFAll_eq]
theorem stripFAll_junk (F : Nat → Bool) (n : Nat) : AV.stripFAll F (List.replicate n .junk) = List.replicate n .junk := by simp [stripFAll_eq, AV.stripF]
theorem frz_rows (l : List Int) : chunks 1 l.length (List.take l.length (l.map fun n => DV.v (.int .i64 n))) = rows l := by
  rw [List.take_of_length_le (by simp), chunks_one]
theorem frzAll_app (d : Nat) (ys : List DV) (a b : List AV) : AV.frzAll d ys (a ++ b) = AV.frzAll d ys a ++ AV.frzAll d ys b := by
  induction a with
  | nil => rfl
  | cons x a ih => simp only [List.cons_append, AV.frzAll, ih]
theorem frzAll_cI (d : Nat) (ys : List DV) (l : List Int) : AV.frzAll d ys (cI l) = cI l := by
  induction l with
  | nil => rfl
  | cons n l ih =>
    have : cI (n :: l) = iv n :: cI l := rfl
    rw [this, AV.frzAll, ih]; rfl
theorem frzAll_junk (d : Nat) (ys : List DV) (n : Nat) : AV.frzAll d ys (List.replicate n .junk) = List.replicate n .junk := by
  induction n with
  | zero => rfl
  | succ n ih => rw [List.replicate_succ, AV.frzAll, ih]; rfl
attribute [go_sem] frzAll_app frzAll_cI frzAll_junk
attribute [go_sem] mvnAll_junk stripFAll_cI stripFAll_app stripFAll_junk
attribute [go_sem] cI_len strip_cI stripLAll_app stripLAll_junk nt_cI ntAll_app ntAll_junk mvn_cI mvnAll_app flatA_rows allLeaf_cI

/-- slices.overlaps at two views -/
def gOver : ExG := fun args m => match args with
  | [.xs k1 _ _ _ _, .xs k2 _ _ _ _] => match lkm k1 m, lkm k2 m with
    | some _, some l2 => some (k1 ≠ k2 ∧ l2.length ≠ 0, bv false)
    | _, _ => none
  | _ => none
attribute [go_sem] gOver

theorem over_ok : ExtOk Tryz.prog 85 gOver := by
  intro c m args vs hb hi hsz hrd cc r hg hc
  unfold gOver at hg
  split at hg
  · rename_i k1 o1 n1 c1 s1 k2 o2 n2 c2 s2
    split at hg
    · rename_i l1 l2 h1 h2
      obtain ⟨rfl, rfl⟩ := Prod.mk.inj (Option.some.inj hg)
      have r0 := hrd 0 _ rfl
      have r1 := hrd 1 _ rfl
      obtain ⟨e0, _⟩ := xs_val r0 rfl
      obtain ⟨e1, _⟩ := xs_val r1 rfl
      have ev : vs = #[.slice (some ⟨c.β k1, o1, none⟩) n1 c1, .slice (some ⟨c.β k2, o2, none⟩) n2 c2] := by
        obtain ⟨l⟩ := vs
        match l, hsz with
        | [x, y], _ =>
          have e0' : x = _ := e0
          have e1' : y = _ := e1
          rw [e0', e1']
      subst ev
      obtain ⟨cs1, T1, b1, z1⟩ := hb k1 l1 h1
      obtain ⟨cs2, T2, b2, z2⟩ := hb k2 l2 h2
      have hne : c.β k1 ≠ c.β k2 := fun e => hc.1 (hi k1 k2 l1 l2 h1 h2 e)
      refine ⟨.bool false, ?_, .v _ rfl⟩
      rw [run_callFunc_extern Tryz.func85 (by kernel_rfl) (by kernel_rfl) (by kernel_rfl) (e := Extern.SlicesOverlaps.overlaps #[26, 26] #[4]) (by kernel_rfl),
        Lib.run_overlaps_apart c.w 26 4 3 Tryz.underlying26 1 (fun w => sizeOf_ok ok3 w) ⟨c.β k1, o1, none⟩ ⟨c.β k2, o2, none⟩ n1 c1 n2 c2 hne T1 T2 cs1.size cs2.size (by simp [World.shape?, b1]) (by simp [World.shape?, b2]) (by rw [z2]; exact hc.2) (frozen_of_row c.w _ _ cs1 T1 b1) (frozen_of_row c.w _ _ cs1 T1 b1)]
      rfl
    · cases hg
  · cases hg

def insL (l : List Int) (i : Nat) (x : Int) : List Int := l.take i ++ x :: l.drop i
theorem insL_len (l : List Int) (i : Nat) (x : Int) (h : i ≤ l.length) : (insL l i x).length = l.length + 1 := by simp [insL]; omega
def cIns : ConM := {
  pre := fun args m1 => ∃ (l : List Int) (cap i : Nat) (x : Int), args = [.xs 1000 0 l.length cap 1, iv i, .xs 1001 0 1 1 1] ∧ m1 = [(1000, cI l ++ List.replicate (cap - l.length) .junk), (1001, [iv x])] ∧ i ≤ l.length ∧ l.length ≤ cap ∧ l.length ≤ 1000000
  post := fun args m1 r m2 => ∀ (l : List Int) (cap i : Nat) (x : Int), args = [.xs 1000 0 l.length cap 1, iv i, .xs 1001 0 1 1 1] → m1 = [(1000, cI l ++ List.replicate (cap - l.length) .junk), (1001, [iv x])] →
    ∃ cap' rest a b, l.length + 1 ≤ cap' ∧ ((r = .xs 1000 0 (l.length + 1) cap' 1 ∧ m2 = [(1000, cI (insL l i x) ++ rest), (1001, b)]) ∨ ∃ k, (k = 25 ∨ k = 40) ∧ r = .xs k 0 (l.length + 1) cap' 1 ∧ m2 = [(k, cI (insL l i x) ++ rest), (1000, a), (1001, b)]) }

theorem ins_ok : FineM Tryz.prog 50 cIns := by
  refine fineM_of [] ms_nil [] mm_nil [] [(85, gOver)] (ex_cons over_ok ex_nil) (T := TT) Tryz.func50 rfl Tryz.ntmps50 (by rw [Tryz.results50]) rfl rfl tt gs_nil ds_nil ?_
  rintro args m1 ⟨l, cap, i, x, rfl, rfl, hi, hcap, hl⟩
  refine ⟨by simp, fun E hE Q hQ => ?_⟩
  have hfin : ∀ r m2, (∃ cap' rest a b, l.length + 1 ≤ cap' ∧ ((r = .xs 1000 0 (l.length + 1) cap' 1 ∧ m2 = [(1000, cI (insL l i x) ++ rest), (1001, b)]) ∨ ∃ k, (k = 25 ∨ k = 40) ∧ r = .xs k 0 (l.length + 1) cap' 1 ∧ m2 = [(k, cI (insL l i x) ++ rest), (1000, a), (1001, b)])) → cIns.post [AV.xs 1000 0 l.length cap 1, iv i, AV.xs 1001 0 1 1 1] [(1000, cI l ++ List.replicate (cap - l.length) AV.junk), (1001, [iv x])] r m2 := by
    intro r m2 h l' cap' i' x' h1 h2
    simp only [List.cons.injEq, AV.xs.injEq, AV.v.injEq, Value.int.injEq, Prod.mk.injEq, and_true, true_and] at h1 h2
    obtain ⟨⟨h3, h4⟩, h5⟩ := h1
    obtain ⟨h6, h7⟩ := h2
    have h8 := List.append_inj_left h6 (by simp [cI_len, h3])
    have e : ∀ a b : List Int, cI a = cI b → a = b := by
      intro a
      induction a with
      | nil => intro b h; cases b with
        | nil => rfl
        | cons => simp [cI] at h
      | cons y a ih => intro b h; cases b with
        | nil => simp [cI] at h
        | cons z b => simp only [cI, List.map_cons, List.cons.injEq, AV.v.injEq, Value.int.injEq, true_and] at h; rw [h.1, ih b h.2]
    obtain rfl := e _ _ h8
    obtain rfl : i = i' := by omega
    subst h4; subst h7
    exact h
  generalize hn : l.length = n at *
  obtain ⟨s, rfl⟩ := Nat.exists_eq_add_of_le hcap
  obtain ⟨a, b, hab, ha⟩ : ∃ a b : List Int, l = a ++ b ∧ a.length = i := ⟨l.take i, l.drop i, (List.take_append_drop i l).symm, by simp; omega⟩
  have hins : insL l i x = a ++ x :: b := by rw [hab, insL, ← ha]; simp
  have hb : b.length + i = n := by rw [← hn, hab]; simp; omega
  have hcl : cI l = cI a ++ cI b := by rw [hab, cI_app]
  have hcal : (cI a).length = i := by rw [cI_len, ha]
  have hcbl : (cI b).length = n - i := by rw [cI_len]; omega
  have hs : n + s - n = s := by omega
  have e1 : ((n : Int) + ((1 : Nat) : Int) - (i : Int)).toNat = n + 1 - i := by omega
  have e2 : ((n : Int) + ((1 : Nat) : Int)).toNat = n + 1 := by omega
  have e3 : ((i : Int) + ((1 : Nat) : Int)).toNat = i + 1 := by omega
  have htk : List.take i (cI l ++ List.replicate (n + s - n) AV.junk) = cI a := by rw [hcl, List.append_assoc, List.take_left' hcal]
  have htd : List.drop i (cI l ++ List.replicate (n + s - n) AV.junk) = cI b ++ List.replicate (n + s - n) AV.junk := by rw [hcl, List.append_assoc, List.drop_left' hcal]
  have h40 : ∀ cap' L1 A B, n + 1 ≤ cap' → (∃ rest, L1 = cI (insL l i x) ++ rest) → cIns.post [AV.xs 1000 0 n (n + s) 1, iv i, AV.xs 1001 0 1 1 1] [(1000, cI l ++ List.replicate (n + s - n) AV.junk), (1001, [iv x])] (.xs 40 0 (n + 1) cap' 1) [(40, L1), (1000, A), (1001, B)] := by
    rintro cap' _ A B h ⟨rest, rfl⟩
    exact hfin _ _ ⟨cap', rest, A, B, h, .inr ⟨40, .inr rfl, rfl, rfl⟩⟩
  have hIn : ∀ cap' L1 B, n + 1 ≤ cap' → (∃ rest, L1 = cI (insL l i x) ++ rest) → cIns.post [AV.xs 1000 0 n (n + s) 1, iv i, AV.xs 1001 0 1 1 1] [(1000, cI l ++ List.replicate (n + s - n) AV.junk), (1001, [iv x])] (.xs 1000 0 (n + 1) cap' 1) [(1000, L1), (1001, B)] := by
    rintro cap' _ B h ⟨rest, rfl⟩
    exact hfin _ _ ⟨cap', rest, [], B, h, .inl ⟨rfl, rfl⟩⟩
  refine Aw_st hE [0, 1, 2] [25, 40, 1000, 1001] fun K hK => ?_
  simp only [go_sem, reduceIte, Nat.reduceLT, Nat.reduceLeDiff, Nat.reduceEqDiff, Nat.reduceAdd, Nat.reduceMul, Nat.reduceSub, Nat.reduceBEq, Int.reduceToNat, List.reduceReplicate, reduceCtorEq]
  repeat (refine And.intro (by first | omega | (and_intros <;> first | omega | exact rows_row _ | decide | (simp; done) | (simp; omega)) | fail) ?_)
  refine hK _ ?_; clear hK K
  refine Aw_st hE [0, 1, 2] [25, 40, 1000, 1001] fun K hK => ?_
  simp only [go_sem, reduceIte, Nat.reduceLT, Nat.reduceLeDiff, Nat.reduceEqDiff, Nat.reduceAdd, Nat.reduceMul, Nat.reduceSub, Nat.reduceBEq, Int.reduceToNat, List.reduceReplicate, reduceCtorEq]
  repeat (refine And.intro (by first | omega | (and_intros <;> first | omega | exact rows_row _ | decide | (simp; done) | (simp; omega)) | fail) ?_)
  refine hK _ ?_; clear hK K
  refine Aw_st hE [0, 1, 2, 7] [25, 40, 1000, 1001] fun K hK => ?_
  simp only [go_sem, reduceIte, Nat.reduceLT, Nat.reduceLeDiff, Nat.reduceEqDiff, Nat.reduceAdd, Nat.reduceMul, Nat.reduceSub, Nat.reduceBEq, Int.reduceToNat, List.reduceReplicate, reduceCtorEq]
  repeat (refine And.intro (by first | omega | (and_intros <;> first | omega | exact rows_row _ | decide | (simp; done) | (simp; omega)) | fail) ?_)
  refine hK _ ?_; clear hK K
  refine Aw_sq fun B1 hB1 hR1 hX1 => ?_
  refine Aw_st hE [0, 1, 2, 7, 16] [25, 40, 1000, 1001] fun K hK => ?_
  simp only [go_sem, reduceIte, Nat.reduceLT, Nat.reduceLeDiff, Nat.reduceEqDiff, Nat.reduceAdd, Nat.reduceMul, Nat.reduceSub, Nat.reduceBEq, Int.reduceToNat, List.reduceReplicate, reduceCtorEq]
  repeat (refine And.intro (by first | omega | (and_intros <;> first | omega | exact rows_row _ | decide | (simp; done) | (simp; omega)) | fail) ?_)
  refine hK _ (Aw_no rfl ?_)
  refine Aw_skip (hB1 _ ?_)
  refine Aw_st hE [0, 1, 2, 7, 8] [25, 40, 1000, 1001] fun K hK => ?_
  simp only [go_sem, reduceIte, Nat.reduceLT, Nat.reduceLeDiff, Nat.reduceEqDiff, Nat.reduceAdd, Nat.reduceMul, Nat.reduceSub, Nat.reduceBEq, Int.reduceToNat, List.reduceReplicate, reduceCtorEq]
  repeat (refine And.intro (by first | omega | (and_intros <;> first | omega | exact rows_row _ | decide | (simp; done) | (simp; omega)) | fail) ?_)
  refine hK _ ?_; clear hK K
  refine Aw_sq fun B3 hB3 hR3 hX3 => ?_
  refine Aw_st hE [0, 1, 2, 7, 8, 22] [25, 40, 1000, 1001] fun K hK => ?_
  simp only [go_sem, reduceIte, Nat.reduceLT, Nat.reduceLeDiff, Nat.reduceEqDiff, Nat.reduceAdd, Nat.reduceMul, Nat.reduceSub, Nat.reduceBEq, Int.reduceToNat, List.reduceReplicate, reduceCtorEq]
  repeat (refine And.intro (by first | omega | (and_intros <;> first | omega | exact rows_row _ | decide | (simp; done) | (simp; omega)) | fail) ?_)
  refine hK _ (Aw_cond rfl (fun hc4 => ?_) (fun hc4 => ?_))
  · simp only [decide_eq_true_eq] at hc4
    have hb0 : b = [] := by rw [← List.length_eq_zero_iff]; omega
    have hin : i = n := by omega
    refine Aw_st hE [6] [25, 40, 1000, 1001] fun K hK => ?_
    simp only [go_sem, reduceIte, Nat.reduceLT, Nat.reduceLeDiff, Nat.reduceEqDiff, Nat.reduceAdd, Nat.reduceMul, Nat.reduceSub, Nat.reduceBEq, Int.reduceToNat, List.reduceReplicate, reduceCtorEq]
    repeat (refine And.intro (by first | omega | (and_intros <;> first | omega | exact rows_row _ | decide | (simp; done) | (simp; omega)) | fail) ?_)
    refine ⟨⟨by omega, by simp [cI_len]; omega⟩, fun hr => ?_, fun hr cap' hc' => ?_⟩
    · rw [hs]
      obtain ⟨s', rfl⟩ : ∃ s', s = s' + 1 := ⟨s - 1, by omega⟩
      have e : (cI l ++ List.replicate (s' + 1) AV.junk).set n (iv x) = cI (insL l i x) ++ List.replicate s' AV.junk := by
        rw [hins, hcl, hb0]
        have := setL_mid (cI a) [AV.junk] [iv x] (List.replicate s' AV.junk) n (by omega) rfl
        simp only [setL] at this
        simp only [cI, List.map_nil, List.append_nil, List.replicate_succ, List.map_append, List.map_cons] at this ⊢
        simpa using this
      rw [e]
      refine hK _ (Aw_ret (hR3 _ (hQ _ ?_)))
      simp only [go_sem, reduceIte, Nat.reduceLT, Nat.reduceLeDiff, Nat.reduceEqDiff, Nat.reduceAdd, Nat.reduceMul, Nat.reduceSub, Nat.reduceBEq, Int.reduceToNat, List.reduceReplicate, reduceCtorEq]
      exact hfin _ _ ⟨n + (s' + 1), List.replicate s' .junk, [], [iv x], by omega, .inl ⟨rfl, by simp [AV.nt]⟩⟩
    refine hK _ (Aw_ret (hR3 _ (hQ _ ?_)))
    simp only [go_sem, reduceIte, Nat.reduceLT, Nat.reduceLeDiff, Nat.reduceEqDiff, Nat.reduceAdd, Nat.reduceMul, Nat.reduceSub, Nat.reduceBEq, Int.reduceToNat, List.reduceReplicate, reduceCtorEq]
    refine hfin _ _ ⟨cap', List.replicate (cap' - (n + 1)) .junk, cI l ++ List.replicate (n + s - n) .junk, [iv x], hc', .inr ⟨25, .inl rfl, rfl, ?_⟩⟩
    rw [List.take_left' (by rw [cI_len, hn]), strip_cI, nt_cI, hins, hcl, hb0]
    simp [cI, iv]
  · simp only [decide_eq_false_iff_not] at hc4
    have hin : i < n := by omega
    refine Aw_skip (hB3 _ ?_)
    refine Aw_sq fun B5 hB5 hR5 hX5 => ?_
    refine Aw_st hE [0, 1, 2, 7, 8, 31] [25, 40, 1000, 1001] fun K hK => ?_
    simp only [go_sem, reduceIte, Nat.reduceLT, Nat.reduceLeDiff, Nat.reduceEqDiff, Nat.reduceAdd, Nat.reduceMul, Nat.reduceSub, Nat.reduceBEq, Int.reduceToNat, List.reduceReplicate, reduceCtorEq]
    repeat (refine And.intro (by first | omega | (and_intros <;> first | omega | exact rows_row _ | decide | (simp; done) | (simp; omega)) | fail) ?_)
    refine hK _ (Aw_cond rfl (fun hc6 => ?_) (fun hc6 => ?_))
    · simp only [decide_eq_true_eq] at hc6
      refine Aw_st hE [0, 1, 2, 7, 9] [25, 40, 1000, 1001] fun K hK => ?_
      simp only [go_sem, reduceIte, Nat.reduceLT, Nat.reduceLeDiff, Nat.reduceEqDiff, Nat.reduceAdd, Nat.reduceMul, Nat.reduceSub, Nat.reduceBEq, Int.reduceToNat, List.reduceReplicate, reduceCtorEq]
      repeat (refine And.intro (by first | omega | (and_intros <;> first | omega | exact rows_row _ | decide | (simp; done) | (simp; omega)) | fail) ?_)
      refine ⟨⟨⟨by omega, rfl⟩, by omega, by omega, by simp [cI_len]; omega⟩, fun cap' hc' => ?_⟩
      rw [e1, show i + (n + 1 - i) = n + 1 by omega, htk, strip_cI]
      have hc' : n + 1 ≤ cap' := by omega
      refine hK _ ?_; clear hK K
      refine Aw_st hE [0, 1, 7, 9] [25, 40, 1000, 1001] fun K hK => ?_
      simp only [go_sem, reduceIte, Nat.reduceLT, Nat.reduceLeDiff, Nat.reduceEqDiff, Nat.reduceAdd, Nat.reduceMul, Nat.reduceSub, Nat.reduceBEq, Int.reduceToNat, List.reduceReplicate, reduceCtorEq]
      repeat (refine And.intro (by first | omega | (and_intros <;> first | omega | exact rows_row _ | decide | (simp; done) | (simp; omega)) | fail) ?_)
      rw [if_neg (show cap' ≠ i by omega), show min 1 (n + 1 - i) = 1 by omega]
      have hset : setL (cI a ++ List.replicate (cap' - i) AV.junk) i (List.take 1 [iv x]) = cI a ++ [iv x] ++ List.replicate (cap' - i - 1) .junk := by
        have := setL_mid (cI a) [AV.junk] [iv x] (List.replicate (cap' - i - 1) .junk) i hcal.symm rfl
        rw [← this, show cap' - i = cap' - i - 1 + 1 by omega, List.replicate_succ]; simp
      rw [hset]
      refine ⟨⟨by simp [cI_len]; omega, rfl⟩, ?_⟩
      refine hK _ ?_; clear hK K
      refine Aw_sd hE [9] [25, 40, 1000, 1001] 6 (by kernel_rfl) fun K hK => ?_
      simp only [go_sem, reduceIte, Nat.reduceLT, Nat.reduceLeDiff, Nat.reduceEqDiff, Nat.reduceAdd, Nat.reduceMul, Nat.reduceSub, Nat.reduceBEq, Int.reduceToNat, List.reduceReplicate, reduceCtorEq]
      repeat (refine And.intro (by first | omega | (and_intros <;> first | omega | exact rows_row _ | decide | (simp; done) | (simp; omega)) | fail) ?_)
      rw [e3, if_neg (show n + s ≠ i by omega), if_neg (show cap' ≠ i + 1 by omega), show min (n - i) (n + 1 - (i + 1)) = n - i by omega, htd, List.take_left' hcbl]
      refine ⟨⟨by simp [cI_len]; omega, by simp [cI_len]; omega, allLeaf_cI _⟩, ?_⟩
      rw [setL_at _ _ _ (by simp [cI_len]; omega), List.take_left' (by simp [cI_len]; omega)]
      refine hK _ ?_; clear hK K
      refine Aw_st hE [6] [25, 40, 1000, 1001] fun K hK => ?_
      simp only [go_sem, reduceIte, Nat.reduceLT, Nat.reduceLeDiff, Nat.reduceEqDiff, Nat.reduceAdd, Nat.reduceMul, Nat.reduceSub, Nat.reduceBEq, Int.reduceToNat, List.reduceReplicate, reduceCtorEq]
      repeat (refine And.intro (by first | omega | (and_intros <;> first | omega | exact rows_row _ | decide | (simp; done) | (simp; omega)) | fail) ?_)
      refine hK _ (Aw_ret (hR5 _ (hQ _ ?_)))
      simp only [go_sem, reduceIte, Nat.reduceLT, Nat.reduceLeDiff, Nat.reduceEqDiff, Nat.reduceAdd, Nat.reduceMul, Nat.reduceSub, Nat.reduceBEq, Int.reduceToNat, List.reduceReplicate, reduceCtorEq]
      refine h40 cap' _ _ _ hc' ?_
      rw [hins]
      exact ⟨_, by simp [cI, iv]; rfl⟩
    · simp only [decide_eq_false_iff_not, Int.not_lt] at hc6
      refine Aw_skip (hB5 _ ?_)
      refine Aw_st hE [0, 1, 2, 7, 8] [25, 40, 1000, 1001] fun K hK => ?_
      simp only [go_sem, reduceIte, Nat.reduceLT, Nat.reduceLeDiff, Nat.reduceEqDiff, Nat.reduceAdd, Nat.reduceMul, Nat.reduceSub, Nat.reduceBEq, Int.reduceToNat, List.reduceReplicate, reduceCtorEq]
      repeat (refine And.intro (by first | omega | (and_intros <;> first | omega | exact rows_row _ | decide | (simp; done) | (simp; omega)) | fail) ?_)
      rw [e2]
      refine hK _ ?_; clear hK K
      refine Aw_sq fun B7 hB7 hR7 hX7 => ?_
      refine Aw_st hE [0, 1, 2, 7, 8, 68] [25, 40, 1000, 1001] fun K hK => ?_
      simp only [go_sem, reduceIte, Nat.reduceLT, Nat.reduceLeDiff, Nat.reduceEqDiff, Nat.reduceAdd, Nat.reduceMul, Nat.reduceSub, Nat.reduceBEq, Int.reduceToNat, List.reduceReplicate, reduceCtorEq]
      repeat (refine And.intro (by first | omega | (and_intros <;> first | omega | exact rows_row _ | decide | (simp; done) | (simp; omega)) | fail) ?_)
      refine hK _ (Aw_yes rfl ?_)
      refine Aw_sd hE [0, 1, 2] [25, 40, 1000, 1001] 6 (by kernel_rfl) fun K hK => ?_
      simp only [go_sem, reduceIte, Nat.reduceLT, Nat.reduceLeDiff, Nat.reduceEqDiff, Nat.reduceAdd, Nat.reduceMul, Nat.reduceSub, Nat.reduceBEq, Int.reduceToNat, List.reduceReplicate, reduceCtorEq]
      repeat (refine And.intro (by first | omega | (and_intros <;> first | omega | exact rows_row _ | decide | (simp; done) | (simp; omega)) | fail) ?_)
      rw [e3, if_neg (show n + s ≠ i by omega), if_neg (show n + s ≠ i + 1 by omega), show min (n + 1 - i) (n + 1 - (i + 1)) = n - i by omega, htd, List.take_left' hcbl]
      refine ⟨⟨by simp [cI_len]; omega, by simp [cI_len]; omega, allLeaf_cI _⟩, ?_⟩
      obtain ⟨y, hy⟩ : ∃ y, List.take (i + 1) (cI l ++ List.replicate (n + s - n) AV.junk) = cI a ++ [y] := ⟨(cI l ++ List.replicate (n + s - n) AV.junk)[i]'(by simp [cI_len]; omega), by rw [List.take_succ_eq_append_getElem (by simp [cI_len]; omega), htk]⟩
      rw [setL_at _ _ _ (by simp [cI_len]; omega), hy, List.append_assoc]
      refine hK _ ?_; clear hK K
      refine Aw_st hE [0] [25, 40, 1000, 1001] fun K hK => ?_
      simp only [go_sem, reduceIte, Nat.reduceLT, Nat.reduceLeDiff, Nat.reduceEqDiff, Nat.reduceAdd, Nat.reduceMul, Nat.reduceSub, Nat.reduceBEq, Int.reduceToNat, List.reduceReplicate, reduceCtorEq]
      repeat (refine And.intro (by first | omega | (and_intros <;> first | omega | exact rows_row _ | decide | (simp; done) | (simp; omega)) | fail) ?_)
      rw [if_neg (show n + s ≠ i by omega), show min 1 (n + 1 - i) = 1 by omega]
      refine ⟨⟨by simp [cI_len]; omega, rfl⟩, ?_⟩
      rw [setL_mid (cI a) [y] (List.take 1 [iv x]) _ i hcal.symm rfl]
      refine hK _ ?_; clear hK K
      refine Aw_st hE [6] [25, 40, 1000, 1001] fun K hK => ?_
      simp only [go_sem, reduceIte, Nat.reduceLT, Nat.reduceLeDiff, Nat.reduceEqDiff, Nat.reduceAdd, Nat.reduceMul, Nat.reduceSub, Nat.reduceBEq, Int.reduceToNat, List.reduceReplicate, reduceCtorEq]
      repeat (refine And.intro (by first | omega | (and_intros <;> first | omega | exact rows_row _ | decide | (simp; done) | (simp; omega)) | fail) ?_)
      refine hK _ (Aw_ret (hR7 _ (hQ _ ?_)))
      simp only [go_sem, reduceIte, Nat.reduceLT, Nat.reduceLeDiff, Nat.reduceEqDiff, Nat.reduceAdd, Nat.reduceMul, Nat.reduceSub, Nat.reduceBEq, Int.reduceToNat, List.reduceReplicate, reduceCtorEq]
      refine hIn (n + s) _ _ (by omega) ?_
      rw [hins]
      exact ⟨_, by simp [cI, iv]; rfl⟩

/-- of nil -/
def cInsN : ConM := {
  pre := fun args m1 => ∃ x : Int, args = [.nl, iv 0, .xs 1000 0 1 1 1] ∧ m1 = [(1000, [iv x])]
  post := fun args m1 r m2 => ∀ x : Int, args = [.nl, iv 0, .xs 1000 0 1 1 1] → m1 = [(1000, [iv x])] → ∃ cap', 1 ≤ cap' ∧ r = .xs 25 0 1 cap' 1 ∧ m2 = [(25, iv x :: List.replicate (cap' - 1) .junk), (1000, [iv x])] }
theorem insN_ok : FineM Tryz.prog 50 cInsN := by
  refine fineM_of [] ms_nil [] mm_nil [25] [(85, gOver)] (ex_cons over_ok ex_nil) (T := TT) Tryz.func50 rfl Tryz.ntmps50 (by rw [Tryz.results50]) rfl rfl tt gs_nil ds_nil ?_
  rintro args m1 ⟨x, rfl, rfl⟩
  refine ⟨by simp, fun E hE Q hQ => ?_⟩
  refine Aw_st hE [0, 1, 2] [25, 1000] fun K hK => ?_
  simp only [go_sem, reduceIte, Nat.reduceLT, Nat.reduceLeDiff, Nat.reduceEqDiff, Nat.reduceAdd, Nat.reduceMul, Nat.reduceSub, Nat.reduceBEq, Int.reduceToNat, List.reduceReplicate, reduceCtorEq]
  repeat (refine And.intro (by first | omega | (and_intros <;> first | omega | exact rows_row _ | decide | (simp; done) | (simp; omega)) | fail) ?_)
  refine hK _ ?_; clear hK K
  refine Aw_st hE [0, 1, 2] [25, 1000] fun K hK => ?_
  simp only [go_sem, reduceIte, Nat.reduceLT, Nat.reduceLeDiff, Nat.reduceEqDiff, Nat.reduceAdd, Nat.reduceMul, Nat.reduceSub, Nat.reduceBEq, Int.reduceToNat, List.reduceReplicate, reduceCtorEq]
  repeat (refine And.intro (by first | omega | (and_intros <;> first | omega | exact rows_row _ | decide | (simp; done) | (simp; omega)) | fail) ?_)
  refine hK _ ?_; clear hK K
  refine Aw_st hE [0, 1, 2, 7] [25, 1000] fun K hK => ?_
  simp only [go_sem, reduceIte, Nat.reduceLT, Nat.reduceLeDiff, Nat.reduceEqDiff, Nat.reduceAdd, Nat.reduceMul, Nat.reduceSub, Nat.reduceBEq, Int.reduceToNat, List.reduceReplicate, reduceCtorEq]
  repeat (refine And.intro (by first | omega | (and_intros <;> first | omega | exact rows_row _ | decide | (simp; done) | (simp; omega)) | fail) ?_)
  refine hK _ ?_; clear hK K
  refine Aw_sq fun B1 hB1 hR1 hX1 => ?_
  refine Aw_st hE [0, 1, 2, 7, 16] [25, 1000] fun K hK => ?_
  simp only [go_sem, reduceIte, Nat.reduceLT, Nat.reduceLeDiff, Nat.reduceEqDiff, Nat.reduceAdd, Nat.reduceMul, Nat.reduceSub, Nat.reduceBEq, Int.reduceToNat, List.reduceReplicate, reduceCtorEq]
  repeat (refine And.intro (by first | omega | (and_intros <;> first | omega | exact rows_row _ | decide | (simp; done) | (simp; omega)) | fail) ?_)
  refine hK _ (Aw_no rfl ?_)
  refine Aw_skip (hB1 _ ?_)
  refine Aw_st hE [0, 1, 2, 7, 8] [25, 1000] fun K hK => ?_
  simp only [go_sem, reduceIte, Nat.reduceLT, Nat.reduceLeDiff, Nat.reduceEqDiff, Nat.reduceAdd, Nat.reduceMul, Nat.reduceSub, Nat.reduceBEq, Int.reduceToNat, List.reduceReplicate, reduceCtorEq]
  repeat (refine And.intro (by first | omega | (and_intros <;> first | omega | exact rows_row _ | decide | (simp; done) | (simp; omega)) | fail) ?_)
  refine hK _ ?_; clear hK K
  refine Aw_sq fun B3 hB3 hR3 hX3 => ?_
  refine Aw_st hE [0, 1, 2, 7, 8, 22] [25, 1000] fun K hK => ?_
  simp only [go_sem, reduceIte, Nat.reduceLT, Nat.reduceLeDiff, Nat.reduceEqDiff, Nat.reduceAdd, Nat.reduceMul, Nat.reduceSub, Nat.reduceBEq, Int.reduceToNat, List.reduceReplicate, reduceCtorEq]
  repeat (refine And.intro (by first | omega | (and_intros <;> first | omega | exact rows_row _ | decide | (simp; done) | (simp; omega)) | fail) ?_)
  refine hK _ (Aw_yes rfl ?_)
  refine Aw_st hE [6] [25, 1000] fun K hK => ?_
  simp only [go_sem, reduceIte, Nat.reduceLT, Nat.reduceLeDiff, Nat.reduceEqDiff, Nat.reduceAdd, Nat.reduceMul, Nat.reduceSub, Nat.reduceBEq, Int.reduceToNat, List.reduceReplicate, reduceCtorEq]
  repeat (refine And.intro (by first | omega | (and_intros <;> first | omega | exact rows_row _ | decide | (simp; done) | (simp; omega)) | fail) ?_)
  intro cap' hcap'
  refine hK _ (Aw_ret (hR3 _ (hQ _ ?_)))
  simp only [go_sem, reduceIte, Nat.reduceLT, Nat.reduceLeDiff, Nat.reduceEqDiff, Nat.reduceAdd, Nat.reduceMul, Nat.reduceSub, Nat.reduceBEq, Int.reduceToNat, List.reduceReplicate, reduceCtorEq]
  intro x' h1 h2
  simp only [List.cons.injEq, Prod.mk.injEq, AV.v.injEq, Value.int.injEq, true_and, and_true] at h2
  subst h2
  exact ⟨cap', hcap', rfl, rfl⟩
theorem insJ_ok : FineM Tryz.prog 50 (cIns.or cInsN) := ins_ok.or insN_ok (fun _ => trivial) (fun _ => trivial)

/-- slices.BinarySearch -/
def cBs : ConM := {
  pre := fun args m1 => (∃ (l : List Int) (cap : Nat) (x : Int), args = [.xs 1000 0 l.length cap 1, iv x] ∧ m1 = [(1000, cI l ++ List.replicate (cap - l.length) .junk)] ∧ l.length ≤ 1000000 ∧ l.Pairwise (· < ·)) 
  post := fun args m1 r m2 => m2 = m1 ∧ ∀ (l : List Int) (cap : Nat) (x : Int), args = [.xs 1000 0 l.length cap 1, iv x] → m1 = [(1000, cI l ++ List.replicate (cap - l.length) .junk)] → ∃ i : Nat, i ≤ l.length ∧ r = .tup [iv i, bv (decide (i < l.length) && decide (l.getD i 0 = x))] ∧ (∀ k, k < i → l.getD k 0 < x) ∧ ∀ k, i ≤ k → k < l.length → x ≤ l.getD k 0 }
def gLess : List AV → Option (Prop × AV) | [.v (.int .i64 x), .v (.int .i64 y)] => some (True, bv (decide (x < y))) | _ => none
def dLess : DFn := { g := gLess }
def gNaN : List AV → Option (Prop × AV) | [.v (.int .i64 x)] => some (True, bv false) | _ => none
def dNaN : DFn := { g := gNaN }
attribute [go_sem] gLess dLess gNaN dNaN
theorem nan_ok : Fine Tryz.prog 106 dNaN.con := by
  refine fine_det (T := TT) Tryz.func106 rfl Tryz.ntmps106 (by rw [Tryz.results106]) rfl rfl tt (gs_nil) (ds_nil) ?_
  intro args c r h hc
  simp only [dNaN, gNaN] at h
  split at h
  rotate_left
  · cases h
  obtain ⟨rfl, rfl⟩ := Prod.mk.inj (Option.some.inj h)
  refine ⟨by simp, fun k E hE Q hQ => ?_⟩
  refine Aw_st hE [0] [] fun K hK => ?_
  simp only [go_sem, reduceIte, Nat.reduceLT, Nat.reduceLeDiff, Nat.reduceEqDiff, Nat.reduceAdd, Nat.reduceMul, Nat.reduceSub, Nat.reduceBEq, Int.reduceToNat, List.reduceReplicate, reduceCtorEq]
  repeat (refine And.intro (by first | omega | (and_intros <;> first | omega | exact rows_row _ | decide | (simp; done) | (simp; omega)) | fail) ?_)
  refine hK _ ?_; clear hK K
  refine Aw_st hE [2] [] fun K hK => ?_
  simp only [go_sem, reduceIte, Nat.reduceLT, Nat.reduceLeDiff, Nat.reduceEqDiff, Nat.reduceAdd, Nat.reduceMul, Nat.reduceSub, Nat.reduceBEq, Int.reduceToNat, List.reduceReplicate, reduceCtorEq]
  repeat (refine And.intro (by first | omega | (and_intros <;> first | omega | exact rows_row _ | decide | (simp; done) | (simp; omega)) | fail) ?_)
  refine hK _ (Aw_ret (hQ _ ?_))
  simp only [go_sem, reduceIte, Nat.reduceLT, Nat.reduceLeDiff, Nat.reduceEqDiff, Nat.reduceAdd, Nat.reduceMul, Nat.reduceSub, Nat.reduceBEq, Int.reduceToNat, List.reduceReplicate, reduceCtorEq]
  simp
theorem nan2_ok : Fine Tryz.prog 84 dNaN.con := by
  refine fine_det (T := TT) Tryz.func84 rfl Tryz.ntmps84 (by rw [Tryz.results84]) rfl rfl tt (gs_nil) (ds_nil) ?_
  intro args c r h hc
  simp only [dNaN, gNaN] at h
  split at h
  rotate_left
  · cases h
  obtain ⟨rfl, rfl⟩ := Prod.mk.inj (Option.some.inj h)
  refine ⟨by simp, fun k E hE Q hQ => ?_⟩
  refine Aw_st hE [0] [] fun K hK => ?_
  simp only [go_sem, reduceIte, Nat.reduceLT, Nat.reduceLeDiff, Nat.reduceEqDiff, Nat.reduceAdd, Nat.reduceMul, Nat.reduceSub, Nat.reduceBEq, Int.reduceToNat, List.reduceReplicate, reduceCtorEq]
  repeat (refine And.intro (by first | omega | (and_intros <;> first | omega | exact rows_row _ | decide | (simp; done) | (simp; omega)) | fail) ?_)
  refine hK _ ?_; clear hK K
  refine Aw_st hE [2] [] fun K hK => ?_
  simp only [go_sem, reduceIte, Nat.reduceLT, Nat.reduceLeDiff, Nat.reduceEqDiff, Nat.reduceAdd, Nat.reduceMul, Nat.reduceSub, Nat.reduceBEq, Int.reduceToNat, List.reduceReplicate, reduceCtorEq]
  repeat (refine And.intro (by first | omega | (and_intros <;> first | omega | exact rows_row _ | decide | (simp; done) | (simp; omega)) | fail) ?_)
  refine hK _ (Aw_ret (hQ _ ?_))
  simp only [go_sem, reduceIte, Nat.reduceLT, Nat.reduceLeDiff, Nat.reduceEqDiff, Nat.reduceAdd, Nat.reduceMul, Nat.reduceSub, Nat.reduceBEq, Int.reduceToNat, List.reduceReplicate, reduceCtorEq]
  simp
theorem less_ok : Fine Tryz.prog 83 dLess.con := by
  refine fine_det (T := TT) Tryz.func83 rfl Tryz.ntmps83 (by rw [Tryz.results83]) rfl rfl tt (gs_nil) (ds_cons nan_ok ds_nil) ?_
  intro args c r h hc
  simp only [dLess, gLess] at h
  split at h
  rotate_left
  · cases h
  obtain ⟨rfl, rfl⟩ := Prod.mk.inj (Option.some.inj h)
  refine ⟨by simp, fun k E hE Q hQ => ?_⟩
  refine Aw_st hE [0, 1] [] fun K hK => ?_
  simp only [go_sem, reduceIte, Nat.reduceLT, Nat.reduceLeDiff, Nat.reduceEqDiff, Nat.reduceAdd, Nat.reduceMul, Nat.reduceSub, Nat.reduceBEq, Int.reduceToNat, List.reduceReplicate, reduceCtorEq]
  repeat (refine And.intro (by first | omega | (and_intros <;> first | omega | exact rows_row _ | decide | (simp; done) | (simp; omega)) | fail) ?_)
  refine hK _ ?_; clear hK K
  refine Aw_st hE [4] [] fun K hK => ?_
  simp only [go_sem, reduceIte, Nat.reduceLT, Nat.reduceLeDiff, Nat.reduceEqDiff, Nat.reduceAdd, Nat.reduceMul, Nat.reduceSub, Nat.reduceBEq, Int.reduceToNat, List.reduceReplicate, reduceCtorEq]
  repeat (refine And.intro (by first | omega | (and_intros <;> first | omega | exact rows_row _ | decide | (simp; done) | (simp; omega)) | fail) ?_)
  refine hK _ (Aw_ret (hQ _ ?_))
  simp only [go_sem, reduceIte, Nat.reduceLT, Nat.reduceLeDiff, Nat.reduceEqDiff, Nat.reduceAdd, Nat.reduceMul, Nat.reduceSub, Nat.reduceBEq, Int.reduceToNat, List.reduceReplicate, reduceCtorEq]
theorem bs_ok : FineM Tryz.prog 49 cBs := by
  refine fineM_of [] ms_nil [] mm_nil [] [] ex_nil (T := TT) Tryz.func49 rfl Tryz.ntmps49 (by rw [Tryz.results49]) rfl rfl tt gs_nil (ds_cons less_ok (ds_cons nan2_ok ds_nil)) ?_
  rintro args m1 ⟨l, cap, x, rfl, rfl, hl, hsrt⟩
  refine ⟨by simp, fun E hE Q hQ => ?_⟩
  have hmono : ∀ a b, a < b → b < l.length → l.getD a 0 < l.getD b 0 := fun a b hab hb => by
    have := List.pairwise_iff_getElem.1 hsrt a b (by omega) hb hab
    simpa [List.getD_eq_getElem?_getD, hb, show a < l.length by omega] using this
  have hfin : ∀ (i : Nat) m2, i ≤ l.length → m2 = [(1000, cI l ++ List.replicate (cap - l.length) .junk)] → (∀ k, k < i → l.getD k 0 < x) → (∀ k, i ≤ k → k < l.length → x ≤ l.getD k 0) → ∀ r, r = .tup [iv i, bv (decide (i < l.length) && decide (l.getD i 0 = x))] → cBs.post [.xs 1000 0 l.length cap 1, iv x] [(1000, cI l ++ List.replicate (cap - l.length) .junk)] r m2 := by
    intro i m2 hi hm h1 h2 r hr
    refine ⟨hm, fun l' cap' x' ha hb => ?_⟩
    simp only [List.cons.injEq, AV.xs.injEq, AV.v.injEq, Value.int.injEq, Prod.mk.injEq, and_true, true_and] at ha hb
    obtain ⟨⟨h3, h4⟩, h5⟩ := ha
    have h8 := List.append_inj_left hb (by simp [cI_len, h3])
    obtain rfl := cI_inj h8
    subst h5
    exact ⟨i, hi, hr, h1, h2⟩
  generalize hn : l.length = n at *
  refine Aw_st hE [0, 1] [1000] fun K hK => ?_
  simp only [go_sem, reduceIte, Nat.reduceLT, Nat.reduceLeDiff, Nat.reduceEqDiff, Nat.reduceAdd, Nat.reduceMul, Nat.reduceSub, Nat.reduceBEq, Int.reduceToNat, List.reduceReplicate, reduceCtorEq]
  refine hK _ ?_; clear hK K
  refine Aw_st hE [0, 1, 6] [1000] fun K hK => ?_
  simp only [go_sem, reduceIte, Nat.reduceLT, Nat.reduceLeDiff, Nat.reduceEqDiff, Nat.reduceAdd, Nat.reduceMul, Nat.reduceSub, Nat.reduceBEq, Int.reduceToNat, List.reduceReplicate, reduceCtorEq]
  refine hK _ ?_; clear hK K
  refine Aw_st hE [0, 1, 6, 7, 8] [1000] fun K hK => ?_
  simp only [go_sem, reduceIte, Nat.reduceLT, Nat.reduceLeDiff, Nat.reduceEqDiff, Nat.reduceAdd, Nat.reduceMul, Nat.reduceSub, Nat.reduceBEq, Int.reduceToNat, List.reduceReplicate, reduceCtorEq]
  refine hK _ ?_; clear hK K
  refine Aw_sq fun B1 hB1 hR1 hX1 => ?_
  refine Aw_bk fun B2 hN2 hE2 hR2 hX2 => ?_
  refine Aw_lp (fun i : Nat × Nat => ⟨54, [(0, .xs 1000 0 n cap 1), (1, iv x), (6, iv n), (7, iv i.1), (8, iv i.2)], [(1000, cI l ++ List.replicate (cap - n) .junk)], 0⟩) (fun i => i.1 ≤ i.2 ∧ i.2 ≤ n ∧ (∀ k, k < i.1 → l.getD k 0 < x) ∧ (∀ k, i.2 ≤ k → k < n → x ≤ l.getD k 0)) (fun i => i.2 - i.1) (0, n) (Le.refl _) ⟨by omega, by omega, by omega, by omega⟩ fun i hi B3 hN3 hR3 hX3 => ?_
  obtain ⟨i, j⟩ := i
  obtain ⟨hi1, hi2, hi3, hi4⟩ := hi
  simp only at hi1 hi2 hi3 hi4
  refine Aw_sq fun B4 hB4 hR4 hX4 => ?_
  refine Aw_st hE [0, 1, 6, 7, 8, 15] [1000] fun K hK => ?_
  simp only [go_sem, reduceIte, Nat.reduceLT, Nat.reduceLeDiff, Nat.reduceEqDiff, Nat.reduceAdd, Nat.reduceMul, Nat.reduceSub, Nat.reduceBEq, Int.reduceToNat, List.reduceReplicate, reduceCtorEq]
  refine hK _ (Aw_cond rfl (fun hc5 => ?_) (fun hc5 => ?_))
  · simp only [decide_eq_true_eq] at hc5
    obtain ⟨h, hh⟩ : ∃ h, h = (i + j) / 2 := ⟨_, rfl⟩
    have hij : i < j := by omega
    have hhn : h < n := by omega
    have e : IntKind.i64.wrap ((IntKind.u64.wrap ((i : Int) + (j : Int))).fdiv (2 ^ min 1 64)) = (h : Int) := by
      rw [IntKind.wrap_i64, IntKind.wrap_u64, show min 1 64 = 1 from rfl, Int.fdiv_eq_ediv_of_nonneg _ (by decide)]
      omega
    refine Aw_skip (hB4 _ ?_)
    refine Aw_bk fun B6 hN6 hE6 hR6 hX6 => ?_
    refine Aw_st hE [0, 1, 6, 7, 8, 9] [1000] fun K hK => ?_
    simp only [go_sem, reduceIte, Nat.reduceLT, Nat.reduceLeDiff, Nat.reduceEqDiff, Nat.reduceAdd, Nat.reduceMul, Nat.reduceSub, Nat.reduceBEq, Int.reduceToNat, List.reduceReplicate, reduceCtorEq]
    repeat (refine And.intro (by first | omega | (and_intros <;> first | omega | exact rows_row _ | decide | (simp; done) | (simp; omega)) | fail) ?_)
    rw [e]
    refine hK _ ?_; clear hK K
    refine Aw_st hE [0, 1, 6, 7, 8, 9, 27] [1000] fun K hK => ?_
    simp only [go_sem, reduceIte, Nat.reduceLT, Nat.reduceLeDiff, Nat.reduceEqDiff, Nat.reduceAdd, Nat.reduceMul, Nat.reduceSub, Nat.reduceBEq, Int.reduceToNat, List.reduceReplicate, reduceCtorEq, cI_head l (List.replicate (cap - n) AV.junk) h (by omega)]
    repeat (refine And.intro (by first | omega | (and_intros <;> first | omega | exact rows_row _ | decide | (simp; done) | (simp; omega)) | fail) ?_)
    refine hK _ (Aw_cond rfl (fun hc7 => ?_) (fun hc7 => ?_))
    · simp only [decide_eq_true_eq] at hc7
      refine Aw_tx hE [0, 1, 6, 7, 8] [1000] fun K hK => ?_
      simp only [go_sem, reduceIte, Nat.reduceLT, Nat.reduceLeDiff, Nat.reduceEqDiff, Nat.reduceAdd, Nat.reduceMul, Nat.reduceSub, Nat.reduceBEq, Int.reduceToNat, List.reduceReplicate, reduceCtorEq]
      repeat (refine And.intro (by first | omega | (and_intros <;> first | omega | exact rows_row _ | decide | (simp; done) | (simp; omega)) | fail) ?_)
      refine hK _ (hN6 _ (hN3 (h + 1, j) _ ⟨by simp only; omega, hi2, fun k hk => ?_, hi4⟩ (by simp only; omega) (Le.refl _)))
      by_cases hkh : k = h
      · rw [hkh]; exact hc7
      · have := hmono k h (by simp only at hk; omega) hhn; omega
    · simp only [decide_eq_false_iff_not, Int.not_lt] at hc7
      refine Aw_tx hE [0, 1, 6, 7, 8] [1000] fun K hK => ?_
      simp only [go_sem, reduceIte, Nat.reduceLT, Nat.reduceLeDiff, Nat.reduceEqDiff, Nat.reduceAdd, Nat.reduceMul, Nat.reduceSub, Nat.reduceBEq, Int.reduceToNat, List.reduceReplicate, reduceCtorEq]
      repeat (refine And.intro (by first | omega | (and_intros <;> first | omega | exact rows_row _ | decide | (simp; done) | (simp; omega)) | fail) ?_)
      refine hK _ (hN6 _ (hN3 (i, h) _ ⟨by simp only; omega, by simp only; omega, hi3, fun k hk hkn => ?_⟩ (by simp only; omega) (Le.refl _)))
      by_cases hkh : k = h
      · rw [hkh]; exact hc7
      · have := hmono h k (by simp only at hk; omega) hkn; omega
  · simp only [decide_eq_false_iff_not] at hc5
    obtain rfl : i = j := by omega
    refine Aw_exit (hX4 _ _ (hX3 _ _ (hE2 _ (hB1 _ ?_))))
    rcases Nat.lt_or_ge i n with hin | hin
    · have hd : decide ((i : Int) < (n : Int)) = true := by simp; omega
      refine Aw_st hE [4, 5] [1000] fun K hK => ?_
      simp only [go_sem, reduceIte, Nat.reduceLT, Nat.reduceLeDiff, Nat.reduceEqDiff, Nat.reduceAdd, Nat.reduceMul, Nat.reduceSub, Nat.reduceBEq, Int.reduceToNat, List.reduceReplicate, reduceCtorEq, cI_head l (List.replicate (cap - n) AV.junk) i (by omega), hd]
      refine ⟨⟨by omega, by omega⟩, fun he => ?_, fun he => ⟨⟨by omega, by omega⟩, ?_⟩⟩
      · refine hK _ (Aw_ret (hQ _ ?_))
        simp only [go_sem, reduceIte, Nat.reduceLT, Nat.reduceLeDiff, Nat.reduceEqDiff, Nat.reduceAdd, Nat.reduceMul, Nat.reduceSub, Nat.reduceBEq, Int.reduceToNat, List.reduceReplicate, reduceCtorEq]
        exact hfin i _ hi2 (by simp) hi3 hi4 _ (by rw [he, decide_eq_true hin]; rfl)
      · refine hK _ (Aw_ret (hQ _ ?_))
        simp only [go_sem, reduceIte, Nat.reduceLT, Nat.reduceLeDiff, Nat.reduceEqDiff, Nat.reduceAdd, Nat.reduceMul, Nat.reduceSub, Nat.reduceBEq, Int.reduceToNat, List.reduceReplicate, reduceCtorEq]
        exact hfin i _ hi2 (by simp) hi3 hi4 _ (by rw [he, decide_eq_true hin]; rfl)
    · have hd : decide ((i : Int) < (n : Int)) = false := by simp; omega
      refine Aw_st hE [4, 5] [1000] fun K hK => ?_
      simp only [go_sem, reduceIte, Nat.reduceLT, Nat.reduceLeDiff, Nat.reduceEqDiff, Nat.reduceAdd, Nat.reduceMul, Nat.reduceSub, Nat.reduceBEq, Int.reduceToNat, List.reduceReplicate, reduceCtorEq, hd]
      refine hK _ (Aw_ret (hQ _ ?_))
      simp only [go_sem, reduceIte, Nat.reduceLT, Nat.reduceLeDiff, Nat.reduceEqDiff, Nat.reduceAdd, Nat.reduceMul, Nat.reduceSub, Nat.reduceBEq, Int.reduceToNat, List.reduceReplicate, reduceCtorEq]
      exact hfin i _ hi2 (by simp) hi3 hi4 _ (by rw [decide_eq_false (by omega : ¬ i < n)]; rfl)
def cBsN : ConM := {
  pre := fun args m1 => ∃ x : Int, args = [.nl, iv x] ∧ m1 = []
  post := fun _ _ r m2 => r = .tup [iv 0, bv false] ∧ m2 = [] }
theorem bsN_ok : FineM Tryz.prog 49 cBsN := by
  refine fineM_of [] ms_nil [] mm_nil [] [] ex_nil (T := TT) Tryz.func49 rfl Tryz.ntmps49 (by rw [Tryz.results49]) rfl rfl tt gs_nil (ds_cons less_ok (ds_cons nan2_ok ds_nil)) ?_
  rintro args m1 ⟨x, rfl, rfl⟩
  refine ⟨by simp, fun E hE Q hQ => ?_⟩
  refine Aw_st hE [0, 1] [] fun K hK => ?_
  simp only [go_sem, reduceIte, Nat.reduceLT, Nat.reduceLeDiff, Nat.reduceEqDiff, Nat.reduceAdd, Nat.reduceMul, Nat.reduceSub, Nat.reduceBEq, Int.reduceToNat, List.reduceReplicate, reduceCtorEq]
  refine hK _ ?_; clear hK K
  refine Aw_st hE [0, 1, 6] [] fun K hK => ?_
  simp only [go_sem, reduceIte, Nat.reduceLT, Nat.reduceLeDiff, Nat.reduceEqDiff, Nat.reduceAdd, Nat.reduceMul, Nat.reduceSub, Nat.reduceBEq, Int.reduceToNat, List.reduceReplicate, reduceCtorEq]
  refine hK _ ?_; clear hK K
  refine Aw_st hE [0, 1, 6, 7, 8] [] fun K hK => ?_
  simp only [go_sem, reduceIte, Nat.reduceLT, Nat.reduceLeDiff, Nat.reduceEqDiff, Nat.reduceAdd, Nat.reduceMul, Nat.reduceSub, Nat.reduceBEq, Int.reduceToNat, List.reduceReplicate, reduceCtorEq]
  refine hK _ ?_; clear hK K
  refine Aw_sq fun B1 hB1 hR1 hX1 => ?_
  refine Aw_bk fun B2 hN2 hE2 hR2 hX2 => ?_
  refine Aw_lp (fun i : Nat => ⟨54, [(0, .nl), (1, iv x), (6, iv 0), (7, iv 0), (8, iv 0)], [], 0⟩) (fun i => True) (fun i => 0) 0 (Le.refl _) trivial fun i hi B3 hN3 hR3 hX3 => ?_
  refine Aw_sq fun B4 hB4 hR4 hX4 => ?_
  refine Aw_st hE [0, 1, 6, 7, 8, 15] [] fun K hK => ?_
  simp only [go_sem, reduceIte, Nat.reduceLT, Nat.reduceLeDiff, Nat.reduceEqDiff, Nat.reduceAdd, Nat.reduceMul, Nat.reduceSub, Nat.reduceBEq, Int.reduceToNat, List.reduceReplicate, reduceCtorEq]
  refine hK _ (Aw_no (by simp; rfl) ?_)
  refine Aw_exit (hX4 _ _ (hX3 _ _ (hE2 _ (hB1 _ ?_))))
  refine Aw_st hE [4, 5] [] fun K hK => ?_
  simp only [go_sem, reduceIte, Nat.reduceLT, Nat.reduceLeDiff, Nat.reduceEqDiff, Nat.reduceAdd, Nat.reduceMul, Nat.reduceSub, Nat.reduceBEq, Int.reduceToNat, List.reduceReplicate, reduceCtorEq]
  refine ⟨fun h => by simp at h, fun _ => ?_⟩
  refine hK _ (Aw_ret (hQ _ ?_))
  simp only [go_sem, reduceIte, Nat.reduceLT, Nat.reduceLeDiff, Nat.reduceEqDiff, Nat.reduceAdd, Nat.reduceMul, Nat.reduceSub, Nat.reduceBEq, Int.reduceToNat, List.reduceReplicate, reduceCtorEq]
  exact ⟨rfl, rfl⟩
theorem bsJ_ok : FineM Tryz.prog 49 (cBs.or cBsN) := bs_ok.or bsN_ok (fun _ => trivial) (fun _ => trivial)
end Go.Proofs.W
end
section
namespace Go.Proofs.W
open Go Go.Eng Go.RowKit
set_option linter.unusedSimpArgs false
set_option maxRecDepth 10000

/-! marks, and whole routes -/
def isM (n : Int) : Bool := decide (1 ≤ n) && decide (n ≤ 9)
def gIsM : List AV → Option (Prop × AV) | [.v (.int .i64 n)] => some (True, bv (isM n)) | _ => none
def dIsM : DFn := { g := gIsM }
attribute [go_sem] gIsM dIsM

theorem iIsM_ok : Fine Tryz.prog 48 dIsM.con := by
  refine fine_det (T := TT) Tryz.func48 rfl Tryz.ntmps48 (by rw [Tryz.results48]) rfl rfl tt (gs_nil) (ds_nil) ?_
  intro args c r h hc
  simp only [dIsM, gIsM] at h
  split at h
  rotate_left
  · cases h
  obtain ⟨rfl, rfl⟩ := Prod.mk.inj (Option.some.inj h)
  refine ⟨by simp, fun k E hE Q hQ => ?_⟩
  refine Aw_st hE [0] [] fun K hK => ?_
  simp only [go_sem, reduceIte, Nat.reduceLT, Nat.reduceLeDiff, Nat.reduceEqDiff, Nat.reduceAdd, Nat.reduceMul, Nat.reduceSub, Nat.reduceBEq, Int.reduceToNat, List.reduceReplicate, reduceCtorEq]
  repeat (refine And.intro (by first | omega | (and_intros <;> first | omega | exact rows_row _ | decide | (simp; done) | (simp; omega)) | fail) ?_)
  refine hK _ ?_; clear hK K
  refine Aw_st hE [2] [] fun K hK => ?_
  simp only [go_sem, reduceIte, Nat.reduceLT, Nat.reduceLeDiff, Nat.reduceEqDiff, Nat.reduceAdd, Nat.reduceMul, Nat.reduceSub, Nat.reduceBEq, Int.reduceToNat, List.reduceReplicate, reduceCtorEq]
  repeat (refine And.intro (by first | omega | (and_intros <;> first | omega | exact rows_row _ | decide | (simp; done) | (simp; omega)) | fail) ?_)
  refine ⟨fun h1 => ?_, fun h1 => ?_⟩
  all_goals
    refine hK _ (Aw_ret (hQ _ ?_))
    simp only [go_sem, reduceIte, Nat.reduceLT, Nat.reduceLeDiff, Nat.reduceEqDiff, Nat.reduceAdd, Nat.reduceMul, Nat.reduceSub, Nat.reduceBEq, Int.reduceToNat, List.reduceReplicate, reduceCtorEq, isM, h1, Bool.true_and, Bool.false_and]

def mOkN (l : List Int) : Nat → Bool
  | 0 => true
  | n + 1 => mOkN l n && (isM (l.getD n 0) && (decide (n = 0) || decide (l.getD (n - 1) 0 < l.getD n 0)))
def mOk (l : List Int) : Bool := mOkN l l.length
theorem mOkN_stop {l : List Int} {n : Nat} (h : mOkN l n = false) : ∀ k, n ≤ k → mOkN l k = false
  | 0, hk => by obtain rfl : n = 0 := by omega
                cases h
  | k + 1, hk => by
    by_cases he : n = k + 1
    · subst he; exact h
    · rw [mOkN, mOkN_stop h k (by omega)]; rfl
def gMOk : List AV → Option (Prop × AV) | [.sl _ els] => (match intsL els with | some p => some (p.length ≤ 4294967296, bv (mOk p)) | none => none) | _ => none
def dMOk : DFn := { g := gMOk }
attribute [go_sem] gMOk dMOk

theorem iMOk_ok : Fine Tryz.prog 58 dMOk.con := by
  refine fine_det (T := TT) Tryz.func58 rfl Tryz.ntmps58 (by rw [Tryz.results58]) rfl rfl tt (gs_nil) (ds_cons iIsM_ok ds_nil) ?_
  intro args c r h hc
  simp only [dMOk, gMOk] at h
  split at h
  rotate_left
  · cases h
  split at h
  rotate_left
  · cases h
  rename_i t els _ l hl
  obtain rfl := intsL_eq hl
  obtain ⟨rfl, rfl⟩ := Prod.mk.inj (Option.some.inj h)
  refine ⟨by simp, fun k E hE Q hQ => ?_⟩
  refine Aw_st hE [0] [] fun K hK => ?_
  simp only [go_sem, reduceIte, Nat.reduceLT, Nat.reduceLeDiff, Nat.reduceEqDiff, Nat.reduceAdd, Nat.reduceMul, Nat.reduceSub, Nat.reduceBEq, Int.reduceToNat, List.reduceReplicate, reduceCtorEq]
  repeat (refine And.intro (by first | omega | (and_intros <;> first | omega | exact rows_row _ | decide | (simp; done) | (simp; omega)) | fail) ?_)
  refine hK _ ?_; clear hK K
  refine Aw_sq fun B1 hB1 hR1 hX1 => ?_
  refine Aw_st hE [0, 5, 6, 7] [] fun K hK => ?_
  simp only [go_sem, reduceIte, Nat.reduceLT, Nat.reduceLeDiff, Nat.reduceEqDiff, Nat.reduceAdd, Nat.reduceMul, Nat.reduceSub, Nat.reduceBEq, Int.reduceToNat, List.reduceReplicate, reduceCtorEq]
  repeat (refine And.intro (by first | omega | (and_intros <;> first | omega | exact rows_row _ | decide | (simp; done) | (simp; omega)) | fail) ?_)
  refine hK _ ?_; clear hK K
  refine Aw_bk fun B2 hN2 hE2 hR2 hX2 => ?_
  refine Aw_lp (fun i : Nat => ⟨29, [(0, .sl t (rows l)), (5, .sl t (rows l)), (6, iv l.length), (7, iv i)], [], k⟩) (fun i : Nat => i ≤ l.length ∧ mOkN l i = true) (fun i : Nat => l.length - i) (0) (Le.refl _) (⟨by omega, rfl⟩) fun i hi B3 hN3 hR3 hX3 => ?_
  refine Aw_st hE [0, 5, 6, 7, 8] [] fun K hK => ?_
  simp only [go_sem, reduceIte, Nat.reduceLT, Nat.reduceLeDiff, Nat.reduceEqDiff, Nat.reduceAdd, Nat.reduceMul, Nat.reduceSub, Nat.reduceBEq, Int.reduceToNat, List.reduceReplicate, reduceCtorEq]
  repeat (refine And.intro (by first | omega | (and_intros <;> first | omega | exact rows_row _ | decide | (simp; done) | (simp; omega)) | fail) ?_)
  refine hK _ ?_; clear hK K
  refine Aw_sq fun B4 hB4 hR4 hX4 => ?_
  refine Aw_cond rfl (fun hc5 => ?_) (fun hc5 => ?_)
  · simp only [decide_eq_true_eq] at hc5
    have hil : i < l.length := by omega
    have e1 : ((i : Int) - 1).toNat = i - 1 := by omega
    refine Aw_skip (hB4 _ ?_)
    refine Aw_sq fun B6 hB6 hR6 hX6 => ?_
    refine Aw_bk fun B7 hN7 hE7 hR7 hX7 => ?_
    refine Aw_st hE [0, 3, 4, 5, 6, 7] [] fun K hK => ?_
    simp only [go_sem, reduceIte, Nat.reduceLT, Nat.reduceLeDiff, Nat.reduceEqDiff, Nat.reduceAdd, Nat.reduceMul, Nat.reduceSub, Nat.reduceBEq, Int.reduceToNat, List.reduceReplicate, reduceCtorEq, rows_get l i hil]
    repeat (refine And.intro (by first | omega | (and_intros <;> first | omega | exact rows_row _ | decide | (simp; done) | (simp; omega)) | fail) ?_)
    refine hK _ ?_; clear hK K
    refine Aw_st hE [0, 5, 6, 7, 27] [] fun K hK => ?_
    simp only [go_sem, reduceIte, Nat.reduceLT, Nat.reduceLeDiff, Nat.reduceEqDiff, Nat.reduceAdd, Nat.reduceMul, Nat.reduceSub, Nat.reduceBEq, Int.reduceToNat, List.reduceReplicate, reduceCtorEq, e1, rows_get l (i - 1) (by omega)]
    repeat (refine And.intro (by first | omega | (and_intros <;> first | omega | exact rows_row _ | decide | (simp; done) | (simp; omega)) | fail) ?_)
    refine ⟨fun hg9 => ?_, fun hg9 => ?_⟩
    · repeat (refine And.intro (by first | omega | (and_intros <;> first | omega | exact rows_row _ | decide | (simp; done) | (simp; omega)) | fail) ?_)
      refine hK _ (Aw_yes rfl ?_)
      refine Aw_st hE [2] [] fun K hK => ?_
      simp only [go_sem, reduceIte, Nat.reduceLT, Nat.reduceLeDiff, Nat.reduceEqDiff, Nat.reduceAdd, Nat.reduceMul, Nat.reduceSub, Nat.reduceBEq, Int.reduceToNat, List.reduceReplicate, reduceCtorEq]
      repeat (refine And.intro (by first | omega | (and_intros <;> first | omega | exact rows_row _ | decide | (simp; done) | (simp; omega)) | fail) ?_)
      refine hK _ (Aw_ret (hR7 _ (hR6 _ (hR3 _ (hR2 _ (hR1 _ (hQ _ ?_)))))))
      simp only [go_sem, reduceIte, Nat.reduceLT, Nat.reduceLeDiff, Nat.reduceEqDiff, Nat.reduceAdd, Nat.reduceMul, Nat.reduceSub, Nat.reduceBEq, Int.reduceToNat, List.reduceReplicate, reduceCtorEq]
      have hst : mOkN l (i + 1) = false := by rw [mOkN]; simp at hg9; simp [hg9]
      rw [mOk, mOkN_stop hst _ (by omega)]
    · simp only [Bool.not_eq_false'] at hg9
      repeat (refine And.intro (by first | omega | (and_intros <;> first | omega | exact rows_row _ | decide | (simp; done) | (simp; omega)) | fail) ?_)
      refine ⟨fun hg10 => ?_, fun hg10 => ?_⟩
      · simp only [decide_eq_true_eq] at hg10
        repeat (refine And.intro (by first | omega | (and_intros <;> first | omega | exact rows_row _ | decide | (simp; done) | (simp; omega)) | fail) ?_)
        refine hK _ (Aw_cond rfl (fun hc11 => ?_) (fun hc11 => ?_))
        · simp only [decide_eq_true_eq] at hc11
          refine Aw_st hE [2] [] fun K hK => ?_
          simp only [go_sem, reduceIte, Nat.reduceLT, Nat.reduceLeDiff, Nat.reduceEqDiff, Nat.reduceAdd, Nat.reduceMul, Nat.reduceSub, Nat.reduceBEq, Int.reduceToNat, List.reduceReplicate, reduceCtorEq]
          repeat (refine And.intro (by first | omega | (and_intros <;> first | omega | exact rows_row _ | decide | (simp; done) | (simp; omega)) | fail) ?_)
          refine hK _ (Aw_ret (hR7 _ (hR6 _ (hR3 _ (hR2 _ (hR1 _ (hQ _ ?_)))))))
          simp only [go_sem, reduceIte, Nat.reduceLT, Nat.reduceLeDiff, Nat.reduceEqDiff, Nat.reduceAdd, Nat.reduceMul, Nat.reduceSub, Nat.reduceBEq, Int.reduceToNat, List.reduceReplicate, reduceCtorEq]
          have hst : mOkN l (i + 1) = false := by rw [mOkN, decide_eq_false (show ¬i = 0 by omega), decide_eq_false (show ¬l.getD (i - 1) 0 < l.getD i 0 by omega)]; simp
          rw [mOk, mOkN_stop hst _ (by omega)]
        · simp only [decide_eq_false_iff_not, Int.not_le] at hc11
          refine Aw_skip (hN7 _ (hB6 _ ?_))
          refine Aw_tx hE [0, 5, 6, 7] [] fun K hK => ?_
          simp only [go_sem, reduceIte, Nat.reduceLT, Nat.reduceLeDiff, Nat.reduceEqDiff, Nat.reduceAdd, Nat.reduceMul, Nat.reduceSub, Nat.reduceBEq, Int.reduceToNat, List.reduceReplicate, reduceCtorEq]
          repeat (refine And.intro (by first | omega | (and_intros <;> first | omega | exact rows_row _ | decide | (simp; done) | (simp; omega)) | fail) ?_)
          refine hK _ (hN3 (i + 1) _ (⟨by omega, by rw [mOkN, hi.2, hg9, decide_eq_true hc11]; simp⟩) (by omega) (Le.refl _))
      · simp only [decide_eq_false_iff_not] at hg10
        repeat (refine And.intro (by first | omega | (and_intros <;> first | omega | exact rows_row _ | decide | (simp; done) | (simp; omega)) | fail) ?_)
        refine hK _ (Aw_no rfl ?_)
        refine Aw_skip (hN7 _ (hB6 _ ?_))
        refine Aw_tx hE [0, 5, 6, 7] [] fun K hK => ?_
        simp only [go_sem, reduceIte, Nat.reduceLT, Nat.reduceLeDiff, Nat.reduceEqDiff, Nat.reduceAdd, Nat.reduceMul, Nat.reduceSub, Nat.reduceBEq, Int.reduceToNat, List.reduceReplicate, reduceCtorEq]
        repeat (refine And.intro (by first | omega | (and_intros <;> first | omega | exact rows_row _ | decide | (simp; done) | (simp; omega)) | fail) ?_)
        refine hK _ (hN3 (i + 1) _ (⟨by omega, by rw [mOkN, hi.2, hg9, decide_eq_true (show i = 0 by omega)]; simp⟩) (by omega) (Le.refl _))
  · simp only [decide_eq_false_iff_not] at hc5
    refine Aw_exit (hX4 _ _ (hX3 _ _ (hE2 _ (hB1 _ ?_))))
    refine Aw_st hE [2] [] fun K hK => ?_
    simp only [go_sem, reduceIte, Nat.reduceLT, Nat.reduceLeDiff, Nat.reduceEqDiff, Nat.reduceAdd, Nat.reduceMul, Nat.reduceSub, Nat.reduceBEq, Int.reduceToNat, List.reduceReplicate, reduceCtorEq]
    repeat (refine And.intro (by first | omega | (and_intros <;> first | omega | exact rows_row _ | decide | (simp; done) | (simp; omega)) | fail) ?_)
    refine hK _ (Aw_ret (hQ _ ?_))
    simp only [go_sem, reduceIte, Nat.reduceLT, Nat.reduceLeDiff, Nat.reduceEqDiff, Nat.reduceAdd, Nat.reduceMul, Nat.reduceSub, Nat.reduceBEq, Int.reduceToNat, List.reduceReplicate, reduceCtorEq]
    rw [mOk, show l.length = i by omega, hi.2]

theorem sMOk_ok : Fine Tryz.prog 45 dMOk.con := by
  refine fine_det (T := TT) Tryz.func45 rfl Tryz.ntmps45 (by rw [Tryz.results45]) rfl rfl tt (gs_nil) (ds_cons in_ok ds_nil) ?_
  intro args c r h hc
  simp only [dMOk, gMOk] at h
  split at h
  rotate_left
  · cases h
  split at h
  rotate_left
  · cases h
  rename_i t els _ l hl
  obtain rfl := intsL_eq hl
  obtain ⟨rfl, rfl⟩ := Prod.mk.inj (Option.some.inj h)
  refine ⟨by simp, fun k E hE Q hQ => ?_⟩
  refine Aw_st hE [0] [] fun K hK => ?_
  simp only [go_sem, reduceIte, Nat.reduceLT, Nat.reduceLeDiff, Nat.reduceEqDiff, Nat.reduceAdd, Nat.reduceMul, Nat.reduceSub, Nat.reduceBEq, Int.reduceToNat, List.reduceReplicate, reduceCtorEq]
  repeat (refine And.intro (by first | omega | (and_intros <;> first | omega | exact rows_row _ | decide | (simp; done) | (simp; omega)) | fail) ?_)
  refine hK _ ?_; clear hK K
  refine Aw_sq fun B1 hB1 hR1 hX1 => ?_
  refine Aw_st hE [0, 3] [] fun K hK => ?_
  simp only [go_sem, reduceIte, Nat.reduceLT, Nat.reduceLeDiff, Nat.reduceEqDiff, Nat.reduceAdd, Nat.reduceMul, Nat.reduceSub, Nat.reduceBEq, Int.reduceToNat, List.reduceReplicate, reduceCtorEq]
  repeat (refine And.intro (by first | omega | (and_intros <;> first | omega | exact rows_row _ | decide | (simp; done) | (simp; omega)) | fail) ?_)
  refine hK _ ?_; clear hK K
  refine Aw_bk fun B2 hN2 hE2 hR2 hX2 => ?_
  refine Aw_lp (fun i : Nat => ⟨32, [(0, .sl t (rows l)), (3, iv i)], [], k⟩) (fun i : Nat => i ≤ l.length ∧ mOkN l i = true) (fun i : Nat => l.length - i) (0) (Le.refl _) (⟨by omega, rfl⟩) fun i hi B3 hN3 hR3 hX3 => ?_
  refine Aw_sq fun B4 hB4 hR4 hX4 => ?_
  refine Aw_st hE [0, 3, 7] [] fun K hK => ?_
  simp only [go_sem, reduceIte, Nat.reduceLT, Nat.reduceLeDiff, Nat.reduceEqDiff, Nat.reduceAdd, Nat.reduceMul, Nat.reduceSub, Nat.reduceBEq, Int.reduceToNat, List.reduceReplicate, reduceCtorEq]
  repeat (refine And.intro (by first | omega | (and_intros <;> first | omega | exact rows_row _ | decide | (simp; done) | (simp; omega)) | fail) ?_)
  refine hK _ (Aw_cond rfl (fun hc5 => ?_) (fun hc5 => ?_))
  · simp only [decide_eq_true_eq] at hc5
    have hil : i < l.length := by omega
    have e1 : ((i : Int) - 1).toNat = i - 1 := by omega
    have hisM : ∀ x, (decide (1 ≤ x) && decide (x ≤ 9)) = isM x := fun _ => rfl
    refine Aw_skip (hB4 _ ?_)
    refine Aw_sq fun B6 hB6 hR6 hX6 => ?_
    refine Aw_bk fun B7 hN7 hE7 hR7 hX7 => ?_
    refine Aw_sd hE [0, 3, 31] [] 6 (by kernel_rfl) fun K hK => ?_
    simp only [go_sem, reduceIte, Nat.reduceLT, Nat.reduceLeDiff, Nat.reduceEqDiff, Nat.reduceAdd, Nat.reduceMul, Nat.reduceSub, Nat.reduceBEq, Int.reduceToNat, List.reduceReplicate, reduceCtorEq, e1, rows_get l (i - 1) (by omega), rows_get l i hil]
    repeat (refine And.intro (by first | omega | (and_intros <;> first | omega | exact rows_row _ | decide | (simp; done) | (simp; omega)) | fail) ?_)
    refine ⟨fun hg9 => ?_, fun hg9 => ?_⟩
    · repeat (refine And.intro (by first | omega | (and_intros <;> first | omega | exact rows_row _ | decide | (simp; done) | (simp; omega)) | fail) ?_)
      refine hK _ (Aw_yes rfl ?_)
      refine Aw_st hE [2] [] fun K hK => ?_
      simp only [go_sem, reduceIte, Nat.reduceLT, Nat.reduceLeDiff, Nat.reduceEqDiff, Nat.reduceAdd, Nat.reduceMul, Nat.reduceSub, Nat.reduceBEq, Int.reduceToNat, List.reduceReplicate, reduceCtorEq]
      repeat (refine And.intro (by first | omega | (and_intros <;> first | omega | exact rows_row _ | decide | (simp; done) | (simp; omega)) | fail) ?_)
      refine hK _ (Aw_ret (hR7 _ (hR6 _ (hR3 _ (hR2 _ (hR1 _ (hQ _ ?_)))))))
      simp only [go_sem, reduceIte, Nat.reduceLT, Nat.reduceLeDiff, Nat.reduceEqDiff, Nat.reduceAdd, Nat.reduceMul, Nat.reduceSub, Nat.reduceBEq, Int.reduceToNat, List.reduceReplicate, reduceCtorEq]
      have hst : mOkN l (i + 1) = false := by rw [mOkN]; rw [hisM] at hg9; simp at hg9; simp [hg9]
      rw [mOk, mOkN_stop hst _ (by omega)]
    · simp only [Bool.not_eq_false', hisM] at hg9
      repeat (refine And.intro (by first | omega | (and_intros <;> first | omega | exact rows_row _ | decide | (simp; done) | (simp; omega)) | fail) ?_)
      refine ⟨fun hg10 => ?_, fun hg10 => ?_⟩
      · simp only [decide_eq_true_eq] at hg10
        repeat (refine And.intro (by first | omega | (and_intros <;> first | omega | exact rows_row _ | decide | (simp; done) | (simp; omega)) | fail) ?_)
        refine hK _ (Aw_cond rfl (fun hc11 => ?_) (fun hc11 => ?_))
        · simp only [decide_eq_true_eq] at hc11
          refine Aw_st hE [2] [] fun K hK => ?_
          simp only [go_sem, reduceIte, Nat.reduceLT, Nat.reduceLeDiff, Nat.reduceEqDiff, Nat.reduceAdd, Nat.reduceMul, Nat.reduceSub, Nat.reduceBEq, Int.reduceToNat, List.reduceReplicate, reduceCtorEq]
          repeat (refine And.intro (by first | omega | (and_intros <;> first | omega | exact rows_row _ | decide | (simp; done) | (simp; omega)) | fail) ?_)
          refine hK _ (Aw_ret (hR7 _ (hR6 _ (hR3 _ (hR2 _ (hR1 _ (hQ _ ?_)))))))
          simp only [go_sem, reduceIte, Nat.reduceLT, Nat.reduceLeDiff, Nat.reduceEqDiff, Nat.reduceAdd, Nat.reduceMul, Nat.reduceSub, Nat.reduceBEq, Int.reduceToNat, List.reduceReplicate, reduceCtorEq]
          have hst : mOkN l (i + 1) = false := by rw [mOkN, decide_eq_false (show ¬i = 0 by omega), decide_eq_false (show ¬l.getD (i - 1) 0 < l.getD i 0 by omega)]; simp
          rw [mOk, mOkN_stop hst _ (by omega)]
        · simp only [decide_eq_false_iff_not, Int.not_le] at hc11
          refine Aw_skip (hN7 _ (hB6 _ ?_))
          refine Aw_tx hE [0, 3] [] fun K hK => ?_
          simp only [go_sem, reduceIte, Nat.reduceLT, Nat.reduceLeDiff, Nat.reduceEqDiff, Nat.reduceAdd, Nat.reduceMul, Nat.reduceSub, Nat.reduceBEq, Int.reduceToNat, List.reduceReplicate, reduceCtorEq]
          repeat (refine And.intro (by first | omega | (and_intros <;> first | omega | exact rows_row _ | decide | (simp; done) | (simp; omega)) | fail) ?_)
          refine hK _ (hN3 (i + 1) _ (⟨by omega, by rw [mOkN, hi.2, hg9, decide_eq_true hc11]; simp⟩) (by omega) (Le.refl _))
      · simp only [decide_eq_false_iff_not] at hg10
        repeat (refine And.intro (by first | omega | (and_intros <;> first | omega | exact rows_row _ | decide | (simp; done) | (simp; omega)) | fail) ?_)
        refine hK _ (Aw_no rfl ?_)
        refine Aw_skip (hN7 _ (hB6 _ ?_))
        refine Aw_tx hE [0, 3] [] fun K hK => ?_
        simp only [go_sem, reduceIte, Nat.reduceLT, Nat.reduceLeDiff, Nat.reduceEqDiff, Nat.reduceAdd, Nat.reduceMul, Nat.reduceSub, Nat.reduceBEq, Int.reduceToNat, List.reduceReplicate, reduceCtorEq]
        repeat (refine And.intro (by first | omega | (and_intros <;> first | omega | exact rows_row _ | decide | (simp; done) | (simp; omega)) | fail) ?_)
        refine hK _ (hN3 (i + 1) _ (⟨by omega, by rw [mOkN, hi.2, hg9, decide_eq_true (show i = 0 by omega)]; simp⟩) (by omega) (Le.refl _))
  · simp only [decide_eq_false_iff_not] at hc5
    refine Aw_exit (hX4 _ _ (hX3 _ _ (hE2 _ (hB1 _ ?_))))
    refine Aw_st hE [2] [] fun K hK => ?_
    simp only [go_sem, reduceIte, Nat.reduceLT, Nat.reduceLeDiff, Nat.reduceEqDiff, Nat.reduceAdd, Nat.reduceMul, Nat.reduceSub, Nat.reduceBEq, Int.reduceToNat, List.reduceReplicate, reduceCtorEq]
    repeat (refine And.intro (by first | omega | (and_intros <;> first | omega | exact rows_row _ | decide | (simp; done) | (simp; omega)) | fail) ?_)
    refine hK _ (Aw_ret (hQ _ ?_))
    simp only [go_sem, reduceIte, Nat.reduceLT, Nat.reduceLeDiff, Nat.reduceEqDiff, Nat.reduceAdd, Nat.reduceMul, Nat.reduceSub, Nat.reduceBEq, Int.reduceToNat, List.reduceReplicate, reduceCtorEq]
    rw [mOk, show l.length = i by omega, hi.2]

def rtOk (f b : Int) (p : List Int) (k : Int) (m : List Int) : Bool := rngOk f b && (decide (0 < p.length) && (pathOk p && (decide (0 ≤ k) && (decide (k ≤ 9) && mOk m))))
def gRtOk : List AV → Option (Prop × AV)
  | [.agg [.v (.int .i64 f), .v (.int .i64 b), .sl _ e1, .v (.int .i64 k), .sl _ e2]] => (match intsL e1, intsL e2 with | some p, some m => some (p.length ≤ 4294967296 ∧ m.length ≤ 4294967296, bv (rtOk f b p k m)) | _, _ => none)
  | _ => none
def dRtOk : DFn := { g := gRtOk }
def dRtOkI (pb : Addr) : DFn := { g := gRtOk, inv := WP pb }
attribute [go_sem] gRtOk dRtOk dRtOkI

theorem iRtOk_ok (pb : Addr) : Fine Tryz.prog 23 (dRtOkI pb).con := by
  refine fine_det (T := TT) Tryz.func23 rfl Tryz.ntmps23 (by rw [Tryz.results23]) rfl rfl tt gs_nil (ds_cons rangeOk_ok (ds_cons (iPathOk_ok pb) (ds_cons iMOk_ok ds_nil) (wp_inh pb))) ?_
  intro args c r h hc
  simp only [dRtOkI, gRtOk] at h
  split at h
  rotate_left
  · cases h
  split at h
  rotate_left
  · cases h
  rename_i f b t1 e1 lk t2 e2 _ _ p m hl1 hl2
  obtain rfl := intsL_eq hl1
  obtain rfl := intsL_eq hl2
  obtain ⟨rfl, rfl⟩ := Prod.mk.inj (Option.some.inj h)
  refine ⟨by simp, fun k E hE Q hQ => ?_⟩
  refine Aw_st hE [1] [1] fun K hK => ?_
  simp only [go_sem, reduceIte, Nat.reduceLT, Nat.reduceLeDiff, Nat.reduceEqDiff, Nat.reduceAdd, Nat.reduceMul, Nat.reduceSub, Nat.reduceBEq, Int.reduceToNat, List.reduceReplicate, reduceCtorEq]
  refine hK _ ?_; clear hK K
  refine Aw_st hE [2] [] fun K hK => ?_
  simp only [go_sem, reduceIte, Nat.reduceLT, Nat.reduceLeDiff, Nat.reduceEqDiff, Nat.reduceAdd, Nat.reduceMul, Nat.reduceSub, Nat.reduceBEq, Int.reduceToNat, List.reduceReplicate, reduceCtorEq]
  have H : ∀ v, v = rtOk f b p lk m → K { nt := 32, σ := [(2, bv v)], m := [], rn := k } := fun v hv => by
    subst hv
    refine hK _ (Aw_ret (hQ _ ?_))
    simp only [go_sem, reduceIte, Nat.reduceLT, Nat.reduceLeDiff, Nat.reduceEqDiff, Nat.reduceAdd, Nat.reduceMul, Nat.reduceSub, Nat.reduceBEq, Int.reduceToNat, List.reduceReplicate, reduceCtorEq]
  clear hK
  repeat' (first | exact hc.1 | exact hc.2 | refine ⟨?_, ?_⟩ | intro _)
  all_goals (apply H; simp_all [rtOk])
  all_goals (intros; omega)

theorem sRtOk_ok : Fine Tryz.prog 17 dRtOk.con := by
  refine fine_det (T := TT) Tryz.func17 rfl Tryz.ntmps17 (by rw [Tryz.results17]) rfl rfl tt gs_nil (ds_cons sRangeOk_ok (ds_cons sPathOk_ok (ds_cons in_ok (ds_cons sMOk_ok ds_nil)))) ?_
  intro args c r h hc
  simp only [dRtOk, gRtOk] at h
  split at h
  rotate_left
  · cases h
  split at h
  rotate_left
  · cases h
  rename_i f b t1 e1 lk t2 e2 _ _ p m hl1 hl2
  obtain rfl := intsL_eq hl1
  obtain rfl := intsL_eq hl2
  obtain ⟨rfl, rfl⟩ := Prod.mk.inj (Option.some.inj h)
  refine ⟨by simp, fun k E hE Q hQ => ?_⟩
  refine Aw_st hE [1] [1] fun K hK => ?_
  simp only [go_sem, reduceIte, Nat.reduceLT, Nat.reduceLeDiff, Nat.reduceEqDiff, Nat.reduceAdd, Nat.reduceMul, Nat.reduceSub, Nat.reduceBEq, Int.reduceToNat, List.reduceReplicate, reduceCtorEq]
  refine hK _ ?_; clear hK K
  refine Aw_st hE [2] [] fun K hK => ?_
  simp only [go_sem, reduceIte, Nat.reduceLT, Nat.reduceLeDiff, Nat.reduceEqDiff, Nat.reduceAdd, Nat.reduceMul, Nat.reduceSub, Nat.reduceBEq, Int.reduceToNat, List.reduceReplicate, reduceCtorEq]
  have H : ∀ v, v = rtOk f b p lk m → K { nt := 27, σ := [(2, bv v)], m := [], rn := k } := fun v hv => by
    subst hv
    refine hK _ (Aw_ret (hQ _ ?_))
    simp only [go_sem, reduceIte, Nat.reduceLT, Nat.reduceLeDiff, Nat.reduceEqDiff, Nat.reduceAdd, Nat.reduceMul, Nat.reduceSub, Nat.reduceBEq, Int.reduceToNat, List.reduceReplicate, reduceCtorEq]
  clear hK
  repeat' (first | exact hc.1 | exact hc.2 | refine ⟨?_, ?_⟩ | intro _)
  all_goals (apply H; simp_all [rtOk])
  all_goals (intros; omega)
end Go.Proofs.W
end
section
namespace Go.Proofs.W
open Go Go.Eng Go.RowKit
set_option linter.unusedSimpArgs false
set_option maxRecDepth 10000

theorem isl_inj {a b : List Int} (h : [isl a] = [isl b]) : a = b := by
  have e2 := AV.sl.inj (List.cons.inj h).1
  have e3 : intsL (rows a) = intsL (rows b) := by rw [e2.2]
  rw [intsL_rows, intsL_rows] at e3
  exact Option.some.inj e3

/-- slices.Clone: nil, or a box -/
def cClone : ConM := {
  pre := fun args m1 => ∃ l : List Int, args = [isl l] ∧ m1 = [] ∧ l.length ≤ 1000000
  post := fun args _ r m2 => ∀ l : List Int, args = [isl l] → (l = [] ∧ ((r = .nl ∧ m2 = []) ∨ (r = .xs 5 0 0 0 1 ∧ m2 = [(5, [])]))) ∨ (l ≠ [] ∧ ∃ cap, l.length ≤ cap ∧ r = .xs 7 0 l.length cap 1 ∧ m2 = [(5, []), (7, cI l ++ List.replicate (cap - l.length) .junk)]) }

theorem clone_ok : FineM Tryz.prog 78 cClone := by
  refine fineM_of [] ms_nil [] mm_nil [5] [] ex_nil (T := TT) Tryz.func78 rfl Tryz.ntmps78 (by rw [Tryz.results78]) rfl rfl tt gs_nil ds_nil ?_
  rintro args m1 ⟨l, rfl, rfl, hl⟩
  refine ⟨by simp, fun E hE Q hQ => ?_⟩
  refine Aw_st hE [0] [5, 7] fun K hK => ?_
  simp only [go_sem, reduceIte, Nat.reduceLT, Nat.reduceLeDiff, Nat.reduceEqDiff, Nat.reduceAdd, Nat.reduceMul, Nat.reduceSub, Nat.reduceBEq, Int.reduceToNat, List.reduceReplicate, reduceCtorEq]
  repeat (refine And.intro (by first | omega | (and_intros <;> first | omega | exact rows_row _ | decide | (simp; done) | (simp; omega)) | fail) ?_)
  refine hK _ ?_; clear hK K
  refine Aw_sq fun B1 hB1 hR1 hX1 => ?_
  refine Aw_st hE [0, 4] [5, 7] fun K hK => ?_
  simp only [go_sem, reduceIte, Nat.reduceLT, Nat.reduceLeDiff, Nat.reduceEqDiff, Nat.reduceAdd, Nat.reduceMul, Nat.reduceSub, Nat.reduceBEq, Int.reduceToNat, List.reduceReplicate, reduceCtorEq]
  repeat (refine And.intro (by first | omega | (and_intros <;> first | omega | exact rows_row _ | decide | (simp; done) | (simp; omega)) | fail) ?_)
  rintro b _ hb rfl
  refine hK _ (Aw_cond rfl (fun hc2 => ?_) (fun hc2 => ?_))
  · refine Aw_st hE [2] [5, 7] fun K hK => ?_
    simp only [go_sem, reduceIte, Nat.reduceLT, Nat.reduceLeDiff, Nat.reduceEqDiff, Nat.reduceAdd, Nat.reduceMul, Nat.reduceSub, Nat.reduceBEq, Int.reduceToNat, List.reduceReplicate, reduceCtorEq]
    repeat (refine And.intro (by first | omega | (and_intros <;> first | omega | exact rows_row _ | decide | (simp; done) | (simp; omega)) | fail) ?_)
    refine hK _ (Aw_ret (hR1 _ (hQ _ ?_)))
    simp only [go_sem, reduceIte, Nat.reduceLT, Nat.reduceLeDiff, Nat.reduceEqDiff, Nat.reduceAdd, Nat.reduceMul, Nat.reduceSub, Nat.reduceBEq, Int.reduceToNat, List.reduceReplicate, reduceCtorEq]
    intro l' h
    obtain rfl := isl_inj h
    have : l = [] := by
      cases l with
      | nil => rfl
      | cons x l => have := hb (by simp [rows]); rw [this] at hc2; cases hc2
    exact .inl ⟨this, .inl ⟨rfl, rfl⟩⟩
  · refine Aw_skip (hB1 _ ?_)
    refine Aw_st hE [2] [5, 7] fun K hK => ?_
    simp only [go_sem, reduceIte, Nat.reduceLT, Nat.reduceLeDiff, Nat.reduceEqDiff, Nat.reduceAdd, Nat.reduceMul, Nat.reduceSub, Nat.reduceBEq, Int.reduceToNat, List.reduceReplicate, reduceCtorEq, List.contains_cons, Bool.true_or]
    repeat (refine And.intro (by first | omega | (and_intros <;> first | omega | exact rows_row _ | decide | (simp; done) | (simp; omega)) | fail) ?_)
    rw [List.take_of_length_le (by rw [cI_len]; exact Nat.le_refl _)]
    refine ⟨⟨rows_row l, by omega, allLeaf_cI l⟩, fun h => ?_, fun h cap' hc => ?_⟩
    · have hl0 : l = [] := List.eq_nil_of_length_eq_zero (by omega)
      subst hl0
      refine hK _ (Aw_ret (hQ _ ?_))
      simp only [go_sem, reduceIte, Nat.reduceLT, Nat.reduceLeDiff, Nat.reduceEqDiff, Nat.reduceAdd, Nat.reduceMul, Nat.reduceSub, Nat.reduceBEq, Int.reduceToNat, List.reduceReplicate, reduceCtorEq]
      intro l' h
      obtain rfl := isl_inj h
      exact .inl ⟨rfl, .inr ⟨rfl, rfl⟩⟩
    refine hK _ (Aw_ret (hQ _ ?_))
    simp only [go_sem, reduceIte, Nat.reduceLT, Nat.reduceLeDiff, Nat.reduceEqDiff, Nat.reduceAdd, Nat.reduceMul, Nat.reduceSub, Nat.reduceBEq, Int.reduceToNat, List.reduceReplicate, reduceCtorEq]
    intro l' h'
    obtain rfl := isl_inj h'
    refine .inr ⟨fun e => by rw [e] at h; simp at h, cap', hc, rfl, ?_⟩
    simp

theorem clone_pre (l : List Int) : cClone.pre [isl l] [] = (l.length ≤ 1000000) := by
  apply propext
  constructor
  · rintro ⟨l', h, _, h2⟩; rwa [isl_inj h]
  · exact fun h => ⟨l, rfl, rfl, h⟩
theorem clone_post (l : List Int) (m1 : List (Nat × List AV)) (K : AV → List (Nat × List AV) → Prop) : (∀ r m2, cClone.post [isl l] m1 r m2 → K r m2) = ((l = [] → K .nl [] ∧ K (.xs 5 0 0 0 1) [(5, [])]) ∧ (l ≠ [] → ∀ cap, l.length ≤ cap → K (.xs 7 0 l.length cap 1) [(5, []), (7, cI l ++ List.replicate (cap - l.length) .junk)])) := by
  apply propext
  constructor
  · intro h
    exact ⟨fun e => ⟨h _ _ fun l' h' => by obtain rfl := isl_inj h'; exact .inl ⟨e, .inl ⟨rfl, rfl⟩⟩, h _ _ fun l' h' => by obtain rfl := isl_inj h'; exact .inl ⟨e, .inr ⟨rfl, rfl⟩⟩⟩, fun e cap hc => h _ _ fun l' h' => by obtain rfl := isl_inj h'; exact .inr ⟨e, cap, hc, rfl, rfl⟩⟩
  · intro h r m2 hp
    rcases hp l rfl with ⟨e, ⟨rfl, rfl⟩ | ⟨rfl, rfl⟩⟩ | ⟨e, cap, hc, rfl, rfl⟩
    · exact (h.1 e).1
    · exact (h.1 e).2
    · exact h.2 e cap hc
theorem clone_ex (l : List Int) (m1 : List (Nat × List AV)) : (∃ r m2, cClone.post [isl l] m1 r m2) = True := by
  refine eq_true ?_
  by_cases e : l = []
  · exact ⟨.nl, [], fun l' h' => by obtain rfl := isl_inj h'; exact .inl ⟨e, .inl ⟨rfl, rfl⟩⟩⟩
  · exact ⟨_, _, fun l' h' => by obtain rfl := isl_inj h'; exact .inr ⟨e, l.length, Nat.le_refl _, rfl, rfl⟩⟩
attribute [go_sem] clone_pre clone_post clone_ex

abbrev jk (n : Nat) : List AV := List.replicate n .junk
/-- what a copied route is: K holds of all that may come -/
def copyCs (f b : Int) (p : List Int) (k : Int) (m : List Int) (K : AV → List (Nat × List AV) → Prop) : Prop :=
  ∀ cap, p.length ≤ cap → (m = [] → K (.agg [iv f, iv b, .xs 405 0 p.length cap 1, iv k, .nl]) [(2, [iv f, iv b, .xs 405 0 p.length cap 1, iv k, .nl]), (205, []), (405, cI p ++ jk (cap - p.length))] ∧
      K (.agg [iv f, iv b, .xs 405 0 p.length cap 1, iv k, .xs 208 0 0 0 1]) [(2, [iv f, iv b, .xs 405 0 p.length cap 1, iv k, .xs 208 0 0 0 1]), (205, []), (405, cI p ++ jk (cap - p.length)), (208, [])]) ∧
    (m ≠ [] → ∀ cap2, m.length ≤ cap2 → K (.agg [iv f, iv b, .xs 405 0 p.length cap 1, iv k, .xs 408 0 m.length cap2 1]) [(2, [iv f, iv b, .xs 405 0 p.length cap 1, iv k, .xs 408 0 m.length cap2 1]), (205, []), (405, cI p ++ jk (cap - p.length)), (208, []), (408, cI m ++ jk (cap2 - m.length))])
theorem rav_inj {f b k f' b' k' : Int} {p m p' m' : List Int} (h : [AV.agg [iv f, iv b, isl p, iv k, isl m]] = [AV.agg [iv f', iv b', isl p', iv k', isl m']]) : f = f' ∧ b = b' ∧ p = p' ∧ k = k' ∧ m = m' := by
  simp only [List.cons.injEq, AV.agg.injEq, AV.v.injEq, Value.int.injEq, true_and, and_true] at h
  exact ⟨h.1, h.2.1, isl_inj (by rw [h.2.2.1]), h.2.2.2.1, isl_inj (by rw [h.2.2.2.2])⟩
/-- a route that is copied -/
def cCopyR : ConM := {
  pre := fun args m1 => ∃ (f b : Int) (p : List Int) (k : Int) (m : List Int), args = [.agg [iv f, iv b, isl p, iv k, isl m]] ∧ m1 = [] ∧ p.length ≤ 1000000 ∧ m.length ≤ 1000000 ∧ p ≠ []
  post := fun args _ r m2 => ∀ (f b : Int) (p : List Int) (k : Int) (m : List Int), args = [.agg [iv f, iv b, isl p, iv k, isl m]] → ∀ K : AV → List (Nat × List AV) → Prop, copyCs f b p k m K → K r m2 }

theorem copyR_ok : FineM Tryz.prog 40 cCopyR := by
  refine fineM_of [] ms_nil [(78, (cClone, [], [(5, 200), (7, 400)]))] (mm_cons clone_ok (by decide) mm_nil) [] [] ex_nil (T := TT) Tryz.func40 rfl Tryz.ntmps40 (by rw [Tryz.results40]) rfl rfl tt gs_nil ds_nil ?_
  rintro args m1 ⟨f, b, p, k, m, rfl, rfl, hp, hm, hp0⟩
  refine ⟨by simp, fun E hE Q hQ => ?_⟩
  refine Aw_st hE [1, 2] [1, 2, 205, 208, 405, 408] fun K hK => ?_
  simp only [go_sem, reduceIte, Nat.reduceLT, Nat.reduceLeDiff, Nat.reduceEqDiff, Nat.reduceAdd, Nat.reduceMul, Nat.reduceSub, Nat.reduceBEq, Int.reduceToNat, List.reduceReplicate, reduceCtorEq]
  repeat (refine And.intro (by first | omega | (and_intros <;> first | omega | exact rows_row _ | decide | (simp; done) | (simp; omega)) | fail) ?_)
  refine hK _ ?_; clear hK K
  refine Aw_sm hE [1, 2] [1, 2, 205, 208, 405, 408] 6 (by kernel_rfl) fun K hK => ?_
  simp only [go_sem, reduceIte, Nat.reduceLT, Nat.reduceLeDiff, Nat.reduceEqDiff, Nat.reduceAdd, Nat.reduceMul, Nat.reduceSub, Nat.reduceBEq, Int.reduceToNat, List.reduceReplicate, reduceCtorEq]
  repeat (refine And.intro (by first | omega | (and_intros <;> first | omega | exact rows_row _ | decide | (simp; done) | (simp; omega)) | fail) ?_)
  refine ⟨fun e => absurd e hp0, fun _ cap hcap => ⟨⟨by decide, by omega⟩, fun hm0 => ⟨?_, ?_⟩, fun hm0 cap2 hcap2 => ?_⟩⟩
  all_goals
    refine hK _ ?_; clear hK K
    refine Aw_st hE [2] [2, 205, 405, 208, 408] fun K hK => ?_
    simp only [go_sem, reduceIte, Nat.reduceLT, Nat.reduceLeDiff, Nat.reduceEqDiff, Nat.reduceAdd, Nat.reduceMul, Nat.reduceSub, Nat.reduceBEq, Int.reduceToNat, List.reduceReplicate, reduceCtorEq]
    repeat (refine And.intro (by first | omega | (and_intros <;> first | omega | exact rows_row _ | decide | (simp; done) | (simp; omega)) | fail) ?_)
    refine hK _ (Aw_ret (hQ _ ?_))
    simp only [go_sem, reduceIte, Nat.reduceLT, Nat.reduceLeDiff, Nat.reduceEqDiff, Nat.reduceAdd, Nat.reduceMul, Nat.reduceSub, Nat.reduceBEq, Int.reduceToNat, List.reduceReplicate, reduceCtorEq]
    all_goals
      intro f' b' p' k' m' he K' hK'
      obtain ⟨rfl, rfl, rfl, rfl, rfl⟩ := rav_inj he
      have h := hK' cap hcap
      first | exact (h.1 hm0).1 | exact (h.1 hm0).2 | exact h.2 hm0 cap2 hcap2
theorem copyR_pre (f b : Int) (p : List Int) (k : Int) (m : List Int) : cCopyR.pre [.agg [iv f, iv b, isl p, iv k, isl m]] [] = (p.length ≤ 1000000 ∧ m.length ≤ 1000000 ∧ p ≠ []) := by
  apply propext
  constructor
  · rintro ⟨f', b', p', k', m', h, _, h2⟩
    obtain ⟨rfl, rfl, rfl, rfl, rfl⟩ := rav_inj h
    exact h2
  · exact fun h => ⟨f, b, p, k, m, rfl, rfl, h⟩
theorem copyR_post (f b : Int) (p : List Int) (k : Int) (m : List Int) (m1 : List (Nat × List AV)) (K : AV → List (Nat × List AV) → Prop) : (∀ r m2, cCopyR.post [.agg [iv f, iv b, isl p, iv k, isl m]] m1 r m2 → K r m2) = copyCs f b p k m K := by
  apply propext
  constructor
  · intro h cap hcap
    refine ⟨fun hm0 => ⟨h _ _ ?_, h _ _ ?_⟩, fun hm0 cap2 hcap2 => h _ _ ?_⟩
    all_goals
      intro f' b' p' k' m' he K' hK'
      obtain ⟨rfl, rfl, rfl, rfl, rfl⟩ := rav_inj he
      have h := hK' cap hcap
      first | exact (h.1 hm0).1 | exact (h.1 hm0).2 | exact h.2 hm0 cap2 hcap2
  · exact fun h r m2 hp => hp f b p k m rfl K h
attribute [go_sem] copyR_pre copyR_post copyCs
end Go.Proofs.W
end
section
namespace Go.Proofs.W
open Go Go.Eng Go.RowKit
set_option linter.unusedSimpArgs false
set_option maxRecDepth 10000

/-- what spec's loop makes of marks -/
def mkGo (x : Int) : List Int → List Int × Bool → List Int × Bool
  | [], s => s
  | y :: l, (out, inn) => mkGo x l ((out ++ (if !inn && decide (x ≤ y) then [x] else [])) ++ (if decide (y = x) then [] else [y]), inn || decide (x ≤ y))
def mkL (l : List Int) (x : Int) : List Int := let s := mkGo x l ([], false); if s.2 then s.1 else s.1 ++ [x]
def gMark : List AV → Option (Prop × AV)
  | [.agg [.v (.int .i64 f), .v (.int .i64 b), .sl _ e1, .v (.int .i64 k), .sl _ e2], .v (.int .i64 x)] => (match intsL e1, intsL e2 with
    | some p, some m => some (p.length ≤ 1000000 ∧ m.length ≤ 1000000, .tup [if rtOk f b p k m && isM x then .agg [iv f, iv b, isl p, iv k, isl (mkL m x)] else .agg [iv 0, iv 0, isl [], iv 0, isl []], bv (rtOk f b p k m && isM x)])
    | _, _ => none)
  | _ => none
def dMark : DFn := { g := gMark }
def dMarkI (pb : Addr) : DFn := { g := gMark, inv := WP pb }

theorem Aw_fI {E : En} {tb : Tb} (hE : TbOk E tb) (ht : tb.lent = false) {c : Code} {st : St} {Q : Exit → St → Prop} (d : Nat) (L : List Int) {rest : List AV} (hl : lkm d st.m = some (cI L ++ rest)) (h : Aw E c (st.frz d (L.map fun n => .v (.int .i64 n))) Q) : Aw E c st Q :=
  Aw_frz hE ht d L.length hl (by rw [List.take_left' (cI_len L)]; exact ofAll_cI L) h
attribute [go_sem] gMark dMark dMarkI
theorem mOkN_lt {l : List Int} : ∀ {n : Nat}, mOkN l n = true → ∀ a b, a < b → b < n → l.getD a 0 < l.getD b 0
  | n + 1, h, a, b, hab, hb => by
    simp only [mOkN, Bool.and_eq_true, Bool.or_eq_true, decide_eq_true_eq] at h
    obtain ⟨h1, _, h2⟩ := h
    by_cases hbn : b = n
    · subst hbn
      have h3 : l.getD (b - 1) 0 < l.getD b 0 := h2.resolve_left (by omega)
      by_cases ha : a = b - 1
      · rw [ha]; exact h3
      · have := mOkN_lt h1 a (b - 1) (by omega) (by omega); omega
    · exact mOkN_lt h1 a b hab (by omega)
theorem mOk_srt {l : List Int} (h : mOk l = true) : l.Pairwise (· < ·) := by
  rw [List.pairwise_iff_getElem]
  intro i j hi hj hij
  have := mOkN_lt h i j hij hj
  simpa [List.getD_eq_getElem?_getD, hi, hj] using this
theorem mkGo_lt (x : Int) (b : List Int) : ∀ (a : List Int) (out : List Int), (∀ y ∈ a, y < x) → mkGo x (a ++ b) (out, false) = mkGo x b (out ++ a, false)
  | [], out, _ => by simp
  | y :: a, out, h => by
    have hy := h y (by simp)
    rw [List.cons_append, mkGo]
    simp only [Bool.not_false, Bool.true_and, Bool.false_or, decide_eq_false (by omega : ¬ x ≤ y), decide_eq_false (by omega : ¬ y = x)]
    simp only [Bool.false_eq_true, if_false, List.append_nil]
    rw [mkGo_lt x b a (out ++ [y]) fun z hz => h z (by simp [hz])]
    simp
theorem mkGo_in (x : Int) : ∀ (b out : List Int), mkGo x b (out, true) = (out ++ b.filter (fun y => !decide (y = x)), true)
  | [], out => by simp [mkGo]
  | y :: b, out => by
    rw [mkGo]
    simp only [Bool.not_true, Bool.false_and, Bool.false_eq_true, if_false, List.append_nil, Bool.true_or]
    rw [mkGo_in x b]
    by_cases h : y = x <;> simp [h]
theorem mkL_eq (x : Int) (a b : List Int) (ha : ∀ y ∈ a, y < x) (hb : ∀ y ∈ b, x ≤ y) : mkL (a ++ b) x = a ++ x :: b.filter (fun y => !decide (y = x)) := by
  unfold mkL
  rw [mkGo_lt x b a [] ha]
  cases b with
  | nil => simp [mkGo]
  | cons y b =>
    have hy := hb y (by simp)
    simp only [mkGo, Bool.not_false, Bool.true_and, Bool.false_or, decide_eq_true hy, if_true, mkGo_in]
    by_cases h : y = x <;> simp [h]
theorem mkL_of {m : List Int} {x : Int} {i : Nat} (hs : m.Pairwise (· < ·)) (hi : i ≤ m.length) (h1 : ∀ k, k < i → m.getD k 0 < x) (h2 : ∀ k, i ≤ k → k < m.length → x ≤ m.getD k 0) :
    ((i < m.length ∧ m.getD i 0 = x) → mkL m x = m) ∧ (¬(i < m.length ∧ m.getD i 0 = x) → mkL m x = insL m i x) := by
  have hm : m = m.take i ++ m.drop i := (List.take_append_drop i m).symm
  have ha : ∀ y ∈ m.take i, y < x := fun y hy => by
    obtain ⟨k, hk, rfl⟩ := List.mem_iff_getElem.1 hy
    simp only [List.length_take] at hk
    have := h1 k (by omega)
    simpa [List.getD_eq_getElem?_getD, show k < m.length by omega] using this
  have hb : ∀ y ∈ m.drop i, x ≤ y := fun y hy => by
    obtain ⟨k, hk, rfl⟩ := List.mem_iff_getElem.1 hy
    simp only [List.length_drop] at hk
    have := h2 (i + k) (by omega) (by omega)
    simpa [List.getD_eq_getElem?_getD, show i + k < m.length by omega] using this
  have e := mkL_eq x _ _ ha hb
  rw [← hm] at e
  refine ⟨fun ⟨h3, h4⟩ => ?_, fun h => ?_⟩
  · have hd : m.drop i = x :: m.drop (i + 1) := by
      rw [List.drop_eq_getElem_cons h3]
      have : m[i] = x := by simpa [List.getD_eq_getElem?_getD, h3] using h4
      rw [this]
    have hgt : ∀ y ∈ m.drop (i + 1), y ≠ x := fun y hy => by
      have hp : (x :: m.drop (i + 1)).Pairwise (· < ·) := by rw [← hd]; exact hs.sublist (List.drop_sublist i m)
      have := (List.pairwise_cons.1 hp).1 y hy
      omega
    rw [e, hd, List.filter_cons]
    have hf : (m.drop (i + 1)).filter (fun y => !decide (y = x)) = m.drop (i + 1) := List.filter_eq_self.2 fun y hy => by simp [hgt y hy]
    simp only [decide_true, Bool.not_true, Bool.false_eq_true, if_false, hf]
    rw [← hd, List.take_append_drop]
  · have hf : (m.drop i).filter (fun y => !decide (y = x)) = m.drop i := List.filter_eq_self.2 fun y hy => by
      obtain ⟨k, hk, rfl⟩ := List.mem_iff_getElem.1 hy
      simp only [List.length_drop] at hk
      have h5 := h2 (i + k) (by omega) (by omega)
      by_cases hk0 : k = 0
      · subst hk0
        have : ¬ m.getD i 0 = x := fun h6 => h ⟨by omega, h6⟩
        simp only [List.getElem_drop, Nat.add_zero] at *
        simpa [List.getD_eq_getElem?_getD, show i < m.length by omega] using this
      · have := List.pairwise_iff_getElem.1 hs i (i + k) (by omega) (by omega) (by omega)
        have h6 := h2 i (Nat.le_refl _) (by omega)
        simp only [List.getD_eq_getElem?_getD, show i < m.length by omega, getElem?_pos, Option.getD_some] at h6
        simp only [List.getElem_drop, Bool.not_eq_true', decide_eq_false_iff_not]
        omega
    rw [e, hf]; rfl

theorem iMark_ok (pb : Addr) : Fine Tryz.prog 19 (dMarkI pb).con := by
  refine fine_detX [] gl_nil [] ms_nil [(40, (cCopyR, [], [(405, 400), (208, 500), (408, 600)])), (50, (cIns.or cInsN, [], [(25, 700), (40, 750)])), (49, (cBs.or cBsN, [], []))] (mm_cons copyR_ok (by decide) (mm_cons insJ_ok (by decide) (mm_cons bsJ_ok (by decide) mm_nil))) [33] [] ex_nil (T := TT) Tryz.func19 rfl Tryz.ntmps19 (by rw [Tryz.results19]) rfl rfl tt gs_nil (ds_cons (iRtOk_ok pb) (ds_cons iIsM_ok ds_nil) (wp_inh pb)) ?_
  intro args c r h hc
  simp only [dMarkI, gMark] at h
  split at h
  rotate_left
  · cases h
  split at h
  rotate_left
  · cases h
  rename_i f b t1 e1 lk t2 e2 x _ _ p m hl1 hl2
  obtain rfl := intsL_eq hl1
  obtain rfl := intsL_eq hl2
  obtain ⟨rfl, rfl⟩ := Prod.mk.inj (Option.some.inj h)
  refine ⟨by simp, fun k E hE Q hQ => ?_⟩
  refine Aw_st hE [1, 2, 4] [2, 4, 6, 33, 419, 519, 619, 734, 784] fun K hK => ?_
  simp only [go_sem, reduceIte, Nat.reduceLT, Nat.reduceLeDiff, Nat.reduceEqDiff, Nat.reduceAdd, Nat.reduceMul, Nat.reduceSub, Nat.reduceBEq, Int.reduceToNat, List.reduceReplicate, reduceCtorEq]
  refine hK _ ?_; clear hK K
  refine Aw_sq fun B1 hB1 hR1 hX1 => ?_
  refine Aw_st hE [1, 2, 4, 16] [2, 4, 6, 33, 419, 519, 619, 734, 784] fun K hK => ?_
  simp only [go_sem, reduceIte, Nat.reduceLT, Nat.reduceLeDiff, Nat.reduceEqDiff, Nat.reduceAdd, Nat.reduceMul, Nat.reduceSub, Nat.reduceBEq, Int.reduceToNat, List.reduceReplicate, reduceCtorEq]
  repeat (refine And.intro (by first | omega | (and_intros <;> first | omega | exact rows_row _ | decide | (simp; done) | (simp; omega)) | fail) ?_)
  refine ⟨fun hg3 => ?_, fun hg3 => ?_⟩
  · repeat (refine And.intro (by first | omega | (and_intros <;> first | omega | exact rows_row _ | decide | (simp; done) | (simp; omega)) | fail) ?_)
    have hok : rtOk f b p lk m = false := by simpa using hg3
    refine hK _ (Aw_yes rfl ?_)
    refine Aw_st hE [4, 5] [2, 4, 6, 33, 419, 519, 619, 734, 784] fun K hK => ?_
    simp only [go_sem, reduceIte, Nat.reduceLT, Nat.reduceLeDiff, Nat.reduceEqDiff, Nat.reduceAdd, Nat.reduceMul, Nat.reduceSub, Nat.reduceBEq, Int.reduceToNat, List.reduceReplicate, reduceCtorEq]
    refine hK _ (Aw_ret (hR1 _ (hQ _ ?_)))
    simp only [go_sem, reduceIte, Nat.reduceLT, Nat.reduceLeDiff, Nat.reduceEqDiff, Nat.reduceAdd, Nat.reduceMul, Nat.reduceSub, Nat.reduceBEq, Int.reduceToNat, List.reduceReplicate, reduceCtorEq]
    rw [hok]; rfl
  · repeat (refine And.intro (by first | omega | (and_intros <;> first | omega | exact rows_row _ | decide | (simp; done) | (simp; omega)) | fail) ?_)
    have hok : rtOk f b p lk m = true := by simpa using hg3
    refine hK _ (Aw_cond rfl (fun hc4 => ?_) (fun hc4 => ?_))
    · have hx : isM x = false := by simpa using hc4
      refine Aw_st hE [4, 5] [2, 4, 6, 33, 419, 519, 619, 734, 784] fun K hK => ?_
      simp only [go_sem, reduceIte, Nat.reduceLT, Nat.reduceLeDiff, Nat.reduceEqDiff, Nat.reduceAdd, Nat.reduceMul, Nat.reduceSub, Nat.reduceBEq, Int.reduceToNat, List.reduceReplicate, reduceCtorEq]
      refine hK _ (Aw_ret (hR1 _ (hQ _ ?_)))
      simp only [go_sem, reduceIte, Nat.reduceLT, Nat.reduceLeDiff, Nat.reduceEqDiff, Nat.reduceAdd, Nat.reduceMul, Nat.reduceSub, Nat.reduceBEq, Int.reduceToNat, List.reduceReplicate, reduceCtorEq]
      rw [hok, hx]; rfl
    · have hx : isM x = true := by simpa using hc4
      have hp0 : p ≠ [] := by
        intro e; rw [e] at hok; simp [rtOk] at hok
      have hsrt : m.Pairwise (· < ·) := mOk_srt (by simp only [rtOk, Bool.and_eq_true] at hok; exact hok.2.2.2.2.2)
      rw [hok, hx] at hQ
      simp only [Bool.and_self, if_true] at hQ
      refine Aw_skip (hB1 _ ?_)
      refine Aw_st hE [1, 4, 6] [2, 4, 6, 33, 419, 519, 619, 734, 784] fun K hK => ?_
      simp only [go_sem, reduceIte, Nat.reduceLT, Nat.reduceLeDiff, Nat.reduceEqDiff, Nat.reduceAdd, Nat.reduceMul, Nat.reduceSub, Nat.reduceBEq, Int.reduceToNat, List.reduceReplicate, reduceCtorEq]
      refine ⟨by decide, ⟨hc.1, hc.2, hp0⟩, fun cap hcap => ⟨fun hm0 => ⟨?_, ?_⟩, fun hm0 cap2 hcap2 => ?_⟩⟩
      · subst hm0
        refine hK _ ?_; clear hK K
        refine Aw_sq fun B5 hB5 hR5 hX5 => ?_
        refine Aw_st hE [1, 4, 6, 7, 8] [2, 4, 6, 33, 419, 519, 619, 734, 784] fun K hK => ?_
        simp only [go_sem, reduceIte, Nat.reduceLT, Nat.reduceLeDiff, Nat.reduceEqDiff, Nat.reduceAdd, Nat.reduceMul, Nat.reduceSub, Nat.reduceBEq, Int.reduceToNat, List.reduceReplicate, reduceCtorEq]
        have hpre0 : ¬ cBs.pre [AV.nl, iv x] [] := by
          rintro ⟨l, cap, x', h, _⟩; cases h
        refine ⟨by decide, .inr ⟨x, rfl, rfl⟩, fun r m2 hp => ?_⟩
        obtain ⟨rfl, rfl⟩ := hp.2 hpre0
        simp only [go_sem, reduceIte, Nat.reduceLT, Nat.reduceLeDiff, Nat.reduceEqDiff, Nat.reduceAdd, Nat.reduceMul, Nat.reduceSub, Nat.reduceBEq, Int.reduceToNat, List.reduceReplicate, reduceCtorEq]
        refine hK _ ?_; clear hK K
        refine Aw_st hE [1, 4, 6, 7, 28] [2, 4, 6, 33, 419, 519, 619, 734, 784] fun K hK => ?_
        simp only [go_sem, reduceIte, Nat.reduceLT, Nat.reduceLeDiff, Nat.reduceEqDiff, Nat.reduceAdd, Nat.reduceMul, Nat.reduceSub, Nat.reduceBEq, Int.reduceToNat, List.reduceReplicate, reduceCtorEq]
        refine hK _ (Aw_yes rfl ?_)
        refine Aw_tx hE [4, 6] [2, 4, 6, 33, 419, 519, 619, 734, 784] fun K hK => ?_
        simp only [go_sem, reduceIte, Nat.reduceLT, Nat.reduceLeDiff, Nat.reduceEqDiff, Nat.reduceAdd, Nat.reduceMul, Nat.reduceSub, Nat.reduceBEq, Int.reduceToNat, List.reduceReplicate, reduceCtorEq, List.contains_cons, Bool.true_or]
        have hpre1 : ¬ cIns.pre [AV.nl, iv 0, AV.xs 1000 0 1 1 1] [(1000, [iv x])] := by
          rintro ⟨l, cap, i, x', h, _⟩; cases h
        refine ⟨by decide, .inr ⟨x, rfl, rfl⟩, fun r m2 hp => ?_⟩
        obtain ⟨cap', hcp, rfl, rfl⟩ := hp.2 hpre1 x rfl rfl
        simp only [go_sem, reduceIte, Nat.reduceLT, Nat.reduceLeDiff, Nat.reduceEqDiff, Nat.reduceAdd, Nat.reduceMul, Nat.reduceSub, Nat.reduceBEq, Int.reduceToNat, List.reduceReplicate, reduceCtorEq]
        refine hK _ (hB5 _ ?_)
        refine Aw_st hE [4, 5] [2, 4, 6, 33, 419, 519, 619, 734, 784] fun K hK => ?_
        simp only [go_sem, reduceIte, Nat.reduceLT, Nat.reduceLeDiff, Nat.reduceEqDiff, Nat.reduceAdd, Nat.reduceMul, Nat.reduceSub, Nat.reduceBEq, Int.reduceToNat, List.reduceReplicate, reduceCtorEq]
        refine hK _ ?_
        refine Aw_fI hE rfl 419 p rfl ?_
        simp only [go_sem, reduceIte, Nat.reduceLT, Nat.reduceLeDiff, Nat.reduceEqDiff, Nat.reduceAdd, Nat.reduceMul, Nat.reduceSub, Nat.reduceBEq, Int.reduceToNat, List.reduceReplicate, reduceCtorEq, List.length_map, frz_rows]
        refine Aw_fI hE rfl 734 ([x]) rfl ?_
        simp only [go_sem, reduceIte, Nat.reduceLT, Nat.reduceLeDiff, Nat.reduceEqDiff, Nat.reduceAdd, Nat.reduceMul, Nat.reduceSub, Nat.reduceBEq, Int.reduceToNat, List.reduceReplicate, reduceCtorEq, List.length_map, frz_rows]
        refine Aw_ret (hQ _ ?_)
        simp only [go_sem, reduceIte, Nat.reduceLT, Nat.reduceLeDiff, Nat.reduceEqDiff, Nat.reduceAdd, Nat.reduceMul, Nat.reduceSub, Nat.reduceBEq, Int.reduceToNat, List.reduceReplicate, reduceCtorEq]
        rfl
      · subst hm0
        refine hK _ ?_; clear hK K
        refine Aw_sq fun B5 hB5 hR5 hX5 => ?_
        refine Aw_st hE [1, 4, 6, 7, 8] [2, 4, 6, 33, 419, 519, 619, 734, 784] fun K hK => ?_
        simp only [go_sem, reduceIte, Nat.reduceLT, Nat.reduceLeDiff, Nat.reduceEqDiff, Nat.reduceAdd, Nat.reduceMul, Nat.reduceSub, Nat.reduceBEq, Int.reduceToNat, List.reduceReplicate, reduceCtorEq]
        refine ⟨by decide, .inl ⟨([] : List Int), 0, x, rfl, rfl, hc.2, hsrt⟩, fun r m2 hp => ?_⟩
        obtain ⟨rfl, hq⟩ := hp.1 ⟨([] : List Int), 0, x, rfl, rfl, hc.2, hsrt⟩
        obtain ⟨i, hi, rfl, h1, h2⟩ := hq ([] : List Int) 0 x rfl rfl
        have hmk := mkL_of hsrt hi h1 h2
        simp only [go_sem, reduceIte, Nat.reduceLT, Nat.reduceLeDiff, Nat.reduceEqDiff, Nat.reduceAdd, Nat.reduceMul, Nat.reduceSub, Nat.reduceBEq, Int.reduceToNat, List.reduceReplicate, reduceCtorEq]
        refine hK _ ?_; clear hK K
        refine Aw_st hE [1, 4, 6, 7, 28] [2, 4, 6, 33, 419, 519, 619, 734, 784] fun K hK => ?_
        simp only [go_sem, reduceIte, Nat.reduceLT, Nat.reduceLeDiff, Nat.reduceEqDiff, Nat.reduceAdd, Nat.reduceMul, Nat.reduceSub, Nat.reduceBEq, Int.reduceToNat, List.reduceReplicate, reduceCtorEq]
        refine hK _ (Aw_cond rfl (fun hc6 => ?_) (fun hc6 => ?_))
        · have hnf : ¬(i < (([] : List Int)).length ∧ (([] : List Int)).getD i 0 = x) := by
            rintro ⟨e1, e2⟩; simp only [decide_eq_true e2, Bool.and_true, Bool.not_eq_true', decide_eq_false_iff_not] at hc6; exact hc6 e1
          have hmk := hmk.2 hnf
          have hlen := insL_len (([] : List Int)) i x hi
          refine Aw_tx hE [4, 6] [2, 4, 6, 33, 419, 519, 619, 734, 784] fun K hK => ?_
          simp only [go_sem, reduceIte, Nat.reduceLT, Nat.reduceLeDiff, Nat.reduceEqDiff, Nat.reduceAdd, Nat.reduceMul, Nat.reduceSub, Nat.reduceBEq, Int.reduceToNat, List.reduceReplicate, reduceCtorEq, List.contains_cons, Bool.true_or]
          have hpre : cIns.pre [AV.xs 1000 0 (([] : List Int)).length 0 1, iv i, AV.xs 1001 0 1 1 1] [(1000, cI (([] : List Int)) ++ List.replicate (0 - (([] : List Int)).length) AV.junk), (1001, [iv x])] := ⟨([] : List Int), 0, i, x, rfl, rfl, hi, Nat.le_refl _, hc.2⟩
          refine ⟨by decide, .inl hpre, fun r m2 hp => ?_⟩
          obtain ⟨cap', rest, a, b', hcp, hq⟩ := hp.1 hpre (([] : List Int)) 0 i x rfl rfl
          rw [← hmk] at hq hlen
          rw [← hlen] at hq hcp
          rcases hq with ⟨rfl, rfl⟩ | ⟨k', rfl | rfl, rfl, rfl⟩
          · simp only [go_sem, reduceIte, Nat.reduceLT, Nat.reduceLeDiff, Nat.reduceEqDiff, Nat.reduceAdd, Nat.reduceMul, Nat.reduceSub, Nat.reduceBEq, Int.reduceToNat, List.reduceReplicate, reduceCtorEq]
            refine hK _ (hB5 _ ?_)
            refine Aw_st hE [4, 5] [2, 4, 6, 33, 419, 519, 619, 734, 784] fun K hK => ?_
            simp only [go_sem, reduceIte, Nat.reduceLT, Nat.reduceLeDiff, Nat.reduceEqDiff, Nat.reduceAdd, Nat.reduceMul, Nat.reduceSub, Nat.reduceBEq, Int.reduceToNat, List.reduceReplicate, reduceCtorEq]
            refine hK _ ?_
            refine Aw_fI hE rfl 419 p rfl ?_
            simp only [go_sem, reduceIte, Nat.reduceLT, Nat.reduceLeDiff, Nat.reduceEqDiff, Nat.reduceAdd, Nat.reduceMul, Nat.reduceSub, Nat.reduceBEq, Int.reduceToNat, List.reduceReplicate, reduceCtorEq, List.length_map, frz_rows]
            refine Aw_fI hE rfl 519 (mkL (([] : List Int)) x) rfl ?_
            simp only [go_sem, reduceIte, Nat.reduceLT, Nat.reduceLeDiff, Nat.reduceEqDiff, Nat.reduceAdd, Nat.reduceMul, Nat.reduceSub, Nat.reduceBEq, Int.reduceToNat, List.reduceReplicate, reduceCtorEq, List.length_map, frz_rows]
            refine Aw_ret (hQ _ ?_)
            simp only [go_sem, reduceIte, Nat.reduceLT, Nat.reduceLeDiff, Nat.reduceEqDiff, Nat.reduceAdd, Nat.reduceMul, Nat.reduceSub, Nat.reduceBEq, Int.reduceToNat, List.reduceReplicate, reduceCtorEq]
          · simp only [go_sem, reduceIte, Nat.reduceLT, Nat.reduceLeDiff, Nat.reduceEqDiff, Nat.reduceAdd, Nat.reduceMul, Nat.reduceSub, Nat.reduceBEq, Int.reduceToNat, List.reduceReplicate, reduceCtorEq]
            refine hK _ (hB5 _ ?_)
            refine Aw_st hE [4, 5] [2, 4, 6, 33, 419, 519, 619, 734, 784] fun K hK => ?_
            simp only [go_sem, reduceIte, Nat.reduceLT, Nat.reduceLeDiff, Nat.reduceEqDiff, Nat.reduceAdd, Nat.reduceMul, Nat.reduceSub, Nat.reduceBEq, Int.reduceToNat, List.reduceReplicate, reduceCtorEq]
            refine hK _ ?_
            refine Aw_fI hE rfl 419 p rfl ?_
            simp only [go_sem, reduceIte, Nat.reduceLT, Nat.reduceLeDiff, Nat.reduceEqDiff, Nat.reduceAdd, Nat.reduceMul, Nat.reduceSub, Nat.reduceBEq, Int.reduceToNat, List.reduceReplicate, reduceCtorEq, List.length_map, frz_rows]
            refine Aw_fI hE rfl 734 (mkL (([] : List Int)) x) rfl ?_
            simp only [go_sem, reduceIte, Nat.reduceLT, Nat.reduceLeDiff, Nat.reduceEqDiff, Nat.reduceAdd, Nat.reduceMul, Nat.reduceSub, Nat.reduceBEq, Int.reduceToNat, List.reduceReplicate, reduceCtorEq, List.length_map, frz_rows]
            refine Aw_ret (hQ _ ?_)
            simp only [go_sem, reduceIte, Nat.reduceLT, Nat.reduceLeDiff, Nat.reduceEqDiff, Nat.reduceAdd, Nat.reduceMul, Nat.reduceSub, Nat.reduceBEq, Int.reduceToNat, List.reduceReplicate, reduceCtorEq]
          · simp only [go_sem, reduceIte, Nat.reduceLT, Nat.reduceLeDiff, Nat.reduceEqDiff, Nat.reduceAdd, Nat.reduceMul, Nat.reduceSub, Nat.reduceBEq, Int.reduceToNat, List.reduceReplicate, reduceCtorEq]
            refine hK _ (hB5 _ ?_)
            refine Aw_st hE [4, 5] [2, 4, 6, 33, 419, 519, 619, 734, 784] fun K hK => ?_
            simp only [go_sem, reduceIte, Nat.reduceLT, Nat.reduceLeDiff, Nat.reduceEqDiff, Nat.reduceAdd, Nat.reduceMul, Nat.reduceSub, Nat.reduceBEq, Int.reduceToNat, List.reduceReplicate, reduceCtorEq]
            refine hK _ ?_
            refine Aw_fI hE rfl 419 p rfl ?_
            simp only [go_sem, reduceIte, Nat.reduceLT, Nat.reduceLeDiff, Nat.reduceEqDiff, Nat.reduceAdd, Nat.reduceMul, Nat.reduceSub, Nat.reduceBEq, Int.reduceToNat, List.reduceReplicate, reduceCtorEq, List.length_map, frz_rows]
            refine Aw_fI hE rfl 784 (mkL (([] : List Int)) x) rfl ?_
            simp only [go_sem, reduceIte, Nat.reduceLT, Nat.reduceLeDiff, Nat.reduceEqDiff, Nat.reduceAdd, Nat.reduceMul, Nat.reduceSub, Nat.reduceBEq, Int.reduceToNat, List.reduceReplicate, reduceCtorEq, List.length_map, frz_rows]
            refine Aw_ret (hQ _ ?_)
            simp only [go_sem, reduceIte, Nat.reduceLT, Nat.reduceLeDiff, Nat.reduceEqDiff, Nat.reduceAdd, Nat.reduceMul, Nat.reduceSub, Nat.reduceBEq, Int.reduceToNat, List.reduceReplicate, reduceCtorEq]
        · have hf : i < (([] : List Int)).length ∧ (([] : List Int)).getD i 0 = x := by
            simp at hc6
          exact absurd hf.1 (Nat.not_lt_zero _)

      · skip
        refine hK _ ?_; clear hK K
        refine Aw_sq fun B5 hB5 hR5 hX5 => ?_
        refine Aw_st hE [1, 4, 6, 7, 8] [2, 4, 6, 33, 419, 519, 619, 734, 784] fun K hK => ?_
        simp only [go_sem, reduceIte, Nat.reduceLT, Nat.reduceLeDiff, Nat.reduceEqDiff, Nat.reduceAdd, Nat.reduceMul, Nat.reduceSub, Nat.reduceBEq, Int.reduceToNat, List.reduceReplicate, reduceCtorEq]
        refine ⟨by decide, .inl ⟨m, cap2, x, rfl, rfl, hc.2, hsrt⟩, fun r m2 hp => ?_⟩
        obtain ⟨rfl, hq⟩ := hp.1 ⟨m, cap2, x, rfl, rfl, hc.2, hsrt⟩
        obtain ⟨i, hi, rfl, h1, h2⟩ := hq m cap2 x rfl rfl
        have hmk := mkL_of hsrt hi h1 h2
        simp only [go_sem, reduceIte, Nat.reduceLT, Nat.reduceLeDiff, Nat.reduceEqDiff, Nat.reduceAdd, Nat.reduceMul, Nat.reduceSub, Nat.reduceBEq, Int.reduceToNat, List.reduceReplicate, reduceCtorEq]
        refine hK _ ?_; clear hK K
        refine Aw_st hE [1, 4, 6, 7, 28] [2, 4, 6, 33, 419, 519, 619, 734, 784] fun K hK => ?_
        simp only [go_sem, reduceIte, Nat.reduceLT, Nat.reduceLeDiff, Nat.reduceEqDiff, Nat.reduceAdd, Nat.reduceMul, Nat.reduceSub, Nat.reduceBEq, Int.reduceToNat, List.reduceReplicate, reduceCtorEq]
        refine hK _ (Aw_cond rfl (fun hc6 => ?_) (fun hc6 => ?_))
        · have hnf : ¬(i < (m).length ∧ (m).getD i 0 = x) := by
            rintro ⟨e1, e2⟩; simp only [decide_eq_true e2, Bool.and_true, Bool.not_eq_true', decide_eq_false_iff_not] at hc6; exact hc6 e1
          have hmk := hmk.2 hnf
          have hlen := insL_len (m) i x hi
          refine Aw_tx hE [4, 6] [2, 4, 6, 33, 419, 519, 619, 734, 784] fun K hK => ?_
          simp only [go_sem, reduceIte, Nat.reduceLT, Nat.reduceLeDiff, Nat.reduceEqDiff, Nat.reduceAdd, Nat.reduceMul, Nat.reduceSub, Nat.reduceBEq, Int.reduceToNat, List.reduceReplicate, reduceCtorEq, List.contains_cons, Bool.true_or]
          have hpre : cIns.pre [AV.xs 1000 0 (m).length cap2 1, iv i, AV.xs 1001 0 1 1 1] [(1000, cI (m) ++ List.replicate (cap2 - (m).length) AV.junk), (1001, [iv x])] := ⟨m, cap2, i, x, rfl, rfl, hi, hcap2, hc.2⟩
          refine ⟨by decide, .inl hpre, fun r m2 hp => ?_⟩
          obtain ⟨cap', rest, a, b', hcp, hq⟩ := hp.1 hpre (m) cap2 i x rfl rfl
          rw [← hmk] at hq hlen
          rw [← hlen] at hq hcp
          rcases hq with ⟨rfl, rfl⟩ | ⟨k', rfl | rfl, rfl, rfl⟩
          · simp only [go_sem, reduceIte, Nat.reduceLT, Nat.reduceLeDiff, Nat.reduceEqDiff, Nat.reduceAdd, Nat.reduceMul, Nat.reduceSub, Nat.reduceBEq, Int.reduceToNat, List.reduceReplicate, reduceCtorEq]
            refine hK _ (hB5 _ ?_)
            refine Aw_st hE [4, 5] [2, 4, 6, 33, 419, 519, 619, 734, 784] fun K hK => ?_
            simp only [go_sem, reduceIte, Nat.reduceLT, Nat.reduceLeDiff, Nat.reduceEqDiff, Nat.reduceAdd, Nat.reduceMul, Nat.reduceSub, Nat.reduceBEq, Int.reduceToNat, List.reduceReplicate, reduceCtorEq]
            refine hK _ ?_
            refine Aw_fI hE rfl 419 p rfl ?_
            simp only [go_sem, reduceIte, Nat.reduceLT, Nat.reduceLeDiff, Nat.reduceEqDiff, Nat.reduceAdd, Nat.reduceMul, Nat.reduceSub, Nat.reduceBEq, Int.reduceToNat, List.reduceReplicate, reduceCtorEq, List.length_map, frz_rows]
            refine Aw_fI hE rfl 619 (mkL (m) x) rfl ?_
            simp only [go_sem, reduceIte, Nat.reduceLT, Nat.reduceLeDiff, Nat.reduceEqDiff, Nat.reduceAdd, Nat.reduceMul, Nat.reduceSub, Nat.reduceBEq, Int.reduceToNat, List.reduceReplicate, reduceCtorEq, List.length_map, frz_rows]
            refine Aw_ret (hQ _ ?_)
            simp only [go_sem, reduceIte, Nat.reduceLT, Nat.reduceLeDiff, Nat.reduceEqDiff, Nat.reduceAdd, Nat.reduceMul, Nat.reduceSub, Nat.reduceBEq, Int.reduceToNat, List.reduceReplicate, reduceCtorEq]
          · simp only [go_sem, reduceIte, Nat.reduceLT, Nat.reduceLeDiff, Nat.reduceEqDiff, Nat.reduceAdd, Nat.reduceMul, Nat.reduceSub, Nat.reduceBEq, Int.reduceToNat, List.reduceReplicate, reduceCtorEq]
            refine hK _ (hB5 _ ?_)
            refine Aw_st hE [4, 5] [2, 4, 6, 33, 419, 519, 619, 734, 784] fun K hK => ?_
            simp only [go_sem, reduceIte, Nat.reduceLT, Nat.reduceLeDiff, Nat.reduceEqDiff, Nat.reduceAdd, Nat.reduceMul, Nat.reduceSub, Nat.reduceBEq, Int.reduceToNat, List.reduceReplicate, reduceCtorEq]
            refine hK _ ?_
            refine Aw_fI hE rfl 419 p rfl ?_
            simp only [go_sem, reduceIte, Nat.reduceLT, Nat.reduceLeDiff, Nat.reduceEqDiff, Nat.reduceAdd, Nat.reduceMul, Nat.reduceSub, Nat.reduceBEq, Int.reduceToNat, List.reduceReplicate, reduceCtorEq, List.length_map, frz_rows]
            refine Aw_fI hE rfl 734 (mkL (m) x) rfl ?_
            simp only [go_sem, reduceIte, Nat.reduceLT, Nat.reduceLeDiff, Nat.reduceEqDiff, Nat.reduceAdd, Nat.reduceMul, Nat.reduceSub, Nat.reduceBEq, Int.reduceToNat, List.reduceReplicate, reduceCtorEq, List.length_map, frz_rows]
            refine Aw_ret (hQ _ ?_)
            simp only [go_sem, reduceIte, Nat.reduceLT, Nat.reduceLeDiff, Nat.reduceEqDiff, Nat.reduceAdd, Nat.reduceMul, Nat.reduceSub, Nat.reduceBEq, Int.reduceToNat, List.reduceReplicate, reduceCtorEq]
          · simp only [go_sem, reduceIte, Nat.reduceLT, Nat.reduceLeDiff, Nat.reduceEqDiff, Nat.reduceAdd, Nat.reduceMul, Nat.reduceSub, Nat.reduceBEq, Int.reduceToNat, List.reduceReplicate, reduceCtorEq]
            refine hK _ (hB5 _ ?_)
            refine Aw_st hE [4, 5] [2, 4, 6, 33, 419, 519, 619, 734, 784] fun K hK => ?_
            simp only [go_sem, reduceIte, Nat.reduceLT, Nat.reduceLeDiff, Nat.reduceEqDiff, Nat.reduceAdd, Nat.reduceMul, Nat.reduceSub, Nat.reduceBEq, Int.reduceToNat, List.reduceReplicate, reduceCtorEq]
            refine hK _ ?_
            refine Aw_fI hE rfl 419 p rfl ?_
            simp only [go_sem, reduceIte, Nat.reduceLT, Nat.reduceLeDiff, Nat.reduceEqDiff, Nat.reduceAdd, Nat.reduceMul, Nat.reduceSub, Nat.reduceBEq, Int.reduceToNat, List.reduceReplicate, reduceCtorEq, List.length_map, frz_rows]
            refine Aw_fI hE rfl 784 (mkL (m) x) rfl ?_
            simp only [go_sem, reduceIte, Nat.reduceLT, Nat.reduceLeDiff, Nat.reduceEqDiff, Nat.reduceAdd, Nat.reduceMul, Nat.reduceSub, Nat.reduceBEq, Int.reduceToNat, List.reduceReplicate, reduceCtorEq, List.length_map, frz_rows]
            refine Aw_ret (hQ _ ?_)
            simp only [go_sem, reduceIte, Nat.reduceLT, Nat.reduceLeDiff, Nat.reduceEqDiff, Nat.reduceAdd, Nat.reduceMul, Nat.reduceSub, Nat.reduceBEq, Int.reduceToNat, List.reduceReplicate, reduceCtorEq]
        · have hf : i < (m).length ∧ (m).getD i 0 = x := by
            simpa using hc6
          have hmk := hmk.1 hf
          rw [hmk] at hQ
          refine Aw_skip (hB5 _ ?_)
          refine Aw_st hE [4, 5] [2, 4, 6, 33, 419, 519, 619, 734, 784] fun K hK => ?_
          simp only [go_sem, reduceIte, Nat.reduceLT, Nat.reduceLeDiff, Nat.reduceEqDiff, Nat.reduceAdd, Nat.reduceMul, Nat.reduceSub, Nat.reduceBEq, Int.reduceToNat, List.reduceReplicate, reduceCtorEq]
          refine hK _ ?_
          refine Aw_fI hE rfl 419 p rfl ?_
          simp only [go_sem, reduceIte, Nat.reduceLT, Nat.reduceLeDiff, Nat.reduceEqDiff, Nat.reduceAdd, Nat.reduceMul, Nat.reduceSub, Nat.reduceBEq, Int.reduceToNat, List.reduceReplicate, reduceCtorEq, List.length_map, frz_rows]
          refine Aw_fI hE rfl 619 (m) rfl ?_
          simp only [go_sem, reduceIte, Nat.reduceLT, Nat.reduceLeDiff, Nat.reduceEqDiff, Nat.reduceAdd, Nat.reduceMul, Nat.reduceSub, Nat.reduceBEq, Int.reduceToNat, List.reduceReplicate, reduceCtorEq, List.length_map, frz_rows]
          refine Aw_ret (hQ _ ?_)
          simp only [go_sem, reduceIte, Nat.reduceLT, Nat.reduceLeDiff, Nat.reduceEqDiff, Nat.reduceAdd, Nat.reduceMul, Nat.reduceSub, Nat.reduceBEq, Int.reduceToNat, List.reduceReplicate, reduceCtorEq]
end Go.Proofs.W
end
section
namespace Go.Proofs.W
open Go Go.Eng Go.RowKit
set_option linter.unusedSimpArgs false
set_option maxRecDepth 10000

def gMk : List AV → Option (Prop × AV) | [.sl _ els, .v (.int .i64 x)] => (match intsL els with | some l => some (l.length ≤ 1000000, isl (mkL l x)) | none => none) | _ => none
def dMk : DFn := { g := gMk }
attribute [go_sem] gMk dMk
theorem mkGo_app (x : Int) : ∀ (a b : List Int) (s : List Int × Bool), mkGo x (a ++ b) s = mkGo x b (mkGo x a s)
  | [], b, s => rfl
  | y :: a, b, s => by obtain ⟨o, i⟩ := s; rw [List.cons_append, mkGo, mkGo_app, mkGo]
theorem mkGo_step (x : Int) (l : List Int) (i : Nat) (h : i < l.length) {o : List Int} {n : Bool} (hs : mkGo x (l.take i) ([], false) = (o, n)) : mkGo x (l.take (i + 1)) ([], false) = ((o ++ (if !n && decide (x ≤ l.getD i 0) then [x] else [])) ++ (if decide (l.getD i 0 = x) then [] else [l.getD i 0]), n || decide (x ≤ l.getD i 0)) := by
  have e : l.getD i 0 = l[i] := by simp [List.getD_eq_getElem?_getD, h]
  rw [List.take_succ_eq_append_getElem h, mkGo_app, hs, e]; rfl

theorem l4Mark_ok : Fine Tryz.prog 74 dMk.con := by
  refine fine_det (T := TT) Tryz.func74 rfl Tryz.ntmps74 (by rw [Tryz.results74]) rfl rfl tt (gs_nil) (ds_nil) ?_
  intro args c r h hc
  simp only [dMk, gMk] at h
  split at h
  rotate_left
  · cases h
  split at h
  rotate_left
  · cases h
  rename_i t els x _ l hl
  obtain rfl := intsL_eq hl
  obtain ⟨rfl, rfl⟩ := Prod.mk.inj (Option.some.inj h)
  refine ⟨by simp, fun k E hE Q hQ => ?_⟩
  refine Aw_st hE [0, 1] [] fun K hK => ?_
  simp only [go_sem, reduceIte, Nat.reduceLT, Nat.reduceLeDiff, Nat.reduceEqDiff, Nat.reduceAdd, Nat.reduceMul, Nat.reduceSub, Nat.reduceBEq, Int.reduceToNat, List.reduceReplicate, reduceCtorEq]
  repeat (refine And.intro (by first | omega | (and_intros <;> first | omega | exact rows_row _ | decide | (simp; done) | (simp; omega)) | fail) ?_)
  refine hK _ ?_; clear hK K
  refine Aw_st hE [0, 1, 5] [] fun K hK => ?_
  simp only [go_sem, reduceIte, Nat.reduceLT, Nat.reduceLeDiff, Nat.reduceEqDiff, Nat.reduceAdd, Nat.reduceMul, Nat.reduceSub, Nat.reduceBEq, Int.reduceToNat, List.reduceReplicate, reduceCtorEq]
  repeat (refine And.intro (by first | omega | (and_intros <;> first | omega | exact rows_row _ | decide | (simp; done) | (simp; omega)) | fail) ?_)
  refine hK _ ?_; clear hK K
  refine Aw_st hE [0, 1, 5, 6] [] fun K hK => ?_
  simp only [go_sem, reduceIte, Nat.reduceLT, Nat.reduceLeDiff, Nat.reduceEqDiff, Nat.reduceAdd, Nat.reduceMul, Nat.reduceSub, Nat.reduceBEq, Int.reduceToNat, List.reduceReplicate, reduceCtorEq]
  repeat (refine And.intro (by first | omega | (and_intros <;> first | omega | exact rows_row _ | decide | (simp; done) | (simp; omega)) | fail) ?_)
  refine hK _ ?_; clear hK K
  refine Aw_sq fun B1 hB1 hR1 hX1 => ?_
  refine Aw_st hE [0, 1, 5, 6, 7] [] fun K hK => ?_
  simp only [go_sem, reduceIte, Nat.reduceLT, Nat.reduceLeDiff, Nat.reduceEqDiff, Nat.reduceAdd, Nat.reduceMul, Nat.reduceSub, Nat.reduceBEq, Int.reduceToNat, List.reduceReplicate, reduceCtorEq]
  repeat (refine And.intro (by first | omega | (and_intros <;> first | omega | exact rows_row _ | decide | (simp; done) | (simp; omega)) | fail) ?_)
  refine hK _ ?_; clear hK K
  refine Aw_bk fun B2 hN2 hE2 hR2 hX2 => ?_
  refine Aw_lp (fun i : Nat × (List Int × Bool) => ⟨49, [(0, isl l), (1, iv x), (5, .sl (some (8, 0, 3)) (rows i.2.1)), (6, bv i.2.2), (7, iv i.1)], [], k⟩) (fun i : Nat × (List Int × Bool) => i.1 ≤ l.length ∧ mkGo x (l.take i.1) ([], false) = i.2 ∧ i.2.1.length ≤ 2 * i.1) (fun i : Nat × (List Int × Bool) => l.length - i.1) ((0, ([], false))) (Le_wk (by first | omega | (dsimp only; omega) | (simp only; omega) | (simp; omega)) (by simp only [go_sem, reduceIte, Nat.reduceLT, Nat.reduceLeDiff, Nat.reduceEqDiff, Nat.reduceAdd, Nat.reduceMul, Nat.reduceSub, Nat.reduceBEq, Int.reduceToNat, List.reduceReplicate, reduceCtorEq]; rfl) (by simp only [go_sem, reduceIte, Nat.reduceLT, Nat.reduceLeDiff, Nat.reduceEqDiff, Nat.reduceAdd, Nat.reduceMul, Nat.reduceSub, Nat.reduceBEq, Int.reduceToNat, List.reduceReplicate, reduceCtorEq])) (⟨by omega, rfl, by simp⟩) fun i hi B3 hN3 hR3 hX3 => ?_
  refine Aw_sq fun B4 hB4 hR4 hX4 => ?_
  refine Aw_st hE [0, 1, 5, 6, 7, 12] [] fun K hK => ?_
  simp only [go_sem, reduceIte, Nat.reduceLT, Nat.reduceLeDiff, Nat.reduceEqDiff, Nat.reduceAdd, Nat.reduceMul, Nat.reduceSub, Nat.reduceBEq, Int.reduceToNat, List.reduceReplicate, reduceCtorEq]
  repeat (refine And.intro (by first | omega | (and_intros <;> first | omega | exact rows_row _ | decide | (simp; done) | (simp; omega)) | fail) ?_)
  refine hK _ (Aw_cond rfl (fun hc5 => ?_) (fun hc5 => ?_))
  · simp only [decide_eq_true_eq] at hc5
    obtain ⟨i, o, n⟩ := i
    obtain ⟨hi1, hi2, hi3⟩ := hi
    simp only at hi1 hi2 hi3 hc5 ⊢
    have hil : i < l.length := by omega
    have hst := mkGo_step x l i hil hi2
    refine Aw_skip (hB4 _ ?_)
    refine Aw_sq fun B6 hB6 hR6 hX6 => ?_
    refine Aw_bk fun B7 hN7 hE7 hR7 hX7 => ?_
    refine Aw_sq fun B8 hB8 hR8 hX8 => ?_
    refine Aw_st hE [0, 1, 5, 6, 7, 24] [] fun K hK => ?_
    simp only [go_sem, reduceIte, Nat.reduceLT, Nat.reduceLeDiff, Nat.reduceEqDiff, Nat.reduceAdd, Nat.reduceMul, Nat.reduceSub, Nat.reduceBEq, Int.reduceToNat, List.reduceReplicate, reduceCtorEq, rows_get l i hil]
    repeat (refine And.intro (by first | omega | (and_intros <;> first | omega | exact rows_row _ | decide | (simp; done) | (simp; omega)) | fail) ?_)
    refine ⟨fun hg10 => ?_, fun hg10 => ?_⟩
    · have hn : n = false := by simpa using hg10
      repeat (refine And.intro (by first | omega | (and_intros <;> first | omega | exact rows_row _ | decide | (simp; done) | (simp; omega)) | fail) ?_)
      refine hK _ (Aw_cond rfl (fun hc11 => ?_) (fun hc11 => ?_))
      · have hle : x ≤ l.getD i 0 := by simpa using hc11
        refine Aw_st hE [0, 1, 5, 7] [] fun K hK => ?_
        simp only [go_sem, reduceIte, Nat.reduceLT, Nat.reduceLeDiff, Nat.reduceEqDiff, Nat.reduceAdd, Nat.reduceMul, Nat.reduceSub, Nat.reduceBEq, Int.reduceToNat, List.reduceReplicate, reduceCtorEq, rows_one]
        repeat (refine And.intro (by first | omega | (and_intros <;> first | omega | exact rows_row _ | decide | (simp; done) | (simp; omega)) | fail) ?_)
        refine hK _ ?_; clear hK K
        refine Aw_tx hE [0, 1, 5, 6, 7] [] fun K hK => ?_
        simp only [go_sem, reduceIte, Nat.reduceLT, Nat.reduceLeDiff, Nat.reduceEqDiff, Nat.reduceAdd, Nat.reduceMul, Nat.reduceSub, Nat.reduceBEq, Int.reduceToNat, List.reduceReplicate, reduceCtorEq]
        repeat (refine And.intro (by first | omega | (and_intros <;> first | omega | exact rows_row _ | decide | (simp; done) | (simp; omega)) | fail) ?_)
        refine hK _ (hB8 _ ?_)
        refine Aw_st hE [0, 1, 5, 6, 7, 34] [] fun K hK => ?_
        simp only [go_sem, reduceIte, Nat.reduceLT, Nat.reduceLeDiff, Nat.reduceEqDiff, Nat.reduceAdd, Nat.reduceMul, Nat.reduceSub, Nat.reduceBEq, Int.reduceToNat, List.reduceReplicate, reduceCtorEq, rows_get l i hil]
        repeat (refine And.intro (by first | omega | (and_intros <;> first | omega | exact rows_row _ | decide | (simp; done) | (simp; omega)) | fail) ?_)
        refine hK _ (Aw_cond rfl (fun hc12 => ?_) (fun hc12 => ?_))
        · have hne : ¬ l.getD i 0 = x := by simpa using hc12
          refine Aw_tx hE [0, 1, 5, 6, 7] [] fun K hK => ?_
          simp only [go_sem, reduceIte, Nat.reduceLT, Nat.reduceLeDiff, Nat.reduceEqDiff, Nat.reduceAdd, Nat.reduceMul, Nat.reduceSub, Nat.reduceBEq, Int.reduceToNat, List.reduceReplicate, reduceCtorEq, rows_get l i hil, rows_one]
          repeat (refine And.intro (by first | omega | (and_intros <;> first | omega | exact rows_row _ | decide | (simp; done) | (simp; omega)) | fail) ?_)
          refine hK _ (hN7 _ (hB6 _ ?_))
          refine Aw_tx hE [0, 1, 5, 6, 7] [] fun K hK => ?_
          simp only [go_sem, reduceIte, Nat.reduceLT, Nat.reduceLeDiff, Nat.reduceEqDiff, Nat.reduceAdd, Nat.reduceMul, Nat.reduceSub, Nat.reduceBEq, Int.reduceToNat, List.reduceReplicate, reduceCtorEq]
          repeat (refine And.intro (by first | omega | (and_intros <;> first | omega | exact rows_row _ | decide | (simp; done) | (simp; omega)) | fail) ?_)
          refine hK _ (hN3 ((i + 1, (o ++ [x] ++ [l.getD i 0], true))) _ (⟨by omega, by rw [hst, hn, decide_eq_true hle, decide_eq_false hne]; rfl, by simp; omega⟩) (by omega) (Le_tk 41 8 rfl))
        · have hne : l.getD i 0 = x := by simpa using hc12
          refine Aw_skip (hN7 _ (hB6 _ ?_))
          refine Aw_tx hE [0, 1, 5, 6, 7] [] fun K hK => ?_
          simp only [go_sem, reduceIte, Nat.reduceLT, Nat.reduceLeDiff, Nat.reduceEqDiff, Nat.reduceAdd, Nat.reduceMul, Nat.reduceSub, Nat.reduceBEq, Int.reduceToNat, List.reduceReplicate, reduceCtorEq]
          repeat (refine And.intro (by first | omega | (and_intros <;> first | omega | exact rows_row _ | decide | (simp; done) | (simp; omega)) | fail) ?_)
          refine hK _ (hN3 ((i + 1, (o ++ [x], true))) _ (⟨by omega, by rw [hst, hn, decide_eq_true hle, decide_eq_true hne]; simp, by simp; omega⟩) (by omega) (Le_tk 28 8 rfl))
      · have hle : ¬ x ≤ l.getD i 0 := by simpa using hc11
        refine Aw_skip (hB8 _ ?_)
        refine Aw_st hE [0, 1, 5, 6, 7, 34] [] fun K hK => ?_
        simp only [go_sem, reduceIte, Nat.reduceLT, Nat.reduceLeDiff, Nat.reduceEqDiff, Nat.reduceAdd, Nat.reduceMul, Nat.reduceSub, Nat.reduceBEq, Int.reduceToNat, List.reduceReplicate, reduceCtorEq, rows_get l i hil]
        repeat (refine And.intro (by first | omega | (and_intros <;> first | omega | exact rows_row _ | decide | (simp; done) | (simp; omega)) | fail) ?_)
        refine hK _ (Aw_cond rfl (fun hc13 => ?_) (fun hc13 => ?_))
        · have hne : ¬ l.getD i 0 = x := by simpa using hc13
          refine Aw_tx hE [0, 1, 5, 6, 7] [] fun K hK => ?_
          simp only [go_sem, reduceIte, Nat.reduceLT, Nat.reduceLeDiff, Nat.reduceEqDiff, Nat.reduceAdd, Nat.reduceMul, Nat.reduceSub, Nat.reduceBEq, Int.reduceToNat, List.reduceReplicate, reduceCtorEq, rows_get l i hil, rows_one]
          repeat (refine And.intro (by first | omega | (and_intros <;> first | omega | exact rows_row _ | decide | (simp; done) | (simp; omega)) | fail) ?_)
          refine hK _ (hN7 _ (hB6 _ ?_))
          refine Aw_tx hE [0, 1, 5, 6, 7] [] fun K hK => ?_
          simp only [go_sem, reduceIte, Nat.reduceLT, Nat.reduceLeDiff, Nat.reduceEqDiff, Nat.reduceAdd, Nat.reduceMul, Nat.reduceSub, Nat.reduceBEq, Int.reduceToNat, List.reduceReplicate, reduceCtorEq]
          repeat (refine And.intro (by first | omega | (and_intros <;> first | omega | exact rows_row _ | decide | (simp; done) | (simp; omega)) | fail) ?_)
          refine hK _ (hN3 ((i + 1, (o ++ [l.getD i 0], n))) _ (⟨by omega, by rw [hst, hn, decide_eq_false hle, decide_eq_false hne]; simp, by simp; omega⟩) (by omega) (Le_tk 41 8 rfl))
        · have hne : l.getD i 0 = x := by simpa using hc13
          refine Aw_skip (hN7 _ (hB6 _ ?_))
          refine Aw_tx hE [0, 1, 5, 6, 7] [] fun K hK => ?_
          simp only [go_sem, reduceIte, Nat.reduceLT, Nat.reduceLeDiff, Nat.reduceEqDiff, Nat.reduceAdd, Nat.reduceMul, Nat.reduceSub, Nat.reduceBEq, Int.reduceToNat, List.reduceReplicate, reduceCtorEq]
          repeat (refine And.intro (by first | omega | (and_intros <;> first | omega | exact rows_row _ | decide | (simp; done) | (simp; omega)) | fail) ?_)
          refine hK _ (hN3 ((i + 1, (o, n))) _ (⟨by omega, by exact absurd (by omega) hle, by omega⟩) (by omega) (Le.refl _))
    · have hn : n = true := by simpa using hg10
      repeat (refine And.intro (by first | omega | (and_intros <;> first | omega | exact rows_row _ | decide | (simp; done) | (simp; omega)) | fail) ?_)
      refine hK _ (Aw_no rfl ?_)
      refine Aw_skip (hB8 _ ?_)
      refine Aw_st hE [0, 1, 5, 6, 7, 34] [] fun K hK => ?_
      simp only [go_sem, reduceIte, Nat.reduceLT, Nat.reduceLeDiff, Nat.reduceEqDiff, Nat.reduceAdd, Nat.reduceMul, Nat.reduceSub, Nat.reduceBEq, Int.reduceToNat, List.reduceReplicate, reduceCtorEq, rows_get l i hil]
      repeat (refine And.intro (by first | omega | (and_intros <;> first | omega | exact rows_row _ | decide | (simp; done) | (simp; omega)) | fail) ?_)
      refine hK _ (Aw_cond rfl (fun hc14 => ?_) (fun hc14 => ?_))
      · have hne : ¬ l.getD i 0 = x := by simpa using hc14
        refine Aw_tx hE [0, 1, 5, 6, 7] [] fun K hK => ?_
        simp only [go_sem, reduceIte, Nat.reduceLT, Nat.reduceLeDiff, Nat.reduceEqDiff, Nat.reduceAdd, Nat.reduceMul, Nat.reduceSub, Nat.reduceBEq, Int.reduceToNat, List.reduceReplicate, reduceCtorEq, rows_get l i hil, rows_one]
        repeat (refine And.intro (by first | omega | (and_intros <;> first | omega | exact rows_row _ | decide | (simp; done) | (simp; omega)) | fail) ?_)
        refine hK _ (hN7 _ (hB6 _ ?_))
        refine Aw_tx hE [0, 1, 5, 6, 7] [] fun K hK => ?_
        simp only [go_sem, reduceIte, Nat.reduceLT, Nat.reduceLeDiff, Nat.reduceEqDiff, Nat.reduceAdd, Nat.reduceMul, Nat.reduceSub, Nat.reduceBEq, Int.reduceToNat, List.reduceReplicate, reduceCtorEq]
        repeat (refine And.intro (by first | omega | (and_intros <;> first | omega | exact rows_row _ | decide | (simp; done) | (simp; omega)) | fail) ?_)
        refine hK _ (hN3 ((i + 1, (o ++ [l.getD i 0], n))) _ (⟨by omega, by rw [hst, hn, decide_eq_false hne]; simp, by simp; omega⟩) (by omega) (Le_tk 41 8 rfl))
      · have hne : l.getD i 0 = x := by simpa using hc14
        refine Aw_skip (hN7 _ (hB6 _ ?_))
        refine Aw_tx hE [0, 1, 5, 6, 7] [] fun K hK => ?_
        simp only [go_sem, reduceIte, Nat.reduceLT, Nat.reduceLeDiff, Nat.reduceEqDiff, Nat.reduceAdd, Nat.reduceMul, Nat.reduceSub, Nat.reduceBEq, Int.reduceToNat, List.reduceReplicate, reduceCtorEq]
        repeat (refine And.intro (by first | omega | (and_intros <;> first | omega | exact rows_row _ | decide | (simp; done) | (simp; omega)) | fail) ?_)
        refine hK _ (hN3 ((i + 1, (o, n))) _ (⟨by omega, by rw [hst, hn, decide_eq_true hne]; simp, by simp only; omega⟩) (by omega) (Le.refl _))
  · simp only [decide_eq_false_iff_not] at hc5
    obtain ⟨i, o, n⟩ := i
    obtain ⟨hi1, hi2, hi3⟩ := hi
    simp only at hi1 hi2 hi3 hc5 ⊢
    rw [List.take_of_length_le (by omega)] at hi2
    have hmk : mkL l x = if n then o else o ++ [x] := by unfold mkL; rw [hi2]
    refine Aw_exit (hX4 _ _ (hX3 _ _ (hE2 _ (hB1 _ ?_))))
    refine Aw_sq fun B15 hB15 hR15 hX15 => ?_
    refine Aw_st hE [1, 5, 43] [] fun K hK => ?_
    simp only [go_sem, reduceIte, Nat.reduceLT, Nat.reduceLeDiff, Nat.reduceEqDiff, Nat.reduceAdd, Nat.reduceMul, Nat.reduceSub, Nat.reduceBEq, Int.reduceToNat, List.reduceReplicate, reduceCtorEq]
    repeat (refine And.intro (by first | omega | (and_intros <;> first | omega | exact rows_row _ | decide | (simp; done) | (simp; omega)) | fail) ?_)
    refine hK _ (Aw_cond rfl (fun hc16 => ?_) (fun hc16 => ?_))
    · have hn : n = false := by simpa using hc16
      refine Aw_tx hE [5] [] fun K hK => ?_
      simp only [go_sem, reduceIte, Nat.reduceLT, Nat.reduceLeDiff, Nat.reduceEqDiff, Nat.reduceAdd, Nat.reduceMul, Nat.reduceSub, Nat.reduceBEq, Int.reduceToNat, List.reduceReplicate, reduceCtorEq, rows_one]
      repeat (refine And.intro (by first | omega | (and_intros <;> first | omega | exact rows_row _ | decide | (simp; done) | (simp; omega)) | fail) ?_)
      refine hK _ (hB15 _ ?_)
      refine Aw_st hE [4] [] fun K hK => ?_
      simp only [go_sem, reduceIte, Nat.reduceLT, Nat.reduceLeDiff, Nat.reduceEqDiff, Nat.reduceAdd, Nat.reduceMul, Nat.reduceSub, Nat.reduceBEq, Int.reduceToNat, List.reduceReplicate, reduceCtorEq]
      repeat (refine And.intro (by first | omega | (and_intros <;> first | omega | exact rows_row _ | decide | (simp; done) | (simp; omega)) | fail) ?_)
      refine hK _ (Aw_ret (hQ _ ?_))
      simp only [go_sem, reduceIte, Nat.reduceLT, Nat.reduceLeDiff, Nat.reduceEqDiff, Nat.reduceAdd, Nat.reduceMul, Nat.reduceSub, Nat.reduceBEq, Int.reduceToNat, List.reduceReplicate, reduceCtorEq]
      rw [hmk, hn]; rfl
    · have hn : n = true := by simpa using hc16
      refine Aw_skip (hB15 _ ?_)
      refine Aw_st hE [4] [] fun K hK => ?_
      simp only [go_sem, reduceIte, Nat.reduceLT, Nat.reduceLeDiff, Nat.reduceEqDiff, Nat.reduceAdd, Nat.reduceMul, Nat.reduceSub, Nat.reduceBEq, Int.reduceToNat, List.reduceReplicate, reduceCtorEq]
      repeat (refine And.intro (by first | omega | (and_intros <;> first | omega | exact rows_row _ | decide | (simp; done) | (simp; omega)) | fail) ?_)
      refine hK _ (Aw_ret (hQ _ ?_))
      simp only [go_sem, reduceIte, Nat.reduceLT, Nat.reduceLeDiff, Nat.reduceEqDiff, Nat.reduceAdd, Nat.reduceMul, Nat.reduceSub, Nat.reduceBEq, Int.reduceToNat, List.reduceReplicate, reduceCtorEq]
      rw [hmk, hn]; rfl

def gCopyR : List AV → Option (Prop × AV)
  | [.agg [.v (.int .i64 f), .v (.int .i64 b), .sl _ e1, .v (.int .i64 k), .sl _ e2]] => (match intsL e1, intsL e2 with | some p, some m => some (p.length ≤ 1000000 ∧ m.length ≤ 1000000, .agg [iv f, iv b, isl p, iv k, isl m]) | _, _ => none)
  | _ => none
def dCopyR : DFn := { g := gCopyR }
attribute [go_sem] gCopyR dCopyR
theorem l4Copy_ok : Fine Tryz.prog 73 dCopyR.con := by
  refine fine_det (T := TT) Tryz.func73 rfl Tryz.ntmps73 (by rw [Tryz.results73]) rfl rfl tt gs_nil ds_nil ?_
  intro args c r h hc
  simp only [dCopyR, gCopyR] at h
  split at h
  rotate_left
  · cases h
  split at h
  rotate_left
  · cases h
  rename_i f b t1 e1 lk t2 e2 _ _ p m hl1 hl2
  obtain rfl := intsL_eq hl1
  obtain rfl := intsL_eq hl2
  obtain ⟨rfl, rfl⟩ := Prod.mk.inj (Option.some.inj h)
  refine ⟨by simp, fun k E hE Q hQ => ?_⟩
  refine Aw_st hE [1, 2] [1, 2] fun K hK => ?_
  simp only [go_sem, reduceIte, Nat.reduceLT, Nat.reduceLeDiff, Nat.reduceEqDiff, Nat.reduceAdd, Nat.reduceMul, Nat.reduceSub, Nat.reduceBEq, Int.reduceToNat, List.reduceReplicate, reduceCtorEq]
  repeat (refine And.intro (by first | omega | (and_intros <;> first | omega | exact rows_row _ | decide | (simp; done) | (simp; omega)) | fail) ?_)
  refine hK _ ?_; clear hK K
  refine Aw_st hE [1, 2] [1, 2] fun K hK => ?_
  simp only [go_sem, reduceIte, Nat.reduceLT, Nat.reduceLeDiff, Nat.reduceEqDiff, Nat.reduceAdd, Nat.reduceMul, Nat.reduceSub, Nat.reduceBEq, Int.reduceToNat, List.reduceReplicate, reduceCtorEq]
  repeat (refine And.intro (by first | omega | (and_intros <;> first | omega | exact rows_row _ | decide | (simp; done) | (simp; omega)) | fail) ?_)
  refine hK _ ?_; clear hK K
  refine Aw_st hE [1, 2] [1, 2] fun K hK => ?_
  simp only [go_sem, reduceIte, Nat.reduceLT, Nat.reduceLeDiff, Nat.reduceEqDiff, Nat.reduceAdd, Nat.reduceMul, Nat.reduceSub, Nat.reduceBEq, Int.reduceToNat, List.reduceReplicate, reduceCtorEq]
  repeat (refine And.intro (by first | omega | (and_intros <;> first | omega | exact rows_row _ | decide | (simp; done) | (simp; omega)) | fail) ?_)
  refine hK _ ?_; clear hK K
  refine Aw_st hE [2] [2] fun K hK => ?_
  simp only [go_sem, reduceIte, Nat.reduceLT, Nat.reduceLeDiff, Nat.reduceEqDiff, Nat.reduceAdd, Nat.reduceMul, Nat.reduceSub, Nat.reduceBEq, Int.reduceToNat, List.reduceReplicate, reduceCtorEq]
  repeat (refine And.intro (by first | omega | (and_intros <;> first | omega | exact rows_row _ | decide | (simp; done) | (simp; omega)) | fail) ?_)
  refine hK _ (Aw_ret (hQ _ ?_))
  simp only [go_sem, reduceIte, Nat.reduceLT, Nat.reduceLeDiff, Nat.reduceEqDiff, Nat.reduceAdd, Nat.reduceMul, Nat.reduceSub, Nat.reduceBEq, Int.reduceToNat, List.reduceReplicate, reduceCtorEq]

end Go.Proofs.W
end
section
namespace Go.Proofs.W
open Go Go.Eng Go.RowKit
set_option linter.unusedSimpArgs false
set_option maxRecDepth 10000

def clL (l : List Int) (x : Int) : List Int := l.filter fun y => !decide (y = x)
theorem clL_step (x : Int) (l : List Int) (i : Nat) (h : i < l.length) : clL (l.take (i + 1)) x = clL (l.take i) x ++ (if decide (l.getD i 0 = x) then [] else [l.getD i 0]) := by
  have e : l.getD i 0 = l[i] := by simp [List.getD_eq_getElem?_getD, h]
  unfold clL
  rw [List.take_succ_eq_append_getElem h, List.filter_append, e]
  by_cases hx : l[i] = x <;> simp [hx]
def gCl : List AV → Option (Prop × AV) | [.sl _ els, .v (.int .i64 x)] => (match intsL els with | some l => some (l.length ≤ 1000000, isl (clL l x)) | none => none) | _ => none
def dCl : DFn := { g := gCl }
def gClear : List AV → Option (Prop × AV)
  | [.agg [.v (.int .i64 f), .v (.int .i64 b), .sl _ e1, .v (.int .i64 k), .sl _ e2], .v (.int .i64 x)] => (match intsL e1, intsL e2 with
    | some p, some m => some (p.length ≤ 1000000 ∧ m.length ≤ 1000000, .tup [if rtOk f b p k m && isM x then .agg [iv f, iv b, isl p, iv k, isl (clL m x)] else .agg [iv 0, iv 0, isl [], iv 0, isl []], bv (rtOk f b p k m && isM x)])
    | _, _ => none)
  | _ => none
def dClear : DFn := { g := gClear }
def dClearI (pb : Addr) : DFn := { g := gClear, inv := WP pb }
attribute [go_sem] gCl dCl gClear dClear dClearI

theorem l4Clear_ok : Fine Tryz.prog 75 dCl.con := by
  refine fine_det (T := TT) Tryz.func75 rfl Tryz.ntmps75 (by rw [Tryz.results75]) rfl rfl tt (gs_nil) (ds_nil) ?_
  intro args c r h hc
  simp only [dCl, gCl] at h
  split at h
  rotate_left
  · cases h
  split at h
  rotate_left
  · cases h
  rename_i t els x _ l hl
  obtain rfl := intsL_eq hl
  obtain ⟨rfl, rfl⟩ := Prod.mk.inj (Option.some.inj h)
  refine ⟨by simp, fun k E hE Q hQ => ?_⟩
  refine Aw_st hE [0, 1] [] fun K hK => ?_
  simp only [go_sem, reduceIte, Nat.reduceLT, Nat.reduceLeDiff, Nat.reduceEqDiff, Nat.reduceAdd, Nat.reduceMul, Nat.reduceSub, Nat.reduceBEq, Int.reduceToNat, List.reduceReplicate, reduceCtorEq]
  repeat (refine And.intro (by first | omega | (and_intros <;> first | omega | exact rows_row _ | decide | (simp; done) | (simp; omega)) | fail) ?_)
  refine hK _ ?_; clear hK K
  refine Aw_st hE [0, 1, 5] [] fun K hK => ?_
  simp only [go_sem, reduceIte, Nat.reduceLT, Nat.reduceLeDiff, Nat.reduceEqDiff, Nat.reduceAdd, Nat.reduceMul, Nat.reduceSub, Nat.reduceBEq, Int.reduceToNat, List.reduceReplicate, reduceCtorEq]
  repeat (refine And.intro (by first | omega | (and_intros <;> first | omega | exact rows_row _ | decide | (simp; done) | (simp; omega)) | fail) ?_)
  refine hK _ ?_; clear hK K
  refine Aw_sq fun B1 hB1 hR1 hX1 => ?_
  refine Aw_st hE [0, 1, 5, 6] [] fun K hK => ?_
  simp only [go_sem, reduceIte, Nat.reduceLT, Nat.reduceLeDiff, Nat.reduceEqDiff, Nat.reduceAdd, Nat.reduceMul, Nat.reduceSub, Nat.reduceBEq, Int.reduceToNat, List.reduceReplicate, reduceCtorEq]
  repeat (refine And.intro (by first | omega | (and_intros <;> first | omega | exact rows_row _ | decide | (simp; done) | (simp; omega)) | fail) ?_)
  refine hK _ ?_; clear hK K
  refine Aw_bk fun B2 hN2 hE2 hR2 hX2 => ?_
  refine Aw_lp (fun i : Nat × List Int => ⟨28, [(0, isl l), (1, iv x), (5, .sl (some (7, 0, 3)) (rows i.2)), (6, iv i.1)], [], k⟩) (fun i : Nat × List Int => i.1 ≤ l.length ∧ clL (l.take i.1) x = i.2 ∧ i.2.length ≤ i.1) (fun i : Nat × List Int => l.length - i.1) ((0, [])) (Le_wk (by first | omega | (dsimp only; omega) | (simp only; omega) | (simp; omega)) (by simp only [go_sem, reduceIte, Nat.reduceLT, Nat.reduceLeDiff, Nat.reduceEqDiff, Nat.reduceAdd, Nat.reduceMul, Nat.reduceSub, Nat.reduceBEq, Int.reduceToNat, List.reduceReplicate, reduceCtorEq]; rfl) (by simp only [go_sem, reduceIte, Nat.reduceLT, Nat.reduceLeDiff, Nat.reduceEqDiff, Nat.reduceAdd, Nat.reduceMul, Nat.reduceSub, Nat.reduceBEq, Int.reduceToNat, List.reduceReplicate, reduceCtorEq])) (⟨by omega, rfl, by simp⟩) fun i hi B3 hN3 hR3 hX3 => ?_
  refine Aw_sq fun B4 hB4 hR4 hX4 => ?_
  refine Aw_st hE [0, 1, 5, 6, 11] [] fun K hK => ?_
  simp only [go_sem, reduceIte, Nat.reduceLT, Nat.reduceLeDiff, Nat.reduceEqDiff, Nat.reduceAdd, Nat.reduceMul, Nat.reduceSub, Nat.reduceBEq, Int.reduceToNat, List.reduceReplicate, reduceCtorEq]
  repeat (refine And.intro (by first | omega | (and_intros <;> first | omega | exact rows_row _ | decide | (simp; done) | (simp; omega)) | fail) ?_)
  refine hK _ (Aw_cond rfl (fun hc5 => ?_) (fun hc5 => ?_))
  · simp only [decide_eq_true_eq] at hc5
    obtain ⟨i, o⟩ := i
    obtain ⟨hi1, hi2, hi3⟩ := hi
    simp only at hi1 hi2 hi3 hc5 ⊢
    have hil : i < l.length := by omega
    have hst := clL_step x l i hil
    refine Aw_skip (hB4 _ ?_)
    refine Aw_sq fun B6 hB6 hR6 hX6 => ?_
    refine Aw_bk fun B7 hN7 hE7 hR7 hX7 => ?_
    refine Aw_st hE [0, 1, 5, 6, 19] [] fun K hK => ?_
    simp only [go_sem, reduceIte, Nat.reduceLT, Nat.reduceLeDiff, Nat.reduceEqDiff, Nat.reduceAdd, Nat.reduceMul, Nat.reduceSub, Nat.reduceBEq, Int.reduceToNat, List.reduceReplicate, reduceCtorEq, rows_get l i hil]
    repeat (refine And.intro (by first | omega | (and_intros <;> first | omega | exact rows_row _ | decide | (simp; done) | (simp; omega)) | fail) ?_)
    refine hK _ (Aw_cond rfl (fun hc8 => ?_) (fun hc8 => ?_))
    · have hne : ¬ l.getD i 0 = x := by simpa using hc8
      refine Aw_tx hE [0, 1, 5, 6] [] fun K hK => ?_
      simp only [go_sem, reduceIte, Nat.reduceLT, Nat.reduceLeDiff, Nat.reduceEqDiff, Nat.reduceAdd, Nat.reduceMul, Nat.reduceSub, Nat.reduceBEq, Int.reduceToNat, List.reduceReplicate, reduceCtorEq, rows_get l i hil, rows_one]
      repeat (refine And.intro (by first | omega | (and_intros <;> first | omega | exact rows_row _ | decide | (simp; done) | (simp; omega)) | fail) ?_)
      refine hK _ (hN7 _ (hB6 _ ?_))
      refine Aw_tx hE [0, 1, 5, 6] [] fun K hK => ?_
      simp only [go_sem, reduceIte, Nat.reduceLT, Nat.reduceLeDiff, Nat.reduceEqDiff, Nat.reduceAdd, Nat.reduceMul, Nat.reduceSub, Nat.reduceBEq, Int.reduceToNat, List.reduceReplicate, reduceCtorEq]
      repeat (refine And.intro (by first | omega | (and_intros <;> first | omega | exact rows_row _ | decide | (simp; done) | (simp; omega)) | fail) ?_)
      refine hK _ (hN3 ((i + 1, o ++ [l.getD i 0])) _ (⟨by omega, by rw [hst, hi2, decide_eq_false hne]; rfl, by simp; omega⟩) (by omega) (Le_tk 26 7 rfl))
    · have hne : l.getD i 0 = x := by simpa using hc8
      refine Aw_skip (hN7 _ (hB6 _ ?_))
      refine Aw_tx hE [0, 1, 5, 6] [] fun K hK => ?_
      simp only [go_sem, reduceIte, Nat.reduceLT, Nat.reduceLeDiff, Nat.reduceEqDiff, Nat.reduceAdd, Nat.reduceMul, Nat.reduceSub, Nat.reduceBEq, Int.reduceToNat, List.reduceReplicate, reduceCtorEq]
      repeat (refine And.intro (by first | omega | (and_intros <;> first | omega | exact rows_row _ | decide | (simp; done) | (simp; omega)) | fail) ?_)
      refine hK _ (hN3 ((i + 1, o)) _ (⟨by omega, by rw [hst, hi2, decide_eq_true hne]; simp, by simp only; omega⟩) (by omega) (Le.refl _))
  · simp only [decide_eq_false_iff_not] at hc5
    obtain ⟨i, o⟩ := i
    obtain ⟨hi1, hi2, hi3⟩ := hi
    simp only at hi1 hi2 hi3 hc5 ⊢
    rw [List.take_of_length_le (by omega)] at hi2
    refine Aw_exit (hX4 _ _ (hX3 _ _ (hE2 _ (hB1 _ ?_))))
    refine Aw_st hE [4] [] fun K hK => ?_
    simp only [go_sem, reduceIte, Nat.reduceLT, Nat.reduceLeDiff, Nat.reduceEqDiff, Nat.reduceAdd, Nat.reduceMul, Nat.reduceSub, Nat.reduceBEq, Int.reduceToNat, List.reduceReplicate, reduceCtorEq]
    repeat (refine And.intro (by first | omega | (and_intros <;> first | omega | exact rows_row _ | decide | (simp; done) | (simp; omega)) | fail) ?_)
    refine hK _ (Aw_ret (hQ _ ?_))
    simp only [go_sem, reduceIte, Nat.reduceLT, Nat.reduceLeDiff, Nat.reduceEqDiff, Nat.reduceAdd, Nat.reduceMul, Nat.reduceSub, Nat.reduceBEq, Int.reduceToNat, List.reduceReplicate, reduceCtorEq]
    rw [hi2]

end Go.Proofs.W
end
section
namespace Go.Proofs.W
open Go Go.Eng Go.RowKit
set_option linter.unusedSimpArgs false
set_option maxRecDepth 10000

def gEqC : List AV → Option (Prop × AV) | [.v (.int .i64 y), .el [.v (.int .i64 x)]] => some (True, bv (decide (y = x))) | _ => none
def dEqC : DFn := { g := gEqC }
attribute [go_sem] gEqC dEqC
theorem eqC_ok : Fine Tryz.prog 52 dEqC.con := by
  refine fine_det (T := TT) Tryz.func52 rfl Tryz.ntmps52 (by rw [Tryz.results52]) rfl rfl tt (gs_nil) (ds_nil) ?_
  intro args c r h hc
  simp only [dEqC, gEqC] at h
  split at h
  rotate_left
  · cases h
  obtain ⟨rfl, rfl⟩ := Prod.mk.inj (Option.some.inj h)
  refine ⟨by simp, fun k E hE Q hQ => ?_⟩
  refine Aw_st hE [0, 1] [] fun K hK => ?_
  simp only [go_sem, reduceIte, Nat.reduceLT, Nat.reduceLeDiff, Nat.reduceEqDiff, Nat.reduceAdd, Nat.reduceMul, Nat.reduceSub, Nat.reduceBEq, Int.reduceToNat, List.reduceReplicate, reduceCtorEq]
  repeat (refine And.intro (by first | omega | (and_intros <;> first | omega | exact rows_row _ | decide | (simp; done) | (simp; omega)) | fail) ?_)
  refine hK _ ?_; clear hK K
  refine Aw_st hE [3] [] fun K hK => ?_
  simp only [go_sem, reduceIte, Nat.reduceLT, Nat.reduceLeDiff, Nat.reduceEqDiff, Nat.reduceAdd, Nat.reduceMul, Nat.reduceSub, Nat.reduceBEq, Int.reduceToNat, List.reduceReplicate, reduceCtorEq]
  repeat (refine And.intro (by first | omega | (and_intros <;> first | omega | exact rows_row _ | decide | (simp; done) | (simp; omega)) | fail) ?_)
  refine hK _ (Aw_ret (hQ _ ?_))
  simp only [go_sem, reduceIte, Nat.reduceLT, Nat.reduceLeDiff, Nat.reduceEqDiff, Nat.reduceAdd, Nat.reduceMul, Nat.reduceSub, Nat.reduceBEq, Int.reduceToNat, List.reduceReplicate, reduceCtorEq]
abbrev clo (x : Int) : AV := .dv (.fn 52 [.ptr [.v (.int .i64 x)]])
def cIdx : ConM := {
  pre := fun args m1 => ∃ (l : List Int) (cap : Nat) (x : Int), args = [.xs 1000 0 l.length cap 1, clo x] ∧ m1 = [(1000, cI l ++ jk (cap - l.length))] ∧ l.length ≤ 1000000
  post := fun args m1 r m2 => m2 = m1 ∧ ∀ (l : List Int) (cap : Nat) (x : Int), args = [.xs 1000 0 l.length cap 1, clo x] → m1 = [(1000, cI l ++ jk (cap - l.length))] → ∃ r0 : Int, r = iv r0 ∧ ((r0 = -1 ∧ ∀ k, k < l.length → l.getD k 0 ≠ x) ∨ ∃ i : Nat, r0 = i ∧ i < l.length ∧ l.getD i 0 = x ∧ ∀ k, k < i → l.getD k 0 ≠ x) }
theorem clo_inj {l l' : List Int} {cap cap' : Nat} {x x' : Int} (h1 : [AV.xs 1000 0 l.length cap 1, clo x] = [AV.xs 1000 0 l'.length cap' 1, clo x']) (h2 : [(1000, cI l ++ jk (cap - l.length))] = [(1000, cI l' ++ jk (cap' - l'.length))]) : l = l' ∧ cap = cap' ∧ x = x' := by
  simp only [List.cons.injEq, AV.xs.injEq, AV.dv.injEq, DV.fn.injEq, DV.ptr.injEq, DV.v.injEq, Value.int.injEq, Prod.mk.injEq, and_true, true_and] at h1 h2
  obtain ⟨⟨h3, h4⟩, h5⟩ := h1
  have h8 := List.append_inj_left h2 (by simp [cI_len, h3])
  exact ⟨cI_inj h8, h4, h5⟩

theorem idx_ok : FineM Tryz.prog 87 cIdx := by
  refine fineM_of [] ms_nil [] mm_nil [] [] ex_nil (T := TT) Tryz.func87 rfl Tryz.ntmps87 (by rw [Tryz.results87]) rfl rfl tt gs_nil (ds_cons eqC_ok ds_nil) ?_
  rintro args m1 ⟨l, cap, x, rfl, rfl, hl⟩
  refine ⟨by simp, fun E hE Q hQ => ?_⟩
  have hfin : ∀ (r0 : Int) m2, m2 = [(1000, cI l ++ jk (cap - l.length))] → ((r0 = -1 ∧ ∀ k, k < l.length → l.getD k 0 ≠ x) ∨ ∃ i : Nat, r0 = i ∧ i < l.length ∧ l.getD i 0 = x ∧ ∀ k, k < i → l.getD k 0 ≠ x) → cIdx.post [.xs 1000 0 l.length cap 1, clo x] [(1000, cI l ++ jk (cap - l.length))] (iv r0) m2 := by
    intro r0 m2 hm h
    refine ⟨hm, fun l' cap' x' ha hb => ?_⟩
    obtain ⟨rfl, rfl, rfl⟩ := clo_inj ha hb
    exact ⟨r0, rfl, h⟩
  generalize hn : l.length = n at *
  refine Aw_st hE [0, 1] [1000] fun K hK => ?_
  simp only [go_sem, reduceIte, Nat.reduceLT, Nat.reduceLeDiff, Nat.reduceEqDiff, Nat.reduceAdd, Nat.reduceMul, Nat.reduceSub, Nat.reduceBEq, Int.reduceToNat, List.reduceReplicate, reduceCtorEq]
  repeat (refine And.intro (by first | omega | (and_intros <;> first | omega | exact rows_row _ | decide | (simp; done) | (simp; omega)) | fail) ?_)
  refine hK _ ?_; clear hK K
  refine Aw_sq fun B1 hB1 hR1 hX1 => ?_
  refine Aw_st hE [0, 1, 7, 8] [1000] fun K hK => ?_
  simp only [go_sem, reduceIte, Nat.reduceLT, Nat.reduceLeDiff, Nat.reduceEqDiff, Nat.reduceAdd, Nat.reduceMul, Nat.reduceSub, Nat.reduceBEq, Int.reduceToNat, List.reduceReplicate, reduceCtorEq]
  repeat (refine And.intro (by first | omega | (and_intros <;> first | omega | exact rows_row _ | decide | (simp; done) | (simp; omega)) | fail) ?_)
  refine hK _ ?_; clear hK K
  refine Aw_bk fun B2 hN2 hE2 hR2 hX2 => ?_
  refine Aw_lp (fun i : Nat => ⟨19, [(0, .xs 1000 0 n cap 1), (1, clo x), (7, iv n), (8, iv i)], [(1000, cI l ++ jk (cap - n))], 0⟩) (fun i : Nat => i ≤ n ∧ (∀ k, k < i → l.getD k 0 ≠ x)) (fun i : Nat => n - i) (0) (Le.refl _) (⟨by omega, by omega⟩) fun i hi B3 hN3 hR3 hX3 => ?_
  refine Aw_st hE [0, 1, 7, 8, 9] [1000] fun K hK => ?_
  simp only [go_sem, reduceIte, Nat.reduceLT, Nat.reduceLeDiff, Nat.reduceEqDiff, Nat.reduceAdd, Nat.reduceMul, Nat.reduceSub, Nat.reduceBEq, Int.reduceToNat, List.reduceReplicate, reduceCtorEq]
  repeat (refine And.intro (by first | omega | (and_intros <;> first | omega | exact rows_row _ | decide | (simp; done) | (simp; omega)) | fail) ?_)
  refine hK _ ?_; clear hK K
  refine Aw_sq fun B4 hB4 hR4 hX4 => ?_
  refine Aw_cond rfl (fun hc5 => ?_) (fun hc5 => ?_)
  · simp only [decide_eq_true_eq] at hc5
    have hil : i < n := by omega
    refine Aw_skip (hB4 _ ?_)
    refine Aw_sq fun B6 hB6 hR6 hX6 => ?_
    refine Aw_bk fun B7 hN7 hE7 hR7 hX7 => ?_
    refine Aw_st hE [0, 1, 5, 7, 8] [1000] fun K hK => ?_
    simp only [go_sem, reduceIte, Nat.reduceLT, Nat.reduceLeDiff, Nat.reduceEqDiff, Nat.reduceAdd, Nat.reduceMul, Nat.reduceSub, Nat.reduceBEq, Int.reduceToNat, List.reduceReplicate, reduceCtorEq]
    repeat (refine And.intro (by first | omega | (and_intros <;> first | omega | exact rows_row _ | decide | (simp; done) | (simp; omega)) | fail) ?_)
    refine hK _ ?_; clear hK K
    refine Aw_st hE [0, 1, 5, 7, 8, 16] [1000] fun K hK => ?_
    simp only [go_sem, reduceIte, Nat.reduceLT, Nat.reduceLeDiff, Nat.reduceEqDiff, Nat.reduceAdd, Nat.reduceMul, Nat.reduceSub, Nat.reduceBEq, Int.reduceToNat, List.reduceReplicate, reduceCtorEq, cI_head l (jk (cap - n)) i (by omega)]
    repeat (refine And.intro (by first | omega | (and_intros <;> first | omega | exact rows_row _ | decide | (simp; done) | (simp; omega)) | fail) ?_)
    refine hK _ (Aw_cond rfl (fun hc8 => ?_) (fun hc8 => ?_))
    · simp only [decide_eq_true_eq] at hc8
      refine Aw_st hE [4] [1000] fun K hK => ?_
      simp only [go_sem, reduceIte, Nat.reduceLT, Nat.reduceLeDiff, Nat.reduceEqDiff, Nat.reduceAdd, Nat.reduceMul, Nat.reduceSub, Nat.reduceBEq, Int.reduceToNat, List.reduceReplicate, reduceCtorEq]
      repeat (refine And.intro (by first | omega | (and_intros <;> first | omega | exact rows_row _ | decide | (simp; done) | (simp; omega)) | fail) ?_)
      refine hK _ (Aw_ret (hR7 _ (hR6 _ (hR3 _ (hR2 _ (hR1 _ (hQ _ ?_)))))))
      simp only [go_sem, reduceIte, Nat.reduceLT, Nat.reduceLeDiff, Nat.reduceEqDiff, Nat.reduceAdd, Nat.reduceMul, Nat.reduceSub, Nat.reduceBEq, Int.reduceToNat, List.reduceReplicate, reduceCtorEq]
      exact hfin _ _ rfl (.inr ⟨i, rfl, hil, hc8, hi.2⟩)
    · simp only [decide_eq_false_iff_not] at hc8
      have hnx : ∀ k, k < i + 1 → l.getD k 0 ≠ x := fun k hk => (Nat.lt_succ_iff_lt_or_eq.1 hk).elim (hi.2 k) (fun e => by rw [e]; exact hc8)
      refine Aw_skip (hN7 _ (hB6 _ ?_))
      refine Aw_tx hE [0, 1, 7, 8] [1000] fun K hK => ?_
      simp only [go_sem, reduceIte, Nat.reduceLT, Nat.reduceLeDiff, Nat.reduceEqDiff, Nat.reduceAdd, Nat.reduceMul, Nat.reduceSub, Nat.reduceBEq, Int.reduceToNat, List.reduceReplicate, reduceCtorEq]
      repeat (refine And.intro (by first | omega | (and_intros <;> first | omega | exact rows_row _ | decide | (simp; done) | (simp; omega)) | fail) ?_)
      refine hK _ (hN3 (i + 1) _ (⟨by omega, hnx⟩) (by omega) (Le.refl _))
  · simp only [decide_eq_false_iff_not] at hc5
    refine Aw_exit (hX4 _ _ (hX3 _ _ (hE2 _ (hB1 _ ?_))))
    refine Aw_st hE [4] [1000] fun K hK => ?_
    simp only [go_sem, reduceIte, Nat.reduceLT, Nat.reduceLeDiff, Nat.reduceEqDiff, Nat.reduceAdd, Nat.reduceMul, Nat.reduceSub, Nat.reduceBEq, Int.reduceToNat, List.reduceReplicate, reduceCtorEq]
    repeat (refine And.intro (by first | omega | (and_intros <;> first | omega | exact rows_row _ | decide | (simp; done) | (simp; omega)) | fail) ?_)
    refine hK _ (Aw_ret (hQ _ ?_))
    simp only [go_sem, reduceIte, Nat.reduceLT, Nat.reduceLeDiff, Nat.reduceEqDiff, Nat.reduceAdd, Nat.reduceMul, Nat.reduceSub, Nat.reduceBEq, Int.reduceToNat, List.reduceReplicate, reduceCtorEq]
    exact hfin _ _ rfl (.inl ⟨rfl, fun k hk => hi.2 k (by omega)⟩)

/-- slices.DeleteFunc: what stays is pulled together, the rest is cleared -/
def cDel : ConM := {
  pre := fun args m1 => ∃ (l : List Int) (cap : Nat) (x : Int), args = [.xs 1000 0 l.length cap 1, clo x] ∧ m1 = [(1000, cI l ++ jk (cap - l.length))] ∧ l.length ≤ 1000000 ∧ l.length ≤ cap
  post := fun args m1 r m2 => ∀ (l : List Int) (cap : Nat) (x : Int), args = [.xs 1000 0 l.length cap 1, clo x] → m1 = [(1000, cI l ++ jk (cap - l.length))] → ∃ rest, r = .xs 1000 0 (clL l x).length cap 1 ∧ m2 = [(1000, cI (clL l x) ++ rest)] }

theorem del_ok : FineM Tryz.prog 51 cDel := by
  refine fineM_of [] ms_nil [(87, (cIdx, [], []))] (mm_cons idx_ok (by decide) mm_nil) [] [] ex_nil (T := TT) Tryz.func51 rfl Tryz.ntmps51 (by rw [Tryz.results51]) rfl rfl tt gs_nil (ds_cons eqC_ok ds_nil) ?_
  rintro args m1 ⟨l, cap, x, rfl, rfl, hl, hcap⟩
  refine ⟨by simp, fun E hE Q hQ => ?_⟩
  have hfin : ∀ L m2, (∃ rest, m2 = [(1000, cI (clL l x) ++ rest)]) → L = (clL l x).length → cDel.post [.xs 1000 0 l.length cap 1, clo x] [(1000, cI l ++ jk (cap - l.length))] (.xs 1000 0 L cap 1) m2 := by
    rintro L m2 ⟨rest, rfl⟩ rfl l' cap' x' ha hb
    obtain ⟨rfl, rfl, rfl⟩ := clo_inj ha hb
    exact ⟨rest, rfl, rfl⟩
  generalize hn : l.length = n at *
  refine Aw_st hE [0, 1] [1000] fun K hK => ?_
  simp only [go_sem, reduceIte, Nat.reduceLT, Nat.reduceLeDiff, Nat.reduceEqDiff, Nat.reduceAdd, Nat.reduceMul, Nat.reduceSub, Nat.reduceBEq, Int.reduceToNat, List.reduceReplicate, reduceCtorEq]
  refine hK _ ?_; clear hK K
  refine Aw_st hE [0, 1, 5] [1000] fun K hK => ?_
  simp only [go_sem, reduceIte, Nat.reduceLT, Nat.reduceLeDiff, Nat.reduceEqDiff, Nat.reduceAdd, Nat.reduceMul, Nat.reduceSub, Nat.reduceBEq, Int.reduceToNat, List.reduceReplicate, reduceCtorEq]
  have hpre : cIdx.pre [.xs 1000 0 n cap 1, clo x] [(1000, cI l ++ jk (cap - n))] := by rw [← hn]; exact ⟨l, cap, x, rfl, rfl, by omega⟩
  refine ⟨by decide, hpre, fun r m2 hp => ?_⟩
  obtain ⟨rfl, hq⟩ := hp
  obtain ⟨r0, rfl, hr⟩ := hq l cap x (by rw [hn]) (by rw [hn])
  rw [hn] at hr
  simp only [go_sem, reduceIte, Nat.reduceLT, Nat.reduceLeDiff, Nat.reduceEqDiff, Nat.reduceAdd, Nat.reduceMul, Nat.reduceSub, Nat.reduceBEq, Int.reduceToNat, List.reduceReplicate, reduceCtorEq]
  refine hK _ ?_; clear hK K
  refine Aw_sq fun B1 hB1 hR1 hX1 => ?_
  refine Aw_st hE [0, 1, 5, 12] [1000] fun K hK => ?_
  simp only [go_sem, reduceIte, Nat.reduceLT, Nat.reduceLeDiff, Nat.reduceEqDiff, Nat.reduceAdd, Nat.reduceMul, Nat.reduceSub, Nat.reduceBEq, Int.reduceToNat, List.reduceReplicate, reduceCtorEq]
  refine hK _ (Aw_cond rfl (fun hc2 => ?_) (fun hc2 => ?_))
  · simp only [decide_eq_true_eq] at hc2
    have hcl : clL l x = l := by
      rcases hr with ⟨_, hr⟩ | ⟨i, hi, _⟩
      · refine List.filter_eq_self.2 fun y hy => ?_
        obtain ⟨k, hk, rfl⟩ := List.mem_iff_getElem.1 hy
        have := hr k (by omega)
        simpa [List.getD_eq_getElem?_getD, hk] using this
      · omega
    refine Aw_st hE [4] [1000] fun K hK => ?_
    simp only [go_sem, reduceIte, Nat.reduceLT, Nat.reduceLeDiff, Nat.reduceEqDiff, Nat.reduceAdd, Nat.reduceMul, Nat.reduceSub, Nat.reduceBEq, Int.reduceToNat, List.reduceReplicate, reduceCtorEq]
    refine hK _ (Aw_ret (hR1 _ (hQ _ ?_)))
    simp only [go_sem, reduceIte, Nat.reduceLT, Nat.reduceLeDiff, Nat.reduceEqDiff, Nat.reduceAdd, Nat.reduceMul, Nat.reduceSub, Nat.reduceBEq, Int.reduceToNat, List.reduceReplicate, reduceCtorEq]
    exact hfin n _ ⟨jk (cap - n), by rw [hcl]⟩ (by rw [hcl, hn])
  · simp only [decide_eq_false_iff_not] at hc2
    obtain ⟨i0, rfl, hi0, hix, hno⟩ := hr.resolve_left fun h => hc2 h.1
    have hc0 : clL (l.take i0) x = l.take i0 := by
      refine List.filter_eq_self.2 fun y hy => ?_
      obtain ⟨k, hk, rfl⟩ := List.mem_iff_getElem.1 hy
      simp only [List.length_take] at hk
      have := hno k (by omega)
      simpa [List.getD_eq_getElem?_getD, show k < l.length by omega] using this
    have hc1 : clL (l.take (i0 + 1)) x = l.take i0 := by rw [clL_step x l i0 (by omega), hc0, decide_eq_true hix]; simp
    refine Aw_skip (hB1 _ ?_)
    refine Aw_sq fun B3 hB3 hR3 hX3 => ?_
    refine Aw_st hE [0, 1, 5, 6] [1000] fun K hK => ?_
    simp only [go_sem, reduceIte, Nat.reduceLT, Nat.reduceLeDiff, Nat.reduceEqDiff, Nat.reduceAdd, Nat.reduceMul, Nat.reduceSub, Nat.reduceBEq, Int.reduceToNat, List.reduceReplicate, reduceCtorEq]
    repeat (refine And.intro (by first | omega | (and_intros <;> first | omega | exact rows_row _ | decide | (simp; done) | (simp; omega)) | fail) ?_)
    refine hK _ ?_; clear hK K
    refine Aw_bk fun B4 hN4 hE4 hR4 hX4 => ?_
    refine Aw_lp (fun i : Nat × List Int => ⟨42, [(0, .xs 1000 0 n cap 1), (1, clo x), (5, iv (clL (l.take i.1) x).length), (6, iv i.1)], [(1000, cI i.2 ++ jk (cap - n))], 0⟩) (fun i => i.1 ≤ n ∧ i.2.length = n ∧ i.2.take (clL (l.take i.1) x).length = clL (l.take i.1) x ∧ i.2.drop i.1 = l.drop i.1 ∧ (clL (l.take i.1) x).length < i.1) (fun i => n - i.1) (i0 + 1, l) (by simp only [hc1, List.length_take, hn, Nat.min_eq_left (Nat.le_of_lt hi0)]; exact Le.refl _) ⟨by simp only; omega, hn, by simp only [hc1]; simp, rfl, by simp only [hc1]; simp; omega⟩ fun i hi B5 hN5 hR5 hX5 => ?_
    obtain ⟨j, cur⟩ := i
    obtain ⟨hi1, hi2, hi3, hi4, hi5⟩ := hi
    simp only at hi1 hi2 hi3 hi4 hi5
    have hstep := fun h => clL_step x l j h
    generalize hW : clL (l.take j) x = W at *
    refine Aw_sq fun B6 hB6 hR6 hX6 => ?_
    refine Aw_st hE [0, 1, 5, 6, 19] [1000] fun K hK => ?_
    simp only [go_sem, reduceIte, Nat.reduceLT, Nat.reduceLeDiff, Nat.reduceEqDiff, Nat.reduceAdd, Nat.reduceMul, Nat.reduceSub, Nat.reduceBEq, Int.reduceToNat, List.reduceReplicate, reduceCtorEq]
    refine hK _ (Aw_cond rfl (fun hc7 => ?_) (fun hc7 => ?_))
    · simp only [decide_eq_true_eq] at hc7
      have hjn : j < n := by omega
      have hst := hstep (by omega)
      have hcj : cur.getD j 0 = l.getD j 0 := by
        have := congrArg (fun q => q[0]?) hi4
        simp only [List.getElem?_drop, Nat.add_zero] at this
        simp only [List.getD_eq_getElem?_getD, this]
      refine Aw_skip (hB6 _ ?_)
      refine Aw_sq fun B8 hB8 hR8 hX8 => ?_
      refine Aw_bk fun B9 hN9 hE9 hR9 hX9 => ?_
      refine Aw_st hE [0, 1, 5, 6, 7] [1000] fun K hK => ?_
      simp only [go_sem, reduceIte, Nat.reduceLT, Nat.reduceLeDiff, Nat.reduceEqDiff, Nat.reduceAdd, Nat.reduceMul, Nat.reduceSub, Nat.reduceBEq, Int.reduceToNat, List.reduceReplicate, reduceCtorEq, cI_head cur (jk (cap - n)) j (by omega)]
      repeat (refine And.intro (by first | omega | (and_intros <;> first | omega | exact rows_row _ | decide | (simp; done) | (simp; omega)) | fail) ?_)
      refine hK _ ?_; clear hK K
      refine Aw_st hE [0, 1, 5, 6, 7, 29] [1000] fun K hK => ?_
      simp only [go_sem, reduceIte, Nat.reduceLT, Nat.reduceLeDiff, Nat.reduceEqDiff, Nat.reduceAdd, Nat.reduceMul, Nat.reduceSub, Nat.reduceBEq, Int.reduceToNat, List.reduceReplicate, reduceCtorEq]
      repeat (refine And.intro (by first | omega | (and_intros <;> first | omega | exact rows_row _ | decide | (simp; done) | (simp; omega)) | fail) ?_)
      rw [hcj]
      refine hK _ (Aw_cond rfl (fun hc10 => ?_) (fun hc10 => ?_))
      · have hne : ¬ l.getD j 0 = x := by simpa using hc10
        have hst : clL (l.take (j + 1)) x = W ++ [l.getD j 0] := by rw [hst, decide_eq_false hne]; rfl
        have hset : (cI cur ++ jk (cap - n)).set W.length (iv (l.getD j 0)) = cI (cur.set W.length (l.getD j 0)) ++ jk (cap - n) := by
          rw [List.set_append_left _ _ (by rw [cI_len]; omega)]
          simp [cI, List.map_set, iv]
        refine Aw_st hE [0, 1, 5, 6] [1000] fun K hK => ?_
        simp only [go_sem, reduceIte, Nat.reduceLT, Nat.reduceLeDiff, Nat.reduceEqDiff, Nat.reduceAdd, Nat.reduceMul, Nat.reduceSub, Nat.reduceBEq, Int.reduceToNat, List.reduceReplicate, reduceCtorEq]
        repeat (refine And.intro (by first | omega | (and_intros <;> first | omega | exact rows_row _ | decide | (simp; done) | (simp; omega)) | fail) ?_)
        rw [hset]
        refine ⟨by simp [cI_len]; omega, ?_⟩
        refine hK _ ?_; clear hK K
        refine Aw_tx hE [0, 1, 5, 6] [1000] fun K hK => ?_
        simp only [go_sem, reduceIte, Nat.reduceLT, Nat.reduceLeDiff, Nat.reduceEqDiff, Nat.reduceAdd, Nat.reduceMul, Nat.reduceSub, Nat.reduceBEq, Int.reduceToNat, List.reduceReplicate, reduceCtorEq]
        repeat (refine And.intro (by first | omega | (and_intros <;> first | omega | exact rows_row _ | decide | (simp; done) | (simp; omega)) | fail) ?_)
        refine hK _ (hN9 _ (hB8 _ ?_))
        refine Aw_tx hE [0, 1, 5, 6] [1000] fun K hK => ?_
        simp only [go_sem, reduceIte, Nat.reduceLT, Nat.reduceLeDiff, Nat.reduceEqDiff, Nat.reduceAdd, Nat.reduceMul, Nat.reduceSub, Nat.reduceBEq, Int.reduceToNat, List.reduceReplicate, reduceCtorEq]
        repeat (refine And.intro (by first | omega | (and_intros <;> first | omega | exact rows_row _ | decide | (simp; done) | (simp; omega)) | fail) ?_)
        refine hK _ (hN5 (j + 1, cur.set W.length (l.getD j 0)) _ ⟨by simp only; omega, by simp [hi2], ?_, ?_, by simp only [hst]; simp; omega⟩ (by simp only; omega) (by simp only [hst, List.length_append]; exact Le.refl _))
        · simp only [hst, List.length_append, List.length_singleton]
          rw [List.take_succ_eq_append_getElem (by simp; omega), List.take_set_of_le (Nat.le_refl _), hi3]
          simp
        · simp only
          rw [List.drop_set_of_lt (by omega)]
          rw [← List.drop_drop, hi4, List.drop_drop]
      · have heq : l.getD j 0 = x := by simpa using hc10
        have hst : clL (l.take (j + 1)) x = W := by rw [hst, decide_eq_true heq]; simp
        refine Aw_skip (hN9 _ (hB8 _ ?_))
        refine Aw_tx hE [0, 1, 5, 6] [1000] fun K hK => ?_
        simp only [go_sem, reduceIte, Nat.reduceLT, Nat.reduceLeDiff, Nat.reduceEqDiff, Nat.reduceAdd, Nat.reduceMul, Nat.reduceSub, Nat.reduceBEq, Int.reduceToNat, List.reduceReplicate, reduceCtorEq]
        repeat (refine And.intro (by first | omega | (and_intros <;> first | omega | exact rows_row _ | decide | (simp; done) | (simp; omega)) | fail) ?_)
        refine hK _ (hN5 (j + 1, cur) _ ⟨by simp only; omega, hi2, by simp only [hst]; exact hi3, ?_, by simp only [hst]; omega⟩ (by simp only; omega) (by simp only [hst]; exact Le.refl _))
        simp only
        rw [← List.drop_drop, hi4, List.drop_drop]
    · simp only [decide_eq_false_iff_not] at hc7
      refine Aw_exit (hX6 _ _ (hX5 _ _ (hE4 _ (hB3 _ ?_))))
      refine Aw_st hE [0, 5] [1000] fun K hK => ?_
      simp only [go_sem, reduceIte, Nat.reduceLT, Nat.reduceLeDiff, Nat.reduceEqDiff, Nat.reduceAdd, Nat.reduceMul, Nat.reduceSub, Nat.reduceBEq, Int.reduceToNat, List.reduceReplicate, reduceCtorEq]
      repeat (refine And.intro (by first | omega | (and_intros <;> first | omega | exact rows_row _ | decide | (simp; done) | (simp; omega)) | fail) ?_)
      rw [if_neg (show cap ≠ W.length by omega)]
      refine ⟨⟨by simp [cI_len]; omega, rfl⟩, ?_⟩
      have hz : (List.replicate (n - W.length) [iv 0]).flatten = List.replicate (n - W.length) (iv 0) := by
        rw [List.flatten_replicate_singleton]
      rw [hz, setL_at _ _ _ (by simp [cI_len]; omega)]
      have htk : (cI cur ++ jk (cap - n)).take W.length = cI W := by
        rw [List.take_append_of_le_length (by rw [cI_len]; omega)]
        conv => rhs; rw [← hi3]
        simp [cI, List.map_take]
      rw [htk]
      have hWl : clL l x = W := by rw [← hW, List.take_of_length_le (by omega)]
      refine hK _ ?_; clear hK K
      refine Aw_st hE [4] [1000] fun K hK => ?_
      simp only [go_sem, reduceIte, Nat.reduceLT, Nat.reduceLeDiff, Nat.reduceEqDiff, Nat.reduceAdd, Nat.reduceMul, Nat.reduceSub, Nat.reduceBEq, Int.reduceToNat, List.reduceReplicate, reduceCtorEq]
      repeat (refine And.intro (by first | omega | (and_intros <;> first | omega | exact rows_row _ | decide | (simp; done) | (simp; omega)) | fail) ?_)
      refine hK _ (Aw_ret (hQ _ ?_))
      simp only [go_sem, reduceIte, Nat.reduceLT, Nat.reduceLeDiff, Nat.reduceEqDiff, Nat.reduceAdd, Nat.reduceMul, Nat.reduceSub, Nat.reduceBEq, Int.reduceToNat, List.reduceReplicate, reduceCtorEq]
      refine hfin _ _ ?_ (by rw [hWl])
      rw [hWl]
      exact ⟨_, by rw [List.append_assoc]⟩

def cIdxN : ConM := { pre := fun args m1 => ∃ x : Int, args = [.nl, clo x] ∧ m1 = [], post := fun _ _ r m2 => r = iv (-1) ∧ m2 = [] }
theorem idxN_ok : FineM Tryz.prog 87 cIdxN := by
  refine fineM_of [] ms_nil [] mm_nil [] [] ex_nil (T := TT) Tryz.func87 rfl Tryz.ntmps87 (by rw [Tryz.results87]) rfl rfl tt gs_nil (ds_cons eqC_ok ds_nil) ?_
  rintro args m1 ⟨x, rfl, rfl⟩
  refine ⟨by simp, fun E hE Q hQ => ?_⟩
  refine Aw_st hE [0, 1] [] fun K hK => ?_
  simp only [go_sem, reduceIte, Nat.reduceLT, Nat.reduceLeDiff, Nat.reduceEqDiff, Nat.reduceAdd, Nat.reduceMul, Nat.reduceSub, Nat.reduceBEq, Int.reduceToNat, List.reduceReplicate, reduceCtorEq]
  refine hK _ ?_; clear hK K
  refine Aw_sq fun B1 hB1 hR1 hX1 => ?_
  refine Aw_st hE [0, 1, 7, 8] [] fun K hK => ?_
  simp only [go_sem, reduceIte, Nat.reduceLT, Nat.reduceLeDiff, Nat.reduceEqDiff, Nat.reduceAdd, Nat.reduceMul, Nat.reduceSub, Nat.reduceBEq, Int.reduceToNat, List.reduceReplicate, reduceCtorEq]
  refine hK _ ?_; clear hK K
  refine Aw_bk fun B2 hN2 hE2 hR2 hX2 => ?_
  refine Aw_lp (fun i : Nat => ⟨19, [(0, .nl), (1, clo x), (7, iv 0), (8, iv 0)], [], 0⟩) (fun i => True) (fun i => 0) 0 (Le.refl _) trivial fun i hi B3 hN3 hR3 hX3 => ?_
  refine Aw_st hE [0, 1, 7, 8, 9] [] fun K hK => ?_
  simp only [go_sem, reduceIte, Nat.reduceLT, Nat.reduceLeDiff, Nat.reduceEqDiff, Nat.reduceAdd, Nat.reduceMul, Nat.reduceSub, Nat.reduceBEq, Int.reduceToNat, List.reduceReplicate, reduceCtorEq]
  refine hK _ ?_; clear hK K
  refine Aw_sq fun B4 hB4 hR4 hX4 => ?_
  refine Aw_no (by simp; rfl) ?_
  refine Aw_exit (hX4 _ _ (hX3 _ _ (hE2 _ (hB1 _ ?_))))
  refine Aw_st hE [4] [] fun K hK => ?_
  simp only [go_sem, reduceIte, Nat.reduceLT, Nat.reduceLeDiff, Nat.reduceEqDiff, Nat.reduceAdd, Nat.reduceMul, Nat.reduceSub, Nat.reduceBEq, Int.reduceToNat, List.reduceReplicate, reduceCtorEq]
  refine hK _ (Aw_ret (hQ _ ?_))
  simp only [go_sem, reduceIte, Nat.reduceLT, Nat.reduceLeDiff, Nat.reduceEqDiff, Nat.reduceAdd, Nat.reduceMul, Nat.reduceSub, Nat.reduceBEq, Int.reduceToNat, List.reduceReplicate, reduceCtorEq]
  exact ⟨rfl, rfl⟩
theorem idxJ_ok : FineM Tryz.prog 87 (cIdx.or cIdxN) := idx_ok.or idxN_ok (fun _ => trivial) (fun _ => trivial)
def cDelN : ConM := { pre := fun args m1 => ∃ x : Int, args = [.nl, clo x] ∧ m1 = [], post := fun _ _ r m2 => r = .nl ∧ m2 = [] }
theorem delN_ok : FineM Tryz.prog 51 cDelN := by
  refine fineM_of [] ms_nil [(87, (cIdxN, [], []))] (mm_cons idxN_ok (by decide) mm_nil) [] [] ex_nil (T := TT) Tryz.func51 rfl Tryz.ntmps51 (by rw [Tryz.results51]) rfl rfl tt gs_nil (ds_cons eqC_ok ds_nil) ?_
  rintro args m1 ⟨x, rfl, rfl⟩
  refine ⟨by simp, fun E hE Q hQ => ?_⟩
  refine Aw_st hE [0, 1] [] fun K hK => ?_
  simp only [go_sem, reduceIte, Nat.reduceLT, Nat.reduceLeDiff, Nat.reduceEqDiff, Nat.reduceAdd, Nat.reduceMul, Nat.reduceSub, Nat.reduceBEq, Int.reduceToNat, List.reduceReplicate, reduceCtorEq]
  refine hK _ ?_; clear hK K
  refine Aw_st hE [0, 1, 5] [] fun K hK => ?_
  simp only [go_sem, reduceIte, Nat.reduceLT, Nat.reduceLeDiff, Nat.reduceEqDiff, Nat.reduceAdd, Nat.reduceMul, Nat.reduceSub, Nat.reduceBEq, Int.reduceToNat, List.reduceReplicate, reduceCtorEq]
  refine ⟨by decide, ⟨x, rfl, rfl⟩, fun r m2 hp => ?_⟩
  obtain ⟨rfl, rfl⟩ := hp
  simp only [go_sem, reduceIte, Nat.reduceLT, Nat.reduceLeDiff, Nat.reduceEqDiff, Nat.reduceAdd, Nat.reduceMul, Nat.reduceSub, Nat.reduceBEq, Int.reduceToNat, List.reduceReplicate, reduceCtorEq]
  refine hK _ ?_; clear hK K
  refine Aw_sq fun B1 hB1 hR1 hX1 => ?_
  refine Aw_st hE [0, 1, 5, 12] [] fun K hK => ?_
  simp only [go_sem, reduceIte, Nat.reduceLT, Nat.reduceLeDiff, Nat.reduceEqDiff, Nat.reduceAdd, Nat.reduceMul, Nat.reduceSub, Nat.reduceBEq, Int.reduceToNat, List.reduceReplicate, reduceCtorEq]
  refine hK _ (Aw_yes (by simp; rfl) ?_)
  refine Aw_st hE [4] [] fun K hK => ?_
  simp only [go_sem, reduceIte, Nat.reduceLT, Nat.reduceLeDiff, Nat.reduceEqDiff, Nat.reduceAdd, Nat.reduceMul, Nat.reduceSub, Nat.reduceBEq, Int.reduceToNat, List.reduceReplicate, reduceCtorEq]
  refine hK _ (Aw_ret (hR1 _ (hQ _ ?_)))
  simp only [go_sem, reduceIte, Nat.reduceLT, Nat.reduceLeDiff, Nat.reduceEqDiff, Nat.reduceAdd, Nat.reduceMul, Nat.reduceSub, Nat.reduceBEq, Int.reduceToNat, List.reduceReplicate, reduceCtorEq]
  exact ⟨rfl, rfl⟩
theorem delJ_ok : FineM Tryz.prog 51 (cDel.or cDelN) := del_ok.or delN_ok (fun _ => trivial) (fun _ => trivial)
end Go.Proofs.W
end
section
namespace Go.Proofs.W
open Go Go.Eng Go.RowKit
set_option linter.unusedSimpArgs false
set_option maxRecDepth 10000

theorem iClear_ok (pb : Addr) : Fine Tryz.prog 20 (dClearI pb).con := by
  refine fine_detX [] gl_nil [] ms_nil [(40, (cCopyR, [], [(405, 400), (208, 500), (408, 600)])), (51, (cDel.or cDelN, [], []))] (mm_cons copyR_ok (by decide) (mm_cons delJ_ok (by decide) mm_nil)) [] [] ex_nil (T := TT) Tryz.func20 rfl Tryz.ntmps20 (by rw [Tryz.results20]) rfl rfl tt gs_nil (ds_cons (iRtOk_ok pb) (ds_cons iIsM_ok ds_nil) (wp_inh pb)) ?_
  intro args c r h hc
  simp only [dClearI, gClear] at h
  split at h
  rotate_left
  · cases h
  split at h
  rotate_left
  · cases h
  rename_i f b t1 e1 lk t2 e2 x _ _ p m hl1 hl2
  obtain rfl := intsL_eq hl1
  obtain rfl := intsL_eq hl2
  obtain ⟨rfl, rfl⟩ := Prod.mk.inj (Option.some.inj h)
  refine ⟨by simp, fun k E hE Q hQ => ?_⟩
  refine Aw_st hE [2, 3, 4] [2, 3, 4, 6, 417, 517, 617] fun K hK => ?_
  simp only [go_sem, reduceIte, Nat.reduceLT, Nat.reduceLeDiff, Nat.reduceEqDiff, Nat.reduceAdd, Nat.reduceMul, Nat.reduceSub, Nat.reduceBEq, Int.reduceToNat, List.reduceReplicate, reduceCtorEq]
  refine hK _ ?_; clear hK K
  refine Aw_sq fun B1 hB1 hR1 hX1 => ?_
  refine Aw_st hE [2, 3, 4, 14] [2, 3, 4, 6, 417, 517, 617] fun K hK => ?_
  simp only [go_sem, reduceIte, Nat.reduceLT, Nat.reduceLeDiff, Nat.reduceEqDiff, Nat.reduceAdd, Nat.reduceMul, Nat.reduceSub, Nat.reduceBEq, Int.reduceToNat, List.reduceReplicate, reduceCtorEq]
  repeat (refine And.intro (by first | omega | (and_intros <;> first | omega | exact rows_row _ | decide | (simp; done) | (simp; omega)) | fail) ?_)
  refine ⟨fun hg3 => ?_, fun hg3 => ?_⟩
  · repeat (refine And.intro (by first | omega | (and_intros <;> first | omega | exact rows_row _ | decide | (simp; done) | (simp; omega)) | fail) ?_)
    have hok : rtOk f b p lk m = false := by simpa using hg3
    refine hK _ (Aw_yes rfl ?_)
    refine Aw_st hE [4, 5] [2, 3, 4, 6, 417, 517, 617] fun K hK => ?_
    simp only [go_sem, reduceIte, Nat.reduceLT, Nat.reduceLeDiff, Nat.reduceEqDiff, Nat.reduceAdd, Nat.reduceMul, Nat.reduceSub, Nat.reduceBEq, Int.reduceToNat, List.reduceReplicate, reduceCtorEq]
    refine hK _ (Aw_ret (hR1 _ (hQ _ ?_)))
    simp only [go_sem, reduceIte, Nat.reduceLT, Nat.reduceLeDiff, Nat.reduceEqDiff, Nat.reduceAdd, Nat.reduceMul, Nat.reduceSub, Nat.reduceBEq, Int.reduceToNat, List.reduceReplicate, reduceCtorEq]
    rw [hok]; rfl
  · repeat (refine And.intro (by first | omega | (and_intros <;> first | omega | exact rows_row _ | decide | (simp; done) | (simp; omega)) | fail) ?_)
    have hok : rtOk f b p lk m = true := by simpa using hg3
    refine hK _ (Aw_cond rfl (fun hc4 => ?_) (fun hc4 => ?_))
    · have hx : isM x = false := by simpa using hc4
      refine Aw_st hE [4, 5] [2, 3, 4, 6, 417, 517, 617] fun K hK => ?_
      simp only [go_sem, reduceIte, Nat.reduceLT, Nat.reduceLeDiff, Nat.reduceEqDiff, Nat.reduceAdd, Nat.reduceMul, Nat.reduceSub, Nat.reduceBEq, Int.reduceToNat, List.reduceReplicate, reduceCtorEq]
      refine hK _ (Aw_ret (hR1 _ (hQ _ ?_)))
      simp only [go_sem, reduceIte, Nat.reduceLT, Nat.reduceLeDiff, Nat.reduceEqDiff, Nat.reduceAdd, Nat.reduceMul, Nat.reduceSub, Nat.reduceBEq, Int.reduceToNat, List.reduceReplicate, reduceCtorEq]
      rw [hok, hx]; rfl
    · have hx : isM x = true := by simpa using hc4
      have hp0 : p ≠ [] := by
        intro e; rw [e] at hok; simp [rtOk] at hok
      rw [hok, hx] at hQ
      simp only [Bool.and_self, if_true] at hQ
      refine Aw_skip (hB1 _ ?_)
      refine Aw_st hE [3, 4, 6] [2, 3, 4, 6, 417, 517, 617] fun K hK => ?_
      simp only [go_sem, reduceIte, Nat.reduceLT, Nat.reduceLeDiff, Nat.reduceEqDiff, Nat.reduceAdd, Nat.reduceMul, Nat.reduceSub, Nat.reduceBEq, Int.reduceToNat, List.reduceReplicate, reduceCtorEq]
      refine ⟨by decide, ⟨hc.1, hc.2, hp0⟩, fun cap hcap => ⟨fun hm0 => ⟨?_, ?_⟩, fun hm0 cap2 hcap2 => ?_⟩⟩
      · subst hm0
        refine hK _ ?_; clear hK K
        refine Aw_st hE [4, 6] [2, 3, 4, 6, 417, 517, 617] fun K hK => ?_
        simp only [go_sem, reduceIte, Nat.reduceLT, Nat.reduceLeDiff, Nat.reduceEqDiff, Nat.reduceAdd, Nat.reduceMul, Nat.reduceSub, Nat.reduceBEq, Int.reduceToNat, List.reduceReplicate, reduceCtorEq]
        have hpre0 : ¬ cDel.pre [AV.nl, clo x] [] := by
          rintro ⟨l, cap, x', h, _⟩; cases h
        refine ⟨by decide, .inr ⟨x, rfl, rfl⟩, fun r m2 hp => ?_⟩
        obtain ⟨rfl, rfl⟩ := hp.2 hpre0
        simp only [go_sem, reduceIte, Nat.reduceLT, Nat.reduceLeDiff, Nat.reduceEqDiff, Nat.reduceAdd, Nat.reduceMul, Nat.reduceSub, Nat.reduceBEq, Int.reduceToNat, List.reduceReplicate, reduceCtorEq]
        refine hK _ ?_; clear hK K
        refine Aw_st hE [4, 5] [2, 3, 4, 6, 417, 517, 617] fun K hK => ?_
        simp only [go_sem, reduceIte, Nat.reduceLT, Nat.reduceLeDiff, Nat.reduceEqDiff, Nat.reduceAdd, Nat.reduceMul, Nat.reduceSub, Nat.reduceBEq, Int.reduceToNat, List.reduceReplicate, reduceCtorEq]
        refine hK _ ?_
        refine Aw_fI hE rfl 417 p rfl ?_
        simp only [go_sem, reduceIte, Nat.reduceLT, Nat.reduceLeDiff, Nat.reduceEqDiff, Nat.reduceAdd, Nat.reduceMul, Nat.reduceSub, Nat.reduceBEq, Int.reduceToNat, List.reduceReplicate, reduceCtorEq, List.length_map, frz_rows]
        refine Aw_ret (hQ _ ?_)
        simp only [go_sem, reduceIte, Nat.reduceLT, Nat.reduceLeDiff, Nat.reduceEqDiff, Nat.reduceAdd, Nat.reduceMul, Nat.reduceSub, Nat.reduceBEq, Int.reduceToNat, List.reduceReplicate, reduceCtorEq]
        rfl
      · subst hm0
        refine hK _ ?_; clear hK K
        refine Aw_st hE [4, 6] [2, 3, 4, 6, 417, 517, 617] fun K hK => ?_
        simp only [go_sem, reduceIte, Nat.reduceLT, Nat.reduceLeDiff, Nat.reduceEqDiff, Nat.reduceAdd, Nat.reduceMul, Nat.reduceSub, Nat.reduceBEq, Int.reduceToNat, List.reduceReplicate, reduceCtorEq]
        have hpre : cDel.pre [.xs 1000 0 (([] : List Int)).length 0 1, clo x] [(1000, cI (([] : List Int)) ++ jk (0 - (([] : List Int)).length))] := ⟨([] : List Int), 0, x, rfl, rfl, hc.2, Nat.le_refl _⟩
        refine ⟨by decide, .inl hpre, fun r m2 hp => ?_⟩
        obtain ⟨rest, rfl, rfl⟩ := hp.1 hpre (([] : List Int)) 0 x rfl rfl
        simp only [go_sem, reduceIte, Nat.reduceLT, Nat.reduceLeDiff, Nat.reduceEqDiff, Nat.reduceAdd, Nat.reduceMul, Nat.reduceSub, Nat.reduceBEq, Int.reduceToNat, List.reduceReplicate, reduceCtorEq]
        refine hK _ ?_; clear hK K
        refine Aw_st hE [4, 5] [2, 3, 4, 6, 417, 517, 617] fun K hK => ?_
        simp only [go_sem, reduceIte, Nat.reduceLT, Nat.reduceLeDiff, Nat.reduceEqDiff, Nat.reduceAdd, Nat.reduceMul, Nat.reduceSub, Nat.reduceBEq, Int.reduceToNat, List.reduceReplicate, reduceCtorEq]
        refine hK _ ?_
        refine Aw_fI hE rfl 417 p rfl ?_
        simp only [go_sem, reduceIte, Nat.reduceLT, Nat.reduceLeDiff, Nat.reduceEqDiff, Nat.reduceAdd, Nat.reduceMul, Nat.reduceSub, Nat.reduceBEq, Int.reduceToNat, List.reduceReplicate, reduceCtorEq, List.length_map, frz_rows]
        refine Aw_fI hE rfl 517 (clL (([] : List Int)) x) rfl ?_
        simp only [go_sem, reduceIte, Nat.reduceLT, Nat.reduceLeDiff, Nat.reduceEqDiff, Nat.reduceAdd, Nat.reduceMul, Nat.reduceSub, Nat.reduceBEq, Int.reduceToNat, List.reduceReplicate, reduceCtorEq, List.length_map, frz_rows]
        refine Aw_ret (hQ _ ?_)
        simp only [go_sem, reduceIte, Nat.reduceLT, Nat.reduceLeDiff, Nat.reduceEqDiff, Nat.reduceAdd, Nat.reduceMul, Nat.reduceSub, Nat.reduceBEq, Int.reduceToNat, List.reduceReplicate, reduceCtorEq]
      · skip
        refine hK _ ?_; clear hK K
        refine Aw_st hE [4, 6] [2, 3, 4, 6, 417, 517, 617] fun K hK => ?_
        simp only [go_sem, reduceIte, Nat.reduceLT, Nat.reduceLeDiff, Nat.reduceEqDiff, Nat.reduceAdd, Nat.reduceMul, Nat.reduceSub, Nat.reduceBEq, Int.reduceToNat, List.reduceReplicate, reduceCtorEq]
        have hpre : cDel.pre [.xs 1000 0 (m).length cap2 1, clo x] [(1000, cI (m) ++ jk (cap2 - (m).length))] := ⟨m, cap2, x, rfl, rfl, hc.2, hcap2⟩
        refine ⟨by decide, .inl hpre, fun r m2 hp => ?_⟩
        obtain ⟨rest, rfl, rfl⟩ := hp.1 hpre (m) cap2 x rfl rfl
        simp only [go_sem, reduceIte, Nat.reduceLT, Nat.reduceLeDiff, Nat.reduceEqDiff, Nat.reduceAdd, Nat.reduceMul, Nat.reduceSub, Nat.reduceBEq, Int.reduceToNat, List.reduceReplicate, reduceCtorEq]
        refine hK _ ?_; clear hK K
        refine Aw_st hE [4, 5] [2, 3, 4, 6, 417, 517, 617] fun K hK => ?_
        simp only [go_sem, reduceIte, Nat.reduceLT, Nat.reduceLeDiff, Nat.reduceEqDiff, Nat.reduceAdd, Nat.reduceMul, Nat.reduceSub, Nat.reduceBEq, Int.reduceToNat, List.reduceReplicate, reduceCtorEq]
        refine hK _ ?_
        refine Aw_fI hE rfl 417 p rfl ?_
        simp only [go_sem, reduceIte, Nat.reduceLT, Nat.reduceLeDiff, Nat.reduceEqDiff, Nat.reduceAdd, Nat.reduceMul, Nat.reduceSub, Nat.reduceBEq, Int.reduceToNat, List.reduceReplicate, reduceCtorEq, List.length_map, frz_rows]
        refine Aw_fI hE rfl 617 (clL (m) x) rfl ?_
        simp only [go_sem, reduceIte, Nat.reduceLT, Nat.reduceLeDiff, Nat.reduceEqDiff, Nat.reduceAdd, Nat.reduceMul, Nat.reduceSub, Nat.reduceBEq, Int.reduceToNat, List.reduceReplicate, reduceCtorEq, List.length_map, frz_rows]
        refine Aw_ret (hQ _ ?_)
        simp only [go_sem, reduceIte, Nat.reduceLT, Nat.reduceLeDiff, Nat.reduceEqDiff, Nat.reduceAdd, Nat.reduceMul, Nat.reduceSub, Nat.reduceBEq, Int.reduceToNat, List.reduceReplicate, reduceCtorEq]
end Go.Proofs.W
end
section
namespace Go.Proofs.W
open Go Go.Eng Go.RowKit
set_option linter.unusedSimpArgs false
set_option maxRecDepth 10000

def eqN (a b : List Int) : Nat → Bool
  | 0 => true
  | n + 1 => eqN a b n && decide (a.getD n 0 = b.getD n 0)
theorem eqN_stop {a b : List Int} {n : Nat} (h : eqN a b n = false) : ∀ k, n ≤ k → eqN a b k = false
  | 0, hk => by obtain rfl : n = 0 := by omega
                cases h
  | k + 1, hk => by
    by_cases he : n = k + 1
    · subst he; exact h
    · rw [eqN, eqN_stop h k (by omega)]; rfl
theorem eqN_get {a b : List Int} : ∀ {n : Nat}, eqN a b n = true → ∀ k, k < n → a.getD k 0 = b.getD k 0
  | n + 1, h, k, hk => by
    simp only [eqN, Bool.and_eq_true, decide_eq_true_eq] at h
    by_cases e : k = n
    · rw [e]; exact h.2
    · exact eqN_get h.1 k (by omega)
theorem eqN_self (a : List Int) : ∀ n, eqN a a n = true
  | 0 => rfl
  | n + 1 => by rw [eqN, eqN_self a n]; simp
theorem eqN_iff (a b : List Int) (h : a.length = b.length) : eqN a b a.length = decide (a = b) := by
  rw [Bool.eq_iff_iff, decide_eq_true_eq]
  constructor
  · intro he
    refine List.ext_getElem h fun i h1 h2 => ?_
    have := eqN_get he i h1
    simpa [List.getD_eq_getElem?_getD, h1, h2] using this
  · rintro rfl; exact eqN_self a _
def gLyI : List AV → Option (Prop × AV) | [.sl _ e1, .sl _ e2] => (match intsL e1, intsL e2 with | some a, some b => some (a.length ≤ 4294967296 ∧ b.length ≤ 4294967296, bv (decide (a = b))) | _, _ => none) | _ => none
def dLyI : DFn := { g := gLyI }
attribute [go_sem] gLyI dLyI
theorem lyInts_ok : Fine Tryz.prog 22 dLyI.con := by
  refine fine_det (T := TT) Tryz.func22 rfl Tryz.ntmps22 (by rw [Tryz.results22]) rfl rfl tt (gs_nil) (ds_nil) ?_
  intro args c r h hc
  simp only [dLyI, gLyI] at h
  split at h
  rotate_left
  · cases h
  split at h
  rotate_left
  · cases h
  rename_i t1 e1 t2 e2 _ _ a b hl1 hl2
  obtain rfl := intsL_eq hl1
  obtain rfl := intsL_eq hl2
  obtain ⟨rfl, rfl⟩ := Prod.mk.inj (Option.some.inj h)
  refine ⟨by simp, fun k E hE Q hQ => ?_⟩
  refine Aw_st hE [0, 1] [] fun K hK => ?_
  simp only [go_sem, reduceIte, Nat.reduceLT, Nat.reduceLeDiff, Nat.reduceEqDiff, Nat.reduceAdd, Nat.reduceMul, Nat.reduceSub, Nat.reduceBEq, Int.reduceToNat, List.reduceReplicate, reduceCtorEq]
  repeat (refine And.intro (by first | omega | (and_intros <;> first | omega | exact rows_row _ | decide | (simp; done) | (simp; omega)) | fail) ?_)
  refine hK _ ?_; clear hK K
  refine Aw_sq fun B1 hB1 hR1 hX1 => ?_
  refine Aw_st hE [0, 1, 10] [] fun K hK => ?_
  simp only [go_sem, reduceIte, Nat.reduceLT, Nat.reduceLeDiff, Nat.reduceEqDiff, Nat.reduceAdd, Nat.reduceMul, Nat.reduceSub, Nat.reduceBEq, Int.reduceToNat, List.reduceReplicate, reduceCtorEq]
  repeat (refine And.intro (by first | omega | (and_intros <;> first | omega | exact rows_row _ | decide | (simp; done) | (simp; omega)) | fail) ?_)
  refine hK _ (Aw_cond rfl (fun hc2 => ?_) (fun hc2 => ?_))
  · simp only [Bool.not_eq_true', decide_eq_false_iff_not] at hc2
    refine Aw_st hE [4] [] fun K hK => ?_
    simp only [go_sem, reduceIte, Nat.reduceLT, Nat.reduceLeDiff, Nat.reduceEqDiff, Nat.reduceAdd, Nat.reduceMul, Nat.reduceSub, Nat.reduceBEq, Int.reduceToNat, List.reduceReplicate, reduceCtorEq]
    repeat (refine And.intro (by first | omega | (and_intros <;> first | omega | exact rows_row _ | decide | (simp; done) | (simp; omega)) | fail) ?_)
    refine hK _ (Aw_ret (hR1 _ (hQ _ ?_)))
    simp only [go_sem, reduceIte, Nat.reduceLT, Nat.reduceLeDiff, Nat.reduceEqDiff, Nat.reduceAdd, Nat.reduceMul, Nat.reduceSub, Nat.reduceBEq, Int.reduceToNat, List.reduceReplicate, reduceCtorEq]
    exact (decide_eq_false fun e => hc2 (by rw [e])).symm
  · have hlen : a.length = b.length := by simp only [Bool.not_eq_false', decide_eq_true_eq] at hc2; omega
    refine Aw_skip (hB1 _ ?_)
    refine Aw_sq fun B3 hB3 hR3 hX3 => ?_
    refine Aw_st hE [0, 1, 5] [] fun K hK => ?_
    simp only [go_sem, reduceIte, Nat.reduceLT, Nat.reduceLeDiff, Nat.reduceEqDiff, Nat.reduceAdd, Nat.reduceMul, Nat.reduceSub, Nat.reduceBEq, Int.reduceToNat, List.reduceReplicate, reduceCtorEq]
    repeat (refine And.intro (by first | omega | (and_intros <;> first | omega | exact rows_row _ | decide | (simp; done) | (simp; omega)) | fail) ?_)
    refine hK _ ?_; clear hK K
    refine Aw_bk fun B4 hN4 hE4 hR4 hX4 => ?_
    refine Aw_lp (fun i : Nat => ⟨26, [(0, .sl t1 (rows a)), (1, .sl t2 (rows b)), (5, iv i)], [], k⟩) (fun i : Nat => i ≤ a.length ∧ eqN a b i = true) (fun i : Nat => a.length - i) (0) (Le.refl _) (⟨by omega, rfl⟩) fun i hi B5 hN5 hR5 hX5 => ?_
    refine Aw_sq fun B6 hB6 hR6 hX6 => ?_
    refine Aw_st hE [0, 1, 5, 14] [] fun K hK => ?_
    simp only [go_sem, reduceIte, Nat.reduceLT, Nat.reduceLeDiff, Nat.reduceEqDiff, Nat.reduceAdd, Nat.reduceMul, Nat.reduceSub, Nat.reduceBEq, Int.reduceToNat, List.reduceReplicate, reduceCtorEq]
    repeat (refine And.intro (by first | omega | (and_intros <;> first | omega | exact rows_row _ | decide | (simp; done) | (simp; omega)) | fail) ?_)
    refine hK _ (Aw_cond rfl (fun hc7 => ?_) (fun hc7 => ?_))
    · simp only [decide_eq_true_eq] at hc7
      have hil : i < a.length := by omega
      refine Aw_skip (hB6 _ ?_)
      refine Aw_sq fun B8 hB8 hR8 hX8 => ?_
      refine Aw_bk fun B9 hN9 hE9 hR9 hX9 => ?_
      refine Aw_sd hE [0, 1, 5, 25] [] 6 (by kernel_rfl) fun K hK => ?_
      simp only [go_sem, reduceIte, Nat.reduceLT, Nat.reduceLeDiff, Nat.reduceEqDiff, Nat.reduceAdd, Nat.reduceMul, Nat.reduceSub, Nat.reduceBEq, Int.reduceToNat, List.reduceReplicate, reduceCtorEq, rows_get a i hil, rows_get b i (by omega)]
      repeat (refine And.intro (by first | omega | (and_intros <;> first | omega | exact rows_row _ | decide | (simp; done) | (simp; omega)) | fail) ?_)
      refine hK _ (Aw_cond rfl (fun hc10 => ?_) (fun hc10 => ?_))
      · have hne : ¬ a.getD i 0 = b.getD i 0 := by simpa using hc10
        refine Aw_st hE [4] [] fun K hK => ?_
        simp only [go_sem, reduceIte, Nat.reduceLT, Nat.reduceLeDiff, Nat.reduceEqDiff, Nat.reduceAdd, Nat.reduceMul, Nat.reduceSub, Nat.reduceBEq, Int.reduceToNat, List.reduceReplicate, reduceCtorEq]
        repeat (refine And.intro (by first | omega | (and_intros <;> first | omega | exact rows_row _ | decide | (simp; done) | (simp; omega)) | fail) ?_)
        refine hK _ (Aw_ret (hR9 _ (hR8 _ (hR5 _ (hR4 _ (hR3 _ (hQ _ ?_)))))))
        simp only [go_sem, reduceIte, Nat.reduceLT, Nat.reduceLeDiff, Nat.reduceEqDiff, Nat.reduceAdd, Nat.reduceMul, Nat.reduceSub, Nat.reduceBEq, Int.reduceToNat, List.reduceReplicate, reduceCtorEq]
        have hst : eqN a b (i + 1) = false := by rw [eqN, decide_eq_false hne]; simp
        rw [← eqN_iff a b hlen, eqN_stop hst _ (by omega)]
      · have heq : a.getD i 0 = b.getD i 0 := by simpa using hc10
        refine Aw_skip (hN9 _ (hB8 _ ?_))
        refine Aw_tx hE [0, 1, 5] [] fun K hK => ?_
        simp only [go_sem, reduceIte, Nat.reduceLT, Nat.reduceLeDiff, Nat.reduceEqDiff, Nat.reduceAdd, Nat.reduceMul, Nat.reduceSub, Nat.reduceBEq, Int.reduceToNat, List.reduceReplicate, reduceCtorEq]
        repeat (refine And.intro (by first | omega | (and_intros <;> first | omega | exact rows_row _ | decide | (simp; done) | (simp; omega)) | fail) ?_)
        refine hK _ (hN5 (i + 1) _ (⟨by omega, by rw [eqN, hi.2, decide_eq_true heq]; rfl⟩) (by omega) (Le.refl _))
    · simp only [decide_eq_false_iff_not] at hc7
      refine Aw_exit (hX6 _ _ (hX5 _ _ (hE4 _ (hB3 _ ?_))))
      refine Aw_st hE [4] [] fun K hK => ?_
      simp only [go_sem, reduceIte, Nat.reduceLT, Nat.reduceLeDiff, Nat.reduceEqDiff, Nat.reduceAdd, Nat.reduceMul, Nat.reduceSub, Nat.reduceBEq, Int.reduceToNat, List.reduceReplicate, reduceCtorEq]
      repeat (refine And.intro (by first | omega | (and_intros <;> first | omega | exact rows_row _ | decide | (simp; done) | (simp; omega)) | fail) ?_)
      refine hK _ (Aw_ret (hQ _ ?_))
      simp only [go_sem, reduceIte, Nat.reduceLT, Nat.reduceLeDiff, Nat.reduceEqDiff, Nat.reduceAdd, Nat.reduceMul, Nat.reduceSub, Nat.reduceBEq, Int.reduceToNat, List.reduceReplicate, reduceCtorEq]
      rw [← eqN_iff a b hlen, show a.length = i by omega, hi.2]

def gLyR : List AV → Option (Prop × AV)
  | [.agg [.v (.int .i64 f), .v (.int .i64 b), .sl _ e1, .v (.int .i64 k), .sl _ e2], .agg [.v (.int .i64 f'), .v (.int .i64 b'), .sl _ e3, .v (.int .i64 k'), .sl _ e4]] => (match intsL e1, intsL e2, intsL e3, intsL e4 with
    | some p, some m, some p', some m' => some ((p.length ≤ 4294967296 ∧ p'.length ≤ 4294967296) ∧ m.length ≤ 4294967296 ∧ m'.length ≤ 4294967296, bv (decide (f = f' ∧ b = b' ∧ p = p' ∧ k = k' ∧ m = m')))
    | _, _, _, _ => none)
  | _ => none
def dLyR : DFn := { g := gLyR }
attribute [go_sem] gLyR dLyR
theorem lyRoute_ok : Fine Tryz.prog 15 dLyR.con := by
  refine fine_det (T := TT) Tryz.func15 rfl Tryz.ntmps15 (by rw [Tryz.results15]) rfl rfl tt gs_nil (ds_cons lyInts_ok ds_nil) ?_
  intro args c r h hc
  simp only [dLyR, gLyR] at h
  split at h
  rotate_left
  · cases h
  split at h
  rotate_left
  · cases h
  rename_i f b t1 e1 lk t2 e2 f' b' t3 e3 lk' t4 e4 _ _ _ _ p m p' m' hl1 hl2 hl3 hl4
  obtain rfl := intsL_eq hl1
  obtain rfl := intsL_eq hl2
  obtain rfl := intsL_eq hl3
  obtain rfl := intsL_eq hl4
  obtain ⟨rfl, rfl⟩ := Prod.mk.inj (Option.some.inj h)
  refine ⟨by simp, fun k E hE Q hQ => ?_⟩
  refine Aw_st hE [2, 3] [2, 3] fun K hK => ?_
  simp only [go_sem, reduceIte, Nat.reduceLT, Nat.reduceLeDiff, Nat.reduceEqDiff, Nat.reduceAdd, Nat.reduceMul, Nat.reduceSub, Nat.reduceBEq, Int.reduceToNat, List.reduceReplicate, reduceCtorEq]
  refine hK _ ?_; clear hK K
  refine Aw_st hE [4] [] fun K hK => ?_
  simp only [go_sem, reduceIte, Nat.reduceLT, Nat.reduceLeDiff, Nat.reduceEqDiff, Nat.reduceAdd, Nat.reduceMul, Nat.reduceSub, Nat.reduceBEq, Int.reduceToNat, List.reduceReplicate, reduceCtorEq]
  have H : ∀ v, v = decide (f = f' ∧ b = b' ∧ p = p' ∧ lk = lk' ∧ m = m') → K { nt := 31, σ := [(4, bv v)], m := [], rn := k } := fun v hv => by
    subst hv
    refine hK _ (Aw_ret (hQ _ ?_))
    simp only [go_sem, reduceIte, Nat.reduceLT, Nat.reduceLeDiff, Nat.reduceEqDiff, Nat.reduceAdd, Nat.reduceMul, Nat.reduceSub, Nat.reduceBEq, Int.reduceToNat, List.reduceReplicate, reduceCtorEq]
  clear hK
  repeat' (first | exact hc.1 | exact hc.2 | exact hc.1.1 | exact hc.1.2 | exact hc.2.1 | exact hc.2.2 | refine ⟨?_, ?_⟩ | intro _)
  all_goals (apply H; simp_all)
end Go.Proofs.W
end
section
namespace Go.Proofs.W
open Go Go.Eng Go.RowKit
set_option linter.unusedSimpArgs false
set_option maxRecDepth 10000

/-- a route, and a mark, perhaps -/
def cDRM : Con := { pre := codeArg, post := fun _ r => ∃ (x : Rt) (n : Int), okRt x ∧ -10 ≤ n ∧ n ≤ 100 ∧ r = .tup [x.av, iv n] }
theorem cDRM_own : cDRM.own = false := rfl
theorem cDRM_draws : cDRM.draws = false := rfl
theorem cDRM_cost : cDRM.cost = 0 := rfl
attribute [go_sem] cDRM_own cDRM_draws cDRM_cost
theorem drm_pre (bs : List Nat) (h : ∀ b ∈ bs, b < 256) : cDRM.pre [.sl none (byteRows bs)] := ⟨bs, h, rfl⟩
theorem drm_post (args : List AV) (K : AV → Prop) : (∀ r, cDRM.post args r → K r) = (∀ (x : Rt) (n : Int), okRt x → -10 ≤ n → n ≤ 100 → K (.tup [x.av, iv n])) := by
  apply propext
  exact ⟨fun h x n h1 h2 h3 => h _ ⟨x, n, h1, h2, h3, rfl⟩, fun h r ⟨x, n, h1, h2, h3, e⟩ => e ▸ h x n h1 h2 h3⟩
attribute [go_sem] drm_post

end Go.Proofs.W
end
section
namespace Go.Proofs.W
open Go Go.Eng Go.RowKit
set_option linter.unusedSimpArgs false
set_option maxRecDepth 10000

theorem mOkN_iff (l : List Int) : ∀ n, mOkN l n = true ↔ (∀ k, k < n → isM (l.getD k 0) = true) ∧ ∀ k, k + 1 < n → l.getD k 0 < l.getD (k + 1) 0
  | 0 => by simp [mOkN]
  | n + 1 => by
    simp only [mOkN, Bool.and_eq_true, Bool.or_eq_true, decide_eq_true_eq, mOkN_iff l n]
    constructor
    · rintro ⟨⟨h1, h2⟩, h3, h4⟩
      refine ⟨fun k hk => ?_, fun k hk => ?_⟩
      · by_cases e : k = n
        · rw [e]; exact h3
        · exact h1 k (by omega)
      · by_cases e : k + 1 = n
        · subst e
          exact h4.resolve_left (by omega)
        · exact h2 k (by omega)
    · rintro ⟨h1, h2⟩
      refine ⟨⟨fun k hk => h1 k (by omega), fun k hk => h2 k (by omega)⟩, h1 n (by omega), ?_⟩
      cases n with
      | zero => exact .inl rfl
      | succ n => exact .inr (h2 n (by omega))
theorem mOk_of {l : List Int} (h1 : ∀ y ∈ l, isM y = true) (h2 : l.Pairwise (· < ·)) : mOk l = true := by
  refine (mOkN_iff l _).2 ⟨fun k hk => ?_, fun k hk => ?_⟩
  · rw [List.getD_eq_getElem?_getD, List.getElem?_eq_getElem hk]; exact h1 _ (List.getElem_mem hk)
  · have := List.pairwise_iff_getElem.1 h2 k (k + 1) (by omega) hk (by omega)
    simpa [List.getD_eq_getElem?_getD, hk, show k < l.length by omega] using this
theorem mOk_mem {l : List Int} (h : mOk l = true) : ∀ y ∈ l, isM y = true := fun y hy => by
  obtain ⟨k, hk, rfl⟩ := List.mem_iff_getElem.1 hy
  have := ((mOkN_iff l _).1 h).1 k hk
  simpa [List.getD_eq_getElem?_getD, hk] using this

/-- sorted lists part at x -/
theorem srt_part (x : Int) : ∀ {l : List Int}, l.Pairwise (· < ·) → ∃ a b, l = a ++ b ∧ (∀ y ∈ a, y < x) ∧ ∀ y ∈ b, x ≤ y
  | [], _ => ⟨[], [], rfl, by simp, by simp⟩
  | y :: l, h => by
    obtain ⟨h1, h2⟩ := List.pairwise_cons.1 h
    by_cases hy : y < x
    · obtain ⟨a, b, rfl, ha, hb⟩ := srt_part x h2
      exact ⟨y :: a, b, rfl, by simp only [List.mem_cons]; rintro z (rfl | hz); exact hy; exact ha z hz, hb⟩
    · exact ⟨[], y :: l, rfl, by simp, by simp only [List.mem_cons]; rintro z (rfl | hz); omega; have := h1 z hz; omega⟩

theorem mkL_mem {l : List Int} (h : l.Pairwise (· < ·)) (x y : Int) : y ∈ mkL l x ↔ y = x ∨ y ∈ l := by
  obtain ⟨a, b, rfl, ha, hb⟩ := srt_part x h
  rw [mkL_eq x a b ha hb]
  simp only [List.mem_append, List.mem_cons, List.mem_filter, Bool.not_eq_true', decide_eq_false_iff_not]
  by_cases e : y = x <;> simp [e]
theorem mkL_srt {l : List Int} (h : l.Pairwise (· < ·)) (x : Int) : (mkL l x).Pairwise (· < ·) := by
  obtain ⟨a, b, rfl, ha, hb⟩ := srt_part x h
  rw [mkL_eq x a b ha hb]
  obtain ⟨h1, h2, h3⟩ := List.pairwise_append.1 h
  refine List.pairwise_append.2 ⟨h1, List.pairwise_cons.2 ⟨fun y hy => ?_, h2.filter _⟩, fun y hy z hz => ?_⟩
  · obtain ⟨hy1, hy2⟩ := List.mem_filter.1 hy
    have := hb y hy1
    simp only [Bool.not_eq_true', decide_eq_false_iff_not] at hy2
    omega
  · rcases List.mem_cons.1 hz with rfl | hz
    · exact ha y hy
    · exact h3 y hy z (List.mem_filter.1 hz).1
theorem mkL_mOk {l : List Int} (h : mOk l = true) {x : Int} (hx : isM x = true) : mOk (mkL l x) = true :=
  mOk_of (fun y hy => ((mkL_mem (mOk_srt h) x y).1 hy).elim (fun e => e ▸ hx) (mOk_mem h y)) (mkL_srt (mOk_srt h) x)
theorem srt_ext : ∀ {a b : List Int}, a.Pairwise (· < ·) → b.Pairwise (· < ·) → (∀ y, y ∈ a ↔ y ∈ b) → a = b
  | [], [], _, _, _ => rfl
  | [], y :: b, _, _, h => absurd ((h y).2 (by simp)) (by simp)
  | y :: a, [], _, _, h => absurd ((h y).1 (by simp)) (by simp)
  | y :: a, z :: b, ha, hb, h => by
    obtain ⟨a1, a2⟩ := List.pairwise_cons.1 ha
    obtain ⟨b1, b2⟩ := List.pairwise_cons.1 hb
    have hyz : y = z := by
      have h1 := (h y).1 (by simp)
      have h2 := (h z).2 (by simp)
      rcases List.mem_cons.1 h1 with e | e
      · exact e
      · rcases List.mem_cons.1 h2 with e' | e'
        · exact e'.symm
        · have := b1 y e; have := a1 z e'; omega
    subst hyz
    congr 1
    refine srt_ext a2 b2 fun w => ⟨fun hw => ?_, fun hw => ?_⟩
    · rcases List.mem_cons.1 ((h w).1 (List.mem_cons_of_mem _ hw)) with e | e
      · have := a1 w hw; omega
      · exact e
    · rcases List.mem_cons.1 ((h w).2 (List.mem_cons_of_mem _ hw)) with e | e
      · have := b1 w hw; omega
      · exact e
theorem clL_mem (l : List Int) (x y : Int) : y ∈ clL l x ↔ y ∈ l ∧ y ≠ x := by simp [clL, List.mem_filter]
theorem clL_srt {l : List Int} (h : l.Pairwise (· < ·)) (x : Int) : (clL l x).Pairwise (· < ·) := h.filter _
theorem mkL_mkL {l : List Int} (h : l.Pairwise (· < ·)) (x : Int) : mkL (mkL l x) x = mkL l x :=
  srt_ext (mkL_srt (mkL_srt h x) x) (mkL_srt h x) fun y => by rw [mkL_mem (mkL_srt h x), mkL_mem h]; simp
theorem clL_mkL {l : List Int} (h : l.Pairwise (· < ·)) (x : Int) : clL (mkL l x) x = clL l x :=
  srt_ext (clL_srt (mkL_srt h x) x) (clL_srt h x) fun y => by rw [clL_mem, clL_mem, mkL_mem h]; by_cases e : y = x <;> simp [e]
theorem clL_mOk {l : List Int} (h : mOk l = true) (x : Int) : mOk (clL l x) = true :=
  mOk_of (fun y hy => mOk_mem h y ((clL_mem l x y).1 hy).1) (clL_srt (mOk_srt h) x)
theorem mkL_clL {l : List Int} (h : l.Pairwise (· < ·)) {x : Int} (hx : x ∈ l) : mkL (clL l x) x = l :=
  srt_ext (mkL_srt (clL_srt h x) x) h fun y => by rw [mkL_mem (clL_srt h x), clL_mem]; by_cases e : y = x <;> simp [e, hx]
theorem clL_not {l : List Int} {x : Int} (hx : x ∉ l) : clL l x = l := List.filter_eq_self.2 fun y hy => by simp; rintro rfl; exact hx hy
theorem mkL_len {l : List Int} (h : l.Pairwise (· < ·)) (x : Int) : (mkL l x).length ≤ l.length + 1 := by
  obtain ⟨a, b, rfl, ha, hb⟩ := srt_part x h
  rw [mkL_eq x a b ha hb]
  have := List.length_filter_le (fun y => !decide (y = x)) b
  simp; omega
theorem clL_len (l : List Int) (x : Int) : (clL l x).length ≤ l.length := List.length_filter_le _ _

end Go.Proofs.W
end
section
namespace Go.Proofs.W
open Go Go.Eng Go.RowKit
set_option linter.unusedSimpArgs false
set_option maxRecDepth 100000

/-! policies as data, and what they do -/
structure Cl where
  ci : Int
  n : Int
  f : Int
  b : Int
  ref : Bool
  like : Int
  mark : Int
  clear : Int
def Cl.row (c : Cl) : List DV := [.v (.int .i64 c.ci), .v (.int .i64 c.n), .v (.int .i64 c.f), .v (.int .i64 c.b), .v (.bool c.ref), .v (.int .i64 c.like), .v (.int .i64 c.mark), .v (.int .i64 c.clear)]
abbrev Cl.av (c : Cl) : AV := .agg [iv c.ci, iv c.n, iv c.f, iv c.b, bv c.ref, iv c.like, iv c.mark, iv c.clear]
def crows (l : List Cl) : List (List DV) := l.map Cl.row
def rrows (l : List Rt) : List (List DV) := l.map Rt.row
def rHas (f b a : Int) : Bool := decide (a.tdiv (szR b) = f.tdiv (szR b))
def rIn (f b f' b' : Int) : Bool := decide (b' ≤ b) && rHas f' b' f
def subOk (ci n f b : Int) : Bool :=
  if ci = 1 then decide (n = 0) && decide (f = 0) && decide (b = 0)
  else if ci = 2 then decide (n = 0) && rngOk f b
  else if ci = 3 then isM n && decide (f = 0) && decide (b = 0)
  else if ci = 4 ∨ ci = 5 then isH n && decide (f = 0) && decide (b = 0) else false
def clOk (c : Cl) : Bool := (decide (-1 ≤ c.like) && decide (c.like ≤ 9)) && (decide (0 ≤ c.mark) && decide (c.mark ≤ 9)) && (decide (0 ≤ c.clear) && decide (c.clear ≤ 9)) && subOk c.ci c.n c.f c.b
def fitsB (c : Cl) (r : Rt) : Bool :=
  if c.ci = 2 then rIn r.f r.b c.f c.b
  else if c.ci = 3 then r.marks.contains c.n
  else if c.ci = 4 then r.path.contains c.n
  else if c.ci = 5 then decide ((r.path.length : Int) ≤ c.n) else true
def okR (r : Rt) : Bool := rtOk r.f r.b r.path r.like r.marks
def marksC (c : Cl) (m : List Int) : List Int := if 0 < c.clear then clL (if 0 < c.mark then mkL m c.mark else m) c.clear else (if 0 < c.mark then mkL m c.mark else m)
def doC (c : Cl) (r : Rt) : Rt := ⟨r.f, r.b, r.path, if 0 ≤ c.like then c.like else r.like, marksC c r.marks⟩
def polOk (l : List Cl) : Bool := decide (l.length ≤ 5) && l.all clOk
def polDo : List Cl → Rt → Option Rt
  | [], _ => none
  | c :: l, r => if fitsB c r then (if c.ref then none else some (doC c r)) else polDo l r
def policyDo (l : List Cl) (r : Rt) : Option Rt := if polOk l && okR r then polDo l r else none
theorem okR_parts {r : Rt} (h : okR r = true) : rngOk r.f r.b = true ∧ 0 < r.path.length ∧ pathOk r.path = true ∧ (0 ≤ r.like ∧ r.like ≤ 9) ∧ mOk r.marks = true := by
  simp only [okR, rtOk, Bool.and_eq_true, decide_eq_true_eq] at h
  exact ⟨h.1, h.2.1, h.2.2.1, ⟨h.2.2.2.1, h.2.2.2.2.1⟩, h.2.2.2.2.2⟩
theorem okR_of {r : Rt} (h1 : rngOk r.f r.b = true) (h2 : 0 < r.path.length) (h3 : pathOk r.path = true) (h4 : 0 ≤ r.like ∧ r.like ≤ 9) (h5 : mOk r.marks = true) : okR r = true := by
  simp only [okR, rtOk, Bool.and_eq_true, decide_eq_true_eq]
  exact ⟨h1, h2, h3, h4.1, h4.2, h5⟩
theorem clOk_parts {c : Cl} (h : clOk c = true) : (-1 ≤ c.like ∧ c.like ≤ 9) ∧ (0 ≤ c.mark ∧ c.mark ≤ 9) ∧ (0 ≤ c.clear ∧ c.clear ≤ 9) ∧ subOk c.ci c.n c.f c.b = true := by
  simp only [clOk, Bool.and_eq_true, decide_eq_true_eq] at h
  exact ⟨h.1.1.1, h.1.1.2, h.1.2, h.2⟩
theorem isM_of {x : Int} (h : 0 < x) (h' : x ≤ 9) : isM x = true := by simp [isM]; omega
theorem marksC_ok {c : Cl} (hc : clOk c = true) {m : List Int} (h : mOk m = true) : mOk (marksC c m) = true := by
  obtain ⟨_, h2, h3, _⟩ := clOk_parts hc
  unfold marksC
  have h1 : mOk (if 0 < c.mark then mkL m c.mark else m) = true := by
    split
    · exact mkL_mOk h (isM_of (by assumption) h2.2)
    · exact h
  split
  · exact clL_mOk h1 _
  · exact h1
theorem doC_ok {c : Cl} (hc : clOk c = true) {r : Rt} (h : okR r = true) : okR (doC c r) = true := by
  obtain ⟨h1, h2, h3, h4, h5⟩ := okR_parts h
  refine okR_of h1 h2 h3 ?_ (marksC_ok hc h5)
  have hl := (clOk_parts hc).1
  simp only [doC]
  split <;> omega
theorem polOk_mem {l : List Cl} (h : polOk l = true) : ∀ c ∈ l, clOk c = true := by
  simp only [polOk, Bool.and_eq_true, List.all_eq_true] at h
  exact h.2
theorem polOk_len {l : List Cl} (h : polOk l = true) : l.length ≤ 5 := by
  simp only [polOk, Bool.and_eq_true, decide_eq_true_eq] at h
  exact h.1
theorem polDo_some : ∀ {l : List Cl} {r x : Rt}, polDo l r = some x → ∃ c ∈ l, fitsB c r = true ∧ c.ref = false ∧ x = doC c r
  | [], _, _, h => by simp [polDo] at h
  | c :: l, r, x, h => by
    rw [polDo] at h
    cases hf : fitsB c r with
    | true =>
      rw [hf, if_pos rfl] at h
      cases hr : c.ref with
      | true => rw [hr] at h; simp at h
      | false => rw [hr] at h; exact ⟨c, by simp, hf, hr, by simpa using h.symm⟩
    | false =>
      rw [hf] at h
      obtain ⟨d, hd, h2⟩ := polDo_some (l := l) (by simpa using h)
      exact ⟨d, by simp [hd], h2⟩
theorem polDo_snoc (c : Cl) (r : Rt) : ∀ l : List Cl, polDo (l ++ [c]) r = if l.any (fun d => fitsB d r) = true then polDo l r else polDo [c] r
  | [] => rfl
  | d :: l => by
    have ih := polDo_snoc c r l
    cases hd : fitsB d r with
    | true => simp only [List.cons_append, polDo, hd, List.any_cons, Bool.true_or, if_true]
    | false =>
      have e1 : polDo (d :: l) r = polDo l r := by rw [polDo, hd]; rfl
      have e2 : polDo (d :: (l ++ [c])) r = polDo (l ++ [c]) r := by rw [polDo, hd]; rfl
      rw [List.cons_append, e1, e2, ih, List.any_cons, hd, Bool.false_or]
theorem marksC_srt (c : Cl) {m : List Int} (h : m.Pairwise (· < ·)) : (marksC c m).Pairwise (· < ·) := by
  unfold marksC
  have h1 : (if 0 < c.mark then mkL m c.mark else m).Pairwise (· < ·) := by
    split
    · exact mkL_srt h _
    · exact h
  split
  · exact clL_srt h1 _
  · exact h1
theorem marksC_mem (c : Cl) {m : List Int} (h : m.Pairwise (· < ·)) (y : Int) : y ∈ marksC c m ↔ ¬ (0 < c.clear ∧ y = c.clear) ∧ ((0 < c.mark ∧ y = c.mark) ∨ y ∈ m) := by
  unfold marksC
  by_cases h1 : 0 < c.clear <;> by_cases h2 : 0 < c.mark
  · rw [if_pos h1, if_pos h2, clL_mem, mkL_mem h]; simp [h1, h2]; constructor <;> (rintro ⟨a, b⟩; exact ⟨b, a⟩)
  · rw [if_pos h1, if_neg h2, clL_mem]; simp [h1, h2]; constructor <;> (rintro ⟨a, b⟩; exact ⟨b, a⟩)
  · rw [if_neg h1, if_pos h2, mkL_mem h]; simp [h1, h2]
  · rw [if_neg h1, if_neg h2]; simp [h1, h2]
theorem marksC_twice (c : Cl) {m : List Int} (h : m.Pairwise (· < ·)) : marksC c (marksC c m) = marksC c m := by
  refine srt_ext (marksC_srt c (marksC_srt c h)) (marksC_srt c h) fun y => ?_
  rw [marksC_mem c (marksC_srt c h), marksC_mem c h]
  constructor
  · rintro ⟨a, b | b⟩
    · exact ⟨a, .inl b⟩
    · exact b
  · rintro ⟨a, b⟩
    exact ⟨a, .inr ⟨a, b⟩⟩
theorem doC_twice (c : Cl) {r : Rt} (h : okR r = true) : doC c (doC c r) = doC c r := by
  have hs := marksC_twice c (mOk_srt (okR_parts h).2.2.2.2)
  simp only [doC, hs]
  congr 1
  split <;> rfl
theorem fitsB_do (d c : Cl) (r : Rt) (h : d.ci ≠ 3) : fitsB d (doC c r) = fitsB d r := by
  unfold fitsB
  rw [if_neg h, if_neg h]
  rfl
theorem polDo_fst : ∀ {l : List Cl} {r x : Rt}, okR r = true → (∀ d ∈ l, d.ci ≠ 3) → polDo l r = some x → polDo l x = some x
  | [], _, _, _, _, h => by simp [polDo] at h
  | c :: l, r, x, hr, hm, h => by
    obtain ⟨d, hd, hf, hrf, hx⟩ := polDo_some h
    have hfx : fitsB c x = fitsB c r := by rw [hx]; exact fitsB_do c d r (hm c (by simp))
    rw [polDo] at h ⊢
    rw [hfx]
    cases hc : fitsB c r with
    | true =>
      rw [hc, if_pos rfl] at h
      rw [if_pos rfl]
      cases hcr : c.ref with
      | true => rw [hcr] at h; simp at h
      | false =>
        rw [hcr] at h
        have hx2 : doC c r = x := by simpa using h
        rw [← hx2]
        simp [doC_twice c hr]
    | false =>
      rw [hc] at h
      simpa using polDo_fst hr (fun e he => hm e (by simp [he])) (by simpa using h)
theorem policyDo_some {l : List Cl} {r x : Rt} (h : policyDo l r = some x) : polOk l = true ∧ okR r = true ∧ polDo l r = some x := by
  unfold policyDo at h
  split at h
  · rename_i hc
    simp only [Bool.and_eq_true] at hc
    exact ⟨hc.1, hc.2, h⟩
  · cases h
theorem polDo_ok {l : List Cl} (hl : ∀ c ∈ l, clOk c = true) {r x : Rt} (hr : okR r = true) (h : polDo l r = some x) : okR x = true ∧ x.f = r.f ∧ x.b = r.b ∧ x.path = r.path := by
  obtain ⟨c, hc, _, _, rfl⟩ := polDo_some h
  exact ⟨doC_ok (hl c hc) hr, rfl, rfl, rfl⟩
def polAll (l : List Cl) (rs : List Rt) : List Rt := if polOk l && rs.all okR then rs.filterMap (polDo l) else []
end Go.Proofs.W
end
section
namespace Go.Proofs.W
open Go Go.Eng Go.RowKit
set_option linter.unusedSimpArgs false
set_option maxRecDepth 100000

/-! lists of clauses, and of routes, as data -/
def clsL : List (List DV) → Option (List Cl)
  | [] => some []
  | [.v (.int .i64 ci), .v (.int .i64 n), .v (.int .i64 f), .v (.int .i64 b), .v (.bool ref), .v (.int .i64 like), .v (.int .i64 mark), .v (.int .i64 clear)] :: l => match clsL l with
    | some r => some (⟨ci, n, f, b, ref, like, mark, clear⟩ :: r)
    | none => none
  | _ => none
theorem crows_nil : crows [] = [] := rfl
theorem crows_cons (c : Cl) (l : List Cl) : crows (c :: l) = c.row :: crows l := rfl
theorem clsL_rows (l : List Cl) : clsL (crows l) = some l := by
  induction l with
  | nil => rfl
  | cons n l ih => simp only [crows_cons, Cl.row, clsL, ih]
theorem clsL_eq {els : List (List DV)} : ∀ {l : List Cl}, clsL els = some l → els = crows l := by
  induction els with
  | nil => intro l h; obtain rfl := Option.some.inj h; rfl
  | cons row els ih =>
    intro l h
    unfold clsL at h
    split at h
    · rename_i e; cases e
    · rename_i l' e
      obtain ⟨rfl, rfl⟩ := List.cons.inj e
      split at h
      · rename_i r hr
        obtain rfl := Option.some.inj h
        rw [ih hr]; rfl
      · cases h
    · cases h
theorem crows_len (l : List Cl) : (crows l).length = l.length := by simp [crows]
theorem crows_get (l : List Cl) (i : Nat) (h : i < l.length) : (crows l)[i]? = some (l[i]).row := by simp [crows, h]
theorem crows_app (a b : List Cl) : crows a ++ crows b = crows (a ++ b) := by simp [crows]
theorem crows_row (l : List Cl) : ∀ row ∈ crows l, row.length = 8 := by simp [crows, Cl.row]
theorem crows_one (ci n f b : Int) (ref : Bool) (like mark clear : Int) : [[DV.v (.int .i64 ci), .v (.int .i64 n), .v (.int .i64 f), .v (.int .i64 b), .v (.bool ref), .v (.int .i64 like), .v (.int .i64 mark), .v (.int .i64 clear)]] = crows [⟨ci, n, f, b, ref, like, mark, clear⟩] := rfl
attribute [go_sem] clsL_rows crows_len crows_nil crows_app Cl.row

def rtsL : List (List DV) → Option (List Rt)
  | [] => some []
  | [.v (.int .i64 f), .v (.int .i64 b), .sl e1, .v (.int .i64 like), .sl e2] :: l => match intsL e1, intsL e2, rtsL l with
    | some p, some m, some r => some (⟨f, b, p, like, m⟩ :: r)
    | _, _, _ => none
  | _ => none
theorem rrows_nil : rrows [] = [] := rfl
theorem rrows_cons (c : Rt) (l : List Rt) : rrows (c :: l) = c.row :: rrows l := rfl
theorem rtsL_rows (l : List Rt) : rtsL (rrows l) = some l := by
  induction l with
  | nil => rfl
  | cons n l ih => simp only [rrows_cons, Rt.row, rtsL, ih, intsL_rows]
theorem rtsL_eq {els : List (List DV)} : ∀ {l : List Rt}, rtsL els = some l → els = rrows l := by
  induction els with
  | nil => intro l h; obtain rfl := Option.some.inj h; rfl
  | cons row els ih =>
    intro l h
    unfold rtsL at h
    split at h
    · rename_i e; cases e
    · rename_i l' e
      obtain ⟨rfl, rfl⟩ := List.cons.inj e
      split at h
      · rename_i p m r hp hm hr
        obtain rfl := Option.some.inj h
        rw [ih hr, intsL_eq hp, intsL_eq hm]; rfl
      · cases h
    · cases h
theorem rrows_len (l : List Rt) : (rrows l).length = l.length := by simp [rrows]
theorem rrows_get (l : List Rt) (i : Nat) (h : i < l.length) : (rrows l)[i]? = some (l[i]).row := by simp [rrows, h]
theorem rrows_app (a b : List Rt) : rrows a ++ rrows b = rrows (a ++ b) := by simp [rrows]
theorem rrows_row (l : List Rt) : ∀ row ∈ rrows l, row.length = 5 := by simp [rrows, Rt.row]
theorem rrows_one (f b : Int) (p : List Int) (like : Int) (m : List Int) : [[DV.v (.int .i64 f), .v (.int .i64 b), .sl (rows p), .v (.int .i64 like), .sl (rows m)]] = rrows [⟨f, b, p, like, m⟩] := rfl
attribute [go_sem] rtsL_rows rrows_len rrows_nil rrows_app Rt.row

/-! what is drawn -/
def cClauseD : Con := { pre := fun args => args = [.rd], post := fun _ r => ∃ c : Cl, r = c.av, cost := 16, draws := true }
theorem cClauseD_own : cClauseD.own = false := rfl
theorem cClauseD_draws : cClauseD.draws = true := rfl
theorem cClauseD_cost : cClauseD.cost = 16 := rfl
attribute [go_sem] cClauseD_own cClauseD_draws cClauseD_cost
theorem clauseD_pre : cClauseD.pre [.rd] = True := by simp [cClauseD]
theorem clauseD_post (args : List AV) (K : AV → Prop) : (∀ r, cClauseD.post args r → K r) = (∀ c : Cl, K c.av) := by
  apply propext
  exact ⟨fun h p => h _ ⟨p, rfl⟩, fun h r ⟨p, e⟩ => e ▸ h p⟩
theorem clauseD_ex (args : List AV) : (∃ r, cClauseD.post args r) = True := eq_true ⟨_, ⟨0, 0, 0, 0, false, 0, 0, 0⟩, rfl⟩
attribute [go_sem] clauseD_pre clauseD_post clauseD_ex

theorem l91Clause_ok : Fine Tryz.prog 68 cClauseD := by
  refine fine_of (T := TT) Tryz.func68 rfl Tryz.ntmps68 (by rw [Tryz.results68]) rfl rfl tt (gs_cons l91Range_ok (gs_cons pick_ok gs_nil)) (ds_nil) ?_
  rintro args rfl
  refine ⟨by simp, fun k hk E hE Q hQ => ?_⟩
  have hk := hk rfl
  simp only [go_sem] at hk
  refine Aw_st hE [0, 2] [2] fun K hK => ?_
  simp only [go_sem, reduceIte, Nat.reduceLT, Nat.reduceLeDiff, Nat.reduceEqDiff, Nat.reduceAdd, Nat.reduceMul, Nat.reduceSub, Nat.reduceBEq, Int.reduceToNat, List.reduceReplicate, reduceCtorEq]
  repeat (refine And.intro (by first | omega | (and_intros <;> first | omega | exact rows_row _ | decide | (simp; done) | (simp; omega)) | fail) ?_)
  refine hK _ ?_; clear hK K
  refine Aw_st hE [0, 2, 3] [2, 3] fun K hK => ?_
  simp only [go_sem, reduceIte, Nat.reduceLT, Nat.reduceLeDiff, Nat.reduceEqDiff, Nat.reduceAdd, Nat.reduceMul, Nat.reduceSub, Nat.reduceBEq, Int.reduceToNat, List.reduceReplicate, reduceCtorEq]
  repeat (refine And.intro (by first | omega | (and_intros <;> first | omega | exact rows_row _ | decide | (simp; done) | (simp; omega)) | fail) ?_)
  repeat' (first | (refine And.intro (by first | omega | decide) ?_) | intro)
  rename_i ci0 h1 h2 rf0 h3 h4 lk0 h5 h6 mk0 h7 h8 cl0 h9 h10
  refine hK _ ?_; clear hK K
  refine Aw_sqJ (fun q : Int × Int × Int => ⟨49, [(0, .rd), (2, .loc 2 0), (3, .loc 3 0)], [(2, [iv 0, iv 0, iv 0, iv 0, bv false, iv 0, iv 0, iv 0]), (3, [iv (1 + ci0), iv q.1, iv q.2.1, iv q.2.2, bv (decide (rf0 = 0)), iv (lk0 - 1), iv mk0, iv cl0])], k + 13⟩) (fun q : Int × Int × Int => True) (fun i hi => ?_) fun B1 hB1 hR1 hX1 => ?_
  · refine Aw_sq fun B2 hB2 hR2 hX2 => ?_
    refine Aw_st hE [0, 2, 3, 34] [2, 3] fun K hK => ?_
    simp only [go_sem, reduceIte, Nat.reduceLT, Nat.reduceLeDiff, Nat.reduceEqDiff, Nat.reduceAdd, Nat.reduceMul, Nat.reduceSub, Nat.reduceBEq, Int.reduceToNat, List.reduceReplicate, reduceCtorEq]
    repeat (refine And.intro (by first | omega | (and_intros <;> first | omega | exact rows_row _ | decide | (simp; done) | (simp; omega)) | fail) ?_)
    repeat' (first | (refine And.intro (by first | omega | decide) ?_) | intro)
    refine hK _ ?_; clear hK K
    refine Aw_bk fun B3 hN3 hE3 hR3 hX3 => ?_
    refine Aw_st hE [0, 2, 3, 34, 35] [2, 3] fun K hK => ?_
    simp only [go_sem, reduceIte, Nat.reduceLT, Nat.reduceLeDiff, Nat.reduceEqDiff, Nat.reduceAdd, Nat.reduceMul, Nat.reduceSub, Nat.reduceBEq, Int.reduceToNat, List.reduceReplicate, reduceCtorEq]
    repeat (refine And.intro (by first | omega | (and_intros <;> first | omega | exact rows_row _ | decide | (simp; done) | (simp; omega)) | fail) ?_)
    refine hK _ (Aw_cond rfl (fun hc4 => ?_) (fun hc4 => ?_))
    · refine Aw_tx hE [2, 3] [2, 3] fun K hK => ?_
      simp only [go_sem, reduceIte, Nat.reduceLT, Nat.reduceLeDiff, Nat.reduceEqDiff, Nat.reduceAdd, Nat.reduceMul, Nat.reduceSub, Nat.reduceBEq, Int.reduceToNat, List.reduceReplicate, reduceCtorEq]
      repeat (refine And.intro (by first | omega | (and_intros <;> first | omega | exact rows_row _ | decide | (simp; done) | (simp; omega)) | fail) ?_)
      repeat' (first | (refine And.intro (by first | omega | decide) ?_) | intro)
      refine hK _ (hN3 _ (hB2 _ ?_))
      refine Aw_st hE [2] [2] fun K hK => ?_
      simp only [go_sem, reduceIte, Nat.reduceLT, Nat.reduceLeDiff, Nat.reduceEqDiff, Nat.reduceAdd, Nat.reduceMul, Nat.reduceSub, Nat.reduceBEq, Int.reduceToNat, List.reduceReplicate, reduceCtorEq]
      repeat (refine And.intro (by first | omega | (and_intros <;> first | omega | exact rows_row _ | decide | (simp; done) | (simp; omega)) | fail) ?_)
      refine hK _ (Aw_ret (hQ _ ?_))
      simp only [go_sem, reduceIte, Nat.reduceLT, Nat.reduceLeDiff, Nat.reduceEqDiff, Nat.reduceAdd, Nat.reduceMul, Nat.reduceSub, Nat.reduceBEq, Int.reduceToNat, List.reduceReplicate, reduceCtorEq]
      exact ⟨by omega, ⟨_, _, _, _, _, _, _, _⟩, rfl⟩
    · refine Aw_st hE [0, 2, 3, 34, 40] [2, 3] fun K hK => ?_
      simp only [go_sem, reduceIte, Nat.reduceLT, Nat.reduceLeDiff, Nat.reduceEqDiff, Nat.reduceAdd, Nat.reduceMul, Nat.reduceSub, Nat.reduceBEq, Int.reduceToNat, List.reduceReplicate, reduceCtorEq]
      repeat (refine And.intro (by first | omega | (and_intros <;> first | omega | exact rows_row _ | decide | (simp; done) | (simp; omega)) | fail) ?_)
      refine hK _ (Aw_cond rfl (fun hc5 => ?_) (fun hc5 => ?_))
      · refine Aw_tx hE [2, 3] [2, 3] fun K hK => ?_
        simp only [go_sem, reduceIte, Nat.reduceLT, Nat.reduceLeDiff, Nat.reduceEqDiff, Nat.reduceAdd, Nat.reduceMul, Nat.reduceSub, Nat.reduceBEq, Int.reduceToNat, List.reduceReplicate, reduceCtorEq]
        repeat (refine And.intro (by first | omega | (and_intros <;> first | omega | exact rows_row _ | decide | (simp; done) | (simp; omega)) | fail) ?_)
        refine hK _ (hN3 _ (hB2 _ ?_))
        refine Aw_st hE [2] [2] fun K hK => ?_
        simp only [go_sem, reduceIte, Nat.reduceLT, Nat.reduceLeDiff, Nat.reduceEqDiff, Nat.reduceAdd, Nat.reduceMul, Nat.reduceSub, Nat.reduceBEq, Int.reduceToNat, List.reduceReplicate, reduceCtorEq]
        repeat (refine And.intro (by first | omega | (and_intros <;> first | omega | exact rows_row _ | decide | (simp; done) | (simp; omega)) | fail) ?_)
        refine hK _ (Aw_ret (hQ _ ?_))
        simp only [go_sem, reduceIte, Nat.reduceLT, Nat.reduceLeDiff, Nat.reduceEqDiff, Nat.reduceAdd, Nat.reduceMul, Nat.reduceSub, Nat.reduceBEq, Int.reduceToNat, List.reduceReplicate, reduceCtorEq]
        exact ⟨by omega, ⟨_, _, _, _, _, _, _, _⟩, rfl⟩
      · refine Aw_st hE [0, 2, 3, 43] [2, 3] fun K hK => ?_
        simp only [go_sem, reduceIte, Nat.reduceLT, Nat.reduceLeDiff, Nat.reduceEqDiff, Nat.reduceAdd, Nat.reduceMul, Nat.reduceSub, Nat.reduceBEq, Int.reduceToNat, List.reduceReplicate, reduceCtorEq]
        repeat (refine And.intro (by first | omega | (and_intros <;> first | omega | exact rows_row _ | decide | (simp; done) | (simp; omega)) | fail) ?_)
        refine hK _ (Aw_cond rfl (fun hc6 => ?_) (fun hc6 => ?_))
        · refine Aw_tx hE [2, 3] [2, 3] fun K hK => ?_
          simp only [go_sem, reduceIte, Nat.reduceLT, Nat.reduceLeDiff, Nat.reduceEqDiff, Nat.reduceAdd, Nat.reduceMul, Nat.reduceSub, Nat.reduceBEq, Int.reduceToNat, List.reduceReplicate, reduceCtorEq]
          repeat (refine And.intro (by first | omega | (and_intros <;> first | omega | exact rows_row _ | decide | (simp; done) | (simp; omega)) | fail) ?_)
          repeat' (first | (refine And.intro (by first | omega | decide) ?_) | intro)
          refine hK _ (hN3 _ (hB2 _ ?_))
          refine Aw_st hE [2] [2] fun K hK => ?_
          simp only [go_sem, reduceIte, Nat.reduceLT, Nat.reduceLeDiff, Nat.reduceEqDiff, Nat.reduceAdd, Nat.reduceMul, Nat.reduceSub, Nat.reduceBEq, Int.reduceToNat, List.reduceReplicate, reduceCtorEq]
          repeat (refine And.intro (by first | omega | (and_intros <;> first | omega | exact rows_row _ | decide | (simp; done) | (simp; omega)) | fail) ?_)
          refine hK _ (Aw_ret (hQ _ ?_))
          simp only [go_sem, reduceIte, Nat.reduceLT, Nat.reduceLeDiff, Nat.reduceEqDiff, Nat.reduceAdd, Nat.reduceMul, Nat.reduceSub, Nat.reduceBEq, Int.reduceToNat, List.reduceReplicate, reduceCtorEq]
          exact ⟨by omega, ⟨_, _, _, _, _, _, _, _⟩, rfl⟩
        · refine Aw_skip (hN3 _ (hB2 _ ?_))
          refine Aw_st hE [2] [2] fun K hK => ?_
          simp only [go_sem, reduceIte, Nat.reduceLT, Nat.reduceLeDiff, Nat.reduceEqDiff, Nat.reduceAdd, Nat.reduceMul, Nat.reduceSub, Nat.reduceBEq, Int.reduceToNat, List.reduceReplicate, reduceCtorEq]
          repeat (refine And.intro (by first | omega | (and_intros <;> first | omega | exact rows_row _ | decide | (simp; done) | (simp; omega)) | fail) ?_)
          refine hK _ (Aw_ret (hQ _ ?_))
          simp only [go_sem, reduceIte, Nat.reduceLT, Nat.reduceLeDiff, Nat.reduceEqDiff, Nat.reduceAdd, Nat.reduceMul, Nat.reduceSub, Nat.reduceBEq, Int.reduceToNat, List.reduceReplicate, reduceCtorEq]
          exact ⟨by omega, ⟨_, _, _, _, _, _, _, _⟩, rfl⟩
  refine Aw_st hE [0, 2, 3, 19] [2, 3] fun K hK => ?_
  simp only [go_sem, reduceIte, Nat.reduceLT, Nat.reduceLeDiff, Nat.reduceEqDiff, Nat.reduceAdd, Nat.reduceMul, Nat.reduceSub, Nat.reduceBEq, Int.reduceToNat, List.reduceReplicate, reduceCtorEq]
  repeat (refine And.intro (by first | omega | (and_intros <;> first | omega | exact rows_row _ | decide | (simp; done) | (simp; omega)) | fail) ?_)
  refine hK _ ?_; clear hK K
  refine Aw_bk fun B7 hN7 hE7 hR7 hX7 => ?_
  refine Aw_st hE [0, 2, 3, 19, 20] [2, 3] fun K hK => ?_
  simp only [go_sem, reduceIte, Nat.reduceLT, Nat.reduceLeDiff, Nat.reduceEqDiff, Nat.reduceAdd, Nat.reduceMul, Nat.reduceSub, Nat.reduceBEq, Int.reduceToNat, List.reduceReplicate, reduceCtorEq]
  repeat (refine And.intro (by first | omega | (and_intros <;> first | omega | exact rows_row _ | decide | (simp; done) | (simp; omega)) | fail) ?_)
  refine hK _ (Aw_cond rfl (fun hc8 => ?_) (fun hc8 => ?_))
  · refine Aw_tx hE [0, 2, 3] [2, 3] fun K hK => ?_
    simp only [go_sem, reduceIte, Nat.reduceLT, Nat.reduceLeDiff, Nat.reduceEqDiff, Nat.reduceAdd, Nat.reduceMul, Nat.reduceSub, Nat.reduceBEq, Int.reduceToNat, List.reduceReplicate, reduceCtorEq]
    repeat (refine And.intro (by first | omega | (and_intros <;> first | omega | exact rows_row _ | decide | (simp; done) | (simp; omega)) | fail) ?_)
    repeat' (first | (refine And.intro (by first | omega | decide) ?_) | intro)
    rename_i f b hfb
    refine hK _ (hN7 _ (hB1 ((0, f, b)) _ (trivial) ((Le_wk (by first | omega | (dsimp only; omega) | (simp only; omega) | (simp; omega)) (by simp only [go_sem, reduceIte, Nat.reduceLT, Nat.reduceLeDiff, Nat.reduceEqDiff, Nat.reduceAdd, Nat.reduceMul, Nat.reduceSub, Nat.reduceBEq, Int.reduceToNat, List.reduceReplicate, reduceCtorEq]) (by simp only [go_sem, reduceIte, Nat.reduceLT, Nat.reduceLeDiff, Nat.reduceEqDiff, Nat.reduceAdd, Nat.reduceMul, Nat.reduceSub, Nat.reduceBEq, Int.reduceToNat, List.reduceReplicate, reduceCtorEq])) E)))
  · refine Aw_sq fun B9 hB9 hR9 hX9 => ?_
    refine Aw_st hE [0, 2, 3, 19, 25] [2, 3] fun K hK => ?_
    simp only [go_sem, reduceIte, Nat.reduceLT, Nat.reduceLeDiff, Nat.reduceEqDiff, Nat.reduceAdd, Nat.reduceMul, Nat.reduceSub, Nat.reduceBEq, Int.reduceToNat, List.reduceReplicate, reduceCtorEq]
    repeat (refine And.intro (by first | omega | (and_intros <;> first | omega | exact rows_row _ | decide | (simp; done) | (simp; omega)) | fail) ?_)
    refine hK _ (Aw_cond rfl (fun hc10 => ?_) (fun hc10 => ?_))
    · refine Aw_skip (hB9 _ ?_)
      refine Aw_cond rfl (fun hc11 => ?_) (fun hc11 => ?_)
      · refine Aw_tx hE [0, 2, 3] [2, 3] fun K hK => ?_
        simp only [go_sem, reduceIte, Nat.reduceLT, Nat.reduceLeDiff, Nat.reduceEqDiff, Nat.reduceAdd, Nat.reduceMul, Nat.reduceSub, Nat.reduceBEq, Int.reduceToNat, List.reduceReplicate, reduceCtorEq]
        repeat (refine And.intro (by first | omega | (and_intros <;> first | omega | exact rows_row _ | decide | (simp; done) | (simp; omega)) | fail) ?_)
        repeat' (first | (refine And.intro (by first | omega | decide) ?_) | intro)
        rename_i n hn1 hn2
        refine hK _ (hN7 _ (hB1 ((1 + n, 0, 0)) _ (trivial) ((Le_wk (by first | omega | (dsimp only; omega) | (simp only; omega) | (simp; omega)) (by simp only [go_sem, reduceIte, Nat.reduceLT, Nat.reduceLeDiff, Nat.reduceEqDiff, Nat.reduceAdd, Nat.reduceMul, Nat.reduceSub, Nat.reduceBEq, Int.reduceToNat, List.reduceReplicate, reduceCtorEq]) (by simp only [go_sem, reduceIte, Nat.reduceLT, Nat.reduceLeDiff, Nat.reduceEqDiff, Nat.reduceAdd, Nat.reduceMul, Nat.reduceSub, Nat.reduceBEq, Int.reduceToNat, List.reduceReplicate, reduceCtorEq])) E)))
      · refine Aw_skip (hN7 _ (hB1 ((0, 0, 0)) _ (trivial) ((Le_wk (by first | omega | (dsimp only; omega) | (simp only; omega) | (simp; omega)) (by simp only [go_sem, reduceIte, Nat.reduceLT, Nat.reduceLeDiff, Nat.reduceEqDiff, Nat.reduceAdd, Nat.reduceMul, Nat.reduceSub, Nat.reduceBEq, Int.reduceToNat, List.reduceReplicate, reduceCtorEq]) (by simp only [go_sem, reduceIte, Nat.reduceLT, Nat.reduceLeDiff, Nat.reduceEqDiff, Nat.reduceAdd, Nat.reduceMul, Nat.reduceSub, Nat.reduceBEq, Int.reduceToNat, List.reduceReplicate, reduceCtorEq])) E)))
    · refine Aw_st hE [0, 2, 3, 19, 25] [2, 3] fun K hK => ?_
      simp only [go_sem, reduceIte, Nat.reduceLT, Nat.reduceLeDiff, Nat.reduceEqDiff, Nat.reduceAdd, Nat.reduceMul, Nat.reduceSub, Nat.reduceBEq, Int.reduceToNat, List.reduceReplicate, reduceCtorEq]
      repeat (refine And.intro (by first | omega | (and_intros <;> first | omega | exact rows_row _ | decide | (simp; done) | (simp; omega)) | fail) ?_)
      refine hK _ (Aw_cond rfl (fun hc12 => ?_) (fun hc12 => ?_))
      · refine Aw_skip (hB9 _ ?_)
        refine Aw_cond rfl (fun hc13 => ?_) (fun hc13 => ?_)
        · refine Aw_tx hE [0, 2, 3] [2, 3] fun K hK => ?_
          simp only [go_sem, reduceIte, Nat.reduceLT, Nat.reduceLeDiff, Nat.reduceEqDiff, Nat.reduceAdd, Nat.reduceMul, Nat.reduceSub, Nat.reduceBEq, Int.reduceToNat, List.reduceReplicate, reduceCtorEq]
          repeat (refine And.intro (by first | omega | (and_intros <;> first | omega | exact rows_row _ | decide | (simp; done) | (simp; omega)) | fail) ?_)
          repeat' (first | (refine And.intro (by first | omega | decide) ?_) | intro)
          rename_i n hn1 hn2
          refine hK _ (hN7 _ (hB1 ((1 + n, 0, 0)) _ (trivial) ((Le_wk (by first | omega | (dsimp only; omega) | (simp only; omega) | (simp; omega)) (by simp only [go_sem, reduceIte, Nat.reduceLT, Nat.reduceLeDiff, Nat.reduceEqDiff, Nat.reduceAdd, Nat.reduceMul, Nat.reduceSub, Nat.reduceBEq, Int.reduceToNat, List.reduceReplicate, reduceCtorEq]) (by simp only [go_sem, reduceIte, Nat.reduceLT, Nat.reduceLeDiff, Nat.reduceEqDiff, Nat.reduceAdd, Nat.reduceMul, Nat.reduceSub, Nat.reduceBEq, Int.reduceToNat, List.reduceReplicate, reduceCtorEq])) E)))
        · refine Aw_skip (hN7 _ (hB1 ((0, 0, 0)) _ (trivial) ((Le_wk (by first | omega | (dsimp only; omega) | (simp only; omega) | (simp; omega)) (by simp only [go_sem, reduceIte, Nat.reduceLT, Nat.reduceLeDiff, Nat.reduceEqDiff, Nat.reduceAdd, Nat.reduceMul, Nat.reduceSub, Nat.reduceBEq, Int.reduceToNat, List.reduceReplicate, reduceCtorEq]) (by simp only [go_sem, reduceIte, Nat.reduceLT, Nat.reduceLeDiff, Nat.reduceEqDiff, Nat.reduceAdd, Nat.reduceMul, Nat.reduceSub, Nat.reduceBEq, Int.reduceToNat, List.reduceReplicate, reduceCtorEq])) E)))
      · refine Aw_tx hE [0, 2, 3, 25] [2, 3] fun K hK => ?_
        simp only [go_sem, reduceIte, Nat.reduceLT, Nat.reduceLeDiff, Nat.reduceEqDiff, Nat.reduceAdd, Nat.reduceMul, Nat.reduceSub, Nat.reduceBEq, Int.reduceToNat, List.reduceReplicate, reduceCtorEq]
        repeat (refine And.intro (by first | omega | (and_intros <;> first | omega | exact rows_row _ | decide | (simp; done) | (simp; omega)) | fail) ?_)
        refine hK _ (hB9 _ ?_)
        refine Aw_cond rfl (fun hc14 => ?_) (fun hc14 => ?_)
        · refine Aw_tx hE [0, 2, 3] [2, 3] fun K hK => ?_
          simp only [go_sem, reduceIte, Nat.reduceLT, Nat.reduceLeDiff, Nat.reduceEqDiff, Nat.reduceAdd, Nat.reduceMul, Nat.reduceSub, Nat.reduceBEq, Int.reduceToNat, List.reduceReplicate, reduceCtorEq]
          repeat (refine And.intro (by first | omega | (and_intros <;> first | omega | exact rows_row _ | decide | (simp; done) | (simp; omega)) | fail) ?_)
          repeat' (first | (refine And.intro (by first | omega | decide) ?_) | intro)
          rename_i n hn1 hn2
          refine hK _ (hN7 _ (hB1 ((1 + n, 0, 0)) _ (trivial) ((Le_wk (by first | omega | (dsimp only; omega) | (simp only; omega) | (simp; omega)) (by simp only [go_sem, reduceIte, Nat.reduceLT, Nat.reduceLeDiff, Nat.reduceEqDiff, Nat.reduceAdd, Nat.reduceMul, Nat.reduceSub, Nat.reduceBEq, Int.reduceToNat, List.reduceReplicate, reduceCtorEq]) (by simp only [go_sem, reduceIte, Nat.reduceLT, Nat.reduceLeDiff, Nat.reduceEqDiff, Nat.reduceAdd, Nat.reduceMul, Nat.reduceSub, Nat.reduceBEq, Int.reduceToNat, List.reduceReplicate, reduceCtorEq])) E)))
        · refine Aw_skip (hN7 _ (hB1 ((0, 0, 0)) _ (trivial) ((Le_wk (by first | omega | (dsimp only; omega) | (simp only; omega) | (simp; omega)) (by simp only [go_sem, reduceIte, Nat.reduceLT, Nat.reduceLeDiff, Nat.reduceEqDiff, Nat.reduceAdd, Nat.reduceMul, Nat.reduceSub, Nat.reduceBEq, Int.reduceToNat, List.reduceReplicate, reduceCtorEq]) (by simp only [go_sem, reduceIte, Nat.reduceLT, Nat.reduceLeDiff, Nat.reduceEqDiff, Nat.reduceAdd, Nat.reduceMul, Nat.reduceSub, Nat.reduceBEq, Int.reduceToNat, List.reduceReplicate, reduceCtorEq])) E)))

def cPolD : Con := { pre := fun args => args = [.rd], post := fun _ r => ∃ l : List Cl, l.length ≤ 4 ∧ r = .sl none (crows l), cost := 60, draws := true }
theorem cPolD_own : cPolD.own = false := rfl
theorem cPolD_draws : cPolD.draws = true := rfl
theorem cPolD_cost : cPolD.cost = 60 := rfl
attribute [go_sem] cPolD_own cPolD_draws cPolD_cost
theorem polD_pre : cPolD.pre [.rd] = True := by simp [cPolD]
theorem polD_post (args : List AV) (K : AV → Prop) : (∀ r, cPolD.post args r → K r) = (∀ l : List Cl, l.length ≤ 4 → K (.sl none (crows l))) := by
  apply propext
  exact ⟨fun h p hp => h _ ⟨p, hp, rfl⟩, fun h r ⟨p, hp, e⟩ => e ▸ h p hp⟩
theorem polD_ex (args : List AV) : (∃ r, cPolD.post args r) = True := eq_true ⟨_, [], by simp, rfl⟩
attribute [go_sem] polD_pre polD_post polD_ex

theorem l91Policy_ok : Fine Tryz.prog 34 cPolD := by
  refine fine_of (T := TT) Tryz.func34 rfl Tryz.ntmps34 (by rw [Tryz.results34]) rfl rfl tt (gs_cons pick_ok (gs_cons l91Clause_ok gs_nil)) (ds_nil) ?_
  rintro args rfl
  refine ⟨by simp, fun k hk E hE Q hQ => ?_⟩
  have hk := hk rfl
  simp only [go_sem] at hk
  refine Aw_st hE [0] [] fun K hK => ?_
  simp only [go_sem, reduceIte, Nat.reduceLT, Nat.reduceLeDiff, Nat.reduceEqDiff, Nat.reduceAdd, Nat.reduceMul, Nat.reduceSub, Nat.reduceBEq, Int.reduceToNat, List.reduceReplicate, reduceCtorEq]
  repeat (refine And.intro (by first | omega | (and_intros <;> first | omega | exact rows_row _ | decide | (simp; done) | (simp; omega)) | fail) ?_)
  refine hK _ ?_; clear hK K
  refine Aw_st hE [0, 3] [] fun K hK => ?_
  simp only [go_sem, reduceIte, Nat.reduceLT, Nat.reduceLeDiff, Nat.reduceEqDiff, Nat.reduceAdd, Nat.reduceMul, Nat.reduceSub, Nat.reduceBEq, Int.reduceToNat, List.reduceReplicate, reduceCtorEq]
  repeat (refine And.intro (by first | omega | (and_intros <;> first | omega | exact rows_row _ | decide | (simp; done) | (simp; omega)) | fail) ?_)
  refine hK _ ?_; clear hK K
  refine Aw_sq fun B1 hB1 hR1 hX1 => ?_
  refine Aw_st hE [0, 3, 4] [] fun K hK => ?_
  simp only [go_sem, reduceIte, Nat.reduceLT, Nat.reduceLeDiff, Nat.reduceEqDiff, Nat.reduceAdd, Nat.reduceMul, Nat.reduceSub, Nat.reduceBEq, Int.reduceToNat, List.reduceReplicate, reduceCtorEq]
  repeat (refine And.intro (by first | omega | (and_intros <;> first | omega | exact rows_row _ | decide | (simp; done) | (simp; omega)) | fail) ?_)
  repeat' (first | (refine And.intro (by first | omega | decide) ?_) | intro)
  rename_i n0 hn1 hn2
  refine hK _ ?_; clear hK K
  refine Aw_bk fun B2 hN2 hE2 hR2 hX2 => ?_
  refine Aw_lp (fun (i : List Cl × Int) => ⟨25, [(0, .rd), (3, .sl (some (5, 0, 37)) (crows i.1)), (4, iv i.2)], [], k + 55 - 16 * i.2.toNat⟩) (fun (i : List Cl × Int) => i.1.length + i.2 ≤ 3 ∧ 0 ≤ i.2) (fun (i : List Cl × Int) => i.2.toNat) (([], n0)) (Le_rn (by first | omega | (dsimp only; omega) | (simp only; omega) | (simp; omega))) (⟨by simp; omega, by simp; omega⟩) fun i hi B3 hN3 hR3 hX3 => ?_
  refine Aw_sq fun B4 hB4 hR4 hX4 => ?_
  refine Aw_st hE [0, 3, 4, 9] [] fun K hK => ?_
  simp only [go_sem, reduceIte, Nat.reduceLT, Nat.reduceLeDiff, Nat.reduceEqDiff, Nat.reduceAdd, Nat.reduceMul, Nat.reduceSub, Nat.reduceBEq, Int.reduceToNat, List.reduceReplicate, reduceCtorEq]
  repeat (refine And.intro (by first | omega | (and_intros <;> first | omega | exact rows_row _ | decide | (simp; done) | (simp; omega)) | fail) ?_)
  refine hK _ (Aw_cond rfl (fun hc5 => ?_) (fun hc5 => ?_))
  · simp only [decide_eq_true_eq] at hc5
    refine Aw_skip (hB4 _ ?_)
    refine Aw_sq fun B6 hB6 hR6 hX6 => ?_
    refine Aw_bk fun B7 hN7 hE7 hR7 hX7 => ?_
    refine Aw_tx hE [0, 3, 4] [] fun K hK => ?_
    simp only [go_sem, reduceIte, Nat.reduceLT, Nat.reduceLeDiff, Nat.reduceEqDiff, Nat.reduceAdd, Nat.reduceMul, Nat.reduceSub, Nat.reduceBEq, Int.reduceToNat, List.reduceReplicate, reduceCtorEq, crows_one]
    repeat (refine And.intro (by first | omega | (and_intros <;> first | omega | exact rows_row _ | decide | (simp; done) | (simp; omega)) | fail) ?_)
    intro c
    refine ⟨⟨crows_row _, by omega⟩, ?_⟩
    refine hK _ (hN7 _ (hB6 _ ?_))
    refine Aw_tx hE [0, 3, 4] [] fun K hK => ?_
    simp only [go_sem, reduceIte, Nat.reduceLT, Nat.reduceLeDiff, Nat.reduceEqDiff, Nat.reduceAdd, Nat.reduceMul, Nat.reduceSub, Nat.reduceBEq, Int.reduceToNat, List.reduceReplicate, reduceCtorEq]
    repeat (refine And.intro (by first | omega | (and_intros <;> first | omega | exact rows_row _ | decide | (simp; done) | (simp; omega)) | fail) ?_)
    refine hK _ (hN3 ((i.1 ++ [c], i.2 - 1)) _ (⟨by simp; omega, by first | omega | (dsimp only; omega) | (simp only; omega) | (simp; omega)⟩) (by first | omega | (dsimp only; omega) | (simp only; omega) | (simp; omega)) ((Le_tk 16 5 rfl).trans (Le_rn (by first | omega | (dsimp only; omega) | (simp only; omega) | (simp; omega)))))
  · simp only [decide_eq_false_iff_not] at hc5
    refine Aw_exit (hX4 _ _ (hX3 _ _ (hE2 _ (hB1 _ ?_))))
    refine Aw_sq fun B8 hB8 hR8 hX8 => ?_
    refine Aw_st hE [3, 19] [] fun K hK => ?_
    simp only [go_sem, reduceIte, Nat.reduceLT, Nat.reduceLeDiff, Nat.reduceEqDiff, Nat.reduceAdd, Nat.reduceMul, Nat.reduceSub, Nat.reduceBEq, Int.reduceToNat, List.reduceReplicate, reduceCtorEq]
    repeat (refine And.intro (by first | omega | (and_intros <;> first | omega | exact rows_row _ | decide | (simp; done) | (simp; omega)) | fail) ?_)
    repeat' (first | (refine And.intro (by first | omega | decide) ?_) | intro)
    refine hK _ (Aw_cond rfl (fun hc9 => ?_) (fun hc9 => ?_))
    · refine Aw_tx hE [3] [] fun K hK => ?_
      simp only [go_sem, reduceIte, Nat.reduceLT, Nat.reduceLeDiff, Nat.reduceEqDiff, Nat.reduceAdd, Nat.reduceMul, Nat.reduceSub, Nat.reduceBEq, Int.reduceToNat, List.reduceReplicate, reduceCtorEq, crows_one]
      repeat (refine And.intro (by first | omega | (and_intros <;> first | omega | exact rows_row _ | decide | (simp; done) | (simp; omega)) | fail) ?_)
      refine ⟨⟨crows_row _, by omega⟩, ?_⟩
      refine hK _ (hB8 _ ?_)
      refine Aw_st hE [2] [] fun K hK => ?_
      simp only [go_sem, reduceIte, Nat.reduceLT, Nat.reduceLeDiff, Nat.reduceEqDiff, Nat.reduceAdd, Nat.reduceMul, Nat.reduceSub, Nat.reduceBEq, Int.reduceToNat, List.reduceReplicate, reduceCtorEq]
      repeat (refine And.intro (by first | omega | (and_intros <;> first | omega | exact rows_row _ | decide | (simp; done) | (simp; omega)) | fail) ?_)
      refine hK _ (Aw_ret (hQ _ ?_))
      simp only [go_sem, reduceIte, Nat.reduceLT, Nat.reduceLeDiff, Nat.reduceEqDiff, Nat.reduceAdd, Nat.reduceMul, Nat.reduceSub, Nat.reduceBEq, Int.reduceToNat, List.reduceReplicate, reduceCtorEq]
      exact ⟨by omega, _, by simp; omega, rfl⟩
    · refine Aw_skip (hB8 _ ?_)
      refine Aw_st hE [2] [] fun K hK => ?_
      simp only [go_sem, reduceIte, Nat.reduceLT, Nat.reduceLeDiff, Nat.reduceEqDiff, Nat.reduceAdd, Nat.reduceMul, Nat.reduceSub, Nat.reduceBEq, Int.reduceToNat, List.reduceReplicate, reduceCtorEq]
      repeat (refine And.intro (by first | omega | (and_intros <;> first | omega | exact rows_row _ | decide | (simp; done) | (simp; omega)) | fail) ?_)
      refine hK _ (Aw_ret (hQ _ ?_))
      simp only [go_sem, reduceIte, Nat.reduceLT, Nat.reduceLeDiff, Nat.reduceEqDiff, Nat.reduceAdd, Nat.reduceMul, Nat.reduceSub, Nat.reduceBEq, Int.reduceToNat, List.reduceReplicate, reduceCtorEq]
      exact ⟨by omega, _, by omega, rfl⟩

def cRtsD : Con := { pre := fun args => ∃ n : Int, 0 ≤ n ∧ n ≤ 5 ∧ args = [.rd, iv n], post := fun _ r => ∃ l : List Rt, (l.length ≤ 5 ∧ ∀ x ∈ l, okRt x) ∧ r = .sl none (rrows l), cost := 201, draws := true }
theorem cRtsD_own : cRtsD.own = false := rfl
theorem cRtsD_draws : cRtsD.draws = true := rfl
theorem cRtsD_cost : cRtsD.cost = 201 := rfl
attribute [go_sem] cRtsD_own cRtsD_draws cRtsD_cost
theorem rtsD_pre (n : Int) : cRtsD.pre [.rd, iv n] = (0 ≤ n ∧ n ≤ 5) := by
  apply propext
  simp [cRtsD]
theorem rtsD_post (args : List AV) (K : AV → Prop) : (∀ r, cRtsD.post args r → K r) = (∀ l : List Rt, (l.length ≤ 5 ∧ ∀ x ∈ l, okRt x) → K (.sl none (rrows l))) := by
  apply propext
  exact ⟨fun h p hp => h _ ⟨p, hp, rfl⟩, fun h r ⟨p, hp, e⟩ => e ▸ h p hp⟩
theorem rtsD_ex (args : List AV) : (∃ r, cRtsD.post args r) = True := eq_true ⟨_, [], by simp, rfl⟩
attribute [go_sem] rtsD_pre rtsD_post rtsD_ex
theorem l91Routes_ok : Fine Tryz.prog 59 cRtsD := by
  refine fine_of (T := TT) Tryz.func59 rfl Tryz.ntmps59 (by rw [Tryz.results59]) rfl rfl tt (gs_cons pick_ok (gs_cons l91Route_ok gs_nil)) (ds_nil) ?_
  rintro args ⟨m0, hm1, hm2, rfl⟩
  refine ⟨by simp, fun k hk E hE Q hQ => ?_⟩
  have hk := hk rfl
  simp only [go_sem] at hk
  refine Aw_st hE [0, 1] [] fun K hK => ?_
  simp only [go_sem, reduceIte, Nat.reduceLT, Nat.reduceLeDiff, Nat.reduceEqDiff, Nat.reduceAdd, Nat.reduceMul, Nat.reduceSub, Nat.reduceBEq, Int.reduceToNat, List.reduceReplicate, reduceCtorEq]
  repeat (refine And.intro (by first | omega | (and_intros <;> first | omega | exact rows_row _ | decide | (simp; done) | (simp; omega)) | fail) ?_)
  refine hK _ ?_; clear hK K
  refine Aw_st hE [0, 1, 5] [] fun K hK => ?_
  simp only [go_sem, reduceIte, Nat.reduceLT, Nat.reduceLeDiff, Nat.reduceEqDiff, Nat.reduceAdd, Nat.reduceMul, Nat.reduceSub, Nat.reduceBEq, Int.reduceToNat, List.reduceReplicate, reduceCtorEq]
  repeat (refine And.intro (by first | omega | (and_intros <;> first | omega | exact rows_row _ | decide | (simp; done) | (simp; omega)) | fail) ?_)
  refine hK _ ?_; clear hK K
  refine Aw_sq fun B1 hB1 hR1 hX1 => ?_
  refine Aw_st hE [0, 5, 6] [] fun K hK => ?_
  simp only [go_sem, reduceIte, Nat.reduceLT, Nat.reduceLeDiff, Nat.reduceEqDiff, Nat.reduceAdd, Nat.reduceMul, Nat.reduceSub, Nat.reduceBEq, Int.reduceToNat, List.reduceReplicate, reduceCtorEq]
  repeat (refine And.intro (by first | omega | (and_intros <;> first | omega | exact rows_row _ | decide | (simp; done) | (simp; omega)) | fail) ?_)
  repeat' (first | (refine And.intro (by first | omega | decide) ?_) | intro)
  rename_i n0 hn1 hn2
  refine hK _ ?_; clear hK K
  refine Aw_bk fun B2 hN2 hE2 hR2 hX2 => ?_
  refine Aw_lp (fun (i : List Rt × Int) => ⟨22, [(0, .rd), (5, .sl (some (7, 0, 28)) (rrows i.1)), (6, iv i.2)], [], k + 201 - 40 * i.2.toNat⟩) (fun (i : List Rt × Int) => i.1.length + i.2 ≤ 5 ∧ 0 ≤ i.2 ∧ ∀ x ∈ i.1, okRt x) (fun (i : List Rt × Int) => i.2.toNat) (([], n0)) (Le_rn (by first | omega | (dsimp only; omega) | (simp only; omega) | (simp; omega))) (⟨by simp; omega, by simp; omega, by simp⟩) fun i hi B3 hN3 hR3 hX3 => ?_
  refine Aw_sq fun B4 hB4 hR4 hX4 => ?_
  refine Aw_st hE [0, 5, 6, 13] [] fun K hK => ?_
  simp only [go_sem, reduceIte, Nat.reduceLT, Nat.reduceLeDiff, Nat.reduceEqDiff, Nat.reduceAdd, Nat.reduceMul, Nat.reduceSub, Nat.reduceBEq, Int.reduceToNat, List.reduceReplicate, reduceCtorEq]
  repeat (refine And.intro (by first | omega | (and_intros <;> first | omega | exact rows_row _ | decide | (simp; done) | (simp; omega)) | fail) ?_)
  refine hK _ (Aw_cond rfl (fun hc5 => ?_) (fun hc5 => ?_))
  · simp only [decide_eq_true_eq] at hc5
    refine Aw_skip (hB4 _ ?_)
    refine Aw_sq fun B6 hB6 hR6 hX6 => ?_
    refine Aw_bk fun B7 hN7 hE7 hR7 hX7 => ?_
    refine Aw_tx hE [0, 5, 6] [] fun K hK => ?_
    simp only [go_sem, reduceIte, Nat.reduceLT, Nat.reduceLeDiff, Nat.reduceEqDiff, Nat.reduceAdd, Nat.reduceMul, Nat.reduceSub, Nat.reduceBEq, Int.reduceToNat, List.reduceReplicate, reduceCtorEq, rrows_one]
    repeat (refine And.intro (by first | omega | (and_intros <;> first | omega | exact rows_row _ | decide | (simp; done) | (simp; omega)) | fail) ?_)
    intro x hx
    refine ⟨⟨rrows_row _, by omega⟩, ?_⟩
    refine hK _ (hN7 _ (hB6 _ ?_))
    refine Aw_tx hE [0, 5, 6] [] fun K hK => ?_
    simp only [go_sem, reduceIte, Nat.reduceLT, Nat.reduceLeDiff, Nat.reduceEqDiff, Nat.reduceAdd, Nat.reduceMul, Nat.reduceSub, Nat.reduceBEq, Int.reduceToNat, List.reduceReplicate, reduceCtorEq]
    repeat (refine And.intro (by first | omega | (and_intros <;> first | omega | exact rows_row _ | decide | (simp; done) | (simp; omega)) | fail) ?_)
    refine hK _ (hN3 ((i.1 ++ [x], i.2 - 1)) _ (⟨by simp; omega, by first | omega | (dsimp only; omega) | (simp only; omega) | (simp; omega), fun y hy => (List.mem_append.1 hy).elim (hi.2.2 y) (fun h => by rw [List.mem_singleton] at h; rw [h]; exact hx)⟩) (by first | omega | (dsimp only; omega) | (simp only; omega) | (simp; omega)) ((Le_tk 20 7 rfl).trans (Le_rn (by first | omega | (dsimp only; omega) | (simp only; omega) | (simp; omega)))))
  · simp only [decide_eq_false_iff_not] at hc5
    refine Aw_exit (hX4 _ _ (hX3 _ _ (hE2 _ (hB1 _ ?_))))
    refine Aw_st hE [4] [] fun K hK => ?_
    simp only [go_sem, reduceIte, Nat.reduceLT, Nat.reduceLeDiff, Nat.reduceEqDiff, Nat.reduceAdd, Nat.reduceMul, Nat.reduceSub, Nat.reduceBEq, Int.reduceToNat, List.reduceReplicate, reduceCtorEq]
    repeat (refine And.intro (by first | omega | (and_intros <;> first | omega | exact rows_row _ | decide | (simp; done) | (simp; omega)) | fail) ?_)
    refine hK _ (Aw_ret (hQ _ ?_))
    simp only [go_sem, reduceIte, Nat.reduceLT, Nat.reduceLeDiff, Nat.reduceEqDiff, Nat.reduceAdd, Nat.reduceMul, Nat.reduceSub, Nat.reduceBEq, Int.reduceToNat, List.reduceReplicate, reduceCtorEq]
    exact ⟨by omega, _, ⟨by omega, hi.2.2⟩, rfl⟩
end Go.Proofs.W
end
