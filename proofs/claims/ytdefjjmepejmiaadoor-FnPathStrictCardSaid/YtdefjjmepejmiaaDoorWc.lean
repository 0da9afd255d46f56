/- YtdefjjmepejmiaaDoorWc: part of the proof that A path is written in one way: a text that is read as a path is that path's text, for every draw up to a size., for every input that the row speaks of (no condition of ours). -/
import Derived.Test.YtdefjjmepejmiaaDoorWb
import Derived.Test.YtdefjjmepejmiaaDoorWa
set_option linter.unusedVariables false
set_option linter.unusedSimpArgs false
section
namespace Go.Proofs.W
open Go Go.Eng Go.RowKit
set_option linter.unusedSimpArgs false
set_option maxRecDepth 10000

theorem mOkN_iff (l : List Int) : ∀ n, mOkN l n = true ↔ (∀ k, k < n → isM (l.getD k 0) = true) ∧ ∀ k, k + 1 < n → l.getD k 0 < l.getD (k + 1) 0
  | 0 => by simp [mOkN]
  | n + 1 => by
    simp only [mOkN, Bool.and_eq_true, Bool.or_eq_true, decide_eq_true_eq, mOkN_iff l n]
    constructor
    · rintro ⟨⟨h1, h2⟩, h3, h4⟩
      refine ⟨fun k hk => ?_, fun k hk => ?_⟩
      · by_cases e : k = n
        · rw [e]; exact h3
        · exact h1 k (by omega)
      · by_cases e : k + 1 = n
        · subst e
          exact h4.resolve_left (by omega)
        · exact h2 k (by omega)
    · rintro ⟨h1, h2⟩
      refine ⟨⟨fun k hk => h1 k (by omega), fun k hk => h2 k (by omega)⟩, h1 n (by omega), ?_⟩
      cases n with
      | zero => exact .inl rfl
      | succ n => exact .inr (h2 n (by omega))
theorem mOk_of {l : List Int} (h1 : ∀ y ∈ l, isM y = true) (h2 : l.Pairwise (· < ·)) : mOk l = true := by
  refine (mOkN_iff l _).2 ⟨fun k hk => ?_, fun k hk => ?_⟩
  · rw [List.getD_eq_getElem?_getD, List.getElem?_eq_getElem hk]; exact h1 _ (List.getElem_mem hk)
  · have := List.pairwise_iff_getElem.1 h2 k (k + 1) (by omega) hk (by omega)
    simpa [List.getD_eq_getElem?_getD, hk, show k < l.length by omega] using this
theorem mOk_mem {l : List Int} (h : mOk l = true) : ∀ y ∈ l, isM y = true := fun y hy => by
  obtain ⟨k, hk, rfl⟩ := List.mem_iff_getElem.1 hy
  have := ((mOkN_iff l _).1 h).1 k hk
  simpa [List.getD_eq_getElem?_getD, hk] using this

/-- sorted lists part at x -/
theorem srt_part (x : Int) : ∀ {l : List Int}, l.Pairwise (· < ·) → ∃ a b, l = a ++ b ∧ (∀ y ∈ a, y < x) ∧ ∀ y ∈ b, x ≤ y
  | [], _ => ⟨[], [], rfl, by simp, by simp⟩
  | y :: l, h => by
    obtain ⟨h1, h2⟩ := List.pairwise_cons.1 h
    by_cases hy : y < x
    · obtain ⟨a, b, rfl, ha, hb⟩ := srt_part x h2
      exact ⟨y :: a, b, rfl, by simp only [List.mem_cons]; rintro z (rfl | hz); exact hy; exact ha z hz, hb⟩
    · exact ⟨[], y :: l, rfl, by simp, by simp only [List.mem_cons]; rintro z (rfl | hz); omega; have := h1 z hz; omega⟩

theorem mkL_mem {l : List Int} (h : l.Pairwise (· < ·)) (x y : Int) : y ∈ mkL l x ↔ y = x ∨ y ∈ l := by
  obtain ⟨a, b, rfl, ha, hb⟩ := srt_part x h
  rw [mkL_eq x a b ha hb]
  simp only [List.mem_append, List.mem_cons, List.mem_filter, Bool.not_eq_true', decide_eq_false_iff_not]
  by_cases e : y = x <;> simp [e]
theorem mkL_srt {l : List Int} (h : l.Pairwise (· < ·)) (x : Int) : (mkL l x).Pairwise (· < ·) := by
  obtain ⟨a, b, rfl, ha, hb⟩ := srt_part x h
  rw [mkL_eq x a b ha hb]
  obtain ⟨h1, h2, h3⟩ := List.pairwise_append.1 h
  refine List.pairwise_append.2 ⟨h1, List.pairwise_cons.2 ⟨fun y hy => ?_, h2.filter _⟩, fun y hy z hz => ?_⟩
  · obtain ⟨hy1, hy2⟩ := List.mem_filter.1 hy
    have := hb y hy1
    simp only [Bool.not_eq_true', decide_eq_false_iff_not] at hy2
    omega
  · rcases List.mem_cons.1 hz with rfl | hz
    · exact ha y hy
    · exact h3 y hy z (List.mem_filter.1 hz).1
theorem mkL_mOk {l : List Int} (h : mOk l = true) {x : Int} (hx : isM x = true) : mOk (mkL l x) = true :=
  mOk_of (fun y hy => ((mkL_mem (mOk_srt h) x y).1 hy).elim (fun e => e ▸ hx) (mOk_mem h y)) (mkL_srt (mOk_srt h) x)
theorem srt_ext : ∀ {a b : List Int}, a.Pairwise (· < ·) → b.Pairwise (· < ·) → (∀ y, y ∈ a ↔ y ∈ b) → a = b
  | [], [], _, _, _ => rfl
  | [], y :: b, _, _, h => absurd ((h y).2 (by simp)) (by simp)
  | y :: a, [], _, _, h => absurd ((h y).1 (by simp)) (by simp)
  | y :: a, z :: b, ha, hb, h => by
    obtain ⟨a1, a2⟩ := List.pairwise_cons.1 ha
    obtain ⟨b1, b2⟩ := List.pairwise_cons.1 hb
    have hyz : y = z := by
      have h1 := (h y).1 (by simp)
      have h2 := (h z).2 (by simp)
      rcases List.mem_cons.1 h1 with e | e
      · exact e
      · rcases List.mem_cons.1 h2 with e' | e'
        · exact e'.symm
        · have := b1 y e; have := a1 z e'; omega
    subst hyz
    congr 1
    refine srt_ext a2 b2 fun w => ⟨fun hw => ?_, fun hw => ?_⟩
    · rcases List.mem_cons.1 ((h w).1 (List.mem_cons_of_mem _ hw)) with e | e
      · have := a1 w hw; omega
      · exact e
    · rcases List.mem_cons.1 ((h w).2 (List.mem_cons_of_mem _ hw)) with e | e
      · have := b1 w hw; omega
      · exact e
theorem clL_mem (l : List Int) (x y : Int) : y ∈ clL l x ↔ y ∈ l ∧ y ≠ x := by simp [clL, List.mem_filter]
theorem clL_srt {l : List Int} (h : l.Pairwise (· < ·)) (x : Int) : (clL l x).Pairwise (· < ·) := h.filter _
theorem mkL_mkL {l : List Int} (h : l.Pairwise (· < ·)) (x : Int) : mkL (mkL l x) x = mkL l x :=
  srt_ext (mkL_srt (mkL_srt h x) x) (mkL_srt h x) fun y => by rw [mkL_mem (mkL_srt h x), mkL_mem h]; simp
theorem clL_mkL {l : List Int} (h : l.Pairwise (· < ·)) (x : Int) : clL (mkL l x) x = clL l x :=
  srt_ext (clL_srt (mkL_srt h x) x) (clL_srt h x) fun y => by rw [clL_mem, clL_mem, mkL_mem h]; by_cases e : y = x <;> simp [e]
theorem clL_mOk {l : List Int} (h : mOk l = true) (x : Int) : mOk (clL l x) = true :=
  mOk_of (fun y hy => mOk_mem h y ((clL_mem l x y).1 hy).1) (clL_srt (mOk_srt h) x)
theorem mkL_clL {l : List Int} (h : l.Pairwise (· < ·)) {x : Int} (hx : x ∈ l) : mkL (clL l x) x = l :=
  srt_ext (mkL_srt (clL_srt h x) x) h fun y => by rw [mkL_mem (clL_srt h x), clL_mem]; by_cases e : y = x <;> simp [e, hx]
theorem clL_not {l : List Int} {x : Int} (hx : x ∉ l) : clL l x = l := List.filter_eq_self.2 fun y hy => by simp; rintro rfl; exact hx hy
theorem mkL_len {l : List Int} (h : l.Pairwise (· < ·)) (x : Int) : (mkL l x).length ≤ l.length + 1 := by
  obtain ⟨a, b, rfl, ha, hb⟩ := srt_part x h
  rw [mkL_eq x a b ha hb]
  have := List.length_filter_le (fun y => !decide (y = x)) b
  simp; omega
theorem clL_len (l : List Int) (x : Int) : (clL l x).length ≤ l.length := List.length_filter_le _ _

end Go.Proofs.W
end
section
namespace Go.Proofs.W
open Go Go.Eng Go.RowKit
set_option linter.unusedSimpArgs false
set_option maxRecDepth 100000

/-! texts of paths and of routes -/
def srows (l : List (List UInt8)) : List (List DV) := l.map fun s => [DV.v (.string ⟨s.toArray⟩)]
def strsL : List (List DV) → Option (List (List UInt8))
  | [] => some []
  | [.v (.string s)] :: l => match strsL l with
    | some r => some (s.data.toList :: r)
    | none => none
  | _ => none
theorem srows_cons (s : List UInt8) (l : List (List UInt8)) : srows (s :: l) = [DV.v (.string ⟨s.toArray⟩)] :: srows l := rfl
theorem srows_app (a b : List (List UInt8)) : srows a ++ srows b = srows (a ++ b) := by simp [srows]
theorem srows_one (s : List UInt8) : [[DV.v (.string ⟨s.toArray⟩)]] = srows [s] := rfl
theorem srows_len (l : List (List UInt8)) : (srows l).length = l.length := by simp [srows]
theorem srows_get (l : List (List UInt8)) (i : Nat) (h : i < l.length) : (srows l)[i]? = some [.v (.string ⟨(l.getD i []).toArray⟩)] := by simp [srows, List.getD_eq_getElem?_getD, h]
theorem strsL_nil : strsL [] = some [] := rfl
theorem strsL_cons (s : ByteArray) (l : List (List DV)) : strsL ([.v (.string s)] :: l) = match strsL l with | some r => some (s.data.toList :: r) | none => none := rfl
theorem strsL_srows (l : List (List UInt8)) : strsL (srows l) = some l := by
  induction l with
  | nil => rfl
  | cons n l ih => simp only [srows_cons, strsL_cons, ih]
theorem strsL_eq {els : List (List DV)} : ∀ {l : List (List UInt8)}, strsL els = some l → els = srows l := by
  induction els with
  | nil => intro l h; obtain rfl := Option.some.inj h; rfl
  | cons row els ih =>
    intro l h
    unfold strsL at h
    split at h
    · rename_i e; cases e
    · rename_i s l' e
      split at h
      · rename_i r hr
        obtain rfl := Option.some.inj h
        obtain ⟨rfl, rfl⟩ := List.cons.inj e
        rw [srows_cons, ih hr]
      · cases h
    · cases h
theorem srows_row {l : List (List UInt8)} : ∀ r ∈ srows l, r.length = 1 := by
  intro r hr
  obtain ⟨s, _, rfl⟩ := List.mem_map.1 hr
  rfl
attribute [go_sem] strsL_srows srows_len srows_app strsL_nil strsL_cons
def gSJoin : List AV → Option (Prop × AV) | [.sl _ els, .v (.string s)] => (match strsL els with | some l => some (l.length ≤ 4294967296 ∧ (Lib.join l s.data.toList).length ≤ 140737488355328, sv (Lib.join l s.data.toList)) | none => none) | _ => none
def dSJoin : DFn := { g := gSJoin }
attribute [go_sem] gSJoin dSJoin

def dcI (n : Int) : List UInt8 := Lib.decDigits n.toNat
theorem dcI_one {n : Int} (h0 : 0 ≤ n) (h : n < 10) : dcI n = [UInt8.ofNat (48 + n.toNat)] := Lib.decDigits_one (by omega)
theorem dcI_len {n : Int} (h0 : 0 ≤ n) (h : n < 10) : (dcI n).length = 1 := by rw [dcI_one h0 h]; rfl
def pathTxt (p : List Int) : List UInt8 := if p = [] then [46] else Lib.join (p.map dcI) [45]
def markTxt (m : List Int) : List UInt8 := 109 :: (m.map dcI).flatten
def rtTxt (f b : Int) (p : List Int) (k : Int) (m : List Int) : List UInt8 := Lib.join [rngText f b, pathTxt p, dcI k, markTxt m] [32]
theorem pathOk_mem {p : List Int} (h : pathOk p = true) : ∀ x ∈ p, isH x = true := by
  simp only [pathOk, Bool.and_eq_true, List.all_eq_true] at h
  exact h.1
theorem lens_dc : ∀ {l : List Int}, (∀ x ∈ l, 0 ≤ x ∧ x < 10) → Lib.lens (l.map dcI) = l.length
  | [], _ => rfl
  | x :: l, h => by
    have h1 := h x (by simp)
    have h2 := lens_dc (l := l) fun y hy => h y (by simp [hy])
    simp only [Lib.lens, List.map_cons, List.sum_cons, List.length_cons] at h2 ⊢
    rw [dcI_len h1.1 h1.2, h2]; omega
theorem isH_bd {x : Int} (h : isH x = true) : 0 ≤ x ∧ x < 10 := by
  simp only [isH, Bool.and_eq_true, decide_eq_true_eq] at h; omega
theorem isM_bd {x : Int} (h : isM x = true) : 0 ≤ x ∧ x < 10 := by
  simp only [isM, Bool.and_eq_true, decide_eq_true_eq] at h; omega
theorem join_dc_len {l : List Int} (h : ∀ x ∈ l, 0 ≤ x ∧ x < 10) : (Lib.join (l.map dcI) [45]).length ≤ 2 * l.length := by
  cases l with
  | nil => simp [Lib.join_nil]
  | cons x l =>
    have h1 := h x (by simp)
    have h2 := lens_dc (l := l) fun y hy => h y (by simp [hy])
    rw [List.map_cons, Lib.join_cons, List.length_append, Lib.joinTail_length, dcI_len h1.1 h1.2, h2]
    simp; omega
theorem join_snoc (l : List (List UInt8)) (x s : List UInt8) (h : l ≠ []) : Lib.join (l ++ [x]) s = Lib.join l s ++ (s ++ x) := by
  cases l with
  | nil => exact absurd rfl h
  | cons y l => rw [List.cons_append, Lib.join_cons, Lib.join_cons]; simp [Lib.joinTail]
theorem join_dc_ne {l : List Int} (h : ∀ x ∈ l, 0 ≤ x ∧ x < 10) (hn : l ≠ []) : Lib.join (l.map dcI) [45] ≠ [] := by
  cases l with
  | nil => exact absurd rfl hn
  | cons x l =>
    have h1 := h x (by simp)
    rw [List.map_cons, Lib.join_cons, dcI_one h1.1 h1.2]
    simp
def gPText : List AV → Option (Prop × AV) | [.sl _ els] => (match intsL els with | some p => some (p.length ≤ 4294967296, sv (bif pathOk p then pathTxt p else [])) | none => none) | _ => none
def dPText : DFn := { g := gPText }
def dPTextI (pb : Addr) : DFn := { g := gPText, inv := WP pb }
attribute [go_sem] gPText dPText dPTextI
def gRtText : List AV → Option (Prop × AV)
  | [.agg [.v (.int .i64 f), .v (.int .i64 b), .sl _ e1, .v (.int .i64 k), .sl _ e2]] => (match intsL e1, intsL e2 with
    | some p, some m => some (p.length ≤ 1000000 ∧ m.length ≤ 1000000, sv (bif rtOk f b p k m then rtTxt f b p k m else []))
    | _, _ => none)
  | _ => none
def dRtText : DFn := { g := gRtText }
def dRtTextI (pb : Addr) : DFn := { g := gRtText, inv := WP pb }
attribute [go_sem] gRtText dRtText dRtTextI

theorem pt_len {n : Int} (h : 0 ≤ n ∧ n < 10) : (Lib.decDigits n.toNat).length = 1 := dcI_len h.1 h.2
theorem pt_snoc1 (p : List Int) (i : Nat) (h : i < p.length) (h0 : 0 < i) : (ByteArray.mk (Lib.join ((p.take i).map dcI) [45]).toArray ++ ⟨#[45]⟩ ++ ⟨(Lib.decDigits (p.getD i 0).toNat).toArray⟩) = ⟨(Lib.join ((p.take (i + 1)).map dcI) [45]).toArray⟩ := by
  have hst : p.take (i + 1) = p.take i ++ [p.getD i 0] := by rw [List.take_succ_eq_append_getElem h]; simp [List.getD_eq_getElem?_getD, h]
  have hne : (p.take i).map dcI ≠ [] := fun e => by
    have := congrArg List.length e
    rw [List.length_map, List.length_take, List.length_nil] at this; omega
  rw [hst, List.map_append, List.map_cons, List.map_nil, join_snoc _ _ _ hne, show (#[45] : Array UInt8) = ([45] : List UInt8).toArray from rfl, mk_app, mk_app, List.append_assoc]
  rfl
theorem pt_snoc0 (p : List Int) (i : Nat) (h : i < p.length) (h0 : i = 0) : (ByteArray.mk (Lib.join ((p.take i).map dcI) [45]).toArray ++ ⟨(Lib.decDigits (p.getD i 0).toNat).toArray⟩) = ⟨(Lib.join ((p.take (i + 1)).map dcI) [45]).toArray⟩ := by
  subst h0
  have hst : p.take (0 + 1) = p.take 0 ++ [p.getD 0 0] := by rw [List.take_succ_eq_append_getElem h]; simp [List.getD_eq_getElem?_getD, h]
  rw [hst, mk_app, List.take_zero, List.map_nil, Lib.join_nil, List.nil_append, List.nil_append, List.map_cons, List.map_nil, Lib.join_one]
  rfl
theorem sPText_ok : Fine Tryd.prog 37 dPText.con := by
  refine fine_det (T := TT) Tryd.func37 rfl Tryd.ntmps37 (by rw [Tryd.results37]) rfl rfl tt (gs_nil) (ds_cons sPathOk_ok (ds_cons dec_ok ds_nil)) ?_
  intro args c r h hc
  simp only [dPText, gPText] at h
  split at h
  rotate_left
  · cases h
  split at h
  rotate_left
  · cases h
  rename_i t els _ p hl
  obtain rfl := intsL_eq hl
  obtain ⟨rfl, rfl⟩ := Prod.mk.inj (Option.some.inj h)
  refine ⟨by simp, fun k E hE Q hQ => ?_⟩
  refine Aw_st hE [0] [] fun K hK => ?_
  simp only [go_sem, reduceIte, Nat.reduceLT, Nat.reduceLeDiff, Nat.reduceEqDiff, Nat.reduceAdd, Nat.reduceMul, Nat.reduceSub, Nat.reduceBEq, Int.reduceToNat, List.reduceReplicate, reduceCtorEq]
  repeat (refine And.intro (by first | omega | (and_intros <;> first | omega | exact rows_row _ | decide | (simp; done) | (simp; omega)) | fail) ?_)
  refine hK _ ?_; clear hK K
  refine Aw_sq fun B1 hB1 hR1 hX1 => ?_
  refine Aw_st hE [0, 7] [] fun K hK => ?_
  simp only [go_sem, reduceIte, Nat.reduceLT, Nat.reduceLeDiff, Nat.reduceEqDiff, Nat.reduceAdd, Nat.reduceMul, Nat.reduceSub, Nat.reduceBEq, Int.reduceToNat, List.reduceReplicate, reduceCtorEq]
  repeat (refine And.intro (by first | omega | (and_intros <;> first | omega | exact rows_row _ | decide | (simp; done) | (simp; omega)) | fail) ?_)
  refine hK _ (Aw_cond rfl (fun hc2 => ?_) (fun hc2 => ?_))
  · have hok : pathOk p = false := by simpa using hc2
    refine Aw_st hE [2] [] fun K hK => ?_
    simp only [go_sem, reduceIte, Nat.reduceLT, Nat.reduceLeDiff, Nat.reduceEqDiff, Nat.reduceAdd, Nat.reduceMul, Nat.reduceSub, Nat.reduceBEq, Int.reduceToNat, List.reduceReplicate, reduceCtorEq]
    repeat (refine And.intro (by first | omega | (and_intros <;> first | omega | exact rows_row _ | decide | (simp; done) | (simp; omega)) | fail) ?_)
    refine hK _ (Aw_ret (hR1 _ (hQ _ ?_)))
    simp only [go_sem, reduceIte, Nat.reduceLT, Nat.reduceLeDiff, Nat.reduceEqDiff, Nat.reduceAdd, Nat.reduceMul, Nat.reduceSub, Nat.reduceBEq, Int.reduceToNat, List.reduceReplicate, reduceCtorEq, hok]
  · have hok : pathOk p = true := by simpa using hc2
    have hm : ∀ x ∈ p, 0 ≤ x ∧ x < 10 := fun x hx => isH_bd (pathOk_mem hok x hx)
    have hl2 : ∀ n, (Lib.join ((p.take n).map dcI) [45]).length ≤ 2 * n := fun n => by
      have := join_dc_len (l := p.take n) fun x hx => hm x (List.mem_of_mem_take hx)
      have := List.length_take_le n p
      omega
    refine Aw_skip (hB1 _ ?_)
    refine Aw_st hE [0, 3] [] fun K hK => ?_
    simp only [go_sem, reduceIte, Nat.reduceLT, Nat.reduceLeDiff, Nat.reduceEqDiff, Nat.reduceAdd, Nat.reduceMul, Nat.reduceSub, Nat.reduceBEq, Int.reduceToNat, List.reduceReplicate, reduceCtorEq]
    repeat (refine And.intro (by first | omega | (and_intros <;> first | omega | exact rows_row _ | decide | (simp; done) | (simp; omega)) | fail) ?_)
    refine hK _ ?_; clear hK K
    refine Aw_sq fun B3 hB3 hR3 hX3 => ?_
    refine Aw_st hE [0, 3, 4] [] fun K hK => ?_
    simp only [go_sem, reduceIte, Nat.reduceLT, Nat.reduceLeDiff, Nat.reduceEqDiff, Nat.reduceAdd, Nat.reduceMul, Nat.reduceSub, Nat.reduceBEq, Int.reduceToNat, List.reduceReplicate, reduceCtorEq]
    repeat (refine And.intro (by first | omega | (and_intros <;> first | omega | exact rows_row _ | decide | (simp; done) | (simp; omega)) | fail) ?_)
    refine hK _ ?_; clear hK K
    refine Aw_bk fun B4 hN4 hE4 hR4 hX4 => ?_
    refine Aw_lp (fun i : Nat => ⟨28, [(0, .sl t (rows p)), (3, sv (Lib.join ((p.take i).map dcI) [45])), (4, iv i)], [], k⟩) (fun i : Nat => i ≤ p.length) (fun i : Nat => p.length - i) (0) (Le.refl _) (by omega) fun i hi B5 hN5 hR5 hX5 => ?_
    refine Aw_sq fun B6 hB6 hR6 hX6 => ?_
    refine Aw_st hE [0, 3, 4, 11] [] fun K hK => ?_
    simp only [go_sem, reduceIte, Nat.reduceLT, Nat.reduceLeDiff, Nat.reduceEqDiff, Nat.reduceAdd, Nat.reduceMul, Nat.reduceSub, Nat.reduceBEq, Int.reduceToNat, List.reduceReplicate, reduceCtorEq]
    repeat (refine And.intro (by first | omega | (and_intros <;> first | omega | exact rows_row _ | decide | (simp; done) | (simp; omega)) | fail) ?_)
    refine hK _ (Aw_cond rfl (fun hc7 => ?_) (fun hc7 => ?_))
    · simp only [decide_eq_true_eq] at hc7
      have hil : i < p.length := by omega
      have hi2 := hl2 i
      have hx := hm _ (getD_mem p i hil)
      have hst : p.take (i + 1) = p.take i ++ [p.getD i 0] := by rw [List.take_succ_eq_append_getElem hil]; simp [List.getD_eq_getElem?_getD, hil]
      refine Aw_skip (hB6 _ ?_)
      refine Aw_sq fun B8 hB8 hR8 hX8 => ?_
      refine Aw_bk fun B9 hN9 hE9 hR9 hX9 => ?_
      refine Aw_sq fun B10 hB10 hR10 hX10 => ?_
      refine Aw_st hE [0, 3, 4, 15] [] fun K hK => ?_
      simp only [go_sem, reduceIte, Nat.reduceLT, Nat.reduceLeDiff, Nat.reduceEqDiff, Nat.reduceAdd, Nat.reduceMul, Nat.reduceSub, Nat.reduceBEq, Int.reduceToNat, List.reduceReplicate, reduceCtorEq]
      repeat (refine And.intro (by first | omega | (and_intros <;> first | omega | exact rows_row _ | decide | (simp; done) | (simp; omega)) | fail) ?_)
      refine hK _ (Aw_cond rfl (fun hc11 => ?_) (fun hc11 => ?_))
      · refine Aw_tx hE [0, 3, 4] [] fun K hK => ?_
        simp only [go_sem, reduceIte, Nat.reduceLT, Nat.reduceLeDiff, Nat.reduceEqDiff, Nat.reduceAdd, Nat.reduceMul, Nat.reduceSub, Nat.reduceBEq, Int.reduceToNat, List.reduceReplicate, reduceCtorEq]
        repeat (refine And.intro (by first | omega | (and_intros <;> first | omega | exact rows_row _ | decide | (simp; done) | (simp; omega)) | fail) ?_)
        refine hK _ (hB10 _ ?_)
        refine Aw_tx hE [0, 3, 4] [] fun K hK => ?_
        simp only [go_sem, reduceIte, Nat.reduceLT, Nat.reduceLeDiff, Nat.reduceEqDiff, Nat.reduceAdd, Nat.reduceMul, Nat.reduceSub, Nat.reduceBEq, Int.reduceToNat, List.reduceReplicate, reduceCtorEq, rows_get p i hil]
        repeat (refine And.intro (by first | omega | (and_intros <;> first | omega | exact rows_row _ | decide | (simp; done) | (simp; omega)) | fail) ?_)
        refine ⟨by have := pt_len hx; omega, ?_⟩
        first | rw [pt_snoc1 p i hil (by simpa using hc11)] | rw [pt_snoc0 p i hil (by simp only [decide_eq_false_iff_not] at hc11; omega)]
        refine hK _ (hN9 _ (hB8 _ ?_))
        refine Aw_tx hE [0, 3, 4] [] fun K hK => ?_
        simp only [go_sem, reduceIte, Nat.reduceLT, Nat.reduceLeDiff, Nat.reduceEqDiff, Nat.reduceAdd, Nat.reduceMul, Nat.reduceSub, Nat.reduceBEq, Int.reduceToNat, List.reduceReplicate, reduceCtorEq]
        repeat (refine And.intro (by first | omega | (and_intros <;> first | omega | exact rows_row _ | decide | (simp; done) | (simp; omega)) | fail) ?_)
        refine hK _ (hN5 (i + 1) _ (by omega) (by omega) (Le.refl _))
      · refine Aw_skip (hB10 _ ?_)
        refine Aw_tx hE [0, 3, 4] [] fun K hK => ?_
        simp only [go_sem, reduceIte, Nat.reduceLT, Nat.reduceLeDiff, Nat.reduceEqDiff, Nat.reduceAdd, Nat.reduceMul, Nat.reduceSub, Nat.reduceBEq, Int.reduceToNat, List.reduceReplicate, reduceCtorEq, rows_get p i hil]
        repeat (refine And.intro (by first | omega | (and_intros <;> first | omega | exact rows_row _ | decide | (simp; done) | (simp; omega)) | fail) ?_)
        refine ⟨by have := pt_len hx; omega, ?_⟩
        first | rw [pt_snoc1 p i hil (by simpa using hc11)] | rw [pt_snoc0 p i hil (by simp only [decide_eq_false_iff_not] at hc11; omega)]
        refine hK _ (hN9 _ (hB8 _ ?_))
        refine Aw_tx hE [0, 3, 4] [] fun K hK => ?_
        simp only [go_sem, reduceIte, Nat.reduceLT, Nat.reduceLeDiff, Nat.reduceEqDiff, Nat.reduceAdd, Nat.reduceMul, Nat.reduceSub, Nat.reduceBEq, Int.reduceToNat, List.reduceReplicate, reduceCtorEq]
        repeat (refine And.intro (by first | omega | (and_intros <;> first | omega | exact rows_row _ | decide | (simp; done) | (simp; omega)) | fail) ?_)
        refine hK _ (hN5 (i + 1) _ (by omega) (by omega) (Le.refl _))
    · simp only [decide_eq_false_iff_not] at hc7
      obtain rfl : i = p.length := by omega
      refine Aw_exit (hX6 _ _ (hX5 _ _ (hE4 _ (hB3 _ ?_))))
      refine Aw_sq fun B12 hB12 hR12 hX12 => ?_
      refine Aw_st hE [3, 26] [] fun K hK => ?_
      simp only [go_sem, reduceIte, Nat.reduceLT, Nat.reduceLeDiff, Nat.reduceEqDiff, Nat.reduceAdd, Nat.reduceMul, Nat.reduceSub, Nat.reduceBEq, Int.reduceToNat, List.reduceReplicate, reduceCtorEq]
      repeat (refine And.intro (by first | omega | (and_intros <;> first | omega | exact rows_row _ | decide | (simp; done) | (simp; omega)) | fail) ?_)
      refine hK _ (Aw_cond rfl (fun hc13 => ?_) (fun hc13 => ?_))
      · refine Aw_st hE [2] [] fun K hK => ?_
        simp only [go_sem, reduceIte, Nat.reduceLT, Nat.reduceLeDiff, Nat.reduceEqDiff, Nat.reduceAdd, Nat.reduceMul, Nat.reduceSub, Nat.reduceBEq, Int.reduceToNat, List.reduceReplicate, reduceCtorEq]
        repeat (refine And.intro (by first | omega | (and_intros <;> first | omega | exact rows_row _ | decide | (simp; done) | (simp; omega)) | fail) ?_)
        refine hK _ (Aw_ret (hR12 _ (hQ _ ?_)))
        simp only [go_sem, reduceIte, Nat.reduceLT, Nat.reduceLeDiff, Nat.reduceEqDiff, Nat.reduceAdd, Nat.reduceMul, Nat.reduceSub, Nat.reduceBEq, Int.reduceToNat, List.reduceReplicate, reduceCtorEq, hok, cond_true]
        rw [List.take_length] at hc13
        have hp : p = [] := by
          apply Decidable.byContradiction
          intro hp
          exact join_dc_ne hm hp (by simpa using hc13)
        rw [hp]; rfl
      · refine Aw_skip (hB12 _ ?_)
        refine Aw_st hE [2] [] fun K hK => ?_
        simp only [go_sem, reduceIte, Nat.reduceLT, Nat.reduceLeDiff, Nat.reduceEqDiff, Nat.reduceAdd, Nat.reduceMul, Nat.reduceSub, Nat.reduceBEq, Int.reduceToNat, List.reduceReplicate, reduceCtorEq]
        repeat (refine And.intro (by first | omega | (and_intros <;> first | omega | exact rows_row _ | decide | (simp; done) | (simp; omega)) | fail) ?_)
        refine hK _ (Aw_ret (hQ _ ?_))
        simp only [go_sem, reduceIte, Nat.reduceLT, Nat.reduceLeDiff, Nat.reduceEqDiff, Nat.reduceAdd, Nat.reduceMul, Nat.reduceSub, Nat.reduceBEq, Int.reduceToNat, List.reduceReplicate, reduceCtorEq, hok, cond_true]
        rw [List.take_length] at hc13 ⊢
        have hp : p ≠ [] := by rintro rfl; exact absurd hc13 (by decide)
        rw [pathTxt, if_neg hp]
def wordsA (p : List Int) : Nat → AV
  | 0 => .nl
  | i + 1 => .sl (some (3, 0, 9)) (srows ((p.take (i + 1)).map dcI))
theorem wordsA_0 (p : List Int) : wordsA p 0 = .nl := rfl
theorem wordsA_s (p : List Int) (i : Nat) : wordsA p (i + 1) = .sl (some (3, 0, 9)) (srows ((p.take (i + 1)).map dcI)) := rfl

theorem sjoin_ok : Fine Tryd.prog 74 dSJoin.con := by
  refine raw_fine ⟨_, Tryd.func74, rfl, rfl⟩ rfl ?_
  intro c args vs hsz hrd hsx hpre _
  obtain ⟨cc, r, hg, hc⟩ := hpre
  simp only [dSJoin, gSJoin] at hg
  split at hg
  rotate_left
  · cases hg
  split at hg
  rotate_left
  · cases hg
  rename_i t els s _ l hl
  obtain rfl := strsL_eq hl
  obtain ⟨rfl, rfl⟩ := Prod.mk.inj (Option.some.inj hg)
  obtain ⟨hc1, hc2⟩ := hc
  have h0 := hrd 0 _ rfl
  have h1 := hrd 1 _ rfl
  obtain ⟨lv⟩ := vs
  match lv, hsz with
  | [x, y], _ =>
    have h0' : Rd c (.sl t (srows l)) x := h0
    have h1' : Rd c (.v (.string s)) y := h1
    cases h1'
    have hne : ∀ (e : List (List DV)) (x : Value), RdD c.w c.S (.sl e) x → e = srows l → Calls Tryd.prog 74 #[x, .string s] c.w fun e w' => e = .returned (.string ⟨(Lib.join l s.data.toList).toArray⟩) ∧ Below c.w.heap.size c.w w' := by
      intro e x hx he
      cases hx with
      | nil =>
        obtain rfl : l = [] := by cases l; rfl; cases he
        exact (Tryd.strings_Join_none none 0 s c.w).mono fun e w' h => ⟨h.1, h.2 ▸ Below.refl _ _⟩
      | sl e b off n cap size f hn hcap hs hcl hh =>
        subst he
        cases hl0 : l with
        | nil =>
          subst hl0
          obtain rfl : n = 0 := by simpa [srows_len] using hn
          exact (Tryd.strings_Join_none _ cap s c.w).mono fun e w' h => ⟨h.1, h.2 ▸ Below.refl _ _⟩
        | cons x0 l0 =>
          rw [← hl0]
          obtain rfl : n = l.length := by simpa [srows_len] using hn
          have hsz : size = 1 := by
            have := hs [DV.v (.string ⟨x0.toArray⟩)] (by rw [hl0]; simp [srows])
            simpa using this.symm
          subst hsz
          have hcell : ∀ (j : Nat) x, (l.map fun s => (⟨s.toArray⟩ : ByteArray))[j]? = some x → c.w.cell? ⟨b, off + j, none⟩ = some (.string x) := by
            intro j x hx
            have hj : j < l.length := by
              have := (List.getElem?_eq_some_iff.1 hx).1
              simpa using this
            have h1 := (hcl j (by omega)).2
            have h2 := hh j 0 _ (.v (.string x)) (srows_get l j hj) (by
              simp only [List.getElem?_map, List.getElem?_eq_getElem hj, Option.map_some, Option.some.injEq] at hx
              simp [List.getD_eq_getElem?_getD, hj, hx])
            rw [Nat.mul_one, Nat.add_zero] at h2
            rw [h1]
            generalize f j = u at h2
            cases h2
            rfl
          have hbk : b < c.w.heap.size := World.block_lt_of_cell? c.w ⟨b, off + 0, none⟩ (hcell 0 _ (by rw [hl0]; rfl))
          have e1 : (l.map fun s => (⟨s.toArray⟩ : ByteArray)).map (·.data.toList) = l := by simp [Function.comp_def]
          have hj := Tryd.strings_Join b off cap (l.map fun s => (⟨s.toArray⟩ : ByteArray)) s c.w hcell hbk (by simp; omega) (by simpa using hcap) (by rw [e1]; exact hc2)
          rw [e1, List.length_map] at hj
          exact hj
    cases h0' with
    | sl _ _ _ hr _ =>
      refine (hne _ _ hr rfl).mono ?_
      rintro e w' ⟨rfl, hw⟩
      exact ⟨_, _, fun _ _ => False, rfl, ⟨_, by simp only [dSJoin, gSJoin, hl]; rfl⟩, below_grown hw, fun _ _ h => h.elim, .v _ rfl⟩

theorem iPText_ok (pb : Addr) : Fine Tryd.prog 36 (dPTextI pb).con := by
  refine fine_det (T := TT) Tryd.func36 rfl Tryd.ntmps36 (by rw [Tryd.results36]) rfl rfl tt gs_nil (ds_cons (iPathOk_ok pb) (ds_cons itoa_ok (ds_cons sjoin_ok ds_nil) (wpt_inh pb)) (wp_inh pb)) ?_
  intro args c r h hc
  simp only [dPTextI, gPText] at h
  split at h
  rotate_left
  · cases h
  split at h
  rotate_left
  · cases h
  rename_i t e1 _ p hl1
  obtain rfl := intsL_eq hl1
  obtain ⟨rfl, rfl⟩ := Prod.mk.inj (Option.some.inj h)
  refine ⟨by simp, fun k E hE Q hQ => ?_⟩
  refine Aw_st hE [0] [] fun K hK => ?_
  simp only [go_sem, reduceIte, Nat.reduceLT, Nat.reduceLeDiff, Nat.reduceEqDiff, Nat.reduceAdd, Nat.reduceMul, Nat.reduceSub, Nat.reduceBEq, Int.reduceToNat, List.reduceReplicate, reduceCtorEq]
  refine hK _ ?_; clear hK K
  refine Aw_sq fun B1 hB1 hR1 hX1 => ?_
  refine Aw_bk fun B2 hN2 hE2 hR2 hX2 => ?_
  refine Aw_st hE [0, 6] [] fun K hK => ?_
  simp only [go_sem, reduceIte, Nat.reduceLT, Nat.reduceLeDiff, Nat.reduceEqDiff, Nat.reduceAdd, Nat.reduceMul, Nat.reduceSub, Nat.reduceBEq, Int.reduceToNat, List.reduceReplicate, reduceCtorEq]
  repeat (refine And.intro (by first | omega | (and_intros <;> first | omega | exact rows_row _ | decide | (simp; done) | (simp; omega)) | fail) ?_)
  refine hK _ (Aw_cond rfl (fun hc3 => ?_) (fun hc3 => ?_))
  · refine Aw_st hE [2] [] fun K hK => ?_
    simp only [go_sem, reduceIte, Nat.reduceLT, Nat.reduceLeDiff, Nat.reduceEqDiff, Nat.reduceAdd, Nat.reduceMul, Nat.reduceSub, Nat.reduceBEq, Int.reduceToNat, List.reduceReplicate, reduceCtorEq]
    refine hK _ (Aw_ret (hR2 _ (hR1 _ (hQ _ ?_))))
    have hok : pathOk p = false := by simpa using hc3
    simp only [go_sem, reduceIte, Nat.reduceLT, Nat.reduceLeDiff, Nat.reduceEqDiff, Nat.reduceAdd, Nat.reduceMul, Nat.reduceSub, Nat.reduceBEq, Int.reduceToNat, List.reduceReplicate, reduceCtorEq, hok, cond_false]
  · have hok : pathOk p = true := by simpa using hc3
    have hm : ∀ x ∈ p, 0 ≤ x ∧ x < 10 := fun x hx => isH_bd (pathOk_mem hok x hx)
    refine Aw_st hE [0, 10] [] fun K hK => ?_
    simp only [go_sem, reduceIte, Nat.reduceLT, Nat.reduceLeDiff, Nat.reduceEqDiff, Nat.reduceAdd, Nat.reduceMul, Nat.reduceSub, Nat.reduceBEq, Int.reduceToNat, List.reduceReplicate, reduceCtorEq]
    refine hK _ (Aw_cond rfl (fun hc4 => ?_) (fun hc4 => ?_))
    · refine Aw_st hE [2] [] fun K hK => ?_
      simp only [go_sem, reduceIte, Nat.reduceLT, Nat.reduceLeDiff, Nat.reduceEqDiff, Nat.reduceAdd, Nat.reduceMul, Nat.reduceSub, Nat.reduceBEq, Int.reduceToNat, List.reduceReplicate, reduceCtorEq]
      refine hK _ (Aw_ret (hR2 _ (hR1 _ (hQ _ ?_))))
      simp only [go_sem, reduceIte, Nat.reduceLT, Nat.reduceLeDiff, Nat.reduceEqDiff, Nat.reduceAdd, Nat.reduceMul, Nat.reduceSub, Nat.reduceBEq, Int.reduceToNat, List.reduceReplicate, reduceCtorEq, hok, cond_true]
      have hp : p = [] := by
        have : p.length = 0 := by simpa using hc4
        exact List.eq_nil_of_length_eq_zero this
      rw [hp]; rfl
    · have hp : p ≠ [] := by rintro rfl; exact absurd hc4 (by decide)
      have hp0 : 0 < p.length := by cases p; exact absurd rfl hp; simp
      refine Aw_skip (hN2 _ (hB1 _ ?_))
      refine Aw_st hE [0, 3] [] fun K hK => ?_
      simp only [go_sem, reduceIte, Nat.reduceLT, Nat.reduceLeDiff, Nat.reduceEqDiff, Nat.reduceAdd, Nat.reduceMul, Nat.reduceSub, Nat.reduceBEq, Int.reduceToNat, List.reduceReplicate, reduceCtorEq]
      refine hK _ ?_; clear hK K
      refine Aw_sq fun B5 hB5 hR5 hX5 => ?_
      refine Aw_st hE [3, 14, 15, 16] [] fun K hK => ?_
      simp only [go_sem, reduceIte, Nat.reduceLT, Nat.reduceLeDiff, Nat.reduceEqDiff, Nat.reduceAdd, Nat.reduceMul, Nat.reduceSub, Nat.reduceBEq, Int.reduceToNat, List.reduceReplicate, reduceCtorEq]
      refine hK _ ?_; clear hK K
      refine Aw_bk fun B6 hN6 hE6 hR6 hX6 => ?_
      refine Aw_lp (fun i : Nat => ⟨28, [(3, wordsA p i), (14, isl p), (15, iv p.length), (16, iv i)], [], k⟩) (fun i => i ≤ p.length) (fun i => p.length - i) 0 (Le_wk (by first | omega | (dsimp only; omega) | (simp only; omega) | (simp; omega)) (by simp only [go_sem, reduceIte, Nat.reduceLT, Nat.reduceLeDiff, Nat.reduceEqDiff, Nat.reduceAdd, Nat.reduceMul, Nat.reduceSub, Nat.reduceBEq, Int.reduceToNat, List.reduceReplicate, reduceCtorEq, wordsA_0]; rfl) (by simp only [go_sem, reduceIte, Nat.reduceLT, Nat.reduceLeDiff, Nat.reduceEqDiff, Nat.reduceAdd, Nat.reduceMul, Nat.reduceSub, Nat.reduceBEq, Int.reduceToNat, List.reduceReplicate, reduceCtorEq])) (by omega) fun i hi B7 hN7 hR7 hX7 => ?_
      refine Aw_st hE [3, 14, 15, 16, 17] [] fun K hK => ?_
      simp only [go_sem, reduceIte, Nat.reduceLT, Nat.reduceLeDiff, Nat.reduceEqDiff, Nat.reduceAdd, Nat.reduceMul, Nat.reduceSub, Nat.reduceBEq, Int.reduceToNat, List.reduceReplicate, reduceCtorEq]
      refine hK _ ?_; clear hK K
      refine Aw_sq fun B8 hB8 hR8 hX8 => ?_
      refine Aw_cond rfl (fun hc9 => ?_) (fun hc9 => ?_)
      · simp only [decide_eq_true_eq] at hc9
        have hil : i < p.length := by omega
        have hx := hm _ (getD_mem p i hil)
        have hst : (p.take (i + 1)).map dcI = (p.take i).map dcI ++ [Lib.decDigits (p.getD i 0).toNat] := by
          rw [List.take_succ_eq_append_getElem hil, List.map_append]; simp [List.getD_eq_getElem?_getD, hil, dcI]
        refine Aw_skip (hB8 _ ?_)
        refine Aw_sq fun B10 hB10 hR10 hX10 => ?_
        refine Aw_bk fun B11 hN11 hE11 hR11 hX11 => ?_
        refine Aw_st hE [3, 5, 14, 15, 16] [] fun K hK => ?_
        simp only [go_sem, reduceIte, Nat.reduceLT, Nat.reduceLeDiff, Nat.reduceEqDiff, Nat.reduceAdd, Nat.reduceMul, Nat.reduceSub, Nat.reduceBEq, Int.reduceToNat, List.reduceReplicate, reduceCtorEq, rows_get p i hil]
        repeat (refine And.intro (by first | omega | (and_intros <;> first | omega | exact rows_row _ | decide | (simp; done) | (simp; omega)) | fail) ?_)
        refine hK _ ?_; clear hK K
        cases i with
        | zero =>
          simp only [wordsA_0]
          refine Aw_tx hE [3, 14, 15, 16] [] fun K hK => ?_
          simp only [go_sem, reduceIte, Nat.reduceLT, Nat.reduceLeDiff, Nat.reduceEqDiff, Nat.reduceAdd, Nat.reduceMul, Nat.reduceSub, Nat.reduceBEq, Int.reduceToNat, List.reduceReplicate, reduceCtorEq, srows_one]
          repeat (refine And.intro (by first | omega | (and_intros <;> first | omega | exact rows_row _ | decide | (simp; done) | (simp; omega)) | fail) ?_)
          refine ⟨srows_row, ?_⟩
          refine hK _ (hN11 _ (hB10 _ ?_))
          refine Aw_tx hE [3, 14, 15, 16] [] fun K hK => ?_
          simp only [go_sem, reduceIte, Nat.reduceLT, Nat.reduceLeDiff, Nat.reduceEqDiff, Nat.reduceAdd, Nat.reduceMul, Nat.reduceSub, Nat.reduceBEq, Int.reduceToNat, List.reduceReplicate, reduceCtorEq]
          repeat (refine And.intro (by first | omega | (and_intros <;> first | omega | exact rows_row _ | decide | (simp; done) | (simp; omega)) | fail) ?_)
          refine hK _ (hN7 (0 + 1) _ (by omega) (by omega) ?_)
          simp only [wordsA_s, hst, List.take_zero, List.map_nil, List.nil_append]
          exact Le_tk 24 3 rfl
        | succ i =>
          simp only [wordsA_s]
          refine Aw_tx hE [3, 14, 15, 16] [] fun K hK => ?_
          simp only [go_sem, reduceIte, Nat.reduceLT, Nat.reduceLeDiff, Nat.reduceEqDiff, Nat.reduceAdd, Nat.reduceMul, Nat.reduceSub, Nat.reduceBEq, Int.reduceToNat, List.reduceReplicate, reduceCtorEq, srows_one]
          repeat (refine And.intro (by first | omega | (and_intros <;> first | omega | exact rows_row _ | decide | (simp; done) | (simp; omega)) | fail) ?_)
          refine ⟨⟨srows_row, by simp; omega⟩, ?_⟩
          refine hK _ (hN11 _ (hB10 _ ?_))
          refine Aw_tx hE [3, 14, 15, 16] [] fun K hK => ?_
          simp only [go_sem, reduceIte, Nat.reduceLT, Nat.reduceLeDiff, Nat.reduceEqDiff, Nat.reduceAdd, Nat.reduceMul, Nat.reduceSub, Nat.reduceBEq, Int.reduceToNat, List.reduceReplicate, reduceCtorEq]
          repeat (refine And.intro (by first | omega | (and_intros <;> first | omega | exact rows_row _ | decide | (simp; done) | (simp; omega)) | fail) ?_)
          refine hK _ (hN7 (i + 1 + 1) _ (by omega) (by omega) ?_)
          simp only [wordsA_s, hst]
          exact Le_tk 24 3 rfl
      · simp only [decide_eq_false_iff_not] at hc9
        obtain rfl : i = p.length := by omega
        refine Aw_exit (hX8 _ _ (hX7 _ _ (hE6 _ (hB5 _ ?_))))
        obtain ⟨n, hn⟩ : ∃ n, p.length = n + 1 := ⟨p.length - 1, by omega⟩
        simp only [hn, wordsA_s]
        rw [← hn]
        refine Aw_st hE [2] [] fun K hK => ?_
        simp only [go_sem, reduceIte, Nat.reduceLT, Nat.reduceLeDiff, Nat.reduceEqDiff, Nat.reduceAdd, Nat.reduceMul, Nat.reduceSub, Nat.reduceBEq, Int.reduceToNat, List.reduceReplicate, reduceCtorEq]
        rw [List.take_length]
        refine ⟨⟨by simp; omega, by have := join_dc_len hm; omega⟩, ?_⟩
        refine hK _ (Aw_ret (hQ _ ?_))
        simp only [go_sem, reduceIte, Nat.reduceLT, Nat.reduceLeDiff, Nat.reduceEqDiff, Nat.reduceAdd, Nat.reduceMul, Nat.reduceSub, Nat.reduceBEq, Int.reduceToNat, List.reduceReplicate, reduceCtorEq, hok, cond_true, pathTxt, hp]
end Go.Proofs.W
end
section
namespace Go.Proofs.W
open Go Go.Eng Go.RowKit
set_option linter.unusedSimpArgs false
set_option maxRecDepth 100000

theorem rtOk_parts {f b : Int} {p : List Int} {k : Int} {m : List Int} (h : rtOk f b p k m = true) : rngOk f b = true ∧ pathOk p = true ∧ (0 ≤ k ∧ k ≤ 9) ∧ mOk m = true := by
  simp only [rtOk, Bool.and_eq_true, decide_eq_true_eq] at h
  exact ⟨h.1, h.2.2.1, ⟨h.2.2.2.1, h.2.2.2.2.1⟩, h.2.2.2.2.2⟩
theorem mk_snoc (m : List Int) (i : Nat) (h : i < m.length) (a : List UInt8) : (ByteArray.mk (a ++ ((m.take i).map dcI).flatten).toArray ++ ⟨(Lib.decDigits (m.getD i 0).toNat).toArray⟩) = ⟨(a ++ ((m.take (i + 1)).map dcI).flatten).toArray⟩ := by
  have hst : (m.take (i + 1)).map dcI = (m.take i).map dcI ++ [dcI (m.getD i 0)] := by
    rw [List.take_succ_eq_append_getElem h, List.map_append]; simp [List.getD_eq_getElem?_getD, h]
  rw [hst, mk_app, List.flatten_append, List.append_assoc]
  simp [dcI]
theorem mk_snoc1 (m : List Int) (i : Nat) (h : i < m.length) : (ByteArray.mk (109 :: ((m.take i).map dcI).flatten).toArray ++ ⟨(Lib.decDigits (m.getD i 0).toNat).toArray⟩) = ⟨(109 :: ((m.take (i + 1)).map dcI).flatten).toArray⟩ := mk_snoc m i h [109]
theorem mk_len {m : List Int} (h : ∀ x ∈ m, 0 ≤ x ∧ x < 10) : ((m.map dcI).flatten).length = m.length := by
  induction m with
  | nil => rfl
  | cons x m ih =>
    have h1 := h x (by simp)
    rw [List.map_cons, List.flatten_cons, List.length_append, dcI_len h1.1 h1.2, ih fun y hy => h y (by simp [hy]), List.length_cons]; omega
theorem pathTxt_len {p : List Int} (h : pathOk p = true) : (pathTxt p).length ≤ 2 * p.length + 1 := by
  unfold pathTxt
  split
  · simp
  · have := join_dc_len fun x hx => isH_bd (pathOk_mem h x hx)
    omega
theorem join4 (a b c d s : List UInt8) : Lib.join [a, b, c, d] s = a ++ (s ++ (b ++ (s ++ (c ++ (s ++ d))))) := by
  rw [Lib.join_cons]; simp [Lib.joinTail]
theorem rngText_l43 {f b : Int} (h : rngOk f b = true) : (rngText f b).length ≤ 43 := by
  obtain ⟨h1, h2, h3, h4, _⟩ := rngOk_in h
  have l1 := dec_len f.toNat (by omega)
  have l2 := dec_len b.toNat (by omega)
  simp only [rngText, List.length_append, List.length_cons]; omega

def rtHead (f b : Int) (p : List Int) (k : Int) : List UInt8 := rngText f b ++ ([32] ++ (pathTxt p ++ ([32] ++ (Lib.decDigits k.toNat ++ [32, 109]))))
theorem rtTxt_head (f b : Int) (p : List Int) (k : Int) (m : List Int) : rtTxt f b p k m = rtHead f b p k ++ (m.map dcI).flatten := by
  simp [rtTxt, join4, rtHead, markTxt, dcI]
theorem iRtText_ok (pb : Addr) : Fine Tryd.prog 33 (dRtTextI pb).con := by
  refine fine_det (T := TT) Tryd.func33 rfl Tryd.ntmps33 (by rw [Tryd.results33]) rfl rfl tt gs_nil (ds_cons (iRtOk_ok pb) (ds_cons itoa_ok (ds_cons iRText_ok (ds_cons (iPText_ok pb) (ds_cons sjoin_ok ds_nil) (wp_inh pb)) (wpt_inh pb)) (wpt_inh pb)) (wp_inh pb)) ?_
  intro args c r h hc
  simp only [dRtTextI, gRtText] at h
  split at h
  rotate_left
  · cases h
  split at h
  rotate_left
  · cases h
  rename_i f b t1 e1 lk t2 e2 _ _ p m hl1 hl2
  obtain rfl := intsL_eq hl1
  obtain rfl := intsL_eq hl2
  obtain ⟨rfl, rfl⟩ := Prod.mk.inj (Option.some.inj h)
  refine ⟨by simp, fun k E hE Q hQ => ?_⟩
  refine Aw_st hE [1] [1] fun K hK => ?_
  simp only [go_sem, reduceIte, Nat.reduceLT, Nat.reduceLeDiff, Nat.reduceEqDiff, Nat.reduceAdd, Nat.reduceMul, Nat.reduceSub, Nat.reduceBEq, Int.reduceToNat, List.reduceReplicate, reduceCtorEq]
  repeat (refine And.intro (by first | omega | (and_intros <;> first | omega | exact rows_row _ | decide | (simp; done) | (simp; omega)) | fail) ?_)
  refine hK _ ?_; clear hK K
  refine Aw_sq fun B1 hB1 hR1 hX1 => ?_
  refine Aw_st hE [1, 8] [1] fun K hK => ?_
  simp only [go_sem, reduceIte, Nat.reduceLT, Nat.reduceLeDiff, Nat.reduceEqDiff, Nat.reduceAdd, Nat.reduceMul, Nat.reduceSub, Nat.reduceBEq, Int.reduceToNat, List.reduceReplicate, reduceCtorEq]
  repeat (refine And.intro (by first | omega | (and_intros <;> first | omega | exact rows_row _ | decide | (simp; done) | (simp; omega)) | fail) ?_)
  refine hK _ (Aw_cond rfl (fun hc2 => ?_) (fun hc2 => ?_))
  · have hok : rtOk f b p lk m = false := by simpa using hc2
    refine Aw_st hE [2] [] fun K hK => ?_
    simp only [go_sem, reduceIte, Nat.reduceLT, Nat.reduceLeDiff, Nat.reduceEqDiff, Nat.reduceAdd, Nat.reduceMul, Nat.reduceSub, Nat.reduceBEq, Int.reduceToNat, List.reduceReplicate, reduceCtorEq]
    repeat (refine And.intro (by first | omega | (and_intros <;> first | omega | exact rows_row _ | decide | (simp; done) | (simp; omega)) | fail) ?_)
    refine hK _ (Aw_ret (hR1 _ (hQ _ ?_)))
    simp only [go_sem, reduceIte, Nat.reduceLT, Nat.reduceLeDiff, Nat.reduceEqDiff, Nat.reduceAdd, Nat.reduceMul, Nat.reduceSub, Nat.reduceBEq, Int.reduceToNat, List.reduceReplicate, reduceCtorEq, hok, cond_false]
  · have hok : rtOk f b p lk m = true := by simpa using hc2
    obtain ⟨hok1, hok2, hok3, hok4⟩ := rtOk_parts hok
    have hm : ∀ x ∈ m, 0 ≤ x ∧ x < 10 := fun x hx => isM_bd (mOk_mem hok4 x hx)
    have hml : ∀ n, (((m.take n).map dcI).flatten).length ≤ m.length := fun n => by
      rw [mk_len fun x hx => hm x (List.mem_of_mem_take hx), List.length_take]; omega
    refine Aw_skip (hB1 _ ?_)
    refine Aw_st hE [1, 3] [1] fun K hK => ?_
    simp only [go_sem, reduceIte, Nat.reduceLT, Nat.reduceLeDiff, Nat.reduceEqDiff, Nat.reduceAdd, Nat.reduceMul, Nat.reduceSub, Nat.reduceBEq, Int.reduceToNat, List.reduceReplicate, reduceCtorEq]
    repeat (refine And.intro (by first | omega | (and_intros <;> first | omega | exact rows_row _ | decide | (simp; done) | (simp; omega)) | fail) ?_)
    refine hK _ ?_; clear hK K
    refine Aw_sq fun B3 hB3 hR3 hX3 => ?_
    refine Aw_st hE [1, 3, 10, 11, 12] [1] fun K hK => ?_
    simp only [go_sem, reduceIte, Nat.reduceLT, Nat.reduceLeDiff, Nat.reduceEqDiff, Nat.reduceAdd, Nat.reduceMul, Nat.reduceSub, Nat.reduceBEq, Int.reduceToNat, List.reduceReplicate, reduceCtorEq]
    repeat (refine And.intro (by first | omega | (and_intros <;> first | omega | exact rows_row _ | decide | (simp; done) | (simp; omega)) | fail) ?_)
    refine hK _ ?_; clear hK K
    refine Aw_bk fun B4 hN4 hE4 hR4 hX4 => ?_
    refine Aw_lp (fun i : Nat => ⟨33, [(1, .loc 1 0), (3, sv (109 :: ((m.take i).map dcI).flatten)), (10, isl m), (11, iv m.length), (12, iv i)], [(1, [iv f, iv b, isl p, iv lk, isl m])], k⟩) (fun i : Nat => i ≤ m.length) (fun i : Nat => m.length - i) (0) (Le_wk (by first | omega | (dsimp only; omega) | (simp only; omega) | (simp; omega)) (by simp only [go_sem, reduceIte, Nat.reduceLT, Nat.reduceLeDiff, Nat.reduceEqDiff, Nat.reduceAdd, Nat.reduceMul, Nat.reduceSub, Nat.reduceBEq, Int.reduceToNat, List.reduceReplicate, reduceCtorEq, List.flatten_nil]; rfl) (by simp only [go_sem, reduceIte, Nat.reduceLT, Nat.reduceLeDiff, Nat.reduceEqDiff, Nat.reduceAdd, Nat.reduceMul, Nat.reduceSub, Nat.reduceBEq, Int.reduceToNat, List.reduceReplicate, reduceCtorEq])) (by omega) fun i hi B5 hN5 hR5 hX5 => ?_
    refine Aw_st hE [1, 3, 10, 11, 12, 13] [1] fun K hK => ?_
    simp only [go_sem, reduceIte, Nat.reduceLT, Nat.reduceLeDiff, Nat.reduceEqDiff, Nat.reduceAdd, Nat.reduceMul, Nat.reduceSub, Nat.reduceBEq, Int.reduceToNat, List.reduceReplicate, reduceCtorEq]
    repeat (refine And.intro (by first | omega | (and_intros <;> first | omega | exact rows_row _ | decide | (simp; done) | (simp; omega)) | fail) ?_)
    refine hK _ ?_; clear hK K
    refine Aw_sq fun B6 hB6 hR6 hX6 => ?_
    refine Aw_cond rfl (fun hc7 => ?_) (fun hc7 => ?_)
    · simp only [decide_eq_true_eq] at hc7
      have hil : i < m.length := by omega
      have hx := hm _ (getD_mem m i hil)
      have hi2 := hml i
      have l5 := pt_len hx
      refine Aw_skip (hB6 _ ?_)
      refine Aw_sq fun B8 hB8 hR8 hX8 => ?_
      refine Aw_bk fun B9 hN9 hE9 hR9 hX9 => ?_
      refine Aw_st hE [1, 3, 5, 10, 11, 12] [1] fun K hK => ?_
      simp only [go_sem, reduceIte, Nat.reduceLT, Nat.reduceLeDiff, Nat.reduceEqDiff, Nat.reduceAdd, Nat.reduceMul, Nat.reduceSub, Nat.reduceBEq, Int.reduceToNat, List.reduceReplicate, reduceCtorEq, rows_get m i hil]
      repeat (refine And.intro (by first | omega | (and_intros <;> first | omega | exact rows_row _ | decide | (simp; done) | (simp; omega)) | fail) ?_)
      refine hK _ ?_; clear hK K
      refine Aw_tx hE [1, 3, 10, 11, 12] [1] fun K hK => ?_
      simp only [go_sem, reduceIte, Nat.reduceLT, Nat.reduceLeDiff, Nat.reduceEqDiff, Nat.reduceAdd, Nat.reduceMul, Nat.reduceSub, Nat.reduceBEq, Int.reduceToNat, List.reduceReplicate, reduceCtorEq]
      repeat (refine And.intro (by first | omega | (and_intros <;> first | omega | exact rows_row _ | decide | (simp; done) | (simp; omega)) | fail) ?_)
      rw [mk_snoc1 m i hil]
      refine hK _ (hN9 _ (hB8 _ ?_))
      refine Aw_tx hE [1, 3, 10, 11, 12] [1] fun K hK => ?_
      simp only [go_sem, reduceIte, Nat.reduceLT, Nat.reduceLeDiff, Nat.reduceEqDiff, Nat.reduceAdd, Nat.reduceMul, Nat.reduceSub, Nat.reduceBEq, Int.reduceToNat, List.reduceReplicate, reduceCtorEq]
      repeat (refine And.intro (by first | omega | (and_intros <;> first | omega | exact rows_row _ | decide | (simp; done) | (simp; omega)) | fail) ?_)
      refine hK _ (hN5 (i + 1) _ (by omega) (by omega) (Le.refl _))
    · simp only [decide_eq_false_iff_not] at hc7
      obtain rfl : i = m.length := by omega
      refine Aw_exit (hX6 _ _ (hX5 _ _ (hE4 _ (hB3 _ ?_))))
      refine Aw_sd hE [2] [] 6 (by kernel_rfl) fun K hK => ?_
      simp only [go_sem, reduceIte, Nat.reduceLT, Nat.reduceLeDiff, Nat.reduceEqDiff, Nat.reduceAdd, Nat.reduceMul, Nat.reduceSub, Nat.reduceBEq, Int.reduceToNat, List.reduceReplicate, reduceCtorEq]
      repeat (refine And.intro (by first | omega | (and_intros <;> first | omega | exact rows_row _ | decide | (simp; done) | (simp; omega)) | fail) ?_)
      simp only [hok1, hok2, cond_true, List.take_length]
      have l1 := rngText_l43 hok1
      have l2 := pathTxt_len hok2
      have l3 := dec_len lk.toNat (by omega)
      have l4 := mk_len hm
      refine ⟨by rw [join4]; simp only [List.length_append, List.length_cons, List.length_nil]; omega, ?_⟩
      refine hK _ (Aw_ret (hQ _ ?_))
      simp only [go_sem, reduceIte, Nat.reduceLT, Nat.reduceLeDiff, Nat.reduceEqDiff, Nat.reduceAdd, Nat.reduceMul, Nat.reduceSub, Nat.reduceBEq, Int.reduceToNat, List.reduceReplicate, reduceCtorEq, hok, cond_true, rtTxt, dcI, markTxt]
theorem sRtText_ok : Fine Tryd.prog 34 dRtText.con := by
  refine fine_det (T := TT) Tryd.func34 rfl Tryd.ntmps34 (by rw [Tryd.results34]) rfl rfl tt gs_nil (ds_cons sRtOk_ok (ds_cons text1_ok (ds_cons sPText_ok (ds_cons dec_ok ds_nil)))) ?_
  intro args c r h hc
  simp only [dRtText, gRtText] at h
  split at h
  rotate_left
  · cases h
  split at h
  rotate_left
  · cases h
  rename_i f b t1 e1 lk t2 e2 _ _ p m hl1 hl2
  obtain rfl := intsL_eq hl1
  obtain rfl := intsL_eq hl2
  obtain ⟨rfl, rfl⟩ := Prod.mk.inj (Option.some.inj h)
  refine ⟨by simp, fun k E hE Q hQ => ?_⟩
  refine Aw_st hE [1] [1] fun K hK => ?_
  simp only [go_sem, reduceIte, Nat.reduceLT, Nat.reduceLeDiff, Nat.reduceEqDiff, Nat.reduceAdd, Nat.reduceMul, Nat.reduceSub, Nat.reduceBEq, Int.reduceToNat, List.reduceReplicate, reduceCtorEq]
  repeat (refine And.intro (by first | omega | (and_intros <;> first | omega | exact rows_row _ | decide | (simp; done) | (simp; omega)) | fail) ?_)
  refine hK _ ?_; clear hK K
  refine Aw_sq fun B1 hB1 hR1 hX1 => ?_
  refine Aw_st hE [1, 7] [1] fun K hK => ?_
  simp only [go_sem, reduceIte, Nat.reduceLT, Nat.reduceLeDiff, Nat.reduceEqDiff, Nat.reduceAdd, Nat.reduceMul, Nat.reduceSub, Nat.reduceBEq, Int.reduceToNat, List.reduceReplicate, reduceCtorEq]
  repeat (refine And.intro (by first | omega | (and_intros <;> first | omega | exact rows_row _ | decide | (simp; done) | (simp; omega)) | fail) ?_)
  refine hK _ (Aw_cond rfl (fun hc2 => ?_) (fun hc2 => ?_))
  · have hok : rtOk f b p lk m = false := by simpa using hc2
    refine Aw_st hE [2] [] fun K hK => ?_
    simp only [go_sem, reduceIte, Nat.reduceLT, Nat.reduceLeDiff, Nat.reduceEqDiff, Nat.reduceAdd, Nat.reduceMul, Nat.reduceSub, Nat.reduceBEq, Int.reduceToNat, List.reduceReplicate, reduceCtorEq]
    repeat (refine And.intro (by first | omega | (and_intros <;> first | omega | exact rows_row _ | decide | (simp; done) | (simp; omega)) | fail) ?_)
    refine hK _ (Aw_ret (hR1 _ (hQ _ ?_)))
    simp only [go_sem, reduceIte, Nat.reduceLT, Nat.reduceLeDiff, Nat.reduceEqDiff, Nat.reduceAdd, Nat.reduceMul, Nat.reduceSub, Nat.reduceBEq, Int.reduceToNat, List.reduceReplicate, reduceCtorEq, hok, cond_false]
  · have hok : rtOk f b p lk m = true := by simpa using hc2
    obtain ⟨hok1, hok2, hok3, hok4⟩ := rtOk_parts hok
    refine Aw_skip (hB1 _ ?_)
    refine Aw_sd hE [1, 3] [1] 6 (by kernel_rfl) fun K hK => ?_
    simp only [go_sem, reduceIte, Nat.reduceLT, Nat.reduceLeDiff, Nat.reduceEqDiff, Nat.reduceAdd, Nat.reduceMul, Nat.reduceSub, Nat.reduceBEq, Int.reduceToNat, List.reduceReplicate, reduceCtorEq, hok2, cond_true]
    repeat (refine And.intro (by first | omega | (and_intros <;> first | omega | exact rows_row _ | decide | (simp; done) | (simp; omega)) | fail) ?_)
    obtain ⟨c1, c2, c3, c4, _⟩ := rngOk_in hok1
    have l1 := rngText_l43 hok1
    have l2 := pathTxt_len hok2
    have l3 := dec_len lk.toNat (by omega)
    have hm : ∀ x ∈ m, 0 ≤ x ∧ x < 10 := fun x hx => isM_bd (mOk_mem hok4 x hx)
    have hml : ∀ n, (((m.take n).map dcI).flatten).length ≤ m.length := fun n => by
      rw [mk_len fun x hx => hm x (List.mem_of_mem_take hx), List.length_take]; omega
    refine ⟨by omega, by omega, by omega, by omega, by omega, by omega, by omega, by omega, ?_⟩
    have e0 : (ByteArray.mk (rngText f b).toArray ++ ⟨#[32]⟩ ++ ⟨(pathTxt p).toArray⟩ ++ ⟨#[32]⟩ ++ ⟨(Lib.decDigits lk.toNat).toArray⟩ ++ ⟨#[32, 109]⟩) = ⟨(rtHead f b p lk ++ (List.map dcI (m.take 0)).flatten).toArray⟩ := by
      rw [show (#[32] : Array UInt8) = ([32] : List UInt8).toArray from rfl, show (#[32, 109] : Array UInt8) = ([32, 109] : List UInt8).toArray from rfl]
      simp only [mk_app, rtHead, List.append_assoc, List.take_zero, List.map_nil, List.flatten_nil, List.append_nil]
    rw [e0]
    have lh : (rtHead f b p lk).length ≤ 3000000 := by simp only [rtHead, List.length_append, List.length_cons, List.length_nil]; omega
    refine hK _ ?_; clear hK K
    refine Aw_sq fun B3 hB3 hR3 hX3 => ?_
    refine Aw_st hE [1, 3, 4] [1] fun K hK => ?_
    simp only [go_sem, reduceIte, Nat.reduceLT, Nat.reduceLeDiff, Nat.reduceEqDiff, Nat.reduceAdd, Nat.reduceMul, Nat.reduceSub, Nat.reduceBEq, Int.reduceToNat, List.reduceReplicate, reduceCtorEq]
    repeat (refine And.intro (by first | omega | (and_intros <;> first | omega | exact rows_row _ | decide | (simp; done) | (simp; omega)) | fail) ?_)
    refine hK _ ?_; clear hK K
    refine Aw_bk fun B4 hN4 hE4 hR4 hX4 => ?_
    refine Aw_lp (fun i : Nat => ⟨38, [(1, .loc 1 0), (3, sv (rtHead f b p lk ++ ((m.take i).map dcI).flatten)), (4, iv i)], [(1, [iv f, iv b, isl p, iv lk, isl m])], k⟩) (fun i : Nat => i ≤ m.length) (fun i : Nat => m.length - i) (0) (Le_wk (by first | omega | (dsimp only; omega) | (simp only; omega) | (simp; omega)) (by simp only [go_sem, reduceIte, Nat.reduceLT, Nat.reduceLeDiff, Nat.reduceEqDiff, Nat.reduceAdd, Nat.reduceMul, Nat.reduceSub, Nat.reduceBEq, Int.reduceToNat, List.reduceReplicate, reduceCtorEq]; rfl) (by simp only [go_sem, reduceIte, Nat.reduceLT, Nat.reduceLeDiff, Nat.reduceEqDiff, Nat.reduceAdd, Nat.reduceMul, Nat.reduceSub, Nat.reduceBEq, Int.reduceToNat, List.reduceReplicate, reduceCtorEq])) (by omega) fun i hi B5 hN5 hR5 hX5 => ?_
    refine Aw_sq fun B6 hB6 hR6 hX6 => ?_
    refine Aw_st hE [1, 3, 4, 26] [1] fun K hK => ?_
    simp only [go_sem, reduceIte, Nat.reduceLT, Nat.reduceLeDiff, Nat.reduceEqDiff, Nat.reduceAdd, Nat.reduceMul, Nat.reduceSub, Nat.reduceBEq, Int.reduceToNat, List.reduceReplicate, reduceCtorEq]
    repeat (refine And.intro (by first | omega | (and_intros <;> first | omega | exact rows_row _ | decide | (simp; done) | (simp; omega)) | fail) ?_)
    refine hK _ (Aw_cond rfl (fun hc7 => ?_) (fun hc7 => ?_))
    · simp only [decide_eq_true_eq] at hc7
      have hil : i < m.length := by omega
      have hx := hm _ (getD_mem m i hil)
      have hi2 := hml i
      have l5 := pt_len hx
      refine Aw_skip (hB6 _ ?_)
      refine Aw_sq fun B8 hB8 hR8 hX8 => ?_
      refine Aw_bk fun B9 hN9 hE9 hR9 hX9 => ?_
      refine Aw_tx hE [1, 3, 4] [1] fun K hK => ?_
      simp only [go_sem, reduceIte, Nat.reduceLT, Nat.reduceLeDiff, Nat.reduceEqDiff, Nat.reduceAdd, Nat.reduceMul, Nat.reduceSub, Nat.reduceBEq, Int.reduceToNat, List.reduceReplicate, reduceCtorEq, rows_get m i hil]
      repeat (refine And.intro (by first | omega | (and_intros <;> first | omega | exact rows_row _ | decide | (simp; done) | (simp; omega)) | fail) ?_)
      refine ⟨by simp only [List.length_append]; omega, ?_⟩
      rw [mk_snoc m i hil]
      refine hK _ (hN9 _ (hB8 _ ?_))
      refine Aw_tx hE [1, 3, 4] [1] fun K hK => ?_
      simp only [go_sem, reduceIte, Nat.reduceLT, Nat.reduceLeDiff, Nat.reduceEqDiff, Nat.reduceAdd, Nat.reduceMul, Nat.reduceSub, Nat.reduceBEq, Int.reduceToNat, List.reduceReplicate, reduceCtorEq]
      repeat (refine And.intro (by first | omega | (and_intros <;> first | omega | exact rows_row _ | decide | (simp; done) | (simp; omega)) | fail) ?_)
      refine hK _ (hN5 (i + 1) _ (by omega) (by omega) (Le.refl _))
    · simp only [decide_eq_false_iff_not] at hc7
      obtain rfl : i = m.length := by omega
      refine Aw_exit (hX6 _ _ (hX5 _ _ (hE4 _ (hB3 _ ?_))))
      refine Aw_st hE [2] [] fun K hK => ?_
      simp only [go_sem, reduceIte, Nat.reduceLT, Nat.reduceLeDiff, Nat.reduceEqDiff, Nat.reduceAdd, Nat.reduceMul, Nat.reduceSub, Nat.reduceBEq, Int.reduceToNat, List.reduceReplicate, reduceCtorEq]
      repeat (refine And.intro (by first | omega | (and_intros <;> first | omega | exact rows_row _ | decide | (simp; done) | (simp; omega)) | fail) ?_)
      refine hK _ (Aw_ret (hQ _ ?_))
      simp only [go_sem, reduceIte, Nat.reduceLT, Nat.reduceLeDiff, Nat.reduceEqDiff, Nat.reduceAdd, Nat.reduceMul, Nat.reduceSub, Nat.reduceBEq, Int.reduceToNat, List.reduceReplicate, reduceCtorEq, hok, cond_true, rtTxt_head]
      rw [List.take_length]
end Go.Proofs.W
end
section
namespace Go.Proofs.W
open Go Go.Eng Go.RowKit
set_option linter.unusedSimpArgs false
set_option maxRecDepth 10000

/-- a route -/
def cDRT : Con := { pre := codeArg, post := fun _ r => ∃ x : Rt, okRt x ∧ r = x.av }
theorem cDRT_own : cDRT.own = false := rfl
theorem cDRT_draws : cDRT.draws = false := rfl
theorem cDRT_cost : cDRT.cost = 0 := rfl
attribute [go_sem] cDRT_own cDRT_draws cDRT_cost
theorem drt_pre (bs : List Nat) (h : ∀ b ∈ bs, b < 256) : cDRT.pre [.sl none (byteRows bs)] := ⟨bs, h, rfl⟩
theorem drt_post (args : List AV) (K : AV → Prop) : (∀ r, cDRT.post args r → K r) = (∀ x : Rt, okRt x → K x.av) := by
  apply propext
  exact ⟨fun h x h1 => h _ ⟨x, h1, rfl⟩, fun h r ⟨x, h1, e⟩ => e ▸ h x h1⟩
attribute [go_sem] drt_post
theorem drawRouteText_ok : Fine Tryd.prog 32 cDRT := by
  refine fine_draw (T := TT) (C := cDRT) Tryd.func32 rfl Tryd.ntmps32 (by rw [Tryd.results32]) rfl rfl tt rfl rfl (G := [(43, cRouteD)]) (D := []) (gs_cons l91Route_ok gs_nil) ds_nil (l1 := [_]) (l2 := [_, _]) rfl rfl rfl rfl (by decide) open_calls ⟨_, Tryd.func42, rfl, rfl⟩ ?_ ?_
  · rintro args r ⟨x, _, rfl⟩; rfl
  rintro args ⟨bs, hbs, rfl⟩
  refine ⟨by simp, bs, hbs, fun n E hE J hJ => ?_⟩
  refine Aw_tx hE [0, 2] [2] fun K hK => ?_
  simp only [go_sem, reduceIte, Nat.reduceLT, Nat.reduceLeDiff, Nat.reduceEqDiff, Nat.reduceAdd, Nat.reduceMul, Nat.reduceSub, Nat.reduceBEq, Int.reduceToNat, List.reduceReplicate, reduceCtorEq]
  refine hK _ ?_
  simp only [thenA]
  simp only [go_sem, reduceIte, Nat.reduceLT, Nat.reduceLeDiff, Nat.reduceEqDiff, Nat.reduceAdd, Nat.reduceMul, Nat.reduceSub, Nat.reduceBEq, Int.reduceToNat, List.reduceReplicate, reduceCtorEq]
  refine hJ _ rfl rfl fun E hE Q hQ => ?_
  simp only [go_sem, reduceIte, Nat.reduceLT, Nat.reduceLeDiff, Nat.reduceEqDiff, Nat.reduceAdd, Nat.reduceMul, Nat.reduceSub, Nat.reduceBEq, Int.reduceToNat, List.reduceReplicate, reduceCtorEq]
  intro y hy
  refine Aw_ret (hQ _ ?_)
  simp only [go_sem, reduceIte, Nat.reduceLT, Nat.reduceLeDiff, Nat.reduceEqDiff, Nat.reduceAdd, Nat.reduceMul, Nat.reduceSub, Nat.reduceBEq, Int.reduceToNat, List.reduceReplicate, reduceCtorEq]
  exact ⟨y, hy, rfl⟩
theorem part_injS (s : UInt8) {a b c d : List UInt8} (h1 : s ∉ a) (h2 : s ∉ c) (h : a ++ s :: b = c ++ s :: d) : a = c ∧ b = d := by
  induction a generalizing c with
  | nil =>
    cases c with
    | nil => simpa using h
    | cons x c => simp at h; exact absurd h.1 (fun e => h2 (by simp [e]))
  | cons x a ih =>
    cases c with
    | nil => simp at h; exact absurd h.1 (fun e => h1 (by simp [e]))
    | cons y c =>
      simp only [List.cons_append, List.cons.injEq] at h
      obtain ⟨e1, e2⟩ := ih (fun hm => h1 (by simp [hm])) (fun hm => h2 (by simp [hm])) h.2
      exact ⟨by rw [h.1, e1], e2⟩
theorem dcI_inj {x y : Int} (hx : 0 ≤ x) (hy : 0 ≤ y) (h : dcI x = dcI y) : x = y := by
  have := dec_inj h
  omega
theorem cons_dc {x y : Int} {a b : List UInt8} (hx : 0 ≤ x ∧ x < 10) (hy : 0 ≤ y ∧ y < 10) (h : dcI x ++ a = dcI y ++ b) : x = y ∧ a = b := by
  obtain ⟨e1, e2⟩ := List.append_inj h (by rw [dcI_len hx.1 hx.2, dcI_len hy.1 hy.2])
  exact ⟨dcI_inj hx.1 hy.1 e1, e2⟩
theorem flat_inj : ∀ {l l' : List Int}, (∀ x ∈ l, 0 ≤ x ∧ x < 10) → (∀ x ∈ l', 0 ≤ x ∧ x < 10) → (l.map dcI).flatten = (l'.map dcI).flatten → l = l'
  | [], [], _, _, _ => rfl
  | [], y :: l', _, h', e => by
    have h2 := h' y (by simp)
    rw [List.map_cons, List.flatten_cons, dcI_one h2.1 h2.2] at e
    simp at e
  | x :: l, [], h, _, e => by
    have h2 := h x (by simp)
    rw [List.map_cons, List.flatten_cons, dcI_one h2.1 h2.2] at e
    simp at e
  | x :: l, y :: l', h, h', e => by
    rw [List.map_cons, List.flatten_cons, List.map_cons, List.flatten_cons] at e
    obtain ⟨e1, e2⟩ := cons_dc (h x (by simp)) (h' y (by simp)) e
    rw [e1, flat_inj (fun z hz => h z (by simp [hz])) (fun z hz => h' z (by simp [hz])) e2]
theorem tail_inj : ∀ {l l' : List Int}, (∀ x ∈ l, 0 ≤ x ∧ x < 10) → (∀ x ∈ l', 0 ≤ x ∧ x < 10) → Lib.joinTail [45] (l.map dcI) = Lib.joinTail [45] (l'.map dcI) → l = l'
  | [], [], _, _, _ => rfl
  | [], y :: l', _, h', e => by simp [Lib.joinTail] at e
  | x :: l, [], h, _, e => by simp [Lib.joinTail] at e
  | x :: l, y :: l', h, h', e => by
    simp only [Lib.joinTail, List.map_cons, List.flatten_cons, List.append_assoc, List.cons_append, List.nil_append, List.cons.injEq, true_and] at e
    obtain ⟨e1, e2⟩ := cons_dc (h x (by simp)) (h' y (by simp)) e
    rw [e1, tail_inj (fun z hz => h z (by simp [hz])) (fun z hz => h' z (by simp [hz])) e2]
theorem joinDc_inj {l l' : List Int} (h : ∀ x ∈ l, 0 ≤ x ∧ x < 10) (h' : ∀ x ∈ l', 0 ≤ x ∧ x < 10) (hn : l ≠ []) (hn' : l' ≠ []) (e : Lib.join (l.map dcI) [45] = Lib.join (l'.map dcI) [45]) : l = l' := by
  cases l with
  | nil => exact absurd rfl hn
  | cons x l =>
    cases l' with
    | nil => exact absurd rfl hn'
    | cons y l' =>
      rw [List.map_cons, List.map_cons, Lib.join_cons, Lib.join_cons] at e
      obtain ⟨e1, e2⟩ := cons_dc (h x (by simp)) (h' y (by simp)) e
      rw [e1, tail_inj (fun z hz => h z (by simp [hz])) (fun z hz => h' z (by simp [hz])) e2]
theorem join_not46 {l : List Int} (h : ∀ x ∈ l, 0 ≤ x ∧ x < 10) (hn : l ≠ []) : Lib.join (l.map dcI) [45] ≠ [46] := by
  cases l with
  | nil => exact absurd rfl hn
  | cons x l =>
    have h1 := h x (by simp)
    rw [List.map_cons, Lib.join_cons, dcI_one h1.1 h1.2]
    intro e
    simp only [List.cons_append, List.nil_append, List.cons.injEq] at e
    have := (dec_digit x.toNat (UInt8.ofNat (48 + x.toNat)) (by rw [Lib.decDigits_one (by omega)]; simp)).1
    rw [e.1] at this
    exact absurd this (by decide)
theorem pathTxt_inj {p p' : List Int} (h : ∀ x ∈ p, 0 ≤ x ∧ x < 10) (h' : ∀ x ∈ p', 0 ≤ x ∧ x < 10) (e : pathTxt p = pathTxt p') : p = p' := by
  unfold pathTxt at e
  split at e <;> split at e
  · rename_i e1 e2; rw [e1, e2]
  · rename_i e1 e2; exact absurd e.symm (join_not46 h' e2)
  · rename_i e1 e2; exact absurd e (join_not46 h e1)
  · rename_i e1 e2; exact joinDc_inj h h' e1 e2 e
theorem join_mem : ∀ {l : List Int} {c : UInt8}, c ∈ Lib.joinTail [45] (l.map dcI) → c = 45 ∨ 48 ≤ c.toNat
  | [], c, h => by simp [Lib.joinTail] at h
  | x :: l, c, h => by
    simp only [Lib.joinTail, List.map_cons, List.flatten_cons, List.mem_append, List.mem_cons, List.not_mem_nil, or_false] at h
    rcases h with (h | h) | h
    · exact .inl h
    · exact .inr (dec_digit _ c h).1
    · exact join_mem (l := l) h
theorem path_no32 (p : List Int) : (32 : UInt8) ∉ pathTxt p := by
  unfold pathTxt
  split
  · decide
  · cases p with
    | nil => exact (fun h => by simp [Lib.join_nil] at h)
    | cons x l =>
      rw [List.map_cons, Lib.join_cons]
      intro h
      rcases List.mem_append.1 h with h | h
      · exact absurd (dec_digit _ _ h).1 (by decide)
      · rcases join_mem h with h | h
        · exact absurd h (by decide)
        · exact absurd h (by decide)
theorem dec_no32 (n : Nat) : (32 : UInt8) ∉ Lib.decDigits n := fun h => absurd (dec_digit _ _ h).1 (by decide)
theorem rng_no32 (f b : Int) : (32 : UInt8) ∉ rngText f b := by
  unfold rngText
  intro h
  rcases List.mem_append.1 h with h | h
  · exact dec_no32 _ h
  · rcases List.mem_cons.1 h with h | h
    · exact absurd h (by decide)
    · exact dec_no32 _ h
theorem rtTxt_inj {f b : Int} {p : List Int} {k : Int} {m : List Int} {f' b' : Int} {p' : List Int} {k' : Int} {m' : List Int} (h : rtOk f b p k m = true) (h' : rtOk f' b' p' k' m' = true) (e : rtTxt f b p k m = rtTxt f' b' p' k' m') : f = f' ∧ b = b' ∧ p = p' ∧ k = k' ∧ m = m' := by
  obtain ⟨a1, a2, a3, a4⟩ := rtOk_parts h
  obtain ⟨c1, c2, c3, c4⟩ := rtOk_parts h'
  unfold rtTxt at e
  rw [join4, join4] at e
  obtain ⟨e1, d1⟩ := part_injS 32 (rng_no32 _ _) (rng_no32 _ _) e
  obtain ⟨e2, d2⟩ := part_injS 32 (path_no32 _) (path_no32 _) d1
  obtain ⟨e3, d3⟩ := part_injS 32 (dec_no32 _) (dec_no32 _) d2
  obtain ⟨e4, e5⟩ := rngText_inj a1 c1 e1
  have d4 : (m.map dcI).flatten = (m'.map dcI).flatten := by
    exact (List.cons.inj (show 109 :: (m.map dcI).flatten = 109 :: (m'.map dcI).flatten from d3)).2
  exact ⟨e4, e5, pathTxt_inj (fun x hx => isH_bd (pathOk_mem a2 x hx)) (fun x hx => isH_bd (pathOk_mem c2 x hx)) e2, dcI_inj a3.1 c3.1 e3, flat_inj (fun x hx => isM_bd (mOk_mem a4 x hx)) (fun x hx => isM_bd (mOk_mem c4 x hx)) d4⟩
theorem rtTxt_beq {f b : Int} {p : List Int} {k : Int} {m : List Int} {f' b' : Int} {p' : List Int} {k' : Int} {m' : List Int} (h : rtOk f b p k m = true) (h' : rtOk f' b' p' k' m' = true) : (rtTxt f b p k m == rtTxt f' b' p' k' m') = decide (f = f' ∧ b = b' ∧ p = p' ∧ k = k' ∧ m = m') := by
  rw [Bool.eq_iff_iff, decide_eq_true_eq, beq_iff_eq]
  exact ⟨rtTxt_inj h h', fun ⟨h1, h2, h3, h4, h5⟩ => by rw [h1, h2, h3, h4, h5]⟩
theorem rtTxt_ne (f b : Int) (p : List Int) (k : Int) (m : List Int) : (rtTxt f b p k m == []) = false := by
  rw [beq_eq_false_iff_ne]
  intro e
  have := congrArg List.length e
  rw [rtTxt, join4] at this
  simp only [List.length_append, List.length_cons, List.length_nil] at this
  omega

theorem rtOk_mkT {f b : Int} {p : List Int} {k : Int} {m : List Int} (h : rtOk f b p k m = true) {x : Int} (hx : isM x = true) : rtOk f b p k (mkL m x) = true := by
  simp only [rtOk, Bool.and_eq_true] at h ⊢
  exact ⟨h.1, h.2.1, h.2.2.1, h.2.2.2.1, h.2.2.2.2.1, mkL_mOk h.2.2.2.2.2 hx⟩
theorem fnRouteText_ok (pb : Addr) : Fine Tryd.prog 8 (cLawP2 pb) := by
  refine fine_of (T := TT) Tryd.func8 rfl Tryd.ntmps8 (by rw [Tryd.results8]) rfl rfl tt (gs_cons drawRouteText_ok gs_nil) (ds_cons (iRtText_ok pb) (ds_cons sRtText_ok (ds_cons (iMark_ok pb) (ds_cons lyRoute_ok ds_nil) (wp_inh pb))) (wp_inh pb)) ?_
  rintro args ⟨bs, bs2, hbs, hbs2, rfl⟩
  refine ⟨by simp, fun k hk E hE Q hQ => ?_⟩
  refine Aw_st hE [0, 1] [] fun K hK => ?_
  simp only [go_sem, reduceIte, Nat.reduceLT, Nat.reduceLeDiff, Nat.reduceEqDiff, Nat.reduceAdd, Nat.reduceMul, Nat.reduceSub, Nat.reduceBEq, Int.reduceToNat, List.reduceReplicate, reduceCtorEq]
  refine hK _ ?_; clear hK K
  refine Aw_sq fun B1 hB1 hR1 hX1 => ?_
  refine Aw_st hE [0, 1, 18] [] fun K hK => ?_
  simp only [go_sem, reduceIte, Nat.reduceLT, Nat.reduceLeDiff, Nat.reduceEqDiff, Nat.reduceAdd, Nat.reduceMul, Nat.reduceSub, Nat.reduceBEq, Int.reduceToNat, List.reduceReplicate, reduceCtorEq]
  have H : K { nt := 72, σ := [(0, .sl none (byteRows bs)), (1, .sl none (byteRows bs2)), (18, bv true)], m := [], rn := k } := by
    refine hK _ (Aw_yes rfl ?_)
    refine Aw_st hE [4] [] fun K hK => ?_
    simp only [go_sem, reduceIte, Nat.reduceLT, Nat.reduceLeDiff, Nat.reduceEqDiff, Nat.reduceAdd, Nat.reduceMul, Nat.reduceSub, Nat.reduceBEq, Int.reduceToNat, List.reduceReplicate, reduceCtorEq]
    refine hK _ (Aw_ret (hR1 _ (hQ _ ?_)))
    simp only [go_sem, reduceIte, Nat.reduceLT, Nat.reduceLeDiff, Nat.reduceEqDiff, Nat.reduceAdd, Nat.reduceMul, Nat.reduceSub, Nat.reduceBEq, Int.reduceToNat, List.reduceReplicate, reduceCtorEq]
  refine ⟨fun _ => H, fun _ => ?_⟩
  cases hb2 : decide ((1048576 : Int) < (byteRows bs2).length) with
  | true => exact H
  | false =>
  clear H
  refine hK _ (Aw_no rfl (Aw_skip (hB1 _ ?_)))
  simp only [decide_eq_false_iff_not] at hb2
  refine Aw_st hE [1, 5] [5] fun K hK => ?_
  simp only [go_sem, reduceIte, Nat.reduceLT, Nat.reduceLeDiff, Nat.reduceEqDiff, Nat.reduceAdd, Nat.reduceMul, Nat.reduceSub, Nat.reduceBEq, Int.reduceToNat, List.reduceReplicate, reduceCtorEq]
  refine ⟨drt_pre bs hbs, fun y hy => ?_⟩
  obtain ⟨f, b, p, lk, m⟩ := y
  obtain ⟨_, hp1, _, _, _, hm1⟩ := hy
  simp only at hp1 hm1
  refine hK _ ?_; clear hK K
  cases hok : rtOk f b p lk m with
  | false =>
    refine Aw_st hE [1, 5, 6] [5] fun K hK => ?_
    simp only [go_sem, reduceIte, Nat.reduceLT, Nat.reduceLeDiff, Nat.reduceEqDiff, Nat.reduceAdd, Nat.reduceMul, Nat.reduceSub, Nat.reduceBEq, Int.reduceToNat, List.reduceReplicate, reduceCtorEq, hok, cond_false]
    repeat (refine And.intro (by first | omega | (and_intros <;> first | omega | exact rows_row _ | decide | (simp; done) | (simp; omega)) | fail) ?_)
    refine hK _ ?_; clear hK K
    refine Aw_sq fun B5 hB5 hR5 hX5 => ?_
    refine Aw_st hE [1, 5, 6, 30] [5] fun K hK => ?_
    simp only [go_sem, reduceIte, Nat.reduceLT, Nat.reduceLeDiff, Nat.reduceEqDiff, Nat.reduceAdd, Nat.reduceMul, Nat.reduceSub, Nat.reduceBEq, Int.reduceToNat, List.reduceReplicate, reduceCtorEq, hok, cond_false]
    repeat (refine And.intro (by first | omega | (and_intros <;> first | omega | exact rows_row _ | decide | (simp; done) | (simp; omega)) | fail) ?_)
    refine hK _ (Aw_yes rfl ?_)
    refine Aw_st hE [4] [] fun K hK => ?_
    simp only [go_sem, reduceIte, Nat.reduceLT, Nat.reduceLeDiff, Nat.reduceEqDiff, Nat.reduceAdd, Nat.reduceMul, Nat.reduceSub, Nat.reduceBEq, Int.reduceToNat, List.reduceReplicate, reduceCtorEq, hok, cond_false]
    repeat (refine And.intro (by first | omega | (and_intros <;> first | omega | exact rows_row _ | decide | (simp; done) | (simp; omega)) | fail) ?_)
    refine hK _ (Aw_ret (hR5 _ (hQ _ ?_)))
    simp only [go_sem, reduceIte, Nat.reduceLT, Nat.reduceLeDiff, Nat.reduceEqDiff, Nat.reduceAdd, Nat.reduceMul, Nat.reduceSub, Nat.reduceBEq, Int.reduceToNat, List.reduceReplicate, reduceCtorEq]
  | true =>
    refine Aw_st hE [1, 5, 6] [5] fun K hK => ?_
    simp only [go_sem, reduceIte, Nat.reduceLT, Nat.reduceLeDiff, Nat.reduceEqDiff, Nat.reduceAdd, Nat.reduceMul, Nat.reduceSub, Nat.reduceBEq, Int.reduceToNat, List.reduceReplicate, reduceCtorEq, hok, cond_true]
    refine ⟨⟨by omega, by omega⟩, ?_⟩
    refine hK _ ?_; clear hK K
    refine Aw_sq fun B5 hB5 hR5 hX5 => ?_
    refine Aw_st hE [1, 5, 6, 30] [5] fun K hK => ?_
    simp only [go_sem, reduceIte, Nat.reduceLT, Nat.reduceLeDiff, Nat.reduceEqDiff, Nat.reduceAdd, Nat.reduceMul, Nat.reduceSub, Nat.reduceBEq, Int.reduceToNat, List.reduceReplicate, reduceCtorEq, hok, cond_true, bne_self_eq_false, rtTxt_ne]
    refine ⟨⟨by omega, by omega⟩, ?_⟩
    refine hK _ (Aw_no rfl (Aw_skip (hB5 _ ?_)))
    obtain ⟨n0, hn0⟩ : ∃ n0, n0 = 1 + ((byteRows bs2).length : Int).tmod 9 := ⟨_, rfl⟩
    have hn1 : 1 ≤ n0 ∧ n0 ≤ 9 := by
      have := Int.emod_nonneg ((byteRows bs2).length : Int) (show (9 : Int) ≠ 0 by decide)
      have := Int.emod_lt_of_pos ((byteRows bs2).length : Int) (show (0 : Int) < 9 by decide)
      rw [hn0, Int.tmod_eq_emod_of_nonneg (by omega)]
      omega
    have hM : isM n0 = true := by simp [isM]; omega
    refine Aw_st hE [1, 5, 6, 7] [5, 7] fun K hK => ?_
    simp only [go_sem, reduceIte, Nat.reduceLT, Nat.reduceLeDiff, Nat.reduceEqDiff, Nat.reduceAdd, Nat.reduceMul, Nat.reduceSub, Nat.reduceBEq, Int.reduceToNat, List.reduceReplicate, reduceCtorEq]
    refine ⟨drt_pre bs2 hbs2, fun z hz => ?_⟩
    obtain ⟨f', b', p', lk', m'⟩ := z
    obtain ⟨_, hp2, _, _, _, hm2⟩ := hz
    simp only at hp2 hm2
    refine hK _ ?_; clear hK K
    refine Aw_st hE [1, 5, 6, 7, 8] [5, 7] fun K hK => ?_
    simp only [go_sem, reduceIte, Nat.reduceLT, Nat.reduceLeDiff, Nat.reduceEqDiff, Nat.reduceAdd, Nat.reduceMul, Nat.reduceSub, Nat.reduceBEq, Int.reduceToNat, List.reduceReplicate, reduceCtorEq]
    refine ⟨⟨by omega, by omega⟩, ?_⟩
    refine hK _ ?_; clear hK K
    refine Aw_st hE [5, 6, 7, 8, 9, 10] [5, 7, 9] fun K hK => ?_
    simp only [go_sem, reduceIte, Nat.reduceLT, Nat.reduceLeDiff, Nat.reduceEqDiff, Nat.reduceAdd, Nat.reduceMul, Nat.reduceSub, Nat.reduceBEq, Int.reduceToNat, List.reduceReplicate, reduceCtorEq, ← hn0, hok, Bool.true_and, hM]
    refine ⟨by decide, ⟨by omega, by omega⟩, ⟨by omega, by omega⟩, ?_⟩
    refine hK _ ?_; clear hK K
    have hokm := rtOk_mkT hok hM
    have hml := mkL_len (mOk_srt (rtOk_parts hok).2.2.2) n0
    cases hokq : rtOk f' b' p' lk' m' with
    | false =>
      refine Aw_sd hE [4] [] 6 (by kernel_rfl) fun K hK => ?_
      simp only [go_sem, reduceIte, Nat.reduceLT, Nat.reduceLeDiff, Nat.reduceEqDiff, Nat.reduceAdd, Nat.reduceMul, Nat.reduceSub, Nat.reduceBEq, Int.reduceToNat, List.reduceReplicate, reduceCtorEq, hok, hokm, cond_true, cond_false, beq_self_eq_true, rtTxt_beq hokm hok]
      refine ⟨⟨by omega, by omega⟩, ⟨⟨by omega, by omega⟩, by omega, by omega⟩, ?_⟩
      refine hK _ (Aw_ret (hQ _ ?_))
      simp only [go_sem, reduceIte, Nat.reduceLT, Nat.reduceLeDiff, Nat.reduceEqDiff, Nat.reduceAdd, Nat.reduceMul, Nat.reduceSub, Nat.reduceBEq, Int.reduceToNat, List.reduceReplicate, reduceCtorEq]
    | true =>
      refine Aw_sd hE [4] [] 6 (by kernel_rfl) fun K hK => ?_
      simp only [go_sem, reduceIte, Nat.reduceLT, Nat.reduceLeDiff, Nat.reduceEqDiff, Nat.reduceAdd, Nat.reduceMul, Nat.reduceSub, Nat.reduceBEq, Int.reduceToNat, List.reduceReplicate, reduceCtorEq, hok, hokm, cond_true, rtTxt_ne, rtTxt_beq hok hokq, rtTxt_beq hokm hok]
      refine ⟨⟨⟨by omega, by omega⟩, by omega, by omega⟩, ⟨by omega, by omega⟩, ⟨⟨by omega, by omega⟩, by omega, by omega⟩, ?_⟩
      refine hK _ (Aw_ret (hQ _ ?_))
      simp only [go_sem, reduceIte, Nat.reduceLT, Nat.reduceLeDiff, Nat.reduceEqDiff, Nat.reduceAdd, Nat.reduceMul, Nat.reduceSub, Nat.reduceBEq, Int.reduceToNat, List.reduceReplicate, reduceCtorEq]
end Go.Proofs.W
end
section
namespace Go.Proofs.W
open Go Go.Eng Go.RowKit
set_option linter.unusedSimpArgs false
set_option maxRecDepth 100000

/-! texts cut at strokes -/
def sp45 : List UInt8 → List (List UInt8)
  | [] => [[]]
  | b :: l => if b = 45 then [] :: sp45 l else match sp45 l with
    | w :: r => (b :: w) :: r
    | [] => [[b]]
theorem sp45_ne : ∀ s, sp45 s ≠ []
  | [] => by simp [sp45]
  | b :: l => by
    rw [sp45]
    split
    · simp
    · split <;> simp
theorem sp45_at (l : List UInt8) : sp45 (45 :: l) = [] :: sp45 l := by rw [sp45, if_pos rfl]
theorem sp45_in {b : UInt8} (hb : b ≠ 45) {l w : List UInt8} {r : List (List UInt8)} (h : sp45 l = w :: r) : sp45 (b :: l) = (b :: w) :: r := by rw [sp45, if_neg hb, h]
theorem splitK_sp : ∀ s : List UInt8, Lib.splitK [45] 0 (Lib.count s [45]) s = sp45 s
  | [] => by rw [Lib.count_miss (by simp [Lib.index])]; rfl
  | b :: l => by
    have ih := splitK_sp l
    by_cases hb : b = 45
    · subst hb
      have hix : Lib.index (45 :: l) [45] = 0 := by rw [Lib.index]; simp [List.isPrefixOf]
      rw [Lib.count_cons_eq, Nat.add_comm, Lib.splitK, hix, sp45_at]
      simp only [show ((0 : Int) == -1) = false from rfl, Bool.false_eq_true, if_false]
      simp only [Int.toNat_zero, Nat.zero_add, List.take_zero, List.length_cons, List.length_nil, List.drop_succ_cons, List.drop_zero]
      rw [ih]
    · have hp : ([45] : List UInt8).isPrefixOf (b :: l) = false := by simp [List.isPrefixOf, Ne.symm hb]
      have hix : Lib.index (b :: l) [45] = if Lib.index l [45] == -1 then -1 else Lib.index l [45] + 1 := by rw [Lib.index, hp]; simp
      rw [Lib.count_cons_ne b 45 l hb]
      cases hk : Lib.count l [45] with
      | zero =>
        rw [hk] at ih
        have e : sp45 l = [l] := ih.symm
        rw [sp45_in hb e]; rfl
      | succ k =>
        rw [hk] at ih
        rw [Lib.splitK] at ih ⊢
        rw [hix]
        by_cases hm : Lib.index l [45] = -1
        · rw [hm] at ih ⊢
          have e : sp45 l = [l] := ih.symm
          rw [sp45_in hb e]; rfl
        · have hge := Lib.index_ge l [45]
          obtain ⟨j, hj⟩ : ∃ j : Nat, Lib.index l [45] = j := ⟨(Lib.index l [45]).toNat, by omega⟩
          have h1 : ((Lib.index l [45]) == -1) = false := by rw [beq_eq_false_iff_ne]; exact hm
          have h2 : ((Lib.index l [45] + 1) == -1) = false := by rw [beq_eq_false_iff_ne]; omega
          simp only [h1, h2, Bool.false_eq_true, if_false] at ih ⊢
          rw [sp45_in hb ih.symm]
          rw [hj] at ih ⊢
          simp only [Nat.add_zero, show ((j : Int) + 1).toNat = j + 1 by omega, Int.toNat_natCast, List.take_succ_cons, List.length_cons, List.length_nil, Nat.zero_add, List.drop_succ_cons]
theorem sp45_join : ∀ s, Lib.join (sp45 s) [45] = s
  | [] => rfl
  | b :: l => by
    have ih := sp45_join l
    obtain ⟨w, r, h⟩ : ∃ w r, sp45 l = w :: r := by
      cases h : sp45 l with
      | nil => exact absurd h (sp45_ne l)
      | cons w r => exact ⟨w, r, rfl⟩
    rw [h, Lib.join_cons] at ih
    by_cases hb : b = 45
    · subst hb
      rw [sp45_at, h, Lib.join_cons, ← ih]
      simp [Lib.joinTail]
    · rw [sp45_in hb h, Lib.join_cons, List.cons_append, ih]
theorem dc_ne45 {x : Int} (h : 0 ≤ x ∧ x < 10) : UInt8.ofNat (48 + x.toNat) ≠ 45 := fun e => by
  have := (dec_digit x.toNat (UInt8.ofNat (48 + x.toNat)) (by rw [Lib.decDigits_one (by omega)]; simp)).1
  rw [e] at this
  exact absurd this (by decide)
theorem sp45_tail : ∀ {l : List Int}, (∀ x ∈ l, 0 ≤ x ∧ x < 10) → sp45 (Lib.joinTail [45] (l.map dcI)) = [] :: l.map dcI
  | [], _ => rfl
  | x :: l, h => by
    have h1 := h x (by simp)
    have ih := sp45_tail (l := l) fun y hy => h y (by simp [hy])
    have e : Lib.joinTail [45] ((x :: l).map dcI) = 45 :: UInt8.ofNat (48 + x.toNat) :: Lib.joinTail [45] (l.map dcI) := by
      simp [Lib.joinTail, dcI_one h1.1 h1.2]
    rw [e, sp45_at, sp45_in (dc_ne45 h1) ih, List.map_cons, dcI_one h1.1 h1.2]
theorem sp45_dc {l : List Int} (h : ∀ x ∈ l, 0 ≤ x ∧ x < 10) (hn : l ≠ []) : sp45 (Lib.join (l.map dcI) [45]) = l.map dcI := by
  cases l with
  | nil => exact absurd rfl hn
  | cons x l =>
    have h1 := h x (by simp)
    rw [List.map_cons, Lib.join_cons, dcI_one h1.1 h1.2, List.singleton_append, sp45_in (dc_ne45 h1) (sp45_tail fun y hy => h y (by simp [hy]))]
theorem sp45_len : ∀ s : List UInt8, (sp45 s).length ≤ s.length + 1
  | [] => by simp [sp45]
  | b :: l => by
    have ih := sp45_len l
    rw [sp45]
    split
    · simp; omega
    · split
      · rename_i h; rw [h] at ih; simp at ih ⊢; omega
      · simp
theorem sp45_sub : ∀ (s : List UInt8), ∀ w ∈ sp45 s, w.length ≤ s.length
  | [], w, h => by simp [sp45] at h; rw [h]; exact Nat.le_refl _
  | b :: l, w, h => by
    have ih := sp45_sub l
    rw [sp45] at h
    split at h
    · rcases List.mem_cons.1 h with h | h
      · rw [h]; simp
      · have := ih w h; simp; omega
    · split at h
      · rename_i e
        rcases List.mem_cons.1 h with h | h
        · have := ih _ (by rw [e]; exact List.mem_cons_self)
          rw [h]; simp; omega
        · have := ih w (by rw [e]; simp [h])
          simp; omega
      · rename_i e; exact absurd e (sp45_ne l)

/-- what a path's text is read as -/
def PRd (s : List UInt8) (p : List Int) (ok : Bool) : Prop := (ok = true ∧ pathOk p = true ∧ pathTxt p = s) ∨ (ok = false ∧ p = [] ∧ ∀ q, pathOk q = true → pathTxt q ≠ s)
theorem pathTxt_injO {p q : List Int} (h : pathOk p = true) (h' : pathOk q = true) (e : pathTxt p = pathTxt q) : p = q :=
  pathTxt_inj (fun x hx => isH_bd (pathOk_mem h x hx)) (fun x hx => isH_bd (pathOk_mem h' x hx)) e
theorem PRd.uniq {s : List UInt8} {p p' : List Int} {ok ok' : Bool} (h : PRd s p ok) (h' : PRd s p' ok') : p = p' ∧ ok = ok' := by
  rcases h with ⟨rfl, h1, h2⟩ | ⟨rfl, rfl, h1⟩ <;> rcases h' with ⟨rfl, k1, k2⟩ | ⟨rfl, rfl, k1⟩
  · exact ⟨pathTxt_injO h1 k1 (h2.trans k2.symm), rfl⟩
  · exact absurd h2 (k1 _ h1)
  · exact absurd k2 (h1 _ k1)
  · exact ⟨rfl, rfl⟩
/-- the worlds of errPath and of the library -/
structure WQ (pb : Addr) (w : World) : Prop where
  p : WP pb w
  i : WI w
theorem wq_inh (pb : Addr) : Inh (WQ pb) (WQ pb) false := fun _ _ _ h hg => ⟨wp_inh pb _ _ 0 h.p hg, wi_inh _ _ 0 h.i hg⟩
theorem wqp_inh (pb : Addr) : Inh (WQ pb) (WP pb) false := fun _ _ _ h hg => wp_inh pb _ _ 0 h.p hg
theorem wqi_inh (pb : Addr) : Inh (WQ pb) WI false := fun _ _ _ h hg => wi_inh _ _ 0 h.i hg

def gSplit : List AV → Option (Prop × AV) | [.v (.string s), .v (.string p)] => some (s.size ≤ 1000000 ∧ p = ⟨#[45]⟩, .sl none (srows (sp45 s.data.toList))) | _ => none
def dSplit : DFn := { g := gSplit, inv := WI }
attribute [go_sem] gSplit dSplit
theorem split_ok : Fine Tryd.prog 77 dSplit.con := by
  refine raw_fine ⟨_, Tryd.func77, rfl, rfl⟩ rfl ?_
  intro c args vs hsz hrd hsx hpre hw
  obtain ⟨cc, r, hg, hc⟩ := hpre
  simp only [dSplit, gSplit] at hg
  split at hg
  rotate_left
  · cases hg
  rename_i s p
  obtain ⟨rfl, rfl⟩ := Prod.mk.inj (Option.some.inj hg)
  obtain ⟨hc1, rfl⟩ := hc
  have h0 := hrd 0 _ rfl
  have h1 := hrd 1 _ rfl
  obtain ⟨lv⟩ := vs
  match lv, hsz with
  | [x, y], _ =>
    have h0' : Rd c (.v (.string s)) x := h0
    have h1' : Rd c (.v (.string ⟨#[45]⟩)) y := h1
    cases h1'
    cases h0'
    obtain ⟨m, hm⟩ := (hw : WI c.w).mxl
    refine (Tryd.strings_Split s ⟨#[45]⟩ m c.w (by omega) hm (by decide)).mono ?_
    rintro e w' ⟨rfl, rfl⟩
    have e1 : (Lib.splitB ⟨#[45]⟩ 0 (Lib.countB s ⟨#[45]⟩) s).map (·.data.toList) = sp45 s.data.toList := by
      rw [Lib.splitB_data]; exact splitK_sp s.data.toList
    have e2 : (Lib.splitB ⟨#[45]⟩ 0 (Lib.countB s ⟨#[45]⟩) s).map Value.string = (sp45 s.data.toList).map fun l => Value.string ⟨l.toArray⟩ := by
      rw [← e1, List.map_map]; rfl
    have e3 : Lib.countB s ⟨#[45]⟩ + 1 = (sp45 s.data.toList).length := by
      rw [← Lib.splitB_all ⟨#[45]⟩ (by decide) 0 _ s rfl, ← e1, List.length_map]
    rw [e2, e3]
    generalize hL : sp45 s.data.toList = L
    have hcell : ∀ j, j < L.length → (c.w.alloc (.cells (L.map fun l => Value.string ⟨l.toArray⟩).toArray 9)).cell? ⟨c.w.heap.size, 0 + j, none⟩ = some (.string ⟨(L.getD j []).toArray⟩) := by
      intro j hj
      rw [cell_of_row _ _ _ _ 9 (0, 0) (Go.heap_alloc_new c.w _)]
      simp [List.getD_eq_getElem?_getD, hj]
    refine ⟨_, _, fun b o => b = c.w.heap.size ∧ o < L.length, rfl, ⟨_, by simp only [dSplit, gSplit, hL]; rfl⟩, ?_, ?_, ?_⟩
    · exact World.grownBy_alloc c.w _ none
    · rintro b o ⟨rfl, ho⟩
      exact ⟨Nat.le_refl _, _, by have := hcell o ho; rwa [Nat.zero_add] at this, rfl⟩
    · refine .sl none _ _ (.sl _ c.w.heap.size 0 _ _ 1 (fun j => .string ⟨(L.getD j []).toArray⟩) (by rw [srows_len]) (Nat.le_refl _) srows_row (fun j hj => ⟨.inr ⟨rfl, by omega⟩, hcell j (by omega)⟩) ?_) trivial
      intro i j row x hi hj
      have hil : i < L.length := by
        have := (List.getElem?_eq_some_iff.1 hi).1
        rwa [srows_len] at this
      rw [srows_get L i hil] at hi
      obtain rfl := Option.some.inj hi
      match j, hj with
      | 0, hj =>
        obtain rfl := Option.some.inj hj
        rw [Nat.mul_one, Nat.add_zero]
        exact .v _ rfl

theorem pathOk_len {p : List Int} (h : pathOk p = true) : p.length ≤ 5 := by
  have key : ∀ (n : Nat) (l : List Int), l.Nodup → (∀ x ∈ l, 1 ≤ x ∧ x ≤ n) → l.length ≤ n := by
    intro n
    induction n with
    | zero =>
      intro l _ h
      cases l with
      | nil => simp
      | cons x l => have := h x (by simp); omega
    | succ n ih =>
      intro l hn h
      have h1 := ih (l.filter fun x => !decide (x = (n + 1 : Int))) (hn.sublist List.filter_sublist) (by
        intro x hx
        rw [List.mem_filter] at hx
        have h2 := h x hx.1
        have h3 : ¬ x = (n + 1 : Int) := by simpa using hx.2
        omega)
      have h4 : l.length ≤ (l.filter fun x => !decide (x = (n + 1 : Int))).length + 1 := by
        clear h h1 ih
        induction l with
        | nil => simp
        | cons y l ih =>
          obtain ⟨hy, hn⟩ := List.nodup_cons.1 hn
          by_cases e : y = (n + 1 : Int)
          · have e2 : l.filter (fun x => !decide (x = (n + 1 : Int))) = l := by
              rw [List.filter_eq_self]
              intro x hx
              have : x ≠ (n + 1 : Int) := by rintro rfl; exact hy (e ▸ hx)
              simpa using this
            simp [List.filter_cons, e, e2]
          · have := ih hn
            simp [List.filter_cons, e]; omega
      omega
  have h2 := h
  simp only [pathOk, Bool.and_eq_true, decide_eq_true_eq] at h2
  exact key 5 p h2.2 fun x hx => by
    have := pathOk_mem h x hx
    simp only [isH, Bool.and_eq_true, decide_eq_true_eq] at this
    omega
def cPRead (pb : Addr) : Con := { pre := fun args => ∃ s : ByteArray, args = [.v (.string s)] ∧ s.size ≤ 1000, post := fun args r => ∀ s : ByteArray, args = [.v (.string s)] → ∃ (p : List Int) (ok : Bool), r = .tup [isl p, bv ok] ∧ PRd s.data.toList p ok, inv := WQ pb }
theorem cPRead_own (pb : Addr) : (cPRead pb).own = false := rfl
theorem cPRead_draws (pb : Addr) : (cPRead pb).draws = false := rfl
theorem cPRead_cost (pb : Addr) : (cPRead pb).cost = 0 := rfl
theorem cPRead_pre (pb : Addr) (l : List UInt8) : (cPRead pb).pre [.v (.string ⟨l.toArray⟩)] = (l.length ≤ 1000) := by
  apply propext
  exact ⟨fun ⟨s, h, h1⟩ => by obtain rfl := str_inj h; rwa [sz_mk] at h1, fun h => ⟨_, rfl, by rwa [sz_mk]⟩⟩
theorem cPRead_post (pb : Addr) (l : List UInt8) (K : AV → Prop) : (∀ r, (cPRead pb).post [.v (.string ⟨l.toArray⟩)] r → K r) = (∀ p ok, PRd l p ok → K (.tup [isl p, bv ok])) := by
  apply propext
  exact ⟨fun h p ok hp => h _ fun s hs => by obtain rfl := str_inj hs; exact ⟨p, ok, rfl, hp⟩, fun h r hr => by obtain ⟨p, ok, rfl, hp⟩ := hr _ rfl; exact h p ok hp⟩
attribute [go_sem] cPRead_own cPRead_draws cPRead_cost cPRead_pre cPRead_post
def cSPRead : Con := { cPRead ⟨0, 0, none⟩ with inv := fun _ => True }

def paA : List Int → AV
  | [] => .nl
  | x :: l => .sl (some (4, 0, 3)) (rows (x :: l))
theorem paA_nil : paA [] = .nl := rfl
theorem paA_cons (x : Int) (l : List Int) : paA (x :: l) = .sl (some (4, 0, 3)) (rows (x :: l)) := rfl
theorem paA_snoc (l : List Int) (x : Int) : paA (l ++ [x]) = .sl (some (4, 0, 3)) (rows (l ++ [x])) := by cases l <;> rfl
theorem pathTxt_split {q : List Int} (h : pathOk q = true) {s : List UInt8} (e : pathTxt q = s) (hs : s ≠ [46]) : q ≠ [] ∧ sp45 s = q.map dcI := by
  have hq : q ≠ [] := by rintro rfl; exact hs e.symm
  refine ⟨hq, ?_⟩
  rw [← e, pathTxt, if_neg hq, sp45_dc (fun x hx => isH_bd (pathOk_mem h x hx)) hq]

theorem map_dc_inj : ∀ {l l' : List Int}, (∀ x ∈ l, 0 ≤ x) → (∀ x ∈ l', 0 ≤ x) → l.map dcI = l'.map dcI → l = l'
  | [], [], _, _, _ => rfl
  | [], _ :: _, _, _, e => by simp at e
  | _ :: _, [], _, _, e => by simp at e
  | x :: l, y :: l', h, h', e => by
    rw [List.map_cons, List.map_cons] at e
    obtain ⟨e1, e2⟩ := List.cons.inj e
    rw [dcI_inj (h x (by simp)) (h' y (by simp)) e1, map_dc_inj (fun z hz => h z (by simp [hz])) (fun z hz => h' z (by simp [hz])) e2]

theorem iPRead_ok (pb : Addr) : Fine Tryd.prog 38 (cPRead pb) := by
  refine fine_of (T := TT) Tryd.func38 rfl Tryd.ntmps38 (by rw [Tryd.results38]) rfl rfl tt (gs_cons digits_ok gs_nil (wqi_inh pb)) (ds_cons split_ok (ds_cons (iPathOk_ok pb) ds_nil (wqp_inh pb)) (wqi_inh pb)) ?_
  rintro args ⟨s, rfl, hs⟩
  rcases s with ⟨⟨l⟩⟩
  rw [sz_mk] at hs
  refine ⟨by simp, fun k _ E hE Q hQ => ?_⟩
  refine Aw_st hE [0] [] fun K hK => ?_
  simp only [go_sem, reduceIte, Nat.reduceLT, Nat.reduceLeDiff, Nat.reduceEqDiff, Nat.reduceAdd, Nat.reduceMul, Nat.reduceSub, Nat.reduceBEq, Int.reduceToNat, List.reduceReplicate, reduceCtorEq]
  refine hK _ ?_; clear hK K
  refine Aw_sq fun B1 hB1 hR1 hX1 => ?_
  refine Aw_st hE [0, 10] [] fun K hK => ?_
  simp only [go_sem, reduceIte, Nat.reduceLT, Nat.reduceLeDiff, Nat.reduceEqDiff, Nat.reduceAdd, Nat.reduceMul, Nat.reduceSub, Nat.reduceBEq, Int.reduceToNat, List.reduceReplicate, reduceCtorEq]
  refine hK _ (Aw_cond rfl (fun hc2 => ?_) (fun hc2 => ?_))
  · refine Aw_st hE [2, 3] [] fun K hK => ?_
    simp only [go_sem, reduceIte, Nat.reduceLT, Nat.reduceLeDiff, Nat.reduceEqDiff, Nat.reduceAdd, Nat.reduceMul, Nat.reduceSub, Nat.reduceBEq, Int.reduceToNat, List.reduceReplicate, reduceCtorEq]
    refine hK _ (Aw_ret (hR1 _ (hQ _ ?_)))
    simp only [go_sem, reduceIte, Nat.reduceLT, Nat.reduceLeDiff, Nat.reduceEqDiff, Nat.reduceAdd, Nat.reduceMul, Nat.reduceSub, Nat.reduceBEq, Int.reduceToNat, List.reduceReplicate, reduceCtorEq]
    intro s' hs'
    obtain rfl := str_inj hs'
    have e : l = [46] := by simpa using hc2
    exact ⟨[], true, rfl, .inl ⟨rfl, rfl, e.symm⟩⟩
  · refine Aw_skip (hB1 _ ?_)
    have hl46 : l ≠ [46] := by simpa using hc2
    have hlen := sp45_len l
    have hsub := sp45_sub l
    refine Aw_st hE [0, 4] [] fun K hK => ?_
    simp only [go_sem, reduceIte, Nat.reduceLT, Nat.reduceLeDiff, Nat.reduceEqDiff, Nat.reduceAdd, Nat.reduceMul, Nat.reduceSub, Nat.reduceBEq, Int.reduceToNat, List.reduceReplicate, reduceCtorEq]
    refine hK _ ?_; clear hK K
    refine Aw_sq fun B3 hB3 hR3 hX3 => ?_
    refine Aw_st hE [4, 12, 13, 14] [] fun K hK => ?_
    simp only [go_sem, reduceIte, Nat.reduceLT, Nat.reduceLeDiff, Nat.reduceEqDiff, Nat.reduceAdd, Nat.reduceMul, Nat.reduceSub, Nat.reduceBEq, Int.reduceToNat, List.reduceReplicate, reduceCtorEq]
    repeat (refine And.intro (by first | omega | (and_intros <;> first | omega | exact rows_row _ | decide | (simp; done) | (simp; omega)) | fail) ?_)
    refine hK _ ?_; clear hK K
    refine Aw_bk fun B4 hN4 hE4 hR4 hX4 => ?_
    refine Aw_lp (fun i : Nat × List Int => ⟨34, [(4, paA i.2), (12, .sl none (srows (sp45 l))), (13, iv (sp45 l).length), (14, iv i.1)], [], k⟩) (fun i => i.1 ≤ (sp45 l).length ∧ i.2.map dcI = (sp45 l).take i.1 ∧ ∀ x ∈ i.2, 0 ≤ x) (fun i => (sp45 l).length - i.1) (0, []) (Le.refl _) ⟨by omega, by simp, by simp⟩ fun i hi B5 hN5 hR5 hX5 => ?_
    obtain ⟨i, q⟩ := i
    obtain ⟨hi1, hi2, hi3⟩ := hi
    simp only at hi1 hi2 hi3 ⊢
    refine Aw_st hE [4, 12, 13, 14, 15] [] fun K hK => ?_
    simp only [go_sem, reduceIte, Nat.reduceLT, Nat.reduceLeDiff, Nat.reduceEqDiff, Nat.reduceAdd, Nat.reduceMul, Nat.reduceSub, Nat.reduceBEq, Int.reduceToNat, List.reduceReplicate, reduceCtorEq]
    refine hK _ ?_; clear hK K
    refine Aw_sq fun B6 hB6 hR6 hX6 => ?_
    refine Aw_cond rfl (fun hc7 => ?_) (fun hc7 => ?_)
    · simp only [decide_eq_true_eq] at hc7
      have hil : i < (sp45 l).length := by omega
      have hw := hsub _ (List.getElem_mem hil)
      have ew : (sp45 l).getD i [] = (sp45 l)[i] := by simp [List.getD_eq_getElem?_getD, hil]
      refine Aw_skip (hB6 _ ?_)
      refine Aw_sq fun B8 hB8 hR8 hX8 => ?_
      refine Aw_bk fun B9 hN9 hE9 hR9 hX9 => ?_
      refine Aw_st hE [4, 6, 12, 13, 14] [] fun K hK => ?_
      simp only [go_sem, reduceIte, Nat.reduceLT, Nat.reduceLeDiff, Nat.reduceEqDiff, Nat.reduceAdd, Nat.reduceMul, Nat.reduceSub, Nat.reduceBEq, Int.reduceToNat, List.reduceReplicate, reduceCtorEq, srows_get (sp45 l) i hil]
      repeat (refine And.intro (by first | omega | (and_intros <;> first | omega | exact rows_row _ | decide | (simp; done) | (simp; omega)) | fail) ?_)
      refine hK _ ?_; clear hK K
      refine Aw_st hE [4, 7, 8, 12, 13, 14] [] fun K hK => ?_
      simp only [go_sem, reduceIte, Nat.reduceLT, Nat.reduceLeDiff, Nat.reduceEqDiff, Nat.reduceAdd, Nat.reduceMul, Nat.reduceSub, Nat.reduceBEq, Int.reduceToNat, List.reduceReplicate, reduceCtorEq]
      refine ⟨⟨_, rfl, by rw [sz_mk, ew]; omega⟩, fun r hr => ?_⟩
      obtain ⟨n, ok, rfl, hd⟩ := hr _ rfl
      simp only [go_sem, reduceIte, Nat.reduceLT, Nat.reduceLeDiff, Nat.reduceEqDiff, Nat.reduceAdd, Nat.reduceMul, Nat.reduceSub, Nat.reduceBEq, Int.reduceToNat, List.reduceReplicate, reduceCtorEq]
      refine hK _ ?_; clear hK K
      refine Aw_sq fun B10 hB10 hR10 hX10 => ?_
      refine Aw_st hE [4, 7, 12, 13, 14, 24] [] fun K hK => ?_
      simp only [go_sem, reduceIte, Nat.reduceLT, Nat.reduceLeDiff, Nat.reduceEqDiff, Nat.reduceAdd, Nat.reduceMul, Nat.reduceSub, Nat.reduceBEq, Int.reduceToNat, List.reduceReplicate, reduceCtorEq]
      refine hK _ (Aw_cond rfl (fun hc11 => ?_) (fun hc11 => ?_))
      · refine Aw_st hE [2, 3] [] fun K hK => ?_
        simp only [go_sem, reduceIte, Nat.reduceLT, Nat.reduceLeDiff, Nat.reduceEqDiff, Nat.reduceAdd, Nat.reduceMul, Nat.reduceSub, Nat.reduceBEq, Int.reduceToNat, List.reduceReplicate, reduceCtorEq]
        refine hK _ (Aw_ret (hR10 _ (hR9 _ (hR8 _ (hR5 _ (hR4 _ (hR3 _ (hQ _ ?_))))))))
        simp only [go_sem, reduceIte, Nat.reduceLT, Nat.reduceLeDiff, Nat.reduceEqDiff, Nat.reduceAdd, Nat.reduceMul, Nat.reduceSub, Nat.reduceBEq, Int.reduceToNat, List.reduceReplicate, reduceCtorEq]
        intro s' hs'
        obtain rfl := str_inj hs'
        refine ⟨[], false, rfl, .inr ⟨rfl, rfl, fun p hp e => ?_⟩⟩
        obtain rfl : ok = false := by simpa using hc11
        obtain ⟨_, h2⟩ := pathTxt_split hp (show pathTxt p = l from e) hl46
        rcases hd with ⟨h3, _⟩ | ⟨_, h3⟩
        · cases h3
        have hip : i < p.length := by
          have := congrArg List.length h2
          rw [List.length_map] at this; omega
        have hx := isH_bd (pathOk_mem hp _ (getD_mem p i hip))
        refine h3 (p.getD i 0).toNat (by omega) ?_
        rw [mk_data, show (sp45 l).getD i [] = (p.map dcI).getD i [] by rw [← h2]]
        simp [List.getD_eq_getElem?_getD, hip, dcI]
      · refine Aw_skip (hB10 _ ?_)
        obtain rfl : ok = true := by simpa using hc11
        obtain ⟨h3, h4, h5⟩ : 0 ≤ n ∧ n ≤ 9223372036854775807 ∧ Lib.decDigits n.toNat = (sp45 l).getD i [] := by
          rcases hd with ⟨_, h3⟩ | ⟨h3, _⟩
          · exact h3
          · cases h3
        have hq : q.length = i := by
          have := congrArg List.length hi2
          rw [List.length_map, List.length_take] at this; omega
        have hst : (q ++ [n]).map dcI = (sp45 l).take (i + 1) := by
          rw [List.map_append, hi2, List.take_succ_eq_append_getElem hil, ← ew, ← h5]; rfl
        have hnn : ∀ x ∈ q ++ [n], 0 ≤ x := fun x hx => by
          rcases List.mem_append.1 hx with hx | hx
          · exact hi3 x hx
          · obtain rfl := List.mem_singleton.1 hx; exact h3
        cases q with
        | nil =>
          simp only [paA_nil]
          refine Aw_tx hE [4, 12, 13, 14] [] fun K hK => ?_
          simp only [go_sem, reduceIte, Nat.reduceLT, Nat.reduceLeDiff, Nat.reduceEqDiff, Nat.reduceAdd, Nat.reduceMul, Nat.reduceSub, Nat.reduceBEq, Int.reduceToNat, List.reduceReplicate, reduceCtorEq, rows_one]
          repeat (refine And.intro (by first | omega | (and_intros <;> first | omega | exact rows_row _ | decide | (simp; done) | (simp; omega)) | fail) ?_)
          refine hK _ (hN9 _ (hB8 _ ?_))
          refine Aw_tx hE [4, 12, 13, 14] [] fun K hK => ?_
          simp only [go_sem, reduceIte, Nat.reduceLT, Nat.reduceLeDiff, Nat.reduceEqDiff, Nat.reduceAdd, Nat.reduceMul, Nat.reduceSub, Nat.reduceBEq, Int.reduceToNat, List.reduceReplicate, reduceCtorEq]
          repeat (refine And.intro (by first | omega | (and_intros <;> first | omega | exact rows_row _ | decide | (simp; done) | (simp; omega)) | fail) ?_)
          refine hK _ (hN5 (i + 1, [] ++ [n]) _ ⟨by simp only; omega, hst, hnn⟩ (by simp only; omega) ?_)
          exact Le_tk 28 4 rfl
        | cons x q =>
          have hq2 : q.length + 1 = i := hq
          simp only [paA_cons]
          refine Aw_tx hE [4, 12, 13, 14] [] fun K hK => ?_
          simp only [go_sem, reduceIte, Nat.reduceLT, Nat.reduceLeDiff, Nat.reduceEqDiff, Nat.reduceAdd, Nat.reduceMul, Nat.reduceSub, Nat.reduceBEq, Int.reduceToNat, List.reduceReplicate, reduceCtorEq, rows_one]
          repeat (refine And.intro (by first | omega | (and_intros <;> first | omega | exact rows_row _ | decide | (simp; done) | (simp; omega)) | fail) ?_)
          refine hK _ (hN9 _ (hB8 _ ?_))
          refine Aw_tx hE [4, 12, 13, 14] [] fun K hK => ?_
          simp only [go_sem, reduceIte, Nat.reduceLT, Nat.reduceLeDiff, Nat.reduceEqDiff, Nat.reduceAdd, Nat.reduceMul, Nat.reduceSub, Nat.reduceBEq, Int.reduceToNat, List.reduceReplicate, reduceCtorEq]
          repeat (refine And.intro (by first | omega | (and_intros <;> first | omega | exact rows_row _ | decide | (simp; done) | (simp; omega)) | fail) ?_)
          refine hK _ (hN5 (i + 1, (x :: q) ++ [n]) _ ⟨by simp only; omega, hst, hnn⟩ (by simp only; omega) ?_)
          exact Le_tk 28 4 rfl
    · simp only [decide_eq_false_iff_not] at hc7
      refine Aw_exit (hX6 _ _ (hX5 _ _ (hE4 _ (hB3 _ ?_))))
      refine Aw_sq fun B12 hB12 hR12 hX12 => ?_
      rw [List.take_of_length_le (by omega)] at hi2
      have hq : q.length ≤ 1001 := by
        have := congrArg List.length hi2
        rw [List.length_map] at this; omega
      cases q with
      | nil => exact absurd hi2.symm (sp45_ne l)
      | cons x q =>
        have hq2 : q.length + 1 ≤ 1001 := hq
        simp only [paA_cons]
        refine Aw_st hE [4, 32] [] fun K hK => ?_
        simp only [go_sem, reduceIte, Nat.reduceLT, Nat.reduceLeDiff, Nat.reduceEqDiff, Nat.reduceAdd, Nat.reduceMul, Nat.reduceSub, Nat.reduceBEq, Int.reduceToNat, List.reduceReplicate, reduceCtorEq]
        repeat (refine And.intro (by first | omega | (and_intros <;> first | omega | exact rows_row _ | decide | (simp; done) | (simp; omega)) | fail) ?_)
        refine hK _ (Aw_cond rfl (fun hc13 => ?_) (fun hc13 => ?_))
        · refine Aw_st hE [2, 3] [] fun K hK => ?_
          simp only [go_sem, reduceIte, Nat.reduceLT, Nat.reduceLeDiff, Nat.reduceEqDiff, Nat.reduceAdd, Nat.reduceMul, Nat.reduceSub, Nat.reduceBEq, Int.reduceToNat, List.reduceReplicate, reduceCtorEq]
          refine hK _ (Aw_ret (hR12 _ (hQ _ ?_)))
          simp only [go_sem, reduceIte, Nat.reduceLT, Nat.reduceLeDiff, Nat.reduceEqDiff, Nat.reduceAdd, Nat.reduceMul, Nat.reduceSub, Nat.reduceBEq, Int.reduceToNat, List.reduceReplicate, reduceCtorEq]
          intro s' hs'
          obtain rfl := str_inj hs'
          refine ⟨[], false, rfl, .inr ⟨rfl, rfl, fun p hp e => ?_⟩⟩
          obtain ⟨_, h2⟩ := pathTxt_split hp (show pathTxt p = l from e) hl46
          have e2 := map_dc_inj (fun x hx => (isH_bd (pathOk_mem hp x hx)).1) hi3 (h2.symm.trans hi2.symm)
          rw [e2] at hp
          rw [hp] at hc13
          cases hc13
        · refine Aw_skip (hB12 _ ?_)
          refine Aw_st hE [2, 3] [] fun K hK => ?_
          simp only [go_sem, reduceIte, Nat.reduceLT, Nat.reduceLeDiff, Nat.reduceEqDiff, Nat.reduceAdd, Nat.reduceMul, Nat.reduceSub, Nat.reduceBEq, Int.reduceToNat, List.reduceReplicate, reduceCtorEq]
          refine hK _ (Aw_ret (hQ _ ?_))
          simp only [go_sem, reduceIte, Nat.reduceLT, Nat.reduceLeDiff, Nat.reduceEqDiff, Nat.reduceAdd, Nat.reduceMul, Nat.reduceSub, Nat.reduceBEq, Int.reduceToNat, List.reduceReplicate, reduceCtorEq]
          intro s' hs'
          obtain rfl := str_inj hs'
          refine ⟨x :: q, true, rfl, .inl ⟨rfl, by simpa using hc13, ?_⟩⟩
          rw [pathTxt, if_neg (by simp), hi2, sp45_join]
end Go.Proofs.W
end
section
namespace Go.Proofs.W
open Go Go.Eng Go.RowKit
set_option linter.unusedSimpArgs false
set_option maxRecDepth 100000

theorem cSPRead_own : cSPRead.own = false := rfl
theorem cSPRead_draws : cSPRead.draws = false := rfl
theorem cSPRead_cost : cSPRead.cost = 0 := rfl
attribute [go_sem] cSPRead_own cSPRead_draws cSPRead_cost
theorem sPRead_pre (l : List UInt8) : cSPRead.pre [.v (.string ⟨l.toArray⟩)] = (l.length ≤ 1000) := cPRead_pre ⟨0, 0, none⟩ l
theorem sPRead_post (l : List UInt8) (K : AV → Prop) : (∀ r, cSPRead.post [.v (.string ⟨l.toArray⟩)] r → K r) = (∀ p ok, PRd l p ok → K (.tup [isl p, bv ok])) := cPRead_post ⟨0, 0, none⟩ l K
attribute [go_sem] sPRead_pre sPRead_post

def evens : List UInt8 → List Int
  | [] => []
  | [a] => [(a.toNat : Int) - 48]
  | a :: _ :: r => ((a.toNat : Int) - 48) :: evens r
theorem evens_len : ∀ l : List UInt8, (evens l).length = (l.length + 1) / 2
  | [] => rfl
  | [a] => by simp [evens]
  | a :: b :: r => by
    have := evens_len r
    simp only [evens, List.length_cons, this]; omega
theorem evens_get : ∀ (l : List UInt8) (j : Nat), 2 * j < l.length → (evens l).getD j 0 = ((l.getD (2 * j) 0).toNat : Int) - 48
  | [], j, h => by simp at h
  | [a], 0, _ => rfl
  | [a], j + 1, h => by simp at h
  | a :: b :: r, 0, _ => rfl
  | a :: b :: r, j + 1, h => by
    have := evens_get r j (by simp at h; omega)
    rw [evens, List.getD_cons_succ, this, show 2 * (j + 1) = 2 * j + 1 + 1 by omega, List.getD_cons_succ, List.getD_cons_succ]
theorem dc_val {x : Int} (h : 0 ≤ x ∧ x < 10) : ((UInt8.ofNat (48 + x.toNat)).toNat : Int) - 48 = x := by
  rw [dig_toNat x.toNat (by omega)]; omega
theorem evens_tail : ∀ {l : List Int} (c : UInt8), (∀ x ∈ l, 0 ≤ x ∧ x < 10) → evens (c :: Lib.joinTail [45] (l.map dcI)) = ((c.toNat : Int) - 48) :: l
  | [], c, _ => rfl
  | x :: l, c, h => by
    have h1 := h x (by simp)
    have ih := evens_tail (l := l) (UInt8.ofNat (48 + x.toNat)) fun y hy => h y (by simp [hy])
    have e : Lib.joinTail [45] ((x :: l).map dcI) = 45 :: UInt8.ofNat (48 + x.toNat) :: Lib.joinTail [45] (l.map dcI) := by
      simp [Lib.joinTail, dcI_one h1.1 h1.2]
    rw [e, evens, ih, dc_val h1]
def evP (l : List UInt8) : List Int := if l = [46] then [] else evens l
theorem evP_path {q : List Int} (h : pathOk q = true) {l : List UInt8} (e : pathTxt q = l) : evP l = q := by
  subst e
  unfold evP
  by_cases hq : q = []
  · subst hq; rfl
  have hm : ∀ x ∈ q, 0 ≤ x ∧ x < 10 := fun x hx => isH_bd (pathOk_mem h x hx)
  rw [pathTxt, if_neg hq, if_neg (join_not46 hm hq)]
  cases q with
  | nil => exact absurd rfl hq
  | cons x q =>
    have h1 := hm x (by simp)
    rw [List.map_cons, Lib.join_cons, dcI_one h1.1 h1.2, List.singleton_append, evens_tail _ fun y hy => hm y (by simp [hy]), dc_val h1]
theorem pathTxt_ne {q : List Int} (h : pathOk q = true) : pathTxt q ≠ [] := by
  unfold pathTxt
  split
  · simp
  · rename_i hq; exact join_dc_ne (fun x hx => isH_bd (pathOk_mem h x hx)) hq
theorem pathTxt_len9 {q : List Int} (h : pathOk q = true) : (pathTxt q).length ≤ 9 := by
  have hl := pathOk_len h
  unfold pathTxt
  split
  · simp
  · rename_i hq
    cases q with
    | nil => exact absurd rfl hq
    | cons x q =>
      have hm : ∀ y ∈ x :: q, 0 ≤ y ∧ y < 10 := fun x hx => isH_bd (pathOk_mem h x hx)
      have h1 := hm x (by simp)
      rw [List.map_cons, Lib.join_cons, List.length_append, Lib.joinTail_length, dcI_len h1.1 h1.2, lens_dc fun y hy => hm y (by simp [hy]), List.length_map]
      simp only [List.length_cons, List.length_nil] at hl ⊢
      omega

theorem wrap_u8 (u : Nat) (h : u < 256) : IntKind.i64.wrap (u : Int) = (u : Int) := wrap64_in _ (by omega)
theorem sPRead_ok : Fine Tryd.prog 41 cSPRead := by
  refine fine_of (T := TT) Tryd.func41 rfl Tryd.ntmps41 (by rw [Tryd.results41]) rfl rfl tt gs_nil (ds_cons sPText_ok ds_nil) ?_
  rintro args ⟨s, rfl, hs⟩
  rcases s with ⟨⟨l⟩⟩
  rw [sz_mk] at hs
  have hel := evens_len l
  have hev : (evP l).length ≤ (l.length + 1) / 2 := by
    unfold evP; split
    · simp
    · omega
  refine ⟨by simp, fun k _ E hE Q hQ => ?_⟩
  refine Aw_st hE [0] [] fun K hK => ?_
  simp only [go_sem, reduceIte, Nat.reduceLT, Nat.reduceLeDiff, Nat.reduceEqDiff, Nat.reduceAdd, Nat.reduceMul, Nat.reduceSub, Nat.reduceBEq, Int.reduceToNat, List.reduceReplicate, reduceCtorEq]
  refine hK _ ?_; clear hK K
  refine Aw_st hE [0, 4] [] fun K hK => ?_
  simp only [go_sem, reduceIte, Nat.reduceLT, Nat.reduceLeDiff, Nat.reduceEqDiff, Nat.reduceAdd, Nat.reduceMul, Nat.reduceSub, Nat.reduceBEq, Int.reduceToNat, List.reduceReplicate, reduceCtorEq]
  refine hK _ ?_; clear hK K
  refine Aw_sq fun B1 hB1 hR1 hX1 => ?_
  refine Aw_st hE [0, 4, 5] [] fun K hK => ?_
  simp only [go_sem, reduceIte, Nat.reduceLT, Nat.reduceLeDiff, Nat.reduceEqDiff, Nat.reduceAdd, Nat.reduceMul, Nat.reduceSub, Nat.reduceBEq, Int.reduceToNat, List.reduceReplicate, reduceCtorEq]
  refine hK _ ?_; clear hK K
  refine Aw_bk fun B2 hN2 hE2 hR2 hX2 => ?_
  refine Aw_lp (fun j : Nat => ⟨40, [(0, sv l), (4, .sl (some (6, 0, 3)) (rows ((evP l).take j))), (5, iv (2 * (j : Int)))], [], k⟩) (fun j => 2 * j ≤ l.length + 1) (fun j => l.length + 1 - 2 * j) 0 (Le_wk (by first | omega | (dsimp only; omega) | (simp only; omega) | (simp; omega)) (by simp only [go_sem, reduceIte, Nat.reduceLT, Nat.reduceLeDiff, Nat.reduceEqDiff, Nat.reduceAdd, Nat.reduceMul, Nat.reduceSub, Nat.reduceBEq, Int.reduceToNat, List.reduceReplicate, reduceCtorEq]; rfl) (by simp only [go_sem, reduceIte, Nat.reduceLT, Nat.reduceLeDiff, Nat.reduceEqDiff, Nat.reduceAdd, Nat.reduceMul, Nat.reduceSub, Nat.reduceBEq, Int.reduceToNat, List.reduceReplicate, reduceCtorEq])) (by omega) fun j hj B3 hN3 hR3 hX3 => ?_
  refine Aw_sq fun B4 hB4 hR4 hX4 => ?_
  refine Aw_st hE [0, 4, 5, 14] [] fun K hK => ?_
  simp only [go_sem, reduceIte, Nat.reduceLT, Nat.reduceLeDiff, Nat.reduceEqDiff, Nat.reduceAdd, Nat.reduceMul, Nat.reduceSub, Nat.reduceBEq, Int.reduceToNat, List.reduceReplicate, reduceCtorEq]
  have H : ∀ v, v = false → (evP l).take j = evP l → K { nt := 40, σ := [(0, sv l), (4, .sl (some (6, 0, 3)) (rows ((evP l).take j))), (5, iv (2 * (j : Int))), (14, bv v)], m := [], rn := k } := fun v hv he => by
    subst hv
    rw [he]
    refine hK _ (Aw_no rfl ?_)
    refine Aw_exit (hX4 _ _ (hX3 _ _ (hE2 _ (hB1 _ ?_))))
    clear hX4 hX3 hE2 hB1 hB4 hR4 hN3 hR3 hR1 hX1 hN2 hR2 hX2 hK K
    refine Aw_sq fun B10 hB10 hR10 hX10 => ?_
    refine Aw_st hE [4, 37] [] fun K hK => ?_
    simp only [go_sem, reduceIte, Nat.reduceLT, Nat.reduceLeDiff, Nat.reduceEqDiff, Nat.reduceAdd, Nat.reduceMul, Nat.reduceSub, Nat.reduceBEq, Int.reduceToNat, List.reduceReplicate, reduceCtorEq]
    have F : ∀ v, v = true → (∀ q, pathOk q = true → pathTxt q ≠ l) → K { nt := 40, σ := [(4, .sl (some (6, 0, 3)) (rows (evP l))), (37, bv v)], m := [], rn := k } := fun v hv hn => by
      subst hv
      refine hK _ (Aw_yes rfl ?_)
      refine Aw_st hE [2, 3] [] fun K hK => ?_
      simp only [go_sem, reduceIte, Nat.reduceLT, Nat.reduceLeDiff, Nat.reduceEqDiff, Nat.reduceAdd, Nat.reduceMul, Nat.reduceSub, Nat.reduceBEq, Int.reduceToNat, List.reduceReplicate, reduceCtorEq]
      refine hK _ (Aw_ret (hR10 _ (hQ _ ?_)))
      simp only [go_sem, reduceIte, Nat.reduceLT, Nat.reduceLeDiff, Nat.reduceEqDiff, Nat.reduceAdd, Nat.reduceMul, Nat.reduceSub, Nat.reduceBEq, Int.reduceToNat, List.reduceReplicate, reduceCtorEq]
      intro s' hs'
      obtain rfl := str_inj hs'
      exact ⟨[], false, rfl, .inr ⟨rfl, rfl, hn⟩⟩
    refine ⟨fun h1 => F _ rfl fun q hq e => ?_, fun h1 => ⟨fun h2 => F _ rfl fun q hq e => ?_, fun h2 => ⟨by omega, ?_⟩⟩⟩
    · have h3 : l = [] := by simpa using h1
      exact pathTxt_ne hq (e.trans h3)
    · have h3 := pathTxt_len9 hq
      rw [e] at h3
      simp only [decide_eq_true_eq] at h2
      omega
    · cases hp : ((bif pathOk (evP l) then pathTxt (evP l) else []) == l) with
      | false =>
        refine F _ rfl fun q hq e => ?_
        rw [evP_path hq e, hq, cond_true, e, beq_self_eq_true] at hp
        cases hp
      | true =>
        clear F
        refine hK _ (Aw_no rfl (Aw_skip (hB10 _ ?_)))
        refine Aw_st hE [2, 3] [] fun K hK => ?_
        simp only [go_sem, reduceIte, Nat.reduceLT, Nat.reduceLeDiff, Nat.reduceEqDiff, Nat.reduceAdd, Nat.reduceMul, Nat.reduceSub, Nat.reduceBEq, Int.reduceToNat, List.reduceReplicate, reduceCtorEq]
        refine hK _ (Aw_ret (hQ _ ?_))
        simp only [go_sem, reduceIte, Nat.reduceLT, Nat.reduceLeDiff, Nat.reduceEqDiff, Nat.reduceAdd, Nat.reduceMul, Nat.reduceSub, Nat.reduceBEq, Int.reduceToNat, List.reduceReplicate, reduceCtorEq]
        intro s' hs'
        obtain rfl := str_inj hs'
        have h3 : (bif pathOk (evP l) then pathTxt (evP l) else []) = l := by simpa using hp
        cases hk : pathOk (evP l) with
        | false => rw [hk, cond_false] at h3; rw [← h3] at h1; cases h1
        | true => exact ⟨evP l, true, rfl, .inl ⟨rfl, hk, by rw [hk, cond_true] at h3; exact h3⟩⟩
  refine ⟨fun hg6 => ?_, fun hg6 => ?_⟩
  · simp only [decide_eq_true_eq] at hg6
    cases h46 : (l == [46]) with
    | true =>
      refine H _ rfl ?_
      have e : evP l = [] := by rw [evP, if_pos (by simpa using h46)]
      rw [e]; simp
    | false =>
      clear H
      have e : evP l = evens l := by rw [evP, if_neg (by simpa using h46)]
      refine hK _ (Aw_yes rfl ?_)
      refine Aw_skip (hB4 _ ?_)
      refine Aw_sq fun B8 hB8 hR8 hX8 => ?_
      refine Aw_bk fun B9 hN9 hE9 hR9 hX9 => ?_
      have hg := evens_get l j (by omega)
      have hb := (l.getD (2 * j) 0).toNat_lt
      rw [e] at hev ⊢
      have hjl : j < (evens l).length := by omega
      have hst : (evens l).take (j + 1) = (evens l).take j ++ [(evens l).getD j 0] := by
        rw [List.take_succ_eq_append_getElem hjl]; simp [List.getD_eq_getElem?_getD, hjl]
      refine Aw_tx hE [0, 4, 5] [] fun K hK => ?_
      simp only [go_sem, reduceIte, Nat.reduceLT, Nat.reduceLeDiff, Nat.reduceEqDiff, Nat.reduceAdd, Nat.reduceMul, Nat.reduceSub, Nat.reduceBEq, Int.reduceToNat, List.reduceReplicate, reduceCtorEq, rows_one]
      rw [show (2 * (j : Int)).toNat = 2 * j by omega, wrap_u8 _ hb, ← hg]
      refine ⟨⟨by omega, by omega⟩, ⟨by omega, by omega⟩, ⟨rows_row _, by rw [List.length_take]; omega⟩, ?_⟩
      refine hK _ (hN9 _ (hB8 _ ?_))
      refine Aw_tx hE [0, 4, 5] [] fun K hK => ?_
      simp only [go_sem, reduceIte, Nat.reduceLT, Nat.reduceLeDiff, Nat.reduceEqDiff, Nat.reduceAdd, Nat.reduceMul, Nat.reduceSub, Nat.reduceBEq, Int.reduceToNat, List.reduceReplicate, reduceCtorEq]
      repeat (refine And.intro (by first | omega | (and_intros <;> first | omega | exact rows_row _ | decide | (simp; done) | (simp; omega)) | fail) ?_)
      refine hK _ (hN3 (j + 1) _ (by omega) (by omega) ?_)
      rw [e, hst, show (2 * ((j + 1 : Nat) : Int)) = 2 * (j : Int) + 2 by omega]
      exact Le_tk 24 6 rfl
  · simp only [decide_eq_false_iff_not] at hg6
    refine H _ rfl ?_
    rw [List.take_of_length_le (by omega)]
end Go.Proofs.W
end
section
namespace Go.Proofs.W
open Go Go.Eng Go.RowKit
set_option linter.unusedSimpArgs false
set_option maxRecDepth 100000

/-- laws that read errPath and the library's variables -/
def cLawQ (pb : Addr) : Con := { pre := codeArg, post := fun _ r => r = bv true, inv := WQ pb }
theorem cLawQ_own (pb : Addr) : (cLawQ pb).own = false := rfl
theorem cLawQ_draws (pb : Addr) : (cLawQ pb).draws = false := rfl
theorem cLawQ_cost (pb : Addr) : (cLawQ pb).cost = 0 := rfl
theorem cLawQ_post (pb : Addr) (args : List AV) (r : AV) : (cLawQ pb).post args r = (r = bv true) := rfl
attribute [go_sem] cLawQ_own cLawQ_draws cLawQ_cost cLawQ_post

/-- a path that is drawn -/
def cDPT : Con := { pre := codeArg, post := fun _ r => ∃ p : List Int, (p.length ≤ 4 ∧ ∀ h ∈ p, isH h = true) ∧ r = isl p }
theorem cDPT_own : cDPT.own = false := rfl
theorem cDPT_draws : cDPT.draws = false := rfl
theorem cDPT_cost : cDPT.cost = 0 := rfl
attribute [go_sem] cDPT_own cDPT_draws cDPT_cost
theorem dpt_pre (bs : List Nat) (h : ∀ b ∈ bs, b < 256) : cDPT.pre [.sl none (byteRows bs)] := ⟨bs, h, rfl⟩
theorem dpt_post (args : List AV) (K : AV → Prop) : (∀ r, cDPT.post args r → K r) = (∀ p : List Int, (p.length ≤ 4 ∧ ∀ h ∈ p, isH h = true) → K (isl p)) := by
  apply propext
  exact ⟨fun h p hp => h _ ⟨p, hp, rfl⟩, fun h r ⟨p, hp, e⟩ => e ▸ h p hp⟩
attribute [go_sem] dpt_post
theorem drawPathText_ok : Fine Tryd.prog 35 cDPT := by
  refine fine_draw (T := TT) (C := cDPT) Tryd.func35 rfl Tryd.ntmps35 (by rw [Tryd.results35]) rfl rfl tt rfl rfl (G := [(76, cPathD)]) (D := []) (gs_cons l91Path_ok gs_nil) ds_nil (l1 := [_]) (l2 := [_, _]) rfl rfl rfl rfl (by decide) open_calls ⟨_, Tryd.func42, rfl, rfl⟩ ?_ ?_
  · rintro args r ⟨p, _, rfl⟩; rfl
  rintro args ⟨bs, hbs, rfl⟩
  refine ⟨by simp, bs, hbs, fun n E hE J hJ => ?_⟩
  refine Aw_tx hE [0] [] fun K hK => ?_
  simp only [go_sem, reduceIte, Nat.reduceLT, Nat.reduceLeDiff, Nat.reduceEqDiff, Nat.reduceAdd, Nat.reduceMul, Nat.reduceSub, Nat.reduceBEq, Int.reduceToNat, List.reduceReplicate, reduceCtorEq]
  refine hK _ ?_
  simp only [thenA]
  simp only [go_sem, reduceIte, Nat.reduceLT, Nat.reduceLeDiff, Nat.reduceEqDiff, Nat.reduceAdd, Nat.reduceMul, Nat.reduceSub, Nat.reduceBEq, Int.reduceToNat, List.reduceReplicate, reduceCtorEq]
  refine hJ _ rfl rfl fun E hE Q hQ => ?_
  simp only [go_sem, reduceIte, Nat.reduceLT, Nat.reduceLeDiff, Nat.reduceEqDiff, Nat.reduceAdd, Nat.reduceMul, Nat.reduceSub, Nat.reduceBEq, Int.reduceToNat, List.reduceReplicate, reduceCtorEq]
  intro p hp
  refine Aw_ret (hQ _ ?_)
  simp only [go_sem, reduceIte, Nat.reduceLT, Nat.reduceLeDiff, Nat.reduceEqDiff, Nat.reduceAdd, Nat.reduceMul, Nat.reduceSub, Nat.reduceBEq, Int.reduceToNat, List.reduceReplicate, reduceCtorEq]
  exact ⟨p, hp, rfl⟩

/-- a text, perhaps a path's -/
theorem drawPathRead_ok : Fine Tryd.prog 40 cDRead := by
  refine fine_draw (T := TT) (C := cDRead) Tryd.func40 rfl Tryd.ntmps40 (by rw [Tryd.results40]) rfl rfl tt rfl rfl (G := [(76, cPathD), (44, cPick), (64, cOf)]) (D := [(37, dPText)]) (gs_cons l91Path_ok (gs_cons pick_ok (gs_cons of_ok gs_nil))) (ds_cons sPText_ok ds_nil) (l1 := [_]) (l2 := [_]) rfl rfl rfl rfl (by decide) open_calls ⟨_, Tryd.func42, rfl, rfl⟩ ?_ ?_
  · rintro args r ⟨s, _, rfl⟩; rfl
  rintro args ⟨bs, hbs, rfl⟩
  refine ⟨by simp, bs, hbs, fun n E hE J hJ => ?_⟩
  refine Aw_tx hE [0] [] fun K hK => ?_
  simp only [go_sem, reduceIte, Nat.reduceLT, Nat.reduceLeDiff, Nat.reduceEqDiff, Nat.reduceAdd, Nat.reduceMul, Nat.reduceSub, Nat.reduceBEq, Int.reduceToNat, List.reduceReplicate, reduceCtorEq]
  refine hK _ ?_
  simp only [thenA]
  simp only [go_sem, reduceIte, Nat.reduceLT, Nat.reduceLeDiff, Nat.reduceEqDiff, Nat.reduceAdd, Nat.reduceMul, Nat.reduceSub, Nat.reduceBEq, Int.reduceToNat, List.reduceReplicate, reduceCtorEq]
  refine hJ _ rfl rfl fun E hE Q hQ => ?_
  simp only [go_sem, reduceIte, Nat.reduceLT, Nat.reduceLeDiff, Nat.reduceEqDiff, Nat.reduceAdd, Nat.reduceMul, Nat.reduceSub, Nat.reduceBEq, Int.reduceToNat, List.reduceReplicate, reduceCtorEq]
  refine Aw_st hE [3, 4] [] fun K hK => ?_
  simp only [go_sem, reduceIte, Nat.reduceLT, Nat.reduceLeDiff, Nat.reduceEqDiff, Nat.reduceAdd, Nat.reduceMul, Nat.reduceSub, Nat.reduceBEq, Int.reduceToNat, List.reduceReplicate, reduceCtorEq]
  intro p hp1
  refine ⟨by omega, ?_⟩
  have hlen : (bif pathOk p then pathTxt p else []).length ≤ 9 := by
    cases h : pathOk p with
    | true => exact pathTxt_len9 h
    | false => simp
  generalize (bif pathOk p then pathTxt p else []) = s at hlen ⊢
  refine hK _ ?_; clear hK K
  refine Aw_st hE [3, 4, 5] [] fun K hK => ?_
  simp only [go_sem, reduceIte, Nat.reduceLT, Nat.reduceLeDiff, Nat.reduceEqDiff, Nat.reduceAdd, Nat.reduceMul, Nat.reduceSub, Nat.reduceBEq, Int.reduceToNat, List.reduceReplicate, reduceCtorEq]
  repeat (refine And.intro (by first | omega | (and_intros <;> first | omega | exact rows_row _ | decide | (simp; done) | (simp; omega)) | fail) ?_)
  repeat' (first | (refine And.intro (by first | omega | decide) ?_) | intro)
  rename_i x hx1 hx2
  refine hK _ ?_; clear hK K
  refine Aw_sq fun B1 hB1 hR1 hX1 => ?_
  refine Aw_st hE [3, 4, 5, 17] [] fun K hK => ?_
  simp only [go_sem, reduceIte, Nat.reduceLT, Nat.reduceLeDiff, Nat.reduceEqDiff, Nat.reduceAdd, Nat.reduceMul, Nat.reduceSub, Nat.reduceBEq, Int.reduceToNat, List.reduceReplicate, reduceCtorEq]
  repeat (refine And.intro (by first | omega | (and_intros <;> first | omega | exact rows_row _ | decide | (simp; done) | (simp; omega)) | fail) ?_)
  repeat' (first | (refine And.intro (by first | omega | decide) ?_) | intro)
  rename_i y hy1 hy2
  refine hK _ ?_; clear hK K
  refine Aw_bk fun B2 hN2 hE2 hR2 hX2 => ?_
  refine Aw_st hE [3, 4, 5, 17, 18] [] fun K hK => ?_
  simp only [go_sem, reduceIte, Nat.reduceLT, Nat.reduceLeDiff, Nat.reduceEqDiff, Nat.reduceAdd, Nat.reduceMul, Nat.reduceSub, Nat.reduceBEq, Int.reduceToNat, List.reduceReplicate, reduceCtorEq]
  refine hK _ (Aw_cond rfl (fun hc3 => ?_) (fun hc3 => ?_))
  · refine Aw_st hE [2] [] fun K hK => ?_
    simp only [go_sem, reduceIte, Nat.reduceLT, Nat.reduceLeDiff, Nat.reduceEqDiff, Nat.reduceAdd, Nat.reduceMul, Nat.reduceSub, Nat.reduceBEq, Int.reduceToNat, List.reduceReplicate, reduceCtorEq]
    repeat (refine And.intro (by first | omega | (and_intros <;> first | omega | exact rows_row _ | decide | (simp; done) | (simp; omega)) | fail) ?_)
    refine hK _ (Aw_ret (hR2 _ (hR1 _ (hQ _ ?_))))
    simp only [go_sem, reduceIte, Nat.reduceLT, Nat.reduceLeDiff, Nat.reduceEqDiff, Nat.reduceAdd, Nat.reduceMul, Nat.reduceSub, Nat.reduceBEq, Int.reduceToNat, List.reduceReplicate, reduceCtorEq]
    exact ⟨_, by rw [sz_mk]; simp; omega, rfl⟩
  · refine Aw_st hE [3, 4, 5, 23] [] fun K hK => ?_
    simp only [go_sem, reduceIte, Nat.reduceLT, Nat.reduceLeDiff, Nat.reduceEqDiff, Nat.reduceAdd, Nat.reduceMul, Nat.reduceSub, Nat.reduceBEq, Int.reduceToNat, List.reduceReplicate, reduceCtorEq]
    refine hK _ (Aw_cond rfl (fun hc4 => ?_) (fun hc4 => ?_))
    · refine Aw_sd hE [2] [] 6 (by kernel_rfl) fun K hK => ?_
      simp only [go_sem, reduceIte, Nat.reduceLT, Nat.reduceLeDiff, Nat.reduceEqDiff, Nat.reduceAdd, Nat.reduceMul, Nat.reduceSub, Nat.reduceBEq, Int.reduceToNat, List.reduceReplicate, reduceCtorEq]
      refine ⟨⟨by omega, by omega, by omega⟩, ⟨[⟨#[49]⟩, ⟨#[45]⟩, ⟨#[46]⟩, ⟨#[54]⟩], rfl, by decide, by decide, by intro s h; simp at h; rcases h with rfl | rfl | rfl | rfl <;> decide⟩, fun t ht => ?_⟩
      refine ⟨by simp; omega, ⟨by omega, by omega, by omega⟩, by simp; omega, ?_⟩
      refine hK _ (Aw_ret (hR2 _ (hR1 _ (hQ _ ?_))))
      simp only [go_sem, reduceIte, Nat.reduceLT, Nat.reduceLeDiff, Nat.reduceEqDiff, Nat.reduceAdd, Nat.reduceMul, Nat.reduceSub, Nat.reduceBEq, Int.reduceToNat, List.reduceReplicate, reduceCtorEq]
      exact ⟨_, by simp only [ByteArray.size_append, sz_mk]; simp; omega, rfl⟩
    · refine Aw_skip (hN2 _ (hB1 _ ?_))
      refine Aw_st hE [2] [] fun K hK => ?_
      simp only [go_sem, reduceIte, Nat.reduceLT, Nat.reduceLeDiff, Nat.reduceEqDiff, Nat.reduceAdd, Nat.reduceMul, Nat.reduceSub, Nat.reduceBEq, Int.reduceToNat, List.reduceReplicate, reduceCtorEq]
      refine hK _ (Aw_ret (hQ _ ?_))
      simp only [go_sem, reduceIte, Nat.reduceLT, Nat.reduceLeDiff, Nat.reduceEqDiff, Nat.reduceAdd, Nat.reduceMul, Nat.reduceSub, Nat.reduceBEq, Int.reduceToNat, List.reduceReplicate, reduceCtorEq]
      exact ⟨_, by rw [sz_mk]; omega, rfl⟩

theorem fnPathBack_ok (pb : Addr) : Fine Tryd.prog 9 (cLawQ pb) := by
  refine fine_of (T := TT) Tryd.func9 rfl Tryd.ntmps9 (by rw [Tryd.results9]) rfl rfl tt (gs_cons drawPathText_ok (gs_cons (iPRead_ok pb) gs_nil (fun _ _ _ h hg => wq_inh pb _ _ 0 h hg))) (ds_cons (iPText_ok pb) (ds_cons sPText_ok (ds_cons lyInts_ok (ds_cons (iPathOk_ok pb) ds_nil (wqp_inh pb)))) (wqp_inh pb)) ?_
  rintro args ⟨bs, hbs, rfl⟩
  refine ⟨by simp, fun k hk E hE Q hQ => ?_⟩
  refine Aw_st hE [0] [] fun K hK => ?_
  simp only [go_sem, reduceIte, Nat.reduceLT, Nat.reduceLeDiff, Nat.reduceEqDiff, Nat.reduceAdd, Nat.reduceMul, Nat.reduceSub, Nat.reduceBEq, Int.reduceToNat, List.reduceReplicate, reduceCtorEq]
  refine hK _ ?_; clear hK K
  refine Aw_sq fun B1 hB1 hR1 hX1 => ?_
  refine Aw_st hE [0, 9] [] fun K hK => ?_
  simp only [go_sem, reduceIte, Nat.reduceLT, Nat.reduceLeDiff, Nat.reduceEqDiff, Nat.reduceAdd, Nat.reduceMul, Nat.reduceSub, Nat.reduceBEq, Int.reduceToNat, List.reduceReplicate, reduceCtorEq]
  refine hK _ (Aw_cond rfl (fun hc2 => ?_) (fun hc2 => ?_))
  · refine Aw_st hE [2] [] fun K hK => ?_
    simp only [go_sem, reduceIte, Nat.reduceLT, Nat.reduceLeDiff, Nat.reduceEqDiff, Nat.reduceAdd, Nat.reduceMul, Nat.reduceSub, Nat.reduceBEq, Int.reduceToNat, List.reduceReplicate, reduceCtorEq]
    refine hK _ (Aw_ret (hR1 _ (hQ _ ?_)))
    simp only [go_sem, reduceIte, Nat.reduceLT, Nat.reduceLeDiff, Nat.reduceEqDiff, Nat.reduceAdd, Nat.reduceMul, Nat.reduceSub, Nat.reduceBEq, Int.reduceToNat, List.reduceReplicate, reduceCtorEq]
  · refine Aw_skip (hB1 _ ?_)
    refine Aw_st hE [3] [] fun K hK => ?_
    simp only [go_sem, reduceIte, Nat.reduceLT, Nat.reduceLeDiff, Nat.reduceEqDiff, Nat.reduceAdd, Nat.reduceMul, Nat.reduceSub, Nat.reduceBEq, Int.reduceToNat, List.reduceReplicate, reduceCtorEq]
    refine ⟨dpt_pre bs hbs, fun p hp1 => ?_⟩
    refine hK _ ?_; clear hK K
    refine Aw_st hE [3, 4] [] fun K hK => ?_
    simp only [go_sem, reduceIte, Nat.reduceLT, Nat.reduceLeDiff, Nat.reduceEqDiff, Nat.reduceAdd, Nat.reduceMul, Nat.reduceSub, Nat.reduceBEq, Int.reduceToNat, List.reduceReplicate, reduceCtorEq]
    repeat (refine And.intro (by first | omega | (and_intros <;> first | omega | exact rows_row _ | decide | (simp; done) | (simp; omega)) | fail) ?_)
    refine hK _ ?_; clear hK K
    refine Aw_sq fun B5 hB5 hR5 hX5 => ?_
    cases hok : pathOk p with
    | false =>
      refine Aw_st hE [3, 4, 21] [] fun K hK => ?_
      simp only [go_sem, reduceIte, Nat.reduceLT, Nat.reduceLeDiff, Nat.reduceEqDiff, Nat.reduceAdd, Nat.reduceMul, Nat.reduceSub, Nat.reduceBEq, Int.reduceToNat, List.reduceReplicate, reduceCtorEq, hok, cond_false, bne_self_eq_false, beq_self_eq_true]
      repeat (refine And.intro (by first | omega | (and_intros <;> first | omega | exact rows_row _ | decide | (simp; done) | (simp; omega)) | fail) ?_)
      refine hK _ (Aw_yes rfl ?_)
      refine Aw_st hE [2] [] fun K hK => ?_
      simp only [go_sem, reduceIte, Nat.reduceLT, Nat.reduceLeDiff, Nat.reduceEqDiff, Nat.reduceAdd, Nat.reduceMul, Nat.reduceSub, Nat.reduceBEq, Int.reduceToNat, List.reduceReplicate, reduceCtorEq, hok, cond_false, beq_self_eq_true]
      repeat (refine And.intro (by first | omega | (and_intros <;> first | omega | exact rows_row _ | decide | (simp; done) | (simp; omega)) | fail) ?_)
      refine hK _ (Aw_ret (hR5 _ (hQ _ ?_)))
      simp only [go_sem, reduceIte, Nat.reduceLT, Nat.reduceLeDiff, Nat.reduceEqDiff, Nat.reduceAdd, Nat.reduceMul, Nat.reduceSub, Nat.reduceBEq, Int.reduceToNat, List.reduceReplicate, reduceCtorEq]
    | true =>
      have hne : (pathTxt p == []) = false := by rw [beq_eq_false_iff_ne]; exact pathTxt_ne hok
      have hl := pathTxt_len9 hok
      refine Aw_st hE [3, 4, 21] [] fun K hK => ?_
      simp only [go_sem, reduceIte, Nat.reduceLT, Nat.reduceLeDiff, Nat.reduceEqDiff, Nat.reduceAdd, Nat.reduceMul, Nat.reduceSub, Nat.reduceBEq, Int.reduceToNat, List.reduceReplicate, reduceCtorEq, hok, cond_true, bne_self_eq_false, hne]
      repeat (refine And.intro (by first | omega | (and_intros <;> first | omega | exact rows_row _ | decide | (simp; done) | (simp; omega)) | fail) ?_)
      refine hK _ (Aw_no rfl (Aw_skip (hB5 _ ?_)))
      refine Aw_st hE [3, 5, 6] [] fun K hK => ?_
      simp only [go_sem, reduceIte, Nat.reduceLT, Nat.reduceLeDiff, Nat.reduceEqDiff, Nat.reduceAdd, Nat.reduceMul, Nat.reduceSub, Nat.reduceBEq, Int.reduceToNat, List.reduceReplicate, reduceCtorEq, hok, cond_true]
      refine ⟨by omega, fun q ok hq => ?_⟩
      obtain ⟨rfl, rfl⟩ := PRd.uniq hq (.inl ⟨rfl, hok, rfl⟩)
      refine hK _ ?_; clear hK K
      refine Aw_st hE [2] [] fun K hK => ?_
      simp only [go_sem, reduceIte, Nat.reduceLT, Nat.reduceLeDiff, Nat.reduceEqDiff, Nat.reduceAdd, Nat.reduceMul, Nat.reduceSub, Nat.reduceBEq, Int.reduceToNat, List.reduceReplicate, reduceCtorEq, hok, cond_true, decide_true]
      repeat (refine And.intro (by first | omega | (and_intros <;> first | omega | exact rows_row _ | decide | (simp; done) | (simp; omega)) | fail) ?_)
      refine hK _ (Aw_ret (hQ _ ?_))
      simp only [go_sem, reduceIte, Nat.reduceLT, Nat.reduceLeDiff, Nat.reduceEqDiff, Nat.reduceAdd, Nat.reduceMul, Nat.reduceSub, Nat.reduceBEq, Int.reduceToNat, List.reduceReplicate, reduceCtorEq]

theorem fnPathStrict_ok (pb : Addr) : Fine Tryd.prog 10 (cLawQ pb) := by
  refine fine_of (T := TT) Tryd.func10 rfl Tryd.ntmps10 (by rw [Tryd.results10]) rfl rfl tt (gs_cons drawPathRead_ok (gs_cons (iPRead_ok pb) (gs_cons sPRead_ok gs_nil) (fun _ _ _ h hg => wq_inh pb _ _ 0 h hg))) (ds_cons (iPText_ok pb) (ds_cons lyInts_ok (ds_cons (iPathOk_ok pb) ds_nil (wqp_inh pb))) (wqp_inh pb)) ?_
  rintro args ⟨bs, hbs, rfl⟩
  refine ⟨by simp, fun k hk E hE Q hQ => ?_⟩
  refine Aw_st hE [0] [] fun K hK => ?_
  simp only [go_sem, reduceIte, Nat.reduceLT, Nat.reduceLeDiff, Nat.reduceEqDiff, Nat.reduceAdd, Nat.reduceMul, Nat.reduceSub, Nat.reduceBEq, Int.reduceToNat, List.reduceReplicate, reduceCtorEq]
  refine hK _ ?_; clear hK K
  refine Aw_sq fun B1 hB1 hR1 hX1 => ?_
  refine Aw_st hE [0, 10] [] fun K hK => ?_
  simp only [go_sem, reduceIte, Nat.reduceLT, Nat.reduceLeDiff, Nat.reduceEqDiff, Nat.reduceAdd, Nat.reduceMul, Nat.reduceSub, Nat.reduceBEq, Int.reduceToNat, List.reduceReplicate, reduceCtorEq]
  refine hK _ (Aw_cond rfl (fun hc2 => ?_) (fun hc2 => ?_))
  · refine Aw_st hE [2] [] fun K hK => ?_
    simp only [go_sem, reduceIte, Nat.reduceLT, Nat.reduceLeDiff, Nat.reduceEqDiff, Nat.reduceAdd, Nat.reduceMul, Nat.reduceSub, Nat.reduceBEq, Int.reduceToNat, List.reduceReplicate, reduceCtorEq]
    refine hK _ (Aw_ret (hR1 _ (hQ _ ?_)))
    simp only [go_sem, reduceIte, Nat.reduceLT, Nat.reduceLeDiff, Nat.reduceEqDiff, Nat.reduceAdd, Nat.reduceMul, Nat.reduceSub, Nat.reduceBEq, Int.reduceToNat, List.reduceReplicate, reduceCtorEq]
  · refine Aw_skip (hB1 _ ?_)
    refine Aw_st hE [3] [] fun K hK => ?_
    simp only [go_sem, reduceIte, Nat.reduceLT, Nat.reduceLeDiff, Nat.reduceEqDiff, Nat.reduceAdd, Nat.reduceMul, Nat.reduceSub, Nat.reduceBEq, Int.reduceToNat, List.reduceReplicate, reduceCtorEq]
    refine ⟨dread_pre bs hbs, fun s hs => ?_⟩
    rcases s with ⟨⟨l⟩⟩
    rw [sz_mk] at hs
    refine hK _ ?_; clear hK K
    refine Aw_st hE [3, 4, 5] [] fun K hK => ?_
    simp only [go_sem, reduceIte, Nat.reduceLT, Nat.reduceLeDiff, Nat.reduceEqDiff, Nat.reduceAdd, Nat.reduceMul, Nat.reduceSub, Nat.reduceBEq, Int.reduceToNat, List.reduceReplicate, reduceCtorEq]
    refine ⟨hs, fun q ok hq => ?_⟩
    refine hK _ ?_; clear hK K
    refine Aw_st hE [3, 4, 5, 6, 7] [] fun K hK => ?_
    simp only [go_sem, reduceIte, Nat.reduceLT, Nat.reduceLeDiff, Nat.reduceEqDiff, Nat.reduceAdd, Nat.reduceMul, Nat.reduceSub, Nat.reduceBEq, Int.reduceToNat, List.reduceReplicate, reduceCtorEq]
    refine ⟨hs, fun q' ok' hq' => ?_⟩
    obtain ⟨rfl, rfl⟩ := PRd.uniq hq hq'
    refine hK _ ?_; clear hK K
    have hql : q.length ≤ 5 := by
      rcases hq with ⟨_, h1, _⟩ | ⟨_, rfl, _⟩
      · exact pathOk_len h1
      · simp
    refine Aw_sq fun B5 hB5 hR5 hX5 => ?_
    cases ok with
    | false =>
      refine Aw_st hE [3, 4, 5, 6, 7, 35] [] fun K hK => ?_
      simp only [go_sem, reduceIte, Nat.reduceLT, Nat.reduceLeDiff, Nat.reduceEqDiff, Nat.reduceAdd, Nat.reduceMul, Nat.reduceSub, Nat.reduceBEq, Int.reduceToNat, List.reduceReplicate, reduceCtorEq, decide_true, bne_self_eq_false]
      refine ⟨⟨by omega, by omega⟩, ?_⟩
      refine hK _ (Aw_yes rfl ?_)
      refine Aw_st hE [2] [] fun K hK => ?_
      simp only [go_sem, reduceIte, Nat.reduceLT, Nat.reduceLeDiff, Nat.reduceEqDiff, Nat.reduceAdd, Nat.reduceMul, Nat.reduceSub, Nat.reduceBEq, Int.reduceToNat, List.reduceReplicate, reduceCtorEq, decide_true, beq_self_eq_true]
      refine ⟨⟨by omega, by omega⟩, ?_⟩
      refine hK _ (Aw_ret (hR5 _ (hQ _ ?_)))
      simp only [go_sem, reduceIte, Nat.reduceLT, Nat.reduceLeDiff, Nat.reduceEqDiff, Nat.reduceAdd, Nat.reduceMul, Nat.reduceSub, Nat.reduceBEq, Int.reduceToNat, List.reduceReplicate, reduceCtorEq]
    | true =>
      obtain ⟨h1, h2⟩ : pathOk q = true ∧ pathTxt q = l := by
        rcases hq with ⟨_, h1⟩ | ⟨h1, _⟩
        · exact h1
        · cases h1
      refine Aw_st hE [3, 4, 5, 6, 7, 35] [] fun K hK => ?_
      simp only [go_sem, reduceIte, Nat.reduceLT, Nat.reduceLeDiff, Nat.reduceEqDiff, Nat.reduceAdd, Nat.reduceMul, Nat.reduceSub, Nat.reduceBEq, Int.reduceToNat, List.reduceReplicate, reduceCtorEq, decide_true, bne_self_eq_false]
      refine ⟨⟨by omega, by omega⟩, ?_⟩
      refine hK _ (Aw_no rfl (Aw_skip (hB5 _ ?_)))
      refine Aw_st hE [2] [] fun K hK => ?_
      simp only [go_sem, reduceIte, Nat.reduceLT, Nat.reduceLeDiff, Nat.reduceEqDiff, Nat.reduceAdd, Nat.reduceMul, Nat.reduceSub, Nat.reduceBEq, Int.reduceToNat, List.reduceReplicate, reduceCtorEq, h1, cond_true, h2, beq_self_eq_true]
      refine ⟨by omega, by omega, ?_⟩
      refine hK _ (Aw_ret (hQ _ ?_))
      simp only [go_sem, reduceIte, Nat.reduceLT, Nat.reduceLeDiff, Nat.reduceEqDiff, Nat.reduceAdd, Nat.reduceMul, Nat.reduceSub, Nat.reduceBEq, Int.reduceToNat, List.reduceReplicate, reduceCtorEq]
end Go.Proofs.W
end
section
namespace Go.Proofs.W
open Go Go.Eng Go.RowKit Go.WideShapes Go.ChangeShapes
set_option linter.unusedSimpArgs false
set_option maxRecDepth 100000

theorem law_callsQ {f : FuncId} {pb : Addr} (h : Fine Tryd.prog f (cLawQ pb)) (W : World) (hI : WQ pb W) (v : Value) (hv : InBytes W v) : Calls Tryd.prog f #[v] W fun e w' => e = .returned (.bool true) ∧ Below W.heap.size W w' := by
  let S : Nat → Nat → Prop := fun b o => ∃ x, W.cell? ⟨b, o, none⟩ = some x ∧ x.oneCell' = true
  obtain ⟨bs, hbs, hr⟩ := inBytes_rdd hv S (fun _ _ h => h)
  let c : Gh := { w := W, S := S, β := fun _ => 0, tv := fun _ _ => .slice none 0 0, te := fun _ _ => 0, g := 0 }
  have hrd : ∀ (j : Nat) (x : AV), [AV.sl none (byteRows bs)][j]? = some x → Rd c x ((#[v] : Array Value).getD j undef) := fun j x hx => by
    match j, hx with
    | 0, hx => obtain rfl := Option.some.inj hx; exact .sl none _ v hr trivial
  refine (h.2 c [.sl none (byteRows bs)] #[v] .nilIface 0 0 rfl hrd (fun x hx => by obtain rfl := List.mem_singleton.1 hx; rfl) ⟨bs, hbs, rfl⟩ hI (fun b o ⟨x, hx, _⟩ => ⟨x, hx⟩) (fun b o x ⟨y, hy, h1⟩ hx => ?_) (fun e => by cases e)).mono ?_
  · have hx' : W.cell? ⟨b, o, none⟩ = some x := hx
    rw [hy] at hx'; obtain rfl := Option.some.inj hx'; exact h1
  · rintro e w' ⟨u, r, c', rfl, hp, O⟩
    obtain rfl : r = bv true := hp
    have h1 := O.rd
    have e1 : u = .bool true := by generalize u = z at h1; cases h1; rfl
    have hg := O.fr
    exact ⟨by rw [e1], hg.os, hg.tape, hg.output, hg.size, fun i hi => hg.block i hi (by simp [cLawQ])⟩

end Go.Proofs.W
end
