/- YtpgilgnkiceggaaDoorWd: part of the proof that what is old goes in the end, for every input that the row speaks of (no condition of ours). -/
import Derived.Test.YtpgilgnkiceggaaDoorWc
import Derived.Test.YtpgilgnkiceggaaDoorWb
import Derived.Test.YtpgilgnkiceggaaDoorWa
import Derived.Test.YtpgilgnkiceggaaDoorEc
set_option linter.unusedVariables false
set_option linter.unusedSimpArgs false
section
namespace Go.Proofs.W
open Go Go.Eng Go.RowKit
set_option linter.unusedSimpArgs false
set_option maxRecDepth 100000

/-! what is old goes from a list -/
def hdR : List Gt → AV
  | [] => .v (.pointer none)
  | _ :: r => .loc (570 + r.length) 0
def rsN : List Gt → List (Nat × List AV)
  | [] => []
  | g :: r => (570 + r.length, gcs g ++ [hdR r]) :: rsN r
def nxK (x : AV) : List Gt → Nat → AV
  | [], _ => x
  | _ :: _, k => .loc k 0
def kpN (x : AV) : List Gt → Nat → List (Nat × List AV)
  | [], _ => []
  | g :: o, k => (k, gcs g ++ [nxK x o (k + 1)]) :: kpN x o (k + 1)
def lnk : List Gt → AV
  | [] => .loc 410 2
  | _ :: o => .loc (550 + o.length) 6
def endF (h0 : Int) (up : Bool) (n : Int) (k : Nat) (o r : List Gt) : St := ⟨40, [(2, .loc 2 0), (3, .loc 410 0), (4, lnk o)], (2, [iv 0, bv false, .nl]) :: (410, [iv h0, bv up, nxK (hdR r) o 550, iv n]) :: (kpN (hdR r) o 550 ++ rsN r), k⟩
def endX (h0 : Int) (up : Bool) (n : Int) (k : Nat) (o : List Gt) : St := ⟨40, [(2, .loc 2 0), (3, .loc 410 0)], (2, [iv 0, bv false, .nl]) :: (410, [iv h0, bv up, nxK (.v (.pointer none)) o 550, iv n]) :: kpN (.v (.pointer none)) o 550, k⟩
attribute [go_sem] hdR rsN nxK kpN lnk
def sndC : Code → Code
  | .seq _ y => y
  | c => c
def fstC : Code → Code
  | .seq x _ => x
  | c => c
theorem endL_keep {g : Gt} {r : List Gt} (h : g.old = false) : endL (g :: r) = g :: endL r := by
  obtain ⟨x, o⟩ := g
  simp only at h
  subst h
  rfl
theorem endL_drop {g : Gt} {r : List Gt} (h : g.old = true) : endL (g :: r) = endL r := by
  rw [endL, h]; rfl
def tbEnd (pb : Addr) : Tb := { T := TT, G := [(41, cRibL)], D := [(19, dRibOkI pb)], draws := false, gl := [], M := [], MM := [(40, (cOpen, [], [(600, 400), (601, 401), (602, 402), (603, 403), (604, 404), (605, 405), (606, 406)]))], X := [], EX := [] }
attribute [go_sem] tbEnd
theorem six2 {o r : List Gt} (h : o.length + r.length ≤ 6) : o.length ≤ 6 ∧ r.length ≤ 6 := by omega
set_option maxHeartbeats 40000000 in
theorem ribEnd_loop (pb : Addr) {E : En} (hE : TbOk E (tbEnd pb)) {h0 : Int} {up : Bool} {n : Int} {k : Nat} {l : List Gt} (hl6 : l.length ≤ 6) {B : Exit → St → Prop} (hB : ∀ st', LeE E st' (endX h0 up n k (endL l)) → B .normal st') : Aw E (sndC (fstC (sndC (sndC (sndC (Tryd.f21.body.getD .skip)))))) (endF h0 up n k [] l) B := by
  refine Aw_bk fun B4 hN4 hE4 hR4 hX4 => ?_
  refine Aw_lp (fun i : List Gt × List Gt => endF h0 up n k i.1 i.2) (fun i => i.1 ++ endL i.2 = endL l ∧ i.1.length + i.2.length ≤ 6) (fun i => i.2.length) ([], l) (Le.refl _) ⟨rfl, by simpa using hl6⟩ fun i hi B5 hN5 hR5 hX5 => ?_
  obtain ⟨o, r⟩ := i
  obtain ⟨hi1, hi2⟩ := hi
  simp only at hi1 hi2
  simp only [endF]
  refine Aw_sq fun B6 hB6 hR6 hX6 => ?_
  rcases six (six2 hi2).2 with rfl | ⟨r1, rfl⟩ | ⟨r1, r2, rfl⟩ | ⟨r1, r2, r3, rfl⟩ | ⟨r1, r2, r3, r4, rfl⟩ | ⟨r1, r2, r3, r4, r5, rfl⟩ | ⟨r1, r2, r3, r4, r5, r6, rfl⟩
  · have ho : o.length ≤ 6 := by simp only [List.length_cons, List.length_nil] at hi2; omega
    rcases six (Nat.le_trans ho (by decide)) with rfl | ⟨g1, rfl⟩ | ⟨g1, g2, rfl⟩ | ⟨g1, g2, g3, rfl⟩ | ⟨g1, g2, g3, g4, rfl⟩ | ⟨g1, g2, g3, g4, g5, rfl⟩ | ⟨g1, g2, g3, g4, g5, g6, rfl⟩
    · refine Aw_stP hE [2, 3, 4, 17] [2, 410, 550, 551, 552, 553, 554, 555, 556, 570, 571, 572, 573, 574, 575, 576] fun K hK => ?_
      simp only [go_sem, seval]
      refine hK _ (Aw_no rfl (Aw_exit (hX6 _ _ (hX5 _ _ (hE4 _ (hB _ ?_))))))
      rw [← hi1]
      exact Le_E (Le_ks [2, 3] [2, 410])
    · refine Aw_stP hE [2, 3, 4, 17] [2, 410, 550, 551, 552, 553, 554, 555, 556, 570, 571, 572, 573, 574, 575, 576] fun K hK => ?_
      simp only [go_sem, seval]
      refine hK _ (Aw_no rfl (Aw_exit (hX6 _ _ (hX5 _ _ (hE4 _ (hB _ ?_))))))
      rw [← hi1]
      exact Le_E (Le_ks [2, 3] [2, 410, 550])
    · refine Aw_stP hE [2, 3, 4, 17] [2, 410, 550, 551, 552, 553, 554, 555, 556, 570, 571, 572, 573, 574, 575, 576] fun K hK => ?_
      simp only [go_sem, seval]
      refine hK _ (Aw_no rfl (Aw_exit (hX6 _ _ (hX5 _ _ (hE4 _ (hB _ ?_))))))
      rw [← hi1]
      exact Le_E (Le_ks [2, 3] [2, 410, 550, 551])
    · refine Aw_stP hE [2, 3, 4, 17] [2, 410, 550, 551, 552, 553, 554, 555, 556, 570, 571, 572, 573, 574, 575, 576] fun K hK => ?_
      simp only [go_sem, seval]
      refine hK _ (Aw_no rfl (Aw_exit (hX6 _ _ (hX5 _ _ (hE4 _ (hB _ ?_))))))
      rw [← hi1]
      exact Le_E (Le_ks [2, 3] [2, 410, 550, 551, 552])
    · refine Aw_stP hE [2, 3, 4, 17] [2, 410, 550, 551, 552, 553, 554, 555, 556, 570, 571, 572, 573, 574, 575, 576] fun K hK => ?_
      simp only [go_sem, seval]
      refine hK _ (Aw_no rfl (Aw_exit (hX6 _ _ (hX5 _ _ (hE4 _ (hB _ ?_))))))
      rw [← hi1]
      exact Le_E (Le_ks [2, 3] [2, 410, 550, 551, 552, 553])
    · refine Aw_stP hE [2, 3, 4, 17] [2, 410, 550, 551, 552, 553, 554, 555, 556, 570, 571, 572, 573, 574, 575, 576] fun K hK => ?_
      simp only [go_sem, seval]
      refine hK _ (Aw_no rfl (Aw_exit (hX6 _ _ (hX5 _ _ (hE4 _ (hB _ ?_))))))
      rw [← hi1]
      exact Le_E (Le_ks [2, 3] [2, 410, 550, 551, 552, 553, 554])
    · refine Aw_stP hE [2, 3, 4, 17] [2, 410, 550, 551, 552, 553, 554, 555, 556, 570, 571, 572, 573, 574, 575, 576] fun K hK => ?_
      simp only [go_sem, seval]
      refine hK _ (Aw_no rfl (Aw_exit (hX6 _ _ (hX5 _ _ (hE4 _ (hB _ ?_))))))
      rw [← hi1]
      exact Le_E (Le_ks [2, 3] [2, 410, 550, 551, 552, 553, 554, 555])
  · have ho : o.length ≤ 5 := by simp only [List.length_cons, List.length_nil] at hi2; omega
    rcases six (Nat.le_trans ho (by decide)) with rfl | ⟨g1, rfl⟩ | ⟨g1, g2, rfl⟩ | ⟨g1, g2, g3, rfl⟩ | ⟨g1, g2, g3, g4, rfl⟩ | ⟨g1, g2, g3, g4, g5, rfl⟩ | ⟨g1, g2, g3, g4, g5, g6, rfl⟩
    · refine Aw_stP hE [2, 3, 4, 17] [2, 410, 550, 551, 552, 553, 554, 555, 556, 570, 571, 572, 573, 574, 575, 576] fun K hK => ?_
      simp only [go_sem, seval]
      refine hK _ (Aw_yes rfl (Aw_skip (hB6 _ ?_)))
      refine Aw_bk fun B8 hN8 hE8 hR8 hX8 => ?_
      refine Aw_sq fun B9 hB9 hR9 hX9 => ?_
      refine Aw_st hE [2, 3, 4, 24] [2, 410, 550, 551, 552, 553, 554, 555, 556, 570, 571, 572, 573, 574, 575, 576] fun K hK => ?_
      simp only [go_sem, seval]
      refine hK _ (Aw_cond rfl (fun hold => ?_) (fun hold => ?_))
      · skip
        refine Aw_st hE [2, 3, 4] [2, 410, 550, 551, 552, 553, 554, 555, 556, 570, 571, 572, 573, 574, 575, 576] fun K hK => ?_
        simp only [go_sem, seval]
        refine hK _ (Aw_exit (hX9 _ _ (hE8 _ (hN5 ([], []) _ ⟨?_, ?_⟩ ?_ ?_))))
        · rw [← hi1, endL_drop hold]
        · simp
        · simp
        · exact Le_ks [2, 3, 4] [2, 410]
      · refine Aw_skip (hB9 _ ?_)
        refine Aw_tx hE [2, 3, 4] [2, 410, 550, 551, 552, 553, 554, 555, 556, 570, 571, 572, 573, 574, 575, 576] fun K hK => ?_
        simp only [go_sem, seval]
        refine hK _ (hN8 _ (hN5 ([r1], []) _ ⟨?_, ?_⟩ ?_ ?_))
        · rw [← hi1, endL_keep hold]; rfl
        · simp
        · simp
        · refine (Le_swb _ 570 550 (by decide) (by decide)).trans ?_
          simp only [St.swb, swbσ, swbm, AV.swb, AV.swbAll, swp, Nat.reduceEqDiff, if_true, if_false, reduceIte, gcs, List.cons_append, List.nil_append]
          exact Le_ks [2, 3, 4] [2, 410, 550]
    · refine Aw_stP hE [2, 3, 4, 17] [2, 410, 550, 551, 552, 553, 554, 555, 556, 570, 571, 572, 573, 574, 575, 576] fun K hK => ?_
      simp only [go_sem, seval]
      refine hK _ (Aw_yes rfl (Aw_skip (hB6 _ ?_)))
      refine Aw_bk fun B8 hN8 hE8 hR8 hX8 => ?_
      refine Aw_sq fun B9 hB9 hR9 hX9 => ?_
      refine Aw_st hE [2, 3, 4, 24] [2, 410, 550, 551, 552, 553, 554, 555, 556, 570, 571, 572, 573, 574, 575, 576] fun K hK => ?_
      simp only [go_sem, seval]
      refine hK _ (Aw_cond rfl (fun hold => ?_) (fun hold => ?_))
      · skip
        refine Aw_st hE [2, 3, 4] [2, 410, 550, 551, 552, 553, 554, 555, 556, 570, 571, 572, 573, 574, 575, 576] fun K hK => ?_
        simp only [go_sem, seval]
        refine hK _ (Aw_exit (hX9 _ _ (hE8 _ (hN5 ([g1], []) _ ⟨?_, ?_⟩ ?_ ?_))))
        · rw [← hi1, endL_drop hold]
        · simp
        · simp
        · exact Le_ks [2, 3, 4] [2, 410, 550]
      · refine Aw_skip (hB9 _ ?_)
        refine Aw_tx hE [2, 3, 4] [2, 410, 550, 551, 552, 553, 554, 555, 556, 570, 571, 572, 573, 574, 575, 576] fun K hK => ?_
        simp only [go_sem, seval]
        refine hK _ (hN8 _ (hN5 ([g1, r1], []) _ ⟨?_, ?_⟩ ?_ ?_))
        · rw [← hi1, endL_keep hold]; rfl
        · simp
        · simp
        · refine (Le_swb _ 570 551 (by decide) (by decide)).trans ?_
          simp only [St.swb, swbσ, swbm, AV.swb, AV.swbAll, swp, Nat.reduceEqDiff, if_true, if_false, reduceIte, gcs, List.cons_append, List.nil_append]
          exact Le_ks [2, 3, 4] [2, 410, 550, 551]
    · refine Aw_stP hE [2, 3, 4, 17] [2, 410, 550, 551, 552, 553, 554, 555, 556, 570, 571, 572, 573, 574, 575, 576] fun K hK => ?_
      simp only [go_sem, seval]
      refine hK _ (Aw_yes rfl (Aw_skip (hB6 _ ?_)))
      refine Aw_bk fun B8 hN8 hE8 hR8 hX8 => ?_
      refine Aw_sq fun B9 hB9 hR9 hX9 => ?_
      refine Aw_st hE [2, 3, 4, 24] [2, 410, 550, 551, 552, 553, 554, 555, 556, 570, 571, 572, 573, 574, 575, 576] fun K hK => ?_
      simp only [go_sem, seval]
      refine hK _ (Aw_cond rfl (fun hold => ?_) (fun hold => ?_))
      · skip
        refine Aw_st hE [2, 3, 4] [2, 410, 550, 551, 552, 553, 554, 555, 556, 570, 571, 572, 573, 574, 575, 576] fun K hK => ?_
        simp only [go_sem, seval]
        refine hK _ (Aw_exit (hX9 _ _ (hE8 _ (hN5 ([g1, g2], []) _ ⟨?_, ?_⟩ ?_ ?_))))
        · rw [← hi1, endL_drop hold]
        · simp
        · simp
        · exact Le_ks [2, 3, 4] [2, 410, 550, 551]
      · refine Aw_skip (hB9 _ ?_)
        refine Aw_tx hE [2, 3, 4] [2, 410, 550, 551, 552, 553, 554, 555, 556, 570, 571, 572, 573, 574, 575, 576] fun K hK => ?_
        simp only [go_sem, seval]
        refine hK _ (hN8 _ (hN5 ([g1, g2, r1], []) _ ⟨?_, ?_⟩ ?_ ?_))
        · rw [← hi1, endL_keep hold]; rfl
        · simp
        · simp
        · refine (Le_swb _ 570 552 (by decide) (by decide)).trans ?_
          simp only [St.swb, swbσ, swbm, AV.swb, AV.swbAll, swp, Nat.reduceEqDiff, if_true, if_false, reduceIte, gcs, List.cons_append, List.nil_append]
          exact Le_ks [2, 3, 4] [2, 410, 550, 551, 552]
    · refine Aw_stP hE [2, 3, 4, 17] [2, 410, 550, 551, 552, 553, 554, 555, 556, 570, 571, 572, 573, 574, 575, 576] fun K hK => ?_
      simp only [go_sem, seval]
      refine hK _ (Aw_yes rfl (Aw_skip (hB6 _ ?_)))
      refine Aw_bk fun B8 hN8 hE8 hR8 hX8 => ?_
      refine Aw_sq fun B9 hB9 hR9 hX9 => ?_
      refine Aw_st hE [2, 3, 4, 24] [2, 410, 550, 551, 552, 553, 554, 555, 556, 570, 571, 572, 573, 574, 575, 576] fun K hK => ?_
      simp only [go_sem, seval]
      refine hK _ (Aw_cond rfl (fun hold => ?_) (fun hold => ?_))
      · skip
        refine Aw_st hE [2, 3, 4] [2, 410, 550, 551, 552, 553, 554, 555, 556, 570, 571, 572, 573, 574, 575, 576] fun K hK => ?_
        simp only [go_sem, seval]
        refine hK _ (Aw_exit (hX9 _ _ (hE8 _ (hN5 ([g1, g2, g3], []) _ ⟨?_, ?_⟩ ?_ ?_))))
        · rw [← hi1, endL_drop hold]
        · simp
        · simp
        · exact Le_ks [2, 3, 4] [2, 410, 550, 551, 552]
      · refine Aw_skip (hB9 _ ?_)
        refine Aw_tx hE [2, 3, 4] [2, 410, 550, 551, 552, 553, 554, 555, 556, 570, 571, 572, 573, 574, 575, 576] fun K hK => ?_
        simp only [go_sem, seval]
        refine hK _ (hN8 _ (hN5 ([g1, g2, g3, r1], []) _ ⟨?_, ?_⟩ ?_ ?_))
        · rw [← hi1, endL_keep hold]; rfl
        · simp
        · simp
        · refine (Le_swb _ 570 553 (by decide) (by decide)).trans ?_
          simp only [St.swb, swbσ, swbm, AV.swb, AV.swbAll, swp, Nat.reduceEqDiff, if_true, if_false, reduceIte, gcs, List.cons_append, List.nil_append]
          exact Le_ks [2, 3, 4] [2, 410, 550, 551, 552, 553]
    · refine Aw_stP hE [2, 3, 4, 17] [2, 410, 550, 551, 552, 553, 554, 555, 556, 570, 571, 572, 573, 574, 575, 576] fun K hK => ?_
      simp only [go_sem, seval]
      refine hK _ (Aw_yes rfl (Aw_skip (hB6 _ ?_)))
      refine Aw_bk fun B8 hN8 hE8 hR8 hX8 => ?_
      refine Aw_sq fun B9 hB9 hR9 hX9 => ?_
      refine Aw_st hE [2, 3, 4, 24] [2, 410, 550, 551, 552, 553, 554, 555, 556, 570, 571, 572, 573, 574, 575, 576] fun K hK => ?_
      simp only [go_sem, seval]
      refine hK _ (Aw_cond rfl (fun hold => ?_) (fun hold => ?_))
      · skip
        refine Aw_st hE [2, 3, 4] [2, 410, 550, 551, 552, 553, 554, 555, 556, 570, 571, 572, 573, 574, 575, 576] fun K hK => ?_
        simp only [go_sem, seval]
        refine hK _ (Aw_exit (hX9 _ _ (hE8 _ (hN5 ([g1, g2, g3, g4], []) _ ⟨?_, ?_⟩ ?_ ?_))))
        · rw [← hi1, endL_drop hold]
        · simp
        · simp
        · exact Le_ks [2, 3, 4] [2, 410, 550, 551, 552, 553]
      · refine Aw_skip (hB9 _ ?_)
        refine Aw_tx hE [2, 3, 4] [2, 410, 550, 551, 552, 553, 554, 555, 556, 570, 571, 572, 573, 574, 575, 576] fun K hK => ?_
        simp only [go_sem, seval]
        refine hK _ (hN8 _ (hN5 ([g1, g2, g3, g4, r1], []) _ ⟨?_, ?_⟩ ?_ ?_))
        · rw [← hi1, endL_keep hold]; rfl
        · simp
        · simp
        · refine (Le_swb _ 570 554 (by decide) (by decide)).trans ?_
          simp only [St.swb, swbσ, swbm, AV.swb, AV.swbAll, swp, Nat.reduceEqDiff, if_true, if_false, reduceIte, gcs, List.cons_append, List.nil_append]
          exact Le_ks [2, 3, 4] [2, 410, 550, 551, 552, 553, 554]
    · refine Aw_stP hE [2, 3, 4, 17] [2, 410, 550, 551, 552, 553, 554, 555, 556, 570, 571, 572, 573, 574, 575, 576] fun K hK => ?_
      simp only [go_sem, seval]
      refine hK _ (Aw_yes rfl (Aw_skip (hB6 _ ?_)))
      refine Aw_bk fun B8 hN8 hE8 hR8 hX8 => ?_
      refine Aw_sq fun B9 hB9 hR9 hX9 => ?_
      refine Aw_st hE [2, 3, 4, 24] [2, 410, 550, 551, 552, 553, 554, 555, 556, 570, 571, 572, 573, 574, 575, 576] fun K hK => ?_
      simp only [go_sem, seval]
      refine hK _ (Aw_cond rfl (fun hold => ?_) (fun hold => ?_))
      · skip
        refine Aw_st hE [2, 3, 4] [2, 410, 550, 551, 552, 553, 554, 555, 556, 570, 571, 572, 573, 574, 575, 576] fun K hK => ?_
        simp only [go_sem, seval]
        refine hK _ (Aw_exit (hX9 _ _ (hE8 _ (hN5 ([g1, g2, g3, g4, g5], []) _ ⟨?_, ?_⟩ ?_ ?_))))
        · rw [← hi1, endL_drop hold]
        · simp
        · simp
        · exact Le_ks [2, 3, 4] [2, 410, 550, 551, 552, 553, 554]
      · refine Aw_skip (hB9 _ ?_)
        refine Aw_tx hE [2, 3, 4] [2, 410, 550, 551, 552, 553, 554, 555, 556, 570, 571, 572, 573, 574, 575, 576] fun K hK => ?_
        simp only [go_sem, seval]
        refine hK _ (hN8 _ (hN5 ([g1, g2, g3, g4, g5, r1], []) _ ⟨?_, ?_⟩ ?_ ?_))
        · rw [← hi1, endL_keep hold]; rfl
        · simp
        · simp
        · refine (Le_swb _ 570 555 (by decide) (by decide)).trans ?_
          simp only [St.swb, swbσ, swbm, AV.swb, AV.swbAll, swp, Nat.reduceEqDiff, if_true, if_false, reduceIte, gcs, List.cons_append, List.nil_append]
          exact Le_ks [2, 3, 4] [2, 410, 550, 551, 552, 553, 554, 555]
    · simp at ho
  · have ho : o.length ≤ 4 := by simp only [List.length_cons, List.length_nil] at hi2; omega
    rcases six (Nat.le_trans ho (by decide)) with rfl | ⟨g1, rfl⟩ | ⟨g1, g2, rfl⟩ | ⟨g1, g2, g3, rfl⟩ | ⟨g1, g2, g3, g4, rfl⟩ | ⟨g1, g2, g3, g4, g5, rfl⟩ | ⟨g1, g2, g3, g4, g5, g6, rfl⟩
    · refine Aw_stP hE [2, 3, 4, 17] [2, 410, 550, 551, 552, 553, 554, 555, 556, 570, 571, 572, 573, 574, 575, 576] fun K hK => ?_
      simp only [go_sem, seval]
      refine hK _ (Aw_yes rfl (Aw_skip (hB6 _ ?_)))
      refine Aw_bk fun B8 hN8 hE8 hR8 hX8 => ?_
      refine Aw_sq fun B9 hB9 hR9 hX9 => ?_
      refine Aw_st hE [2, 3, 4, 24] [2, 410, 550, 551, 552, 553, 554, 555, 556, 570, 571, 572, 573, 574, 575, 576] fun K hK => ?_
      simp only [go_sem, seval]
      refine hK _ (Aw_cond rfl (fun hold => ?_) (fun hold => ?_))
      · skip
        refine Aw_st hE [2, 3, 4] [2, 410, 550, 551, 552, 553, 554, 555, 556, 570, 571, 572, 573, 574, 575, 576] fun K hK => ?_
        simp only [go_sem, seval]
        refine hK _ (Aw_exit (hX9 _ _ (hE8 _ (hN5 ([], [r2]) _ ⟨?_, ?_⟩ ?_ ?_))))
        · rw [← hi1, endL_drop hold]
        · simp
        · simp
        · exact Le_ks [2, 3, 4] [2, 410, 570]
      · refine Aw_skip (hB9 _ ?_)
        refine Aw_tx hE [2, 3, 4] [2, 410, 550, 551, 552, 553, 554, 555, 556, 570, 571, 572, 573, 574, 575, 576] fun K hK => ?_
        simp only [go_sem, seval]
        refine hK _ (hN8 _ (hN5 ([r1], [r2]) _ ⟨?_, ?_⟩ ?_ ?_))
        · rw [← hi1, endL_keep hold]; rfl
        · simp
        · simp
        · refine (Le_swb _ 571 550 (by decide) (by decide)).trans ?_
          simp only [St.swb, swbσ, swbm, AV.swb, AV.swbAll, swp, Nat.reduceEqDiff, if_true, if_false, reduceIte, gcs, List.cons_append, List.nil_append]
          exact Le_ks [2, 3, 4] [2, 410, 550, 570]
    · refine Aw_stP hE [2, 3, 4, 17] [2, 410, 550, 551, 552, 553, 554, 555, 556, 570, 571, 572, 573, 574, 575, 576] fun K hK => ?_
      simp only [go_sem, seval]
      refine hK _ (Aw_yes rfl (Aw_skip (hB6 _ ?_)))
      refine Aw_bk fun B8 hN8 hE8 hR8 hX8 => ?_
      refine Aw_sq fun B9 hB9 hR9 hX9 => ?_
      refine Aw_st hE [2, 3, 4, 24] [2, 410, 550, 551, 552, 553, 554, 555, 556, 570, 571, 572, 573, 574, 575, 576] fun K hK => ?_
      simp only [go_sem, seval]
      refine hK _ (Aw_cond rfl (fun hold => ?_) (fun hold => ?_))
      · skip
        refine Aw_st hE [2, 3, 4] [2, 410, 550, 551, 552, 553, 554, 555, 556, 570, 571, 572, 573, 574, 575, 576] fun K hK => ?_
        simp only [go_sem, seval]
        refine hK _ (Aw_exit (hX9 _ _ (hE8 _ (hN5 ([g1], [r2]) _ ⟨?_, ?_⟩ ?_ ?_))))
        · rw [← hi1, endL_drop hold]
        · simp
        · simp
        · exact Le_ks [2, 3, 4] [2, 410, 550, 570]
      · refine Aw_skip (hB9 _ ?_)
        refine Aw_tx hE [2, 3, 4] [2, 410, 550, 551, 552, 553, 554, 555, 556, 570, 571, 572, 573, 574, 575, 576] fun K hK => ?_
        simp only [go_sem, seval]
        refine hK _ (hN8 _ (hN5 ([g1, r1], [r2]) _ ⟨?_, ?_⟩ ?_ ?_))
        · rw [← hi1, endL_keep hold]; rfl
        · simp
        · simp
        · refine (Le_swb _ 571 551 (by decide) (by decide)).trans ?_
          simp only [St.swb, swbσ, swbm, AV.swb, AV.swbAll, swp, Nat.reduceEqDiff, if_true, if_false, reduceIte, gcs, List.cons_append, List.nil_append]
          exact Le_ks [2, 3, 4] [2, 410, 550, 551, 570]
    · refine Aw_stP hE [2, 3, 4, 17] [2, 410, 550, 551, 552, 553, 554, 555, 556, 570, 571, 572, 573, 574, 575, 576] fun K hK => ?_
      simp only [go_sem, seval]
      refine hK _ (Aw_yes rfl (Aw_skip (hB6 _ ?_)))
      refine Aw_bk fun B8 hN8 hE8 hR8 hX8 => ?_
      refine Aw_sq fun B9 hB9 hR9 hX9 => ?_
      refine Aw_st hE [2, 3, 4, 24] [2, 410, 550, 551, 552, 553, 554, 555, 556, 570, 571, 572, 573, 574, 575, 576] fun K hK => ?_
      simp only [go_sem, seval]
      refine hK _ (Aw_cond rfl (fun hold => ?_) (fun hold => ?_))
      · skip
        refine Aw_st hE [2, 3, 4] [2, 410, 550, 551, 552, 553, 554, 555, 556, 570, 571, 572, 573, 574, 575, 576] fun K hK => ?_
        simp only [go_sem, seval]
        refine hK _ (Aw_exit (hX9 _ _ (hE8 _ (hN5 ([g1, g2], [r2]) _ ⟨?_, ?_⟩ ?_ ?_))))
        · rw [← hi1, endL_drop hold]
        · simp
        · simp
        · exact Le_ks [2, 3, 4] [2, 410, 550, 551, 570]
      · refine Aw_skip (hB9 _ ?_)
        refine Aw_tx hE [2, 3, 4] [2, 410, 550, 551, 552, 553, 554, 555, 556, 570, 571, 572, 573, 574, 575, 576] fun K hK => ?_
        simp only [go_sem, seval]
        refine hK _ (hN8 _ (hN5 ([g1, g2, r1], [r2]) _ ⟨?_, ?_⟩ ?_ ?_))
        · rw [← hi1, endL_keep hold]; rfl
        · simp
        · simp
        · refine (Le_swb _ 571 552 (by decide) (by decide)).trans ?_
          simp only [St.swb, swbσ, swbm, AV.swb, AV.swbAll, swp, Nat.reduceEqDiff, if_true, if_false, reduceIte, gcs, List.cons_append, List.nil_append]
          exact Le_ks [2, 3, 4] [2, 410, 550, 551, 552, 570]
    · refine Aw_stP hE [2, 3, 4, 17] [2, 410, 550, 551, 552, 553, 554, 555, 556, 570, 571, 572, 573, 574, 575, 576] fun K hK => ?_
      simp only [go_sem, seval]
      refine hK _ (Aw_yes rfl (Aw_skip (hB6 _ ?_)))
      refine Aw_bk fun B8 hN8 hE8 hR8 hX8 => ?_
      refine Aw_sq fun B9 hB9 hR9 hX9 => ?_
      refine Aw_st hE [2, 3, 4, 24] [2, 410, 550, 551, 552, 553, 554, 555, 556, 570, 571, 572, 573, 574, 575, 576] fun K hK => ?_
      simp only [go_sem, seval]
      refine hK _ (Aw_cond rfl (fun hold => ?_) (fun hold => ?_))
      · skip
        refine Aw_st hE [2, 3, 4] [2, 410, 550, 551, 552, 553, 554, 555, 556, 570, 571, 572, 573, 574, 575, 576] fun K hK => ?_
        simp only [go_sem, seval]
        refine hK _ (Aw_exit (hX9 _ _ (hE8 _ (hN5 ([g1, g2, g3], [r2]) _ ⟨?_, ?_⟩ ?_ ?_))))
        · rw [← hi1, endL_drop hold]
        · simp
        · simp
        · exact Le_ks [2, 3, 4] [2, 410, 550, 551, 552, 570]
      · refine Aw_skip (hB9 _ ?_)
        refine Aw_tx hE [2, 3, 4] [2, 410, 550, 551, 552, 553, 554, 555, 556, 570, 571, 572, 573, 574, 575, 576] fun K hK => ?_
        simp only [go_sem, seval]
        refine hK _ (hN8 _ (hN5 ([g1, g2, g3, r1], [r2]) _ ⟨?_, ?_⟩ ?_ ?_))
        · rw [← hi1, endL_keep hold]; rfl
        · simp
        · simp
        · refine (Le_swb _ 571 553 (by decide) (by decide)).trans ?_
          simp only [St.swb, swbσ, swbm, AV.swb, AV.swbAll, swp, Nat.reduceEqDiff, if_true, if_false, reduceIte, gcs, List.cons_append, List.nil_append]
          exact Le_ks [2, 3, 4] [2, 410, 550, 551, 552, 553, 570]
    · refine Aw_stP hE [2, 3, 4, 17] [2, 410, 550, 551, 552, 553, 554, 555, 556, 570, 571, 572, 573, 574, 575, 576] fun K hK => ?_
      simp only [go_sem, seval]
      refine hK _ (Aw_yes rfl (Aw_skip (hB6 _ ?_)))
      refine Aw_bk fun B8 hN8 hE8 hR8 hX8 => ?_
      refine Aw_sq fun B9 hB9 hR9 hX9 => ?_
      refine Aw_st hE [2, 3, 4, 24] [2, 410, 550, 551, 552, 553, 554, 555, 556, 570, 571, 572, 573, 574, 575, 576] fun K hK => ?_
      simp only [go_sem, seval]
      refine hK _ (Aw_cond rfl (fun hold => ?_) (fun hold => ?_))
      · skip
        refine Aw_st hE [2, 3, 4] [2, 410, 550, 551, 552, 553, 554, 555, 556, 570, 571, 572, 573, 574, 575, 576] fun K hK => ?_
        simp only [go_sem, seval]
        refine hK _ (Aw_exit (hX9 _ _ (hE8 _ (hN5 ([g1, g2, g3, g4], [r2]) _ ⟨?_, ?_⟩ ?_ ?_))))
        · rw [← hi1, endL_drop hold]
        · simp
        · simp
        · exact Le_ks [2, 3, 4] [2, 410, 550, 551, 552, 553, 570]
      · refine Aw_skip (hB9 _ ?_)
        refine Aw_tx hE [2, 3, 4] [2, 410, 550, 551, 552, 553, 554, 555, 556, 570, 571, 572, 573, 574, 575, 576] fun K hK => ?_
        simp only [go_sem, seval]
        refine hK _ (hN8 _ (hN5 ([g1, g2, g3, g4, r1], [r2]) _ ⟨?_, ?_⟩ ?_ ?_))
        · rw [← hi1, endL_keep hold]; rfl
        · simp
        · simp
        · refine (Le_swb _ 571 554 (by decide) (by decide)).trans ?_
          simp only [St.swb, swbσ, swbm, AV.swb, AV.swbAll, swp, Nat.reduceEqDiff, if_true, if_false, reduceIte, gcs, List.cons_append, List.nil_append]
          exact Le_ks [2, 3, 4] [2, 410, 550, 551, 552, 553, 554, 570]
    · simp at ho
    · simp at ho
  · have ho : o.length ≤ 3 := by simp only [List.length_cons, List.length_nil] at hi2; omega
    rcases six (Nat.le_trans ho (by decide)) with rfl | ⟨g1, rfl⟩ | ⟨g1, g2, rfl⟩ | ⟨g1, g2, g3, rfl⟩ | ⟨g1, g2, g3, g4, rfl⟩ | ⟨g1, g2, g3, g4, g5, rfl⟩ | ⟨g1, g2, g3, g4, g5, g6, rfl⟩
    · refine Aw_stP hE [2, 3, 4, 17] [2, 410, 550, 551, 552, 553, 554, 555, 556, 570, 571, 572, 573, 574, 575, 576] fun K hK => ?_
      simp only [go_sem, seval]
      refine hK _ (Aw_yes rfl (Aw_skip (hB6 _ ?_)))
      refine Aw_bk fun B8 hN8 hE8 hR8 hX8 => ?_
      refine Aw_sq fun B9 hB9 hR9 hX9 => ?_
      refine Aw_st hE [2, 3, 4, 24] [2, 410, 550, 551, 552, 553, 554, 555, 556, 570, 571, 572, 573, 574, 575, 576] fun K hK => ?_
      simp only [go_sem, seval]
      refine hK _ (Aw_cond rfl (fun hold => ?_) (fun hold => ?_))
      · skip
        refine Aw_st hE [2, 3, 4] [2, 410, 550, 551, 552, 553, 554, 555, 556, 570, 571, 572, 573, 574, 575, 576] fun K hK => ?_
        simp only [go_sem, seval]
        refine hK _ (Aw_exit (hX9 _ _ (hE8 _ (hN5 ([], [r2, r3]) _ ⟨?_, ?_⟩ ?_ ?_))))
        · rw [← hi1, endL_drop hold]
        · simp
        · simp
        · exact Le_ks [2, 3, 4] [2, 410, 571, 570]
      · refine Aw_skip (hB9 _ ?_)
        refine Aw_tx hE [2, 3, 4] [2, 410, 550, 551, 552, 553, 554, 555, 556, 570, 571, 572, 573, 574, 575, 576] fun K hK => ?_
        simp only [go_sem, seval]
        refine hK _ (hN8 _ (hN5 ([r1], [r2, r3]) _ ⟨?_, ?_⟩ ?_ ?_))
        · rw [← hi1, endL_keep hold]; rfl
        · simp
        · simp
        · refine (Le_swb _ 572 550 (by decide) (by decide)).trans ?_
          simp only [St.swb, swbσ, swbm, AV.swb, AV.swbAll, swp, Nat.reduceEqDiff, if_true, if_false, reduceIte, gcs, List.cons_append, List.nil_append]
          exact Le_ks [2, 3, 4] [2, 410, 550, 571, 570]
    · refine Aw_stP hE [2, 3, 4, 17] [2, 410, 550, 551, 552, 553, 554, 555, 556, 570, 571, 572, 573, 574, 575, 576] fun K hK => ?_
      simp only [go_sem, seval]
      refine hK _ (Aw_yes rfl (Aw_skip (hB6 _ ?_)))
      refine Aw_bk fun B8 hN8 hE8 hR8 hX8 => ?_
      refine Aw_sq fun B9 hB9 hR9 hX9 => ?_
      refine Aw_st hE [2, 3, 4, 24] [2, 410, 550, 551, 552, 553, 554, 555, 556, 570, 571, 572, 573, 574, 575, 576] fun K hK => ?_
      simp only [go_sem, seval]
      refine hK _ (Aw_cond rfl (fun hold => ?_) (fun hold => ?_))
      · skip
        refine Aw_st hE [2, 3, 4] [2, 410, 550, 551, 552, 553, 554, 555, 556, 570, 571, 572, 573, 574, 575, 576] fun K hK => ?_
        simp only [go_sem, seval]
        refine hK _ (Aw_exit (hX9 _ _ (hE8 _ (hN5 ([g1], [r2, r3]) _ ⟨?_, ?_⟩ ?_ ?_))))
        · rw [← hi1, endL_drop hold]
        · simp
        · simp
        · exact Le_ks [2, 3, 4] [2, 410, 550, 571, 570]
      · refine Aw_skip (hB9 _ ?_)
        refine Aw_tx hE [2, 3, 4] [2, 410, 550, 551, 552, 553, 554, 555, 556, 570, 571, 572, 573, 574, 575, 576] fun K hK => ?_
        simp only [go_sem, seval]
        refine hK _ (hN8 _ (hN5 ([g1, r1], [r2, r3]) _ ⟨?_, ?_⟩ ?_ ?_))
        · rw [← hi1, endL_keep hold]; rfl
        · simp
        · simp
        · refine (Le_swb _ 572 551 (by decide) (by decide)).trans ?_
          simp only [St.swb, swbσ, swbm, AV.swb, AV.swbAll, swp, Nat.reduceEqDiff, if_true, if_false, reduceIte, gcs, List.cons_append, List.nil_append]
          exact Le_ks [2, 3, 4] [2, 410, 550, 551, 571, 570]
    · refine Aw_stP hE [2, 3, 4, 17] [2, 410, 550, 551, 552, 553, 554, 555, 556, 570, 571, 572, 573, 574, 575, 576] fun K hK => ?_
      simp only [go_sem, seval]
      refine hK _ (Aw_yes rfl (Aw_skip (hB6 _ ?_)))
      refine Aw_bk fun B8 hN8 hE8 hR8 hX8 => ?_
      refine Aw_sq fun B9 hB9 hR9 hX9 => ?_
      refine Aw_st hE [2, 3, 4, 24] [2, 410, 550, 551, 552, 553, 554, 555, 556, 570, 571, 572, 573, 574, 575, 576] fun K hK => ?_
      simp only [go_sem, seval]
      refine hK _ (Aw_cond rfl (fun hold => ?_) (fun hold => ?_))
      · skip
        refine Aw_st hE [2, 3, 4] [2, 410, 550, 551, 552, 553, 554, 555, 556, 570, 571, 572, 573, 574, 575, 576] fun K hK => ?_
        simp only [go_sem, seval]
        refine hK _ (Aw_exit (hX9 _ _ (hE8 _ (hN5 ([g1, g2], [r2, r3]) _ ⟨?_, ?_⟩ ?_ ?_))))
        · rw [← hi1, endL_drop hold]
        · simp
        · simp
        · exact Le_ks [2, 3, 4] [2, 410, 550, 551, 571, 570]
      · refine Aw_skip (hB9 _ ?_)
        refine Aw_tx hE [2, 3, 4] [2, 410, 550, 551, 552, 553, 554, 555, 556, 570, 571, 572, 573, 574, 575, 576] fun K hK => ?_
        simp only [go_sem, seval]
        refine hK _ (hN8 _ (hN5 ([g1, g2, r1], [r2, r3]) _ ⟨?_, ?_⟩ ?_ ?_))
        · rw [← hi1, endL_keep hold]; rfl
        · simp
        · simp
        · refine (Le_swb _ 572 552 (by decide) (by decide)).trans ?_
          simp only [St.swb, swbσ, swbm, AV.swb, AV.swbAll, swp, Nat.reduceEqDiff, if_true, if_false, reduceIte, gcs, List.cons_append, List.nil_append]
          exact Le_ks [2, 3, 4] [2, 410, 550, 551, 552, 571, 570]
    · refine Aw_stP hE [2, 3, 4, 17] [2, 410, 550, 551, 552, 553, 554, 555, 556, 570, 571, 572, 573, 574, 575, 576] fun K hK => ?_
      simp only [go_sem, seval]
      refine hK _ (Aw_yes rfl (Aw_skip (hB6 _ ?_)))
      refine Aw_bk fun B8 hN8 hE8 hR8 hX8 => ?_
      refine Aw_sq fun B9 hB9 hR9 hX9 => ?_
      refine Aw_st hE [2, 3, 4, 24] [2, 410, 550, 551, 552, 553, 554, 555, 556, 570, 571, 572, 573, 574, 575, 576] fun K hK => ?_
      simp only [go_sem, seval]
      refine hK _ (Aw_cond rfl (fun hold => ?_) (fun hold => ?_))
      · skip
        refine Aw_st hE [2, 3, 4] [2, 410, 550, 551, 552, 553, 554, 555, 556, 570, 571, 572, 573, 574, 575, 576] fun K hK => ?_
        simp only [go_sem, seval]
        refine hK _ (Aw_exit (hX9 _ _ (hE8 _ (hN5 ([g1, g2, g3], [r2, r3]) _ ⟨?_, ?_⟩ ?_ ?_))))
        · rw [← hi1, endL_drop hold]
        · simp
        · simp
        · exact Le_ks [2, 3, 4] [2, 410, 550, 551, 552, 571, 570]
      · refine Aw_skip (hB9 _ ?_)
        refine Aw_tx hE [2, 3, 4] [2, 410, 550, 551, 552, 553, 554, 555, 556, 570, 571, 572, 573, 574, 575, 576] fun K hK => ?_
        simp only [go_sem, seval]
        refine hK _ (hN8 _ (hN5 ([g1, g2, g3, r1], [r2, r3]) _ ⟨?_, ?_⟩ ?_ ?_))
        · rw [← hi1, endL_keep hold]; rfl
        · simp
        · simp
        · refine (Le_swb _ 572 553 (by decide) (by decide)).trans ?_
          simp only [St.swb, swbσ, swbm, AV.swb, AV.swbAll, swp, Nat.reduceEqDiff, if_true, if_false, reduceIte, gcs, List.cons_append, List.nil_append]
          exact Le_ks [2, 3, 4] [2, 410, 550, 551, 552, 553, 571, 570]
    · simp at ho
    · simp at ho
    · simp at ho
  · have ho : o.length ≤ 2 := by simp only [List.length_cons, List.length_nil] at hi2; omega
    rcases six (Nat.le_trans ho (by decide)) with rfl | ⟨g1, rfl⟩ | ⟨g1, g2, rfl⟩ | ⟨g1, g2, g3, rfl⟩ | ⟨g1, g2, g3, g4, rfl⟩ | ⟨g1, g2, g3, g4, g5, rfl⟩ | ⟨g1, g2, g3, g4, g5, g6, rfl⟩
    · refine Aw_stP hE [2, 3, 4, 17] [2, 410, 550, 551, 552, 553, 554, 555, 556, 570, 571, 572, 573, 574, 575, 576] fun K hK => ?_
      simp only [go_sem, seval]
      refine hK _ (Aw_yes rfl (Aw_skip (hB6 _ ?_)))
      refine Aw_bk fun B8 hN8 hE8 hR8 hX8 => ?_
      refine Aw_sq fun B9 hB9 hR9 hX9 => ?_
      refine Aw_st hE [2, 3, 4, 24] [2, 410, 550, 551, 552, 553, 554, 555, 556, 570, 571, 572, 573, 574, 575, 576] fun K hK => ?_
      simp only [go_sem, seval]
      refine hK _ (Aw_cond rfl (fun hold => ?_) (fun hold => ?_))
      · skip
        refine Aw_st hE [2, 3, 4] [2, 410, 550, 551, 552, 553, 554, 555, 556, 570, 571, 572, 573, 574, 575, 576] fun K hK => ?_
        simp only [go_sem, seval]
        refine hK _ (Aw_exit (hX9 _ _ (hE8 _ (hN5 ([], [r2, r3, r4]) _ ⟨?_, ?_⟩ ?_ ?_))))
        · rw [← hi1, endL_drop hold]
        · simp
        · simp
        · exact Le_ks [2, 3, 4] [2, 410, 572, 571, 570]
      · refine Aw_skip (hB9 _ ?_)
        refine Aw_tx hE [2, 3, 4] [2, 410, 550, 551, 552, 553, 554, 555, 556, 570, 571, 572, 573, 574, 575, 576] fun K hK => ?_
        simp only [go_sem, seval]
        refine hK _ (hN8 _ (hN5 ([r1], [r2, r3, r4]) _ ⟨?_, ?_⟩ ?_ ?_))
        · rw [← hi1, endL_keep hold]; rfl
        · simp
        · simp
        · refine (Le_swb _ 573 550 (by decide) (by decide)).trans ?_
          simp only [St.swb, swbσ, swbm, AV.swb, AV.swbAll, swp, Nat.reduceEqDiff, if_true, if_false, reduceIte, gcs, List.cons_append, List.nil_append]
          exact Le_ks [2, 3, 4] [2, 410, 550, 572, 571, 570]
    · refine Aw_stP hE [2, 3, 4, 17] [2, 410, 550, 551, 552, 553, 554, 555, 556, 570, 571, 572, 573, 574, 575, 576] fun K hK => ?_
      simp only [go_sem, seval]
      refine hK _ (Aw_yes rfl (Aw_skip (hB6 _ ?_)))
      refine Aw_bk fun B8 hN8 hE8 hR8 hX8 => ?_
      refine Aw_sq fun B9 hB9 hR9 hX9 => ?_
      refine Aw_st hE [2, 3, 4, 24] [2, 410, 550, 551, 552, 553, 554, 555, 556, 570, 571, 572, 573, 574, 575, 576] fun K hK => ?_
      simp only [go_sem, seval]
      refine hK _ (Aw_cond rfl (fun hold => ?_) (fun hold => ?_))
      · skip
        refine Aw_st hE [2, 3, 4] [2, 410, 550, 551, 552, 553, 554, 555, 556, 570, 571, 572, 573, 574, 575, 576] fun K hK => ?_
        simp only [go_sem, seval]
        refine hK _ (Aw_exit (hX9 _ _ (hE8 _ (hN5 ([g1], [r2, r3, r4]) _ ⟨?_, ?_⟩ ?_ ?_))))
        · rw [← hi1, endL_drop hold]
        · simp
        · simp
        · exact Le_ks [2, 3, 4] [2, 410, 550, 572, 571, 570]
      · refine Aw_skip (hB9 _ ?_)
        refine Aw_tx hE [2, 3, 4] [2, 410, 550, 551, 552, 553, 554, 555, 556, 570, 571, 572, 573, 574, 575, 576] fun K hK => ?_
        simp only [go_sem, seval]
        refine hK _ (hN8 _ (hN5 ([g1, r1], [r2, r3, r4]) _ ⟨?_, ?_⟩ ?_ ?_))
        · rw [← hi1, endL_keep hold]; rfl
        · simp
        · simp
        · refine (Le_swb _ 573 551 (by decide) (by decide)).trans ?_
          simp only [St.swb, swbσ, swbm, AV.swb, AV.swbAll, swp, Nat.reduceEqDiff, if_true, if_false, reduceIte, gcs, List.cons_append, List.nil_append]
          exact Le_ks [2, 3, 4] [2, 410, 550, 551, 572, 571, 570]
    · refine Aw_stP hE [2, 3, 4, 17] [2, 410, 550, 551, 552, 553, 554, 555, 556, 570, 571, 572, 573, 574, 575, 576] fun K hK => ?_
      simp only [go_sem, seval]
      refine hK _ (Aw_yes rfl (Aw_skip (hB6 _ ?_)))
      refine Aw_bk fun B8 hN8 hE8 hR8 hX8 => ?_
      refine Aw_sq fun B9 hB9 hR9 hX9 => ?_
      refine Aw_st hE [2, 3, 4, 24] [2, 410, 550, 551, 552, 553, 554, 555, 556, 570, 571, 572, 573, 574, 575, 576] fun K hK => ?_
      simp only [go_sem, seval]
      refine hK _ (Aw_cond rfl (fun hold => ?_) (fun hold => ?_))
      · skip
        refine Aw_st hE [2, 3, 4] [2, 410, 550, 551, 552, 553, 554, 555, 556, 570, 571, 572, 573, 574, 575, 576] fun K hK => ?_
        simp only [go_sem, seval]
        refine hK _ (Aw_exit (hX9 _ _ (hE8 _ (hN5 ([g1, g2], [r2, r3, r4]) _ ⟨?_, ?_⟩ ?_ ?_))))
        · rw [← hi1, endL_drop hold]
        · simp
        · simp
        · exact Le_ks [2, 3, 4] [2, 410, 550, 551, 572, 571, 570]
      · refine Aw_skip (hB9 _ ?_)
        refine Aw_tx hE [2, 3, 4] [2, 410, 550, 551, 552, 553, 554, 555, 556, 570, 571, 572, 573, 574, 575, 576] fun K hK => ?_
        simp only [go_sem, seval]
        refine hK _ (hN8 _ (hN5 ([g1, g2, r1], [r2, r3, r4]) _ ⟨?_, ?_⟩ ?_ ?_))
        · rw [← hi1, endL_keep hold]; rfl
        · simp
        · simp
        · refine (Le_swb _ 573 552 (by decide) (by decide)).trans ?_
          simp only [St.swb, swbσ, swbm, AV.swb, AV.swbAll, swp, Nat.reduceEqDiff, if_true, if_false, reduceIte, gcs, List.cons_append, List.nil_append]
          exact Le_ks [2, 3, 4] [2, 410, 550, 551, 552, 572, 571, 570]
    · simp at ho
    · simp at ho
    · simp at ho
    · simp at ho
  · have ho : o.length ≤ 1 := by simp only [List.length_cons, List.length_nil] at hi2; omega
    rcases six (Nat.le_trans ho (by decide)) with rfl | ⟨g1, rfl⟩ | ⟨g1, g2, rfl⟩ | ⟨g1, g2, g3, rfl⟩ | ⟨g1, g2, g3, g4, rfl⟩ | ⟨g1, g2, g3, g4, g5, rfl⟩ | ⟨g1, g2, g3, g4, g5, g6, rfl⟩
    · refine Aw_stP hE [2, 3, 4, 17] [2, 410, 550, 551, 552, 553, 554, 555, 556, 570, 571, 572, 573, 574, 575, 576] fun K hK => ?_
      simp only [go_sem, seval]
      refine hK _ (Aw_yes rfl (Aw_skip (hB6 _ ?_)))
      refine Aw_bk fun B8 hN8 hE8 hR8 hX8 => ?_
      refine Aw_sq fun B9 hB9 hR9 hX9 => ?_
      refine Aw_st hE [2, 3, 4, 24] [2, 410, 550, 551, 552, 553, 554, 555, 556, 570, 571, 572, 573, 574, 575, 576] fun K hK => ?_
      simp only [go_sem, seval]
      refine hK _ (Aw_cond rfl (fun hold => ?_) (fun hold => ?_))
      · skip
        refine Aw_st hE [2, 3, 4] [2, 410, 550, 551, 552, 553, 554, 555, 556, 570, 571, 572, 573, 574, 575, 576] fun K hK => ?_
        simp only [go_sem, seval]
        refine hK _ (Aw_exit (hX9 _ _ (hE8 _ (hN5 ([], [r2, r3, r4, r5]) _ ⟨?_, ?_⟩ ?_ ?_))))
        · rw [← hi1, endL_drop hold]
        · simp
        · simp
        · exact Le_ks [2, 3, 4] [2, 410, 573, 572, 571, 570]
      · refine Aw_skip (hB9 _ ?_)
        refine Aw_tx hE [2, 3, 4] [2, 410, 550, 551, 552, 553, 554, 555, 556, 570, 571, 572, 573, 574, 575, 576] fun K hK => ?_
        simp only [go_sem, seval]
        refine hK _ (hN8 _ (hN5 ([r1], [r2, r3, r4, r5]) _ ⟨?_, ?_⟩ ?_ ?_))
        · rw [← hi1, endL_keep hold]; rfl
        · simp
        · simp
        · refine (Le_swb _ 574 550 (by decide) (by decide)).trans ?_
          simp only [St.swb, swbσ, swbm, AV.swb, AV.swbAll, swp, Nat.reduceEqDiff, if_true, if_false, reduceIte, gcs, List.cons_append, List.nil_append]
          exact Le_ks [2, 3, 4] [2, 410, 550, 573, 572, 571, 570]
    · refine Aw_stP hE [2, 3, 4, 17] [2, 410, 550, 551, 552, 553, 554, 555, 556, 570, 571, 572, 573, 574, 575, 576] fun K hK => ?_
      simp only [go_sem, seval]
      refine hK _ (Aw_yes rfl (Aw_skip (hB6 _ ?_)))
      refine Aw_bk fun B8 hN8 hE8 hR8 hX8 => ?_
      refine Aw_sq fun B9 hB9 hR9 hX9 => ?_
      refine Aw_st hE [2, 3, 4, 24] [2, 410, 550, 551, 552, 553, 554, 555, 556, 570, 571, 572, 573, 574, 575, 576] fun K hK => ?_
      simp only [go_sem, seval]
      refine hK _ (Aw_cond rfl (fun hold => ?_) (fun hold => ?_))
      · skip
        refine Aw_st hE [2, 3, 4] [2, 410, 550, 551, 552, 553, 554, 555, 556, 570, 571, 572, 573, 574, 575, 576] fun K hK => ?_
        simp only [go_sem, seval]
        refine hK _ (Aw_exit (hX9 _ _ (hE8 _ (hN5 ([g1], [r2, r3, r4, r5]) _ ⟨?_, ?_⟩ ?_ ?_))))
        · rw [← hi1, endL_drop hold]
        · simp
        · simp
        · exact Le_ks [2, 3, 4] [2, 410, 550, 573, 572, 571, 570]
      · refine Aw_skip (hB9 _ ?_)
        refine Aw_tx hE [2, 3, 4] [2, 410, 550, 551, 552, 553, 554, 555, 556, 570, 571, 572, 573, 574, 575, 576] fun K hK => ?_
        simp only [go_sem, seval]
        refine hK _ (hN8 _ (hN5 ([g1, r1], [r2, r3, r4, r5]) _ ⟨?_, ?_⟩ ?_ ?_))
        · rw [← hi1, endL_keep hold]; rfl
        · simp
        · simp
        · refine (Le_swb _ 574 551 (by decide) (by decide)).trans ?_
          simp only [St.swb, swbσ, swbm, AV.swb, AV.swbAll, swp, Nat.reduceEqDiff, if_true, if_false, reduceIte, gcs, List.cons_append, List.nil_append]
          exact Le_ks [2, 3, 4] [2, 410, 550, 551, 573, 572, 571, 570]
    · simp at ho
    · simp at ho
    · simp at ho
    · simp at ho
    · simp at ho
  · have ho : o.length ≤ 0 := by simp only [List.length_cons, List.length_nil] at hi2; omega
    rcases six (Nat.le_trans ho (by decide)) with rfl | ⟨g1, rfl⟩ | ⟨g1, g2, rfl⟩ | ⟨g1, g2, g3, rfl⟩ | ⟨g1, g2, g3, g4, rfl⟩ | ⟨g1, g2, g3, g4, g5, rfl⟩ | ⟨g1, g2, g3, g4, g5, g6, rfl⟩
    · refine Aw_stP hE [2, 3, 4, 17] [2, 410, 550, 551, 552, 553, 554, 555, 556, 570, 571, 572, 573, 574, 575, 576] fun K hK => ?_
      simp only [go_sem, seval]
      refine hK _ (Aw_yes rfl (Aw_skip (hB6 _ ?_)))
      refine Aw_bk fun B8 hN8 hE8 hR8 hX8 => ?_
      refine Aw_sq fun B9 hB9 hR9 hX9 => ?_
      refine Aw_st hE [2, 3, 4, 24] [2, 410, 550, 551, 552, 553, 554, 555, 556, 570, 571, 572, 573, 574, 575, 576] fun K hK => ?_
      simp only [go_sem, seval]
      refine hK _ (Aw_cond rfl (fun hold => ?_) (fun hold => ?_))
      · skip
        refine Aw_st hE [2, 3, 4] [2, 410, 550, 551, 552, 553, 554, 555, 556, 570, 571, 572, 573, 574, 575, 576] fun K hK => ?_
        simp only [go_sem, seval]
        refine hK _ (Aw_exit (hX9 _ _ (hE8 _ (hN5 ([], [r2, r3, r4, r5, r6]) _ ⟨?_, ?_⟩ ?_ ?_))))
        · rw [← hi1, endL_drop hold]
        · simp
        · simp
        · exact Le_ks [2, 3, 4] [2, 410, 574, 573, 572, 571, 570]
      · refine Aw_skip (hB9 _ ?_)
        refine Aw_tx hE [2, 3, 4] [2, 410, 550, 551, 552, 553, 554, 555, 556, 570, 571, 572, 573, 574, 575, 576] fun K hK => ?_
        simp only [go_sem, seval]
        refine hK _ (hN8 _ (hN5 ([r1], [r2, r3, r4, r5, r6]) _ ⟨?_, ?_⟩ ?_ ?_))
        · rw [← hi1, endL_keep hold]; rfl
        · simp
        · simp
        · refine (Le_swb _ 575 550 (by decide) (by decide)).trans ?_
          simp only [St.swb, swbσ, swbm, AV.swb, AV.swbAll, swp, Nat.reduceEqDiff, if_true, if_false, reduceIte, gcs, List.cons_append, List.nil_append]
          exact Le_ks [2, 3, 4] [2, 410, 550, 574, 573, 572, 571, 570]
    · simp at ho
    · simp at ho
    · simp at ho
    · simp at ho
    · simp at ho
    · simp at ho
end Go.Proofs.W
end
section
namespace Go.Proofs.W
open Go Go.Eng Go.RowKit
set_option linter.unusedSimpArgs false
set_option maxRecDepth 100000

set_option maxHeartbeats 8000000 in
theorem ribEnd_rest (pb : Addr) {E : En} (hE : TbOk E (tbEnd pb)) {h0 : Int} {up : Bool} {n : Int} {k : Nat} (o : List Gt) (ho : o.length ≤ 6) {Q : Exit → St → Prop} (hQ : ∀ st, retD TT #[Go.ResultVar.cell 2 25].toList false (.agg [iv h0, bv up, .sl none (grows o)]) st → Q .ret st) : Aw E (sndC (sndC (sndC (sndC (Tryd.f21.body.getD .skip))))) (endX h0 up n k o) Q := by
  rcases six ho with rfl | ⟨g1, rfl⟩ | ⟨g1, g2, rfl⟩ | ⟨g1, g2, g3, rfl⟩ | ⟨g1, g2, g3, g4, rfl⟩ | ⟨g1, g2, g3, g4, g5, rfl⟩ | ⟨g1, g2, g3, g4, g5, g6, rfl⟩
  · simp only [endX]
    simp only [go_sem, seval]
    refine Aw_frz hE rfl 410 4 rfl rfl ?_
    simp only [go_sem, seval]
    refine Aw_st hE [2] [2] fun K hK => ?_
    simp only [go_sem, seval]
    refine ⟨ribL_p [] (by simp), ribL_q [] ?_⟩
    simp only [go_sem, seval]
    refine hK _ (Aw_ret (hQ _ ?_))
    simp only [go_sem, seval]
    all_goals rfl
  · simp only [endX]
    simp only [go_sem, seval]
    refine Aw_frz hE rfl 550 7 rfl rfl ?_
    simp only [go_sem, seval]
    refine Aw_frz hE rfl 410 4 rfl rfl ?_
    simp only [go_sem, seval]
    refine Aw_st hE [2] [2] fun K hK => ?_
    simp only [go_sem, seval]
    refine ⟨ribL_p [g1] (by simp), ribL_q [g1] ?_⟩
    simp only [go_sem, seval]
    refine hK _ (Aw_ret (hQ _ ?_))
    simp only [go_sem, seval]
    all_goals rfl
  · simp only [endX]
    simp only [go_sem, seval]
    refine Aw_frz hE rfl 551 7 rfl rfl ?_
    simp only [go_sem, seval]
    refine Aw_frz hE rfl 550 7 rfl rfl ?_
    simp only [go_sem, seval]
    refine Aw_frz hE rfl 410 4 rfl rfl ?_
    simp only [go_sem, seval]
    refine Aw_st hE [2] [2] fun K hK => ?_
    simp only [go_sem, seval]
    refine ⟨ribL_p [g1, g2] (by simp), ribL_q [g1, g2] ?_⟩
    simp only [go_sem, seval]
    refine hK _ (Aw_ret (hQ _ ?_))
    simp only [go_sem, seval]
    all_goals rfl
  · simp only [endX]
    simp only [go_sem, seval]
    refine Aw_frz hE rfl 552 7 rfl rfl ?_
    simp only [go_sem, seval]
    refine Aw_frz hE rfl 551 7 rfl rfl ?_
    simp only [go_sem, seval]
    refine Aw_frz hE rfl 550 7 rfl rfl ?_
    simp only [go_sem, seval]
    refine Aw_frz hE rfl 410 4 rfl rfl ?_
    simp only [go_sem, seval]
    refine Aw_st hE [2] [2] fun K hK => ?_
    simp only [go_sem, seval]
    refine ⟨ribL_p [g1, g2, g3] (by simp), ribL_q [g1, g2, g3] ?_⟩
    simp only [go_sem, seval]
    refine hK _ (Aw_ret (hQ _ ?_))
    simp only [go_sem, seval]
    all_goals rfl
  · simp only [endX]
    simp only [go_sem, seval]
    refine Aw_frz hE rfl 553 7 rfl rfl ?_
    simp only [go_sem, seval]
    refine Aw_frz hE rfl 552 7 rfl rfl ?_
    simp only [go_sem, seval]
    refine Aw_frz hE rfl 551 7 rfl rfl ?_
    simp only [go_sem, seval]
    refine Aw_frz hE rfl 550 7 rfl rfl ?_
    simp only [go_sem, seval]
    refine Aw_frz hE rfl 410 4 rfl rfl ?_
    simp only [go_sem, seval]
    refine Aw_st hE [2] [2] fun K hK => ?_
    simp only [go_sem, seval]
    refine ⟨ribL_p [g1, g2, g3, g4] (by simp), ribL_q [g1, g2, g3, g4] ?_⟩
    simp only [go_sem, seval]
    refine hK _ (Aw_ret (hQ _ ?_))
    simp only [go_sem, seval]
    all_goals rfl
  · simp only [endX]
    simp only [go_sem, seval]
    refine Aw_frz hE rfl 554 7 rfl rfl ?_
    simp only [go_sem, seval]
    refine Aw_frz hE rfl 553 7 rfl rfl ?_
    simp only [go_sem, seval]
    refine Aw_frz hE rfl 552 7 rfl rfl ?_
    simp only [go_sem, seval]
    refine Aw_frz hE rfl 551 7 rfl rfl ?_
    simp only [go_sem, seval]
    refine Aw_frz hE rfl 550 7 rfl rfl ?_
    simp only [go_sem, seval]
    refine Aw_frz hE rfl 410 4 rfl rfl ?_
    simp only [go_sem, seval]
    refine Aw_st hE [2] [2] fun K hK => ?_
    simp only [go_sem, seval]
    refine ⟨ribL_p [g1, g2, g3, g4, g5] (by simp), ribL_q [g1, g2, g3, g4, g5] ?_⟩
    simp only [go_sem, seval]
    refine hK _ (Aw_ret (hQ _ ?_))
    simp only [go_sem, seval]
    all_goals rfl
  · simp only [endX]
    simp only [go_sem, seval]
    refine Aw_frz hE rfl 555 7 rfl rfl ?_
    simp only [go_sem, seval]
    refine Aw_frz hE rfl 554 7 rfl rfl ?_
    simp only [go_sem, seval]
    refine Aw_frz hE rfl 553 7 rfl rfl ?_
    simp only [go_sem, seval]
    refine Aw_frz hE rfl 552 7 rfl rfl ?_
    simp only [go_sem, seval]
    refine Aw_frz hE rfl 551 7 rfl rfl ?_
    simp only [go_sem, seval]
    refine Aw_frz hE rfl 550 7 rfl rfl ?_
    simp only [go_sem, seval]
    refine Aw_frz hE rfl 410 4 rfl rfl ?_
    simp only [go_sem, seval]
    refine Aw_st hE [2] [2] fun K hK => ?_
    simp only [go_sem, seval]
    refine ⟨ribL_p [g1, g2, g3, g4, g5, g6] (by simp), ribL_q [g1, g2, g3, g4, g5, g6] ?_⟩
    simp only [go_sem, seval]
    refine hK _ (Aw_ret (hQ _ ?_))
    simp only [go_sem, seval]
    all_goals rfl
def dRibEndI (pb : Addr) : DFn := { g := gRibEnd, inv := WP pb }
attribute [go_sem] dRibEndI
set_option maxHeartbeats 8000000 in
theorem iRibEnd_ok (pb : Addr) : Fine Tryd.prog 21 (dRibEndI pb).con := by
  refine fine_detX [] gl_nil [] ms_nil [(40, (cOpen, [], [(600, 400), (601, 401), (602, 402), (603, 403), (604, 404), (605, 405), (606, 406)]))] (mm_cons open_ok (by decide) mm_nil (wp_mm pb)) [] [] ex_nil (T := TT) Tryd.func21 rfl Tryd.ntmps21 (by rw [Tryd.results21]) rfl rfl tt (gs_cons ribL_ok gs_nil) (ds_cons (iRibOk_ok pb) ds_nil (wp_inh pb)) ?_
  intro args c r h hc
  simp only [dRibEndI, gRibEnd] at h
  split at h
  rotate_left
  · cases h
  split at h
  rotate_left
  · cases h
  rename_i h0 up t els _ l hgo
  obtain rfl := gotsL_eq hgo
  obtain ⟨rfl, rfl⟩ := Prod.mk.inj (Option.some.inj h)
  refine ⟨by simp, fun k E hE Q hQ => ?_⟩
  refine Aw_st hE [1, 2] [1, 2, 410, 411, 412, 413, 414, 415, 416] fun K hK => ?_
  simp only [go_sem, seval]
  refine hK _ ?_; clear hK K
  refine Aw_sq fun B1 hB1 hR1 hX1 => ?_
  refine Aw_st hE [1, 2, 7] [1, 2, 410, 411, 412, 413, 414, 415, 416] fun K hK => ?_
  simp only [go_sem, seval]
  refine ⟨⟨by omega, hc.2⟩, ?_⟩
  refine hK _ (Aw_cond rfl (fun hc2 => ?_) (fun hc2 => ?_))
  · have hok : ribOk ⟨h0, up, l⟩ = false := by simpa using hc2
    refine Aw_st hE [2] [1, 2, 410, 411, 412, 413, 414, 415, 416] fun K hK => ?_
    simp only [go_sem, seval]
    refine hK _ (Aw_ret (hR1 _ (hQ _ ?_)))
    simp only [go_sem, seval]
    rw [hok]; rfl
  have hok : ribOk ⟨h0, up, l⟩ = true := by simpa using hc2
  rw [hok] at hQ
  simp only [if_true] at hQ
  have hl6 := (ribOk_iff.1 hok).2.1
  have hel := endL_len l
  refine Aw_skip (hB1 _ ?_)
  rcases six hl6 with hl | ⟨g1, hl⟩ | ⟨g1, g2, hl⟩ | ⟨g1, g2, g3, hl⟩ | ⟨g1, g2, g3, g4, hl⟩ | ⟨g1, g2, g3, g4, g5, hl⟩ | ⟨g1, g2, g3, g4, g5, g6, hl⟩
  · have hses : sesB h0 up l = [(600, [iv h0, bv up, .v (.pointer none), iv ((0 : Nat) : Int)])] := by rw [hl]; rfl
    have hop := fun (m1 : List (Nat × List AV)) (K : AV → List (Nat × List AV) → Prop) => open_postL hses m1 K
    refine Aw_st hE [2, 3] [1, 2, 410, 411, 412, 413, 414, 415, 416] fun K hK => ?_
    simp only [go_sem, seval, ↓hop]
    refine ⟨by decide, ⟨hl6, hc.2⟩, ?_⟩
    subst hl
    refine hK _ ?_; clear hK K
    refine Aw_sq fun B3 hB3 hR3 hX3 => ?_
    refine Aw_st hE [2, 3, 4] [1, 2, 410, 411, 412, 413, 414, 415, 416] fun K hK => ?_
    simp only [go_sem, seval]
    refine hK _ ?_
    refine Aw.leE (Le_E (Le_ks [2, 3, 4] [2, 410])) ?_
    exact ribEnd_loop pb hE (l := []) (up := up) (h0 := h0) (k := k) (n := ((0 : Nat) : Int)) hl6 fun st' hle => hB3 _ (Aw.leE hle (ribEnd_rest pb hE _ (by omega) hQ))
  · have hses : sesB h0 up l = [(600, [iv h0, bv up, .loc 601 0, iv ((1 : Nat) : Int)]), (601, gcs g1 ++ [.v (.pointer none)])] := by rw [hl]; rfl
    have hop := fun (m1 : List (Nat × List AV)) (K : AV → List (Nat × List AV) → Prop) => open_postL hses m1 K
    refine Aw_st hE [2, 3] [1, 2, 410, 411, 412, 413, 414, 415, 416] fun K hK => ?_
    simp only [go_sem, seval, ↓hop]
    refine ⟨by decide, ⟨hl6, hc.2⟩, ?_⟩
    subst hl
    refine hK _ ?_; clear hK K
    refine Aw_sq fun B3 hB3 hR3 hX3 => ?_
    refine Aw_st hE [2, 3, 4] [1, 2, 410, 411, 412, 413, 414, 415, 416] fun K hK => ?_
    simp only [go_sem, seval]
    refine hK _ ?_
    refine Aw.leE (Le_E (Le_swb _ 411 570 (by decide) (by decide))) ?_
    simp only [St.swb, swbσ, swbm, AV.swb, AV.swbAll, swp, Nat.reduceEqDiff, if_true, if_false, reduceIte, gcs, List.cons_append, List.nil_append]
    refine Aw.leE (Le_E (Le_ks [2, 3, 4] [2, 410, 570])) ?_
    exact ribEnd_loop pb hE (l := [g1]) (up := up) (h0 := h0) (k := k) (n := ((1 : Nat) : Int)) hl6 fun st' hle => hB3 _ (Aw.leE hle (ribEnd_rest pb hE _ (by omega) hQ))
  · have hses : sesB h0 up l = [(600, [iv h0, bv up, .loc 601 0, iv ((2 : Nat) : Int)]), (601, gcs g1 ++ [.loc 602 0]), (602, gcs g2 ++ [.v (.pointer none)])] := by rw [hl]; rfl
    have hop := fun (m1 : List (Nat × List AV)) (K : AV → List (Nat × List AV) → Prop) => open_postL hses m1 K
    refine Aw_st hE [2, 3] [1, 2, 410, 411, 412, 413, 414, 415, 416] fun K hK => ?_
    simp only [go_sem, seval, ↓hop]
    refine ⟨by decide, ⟨hl6, hc.2⟩, ?_⟩
    subst hl
    refine hK _ ?_; clear hK K
    refine Aw_sq fun B3 hB3 hR3 hX3 => ?_
    refine Aw_st hE [2, 3, 4] [1, 2, 410, 411, 412, 413, 414, 415, 416] fun K hK => ?_
    simp only [go_sem, seval]
    refine hK _ ?_
    refine Aw.leE (Le_E (Le_swb _ 411 571 (by decide) (by decide))) ?_
    simp only [St.swb, swbσ, swbm, AV.swb, AV.swbAll, swp, Nat.reduceEqDiff, if_true, if_false, reduceIte, gcs, List.cons_append, List.nil_append]
    refine Aw.leE (Le_E (Le_swb _ 412 570 (by decide) (by decide))) ?_
    simp only [St.swb, swbσ, swbm, AV.swb, AV.swbAll, swp, Nat.reduceEqDiff, if_true, if_false, reduceIte, gcs, List.cons_append, List.nil_append]
    refine Aw.leE (Le_E (Le_ks [2, 3, 4] [2, 410, 571, 570])) ?_
    exact ribEnd_loop pb hE (l := [g1, g2]) (up := up) (h0 := h0) (k := k) (n := ((2 : Nat) : Int)) hl6 fun st' hle => hB3 _ (Aw.leE hle (ribEnd_rest pb hE _ (by omega) hQ))
  · have hses : sesB h0 up l = [(600, [iv h0, bv up, .loc 601 0, iv ((3 : Nat) : Int)]), (601, gcs g1 ++ [.loc 602 0]), (602, gcs g2 ++ [.loc 603 0]), (603, gcs g3 ++ [.v (.pointer none)])] := by rw [hl]; rfl
    have hop := fun (m1 : List (Nat × List AV)) (K : AV → List (Nat × List AV) → Prop) => open_postL hses m1 K
    refine Aw_st hE [2, 3] [1, 2, 410, 411, 412, 413, 414, 415, 416] fun K hK => ?_
    simp only [go_sem, seval, ↓hop]
    refine ⟨by decide, ⟨hl6, hc.2⟩, ?_⟩
    subst hl
    refine hK _ ?_; clear hK K
    refine Aw_sq fun B3 hB3 hR3 hX3 => ?_
    refine Aw_st hE [2, 3, 4] [1, 2, 410, 411, 412, 413, 414, 415, 416] fun K hK => ?_
    simp only [go_sem, seval]
    refine hK _ ?_
    refine Aw.leE (Le_E (Le_swb _ 411 572 (by decide) (by decide))) ?_
    simp only [St.swb, swbσ, swbm, AV.swb, AV.swbAll, swp, Nat.reduceEqDiff, if_true, if_false, reduceIte, gcs, List.cons_append, List.nil_append]
    refine Aw.leE (Le_E (Le_swb _ 412 571 (by decide) (by decide))) ?_
    simp only [St.swb, swbσ, swbm, AV.swb, AV.swbAll, swp, Nat.reduceEqDiff, if_true, if_false, reduceIte, gcs, List.cons_append, List.nil_append]
    refine Aw.leE (Le_E (Le_swb _ 413 570 (by decide) (by decide))) ?_
    simp only [St.swb, swbσ, swbm, AV.swb, AV.swbAll, swp, Nat.reduceEqDiff, if_true, if_false, reduceIte, gcs, List.cons_append, List.nil_append]
    refine Aw.leE (Le_E (Le_ks [2, 3, 4] [2, 410, 572, 571, 570])) ?_
    exact ribEnd_loop pb hE (l := [g1, g2, g3]) (up := up) (h0 := h0) (k := k) (n := ((3 : Nat) : Int)) hl6 fun st' hle => hB3 _ (Aw.leE hle (ribEnd_rest pb hE _ (by omega) hQ))
  · have hses : sesB h0 up l = [(600, [iv h0, bv up, .loc 601 0, iv ((4 : Nat) : Int)]), (601, gcs g1 ++ [.loc 602 0]), (602, gcs g2 ++ [.loc 603 0]), (603, gcs g3 ++ [.loc 604 0]), (604, gcs g4 ++ [.v (.pointer none)])] := by rw [hl]; rfl
    have hop := fun (m1 : List (Nat × List AV)) (K : AV → List (Nat × List AV) → Prop) => open_postL hses m1 K
    refine Aw_st hE [2, 3] [1, 2, 410, 411, 412, 413, 414, 415, 416] fun K hK => ?_
    simp only [go_sem, seval, ↓hop]
    refine ⟨by decide, ⟨hl6, hc.2⟩, ?_⟩
    subst hl
    refine hK _ ?_; clear hK K
    refine Aw_sq fun B3 hB3 hR3 hX3 => ?_
    refine Aw_st hE [2, 3, 4] [1, 2, 410, 411, 412, 413, 414, 415, 416] fun K hK => ?_
    simp only [go_sem, seval]
    refine hK _ ?_
    refine Aw.leE (Le_E (Le_swb _ 411 573 (by decide) (by decide))) ?_
    simp only [St.swb, swbσ, swbm, AV.swb, AV.swbAll, swp, Nat.reduceEqDiff, if_true, if_false, reduceIte, gcs, List.cons_append, List.nil_append]
    refine Aw.leE (Le_E (Le_swb _ 412 572 (by decide) (by decide))) ?_
    simp only [St.swb, swbσ, swbm, AV.swb, AV.swbAll, swp, Nat.reduceEqDiff, if_true, if_false, reduceIte, gcs, List.cons_append, List.nil_append]
    refine Aw.leE (Le_E (Le_swb _ 413 571 (by decide) (by decide))) ?_
    simp only [St.swb, swbσ, swbm, AV.swb, AV.swbAll, swp, Nat.reduceEqDiff, if_true, if_false, reduceIte, gcs, List.cons_append, List.nil_append]
    refine Aw.leE (Le_E (Le_swb _ 414 570 (by decide) (by decide))) ?_
    simp only [St.swb, swbσ, swbm, AV.swb, AV.swbAll, swp, Nat.reduceEqDiff, if_true, if_false, reduceIte, gcs, List.cons_append, List.nil_append]
    refine Aw.leE (Le_E (Le_ks [2, 3, 4] [2, 410, 573, 572, 571, 570])) ?_
    exact ribEnd_loop pb hE (l := [g1, g2, g3, g4]) (up := up) (h0 := h0) (k := k) (n := ((4 : Nat) : Int)) hl6 fun st' hle => hB3 _ (Aw.leE hle (ribEnd_rest pb hE _ (by omega) hQ))
  · have hses : sesB h0 up l = [(600, [iv h0, bv up, .loc 601 0, iv ((5 : Nat) : Int)]), (601, gcs g1 ++ [.loc 602 0]), (602, gcs g2 ++ [.loc 603 0]), (603, gcs g3 ++ [.loc 604 0]), (604, gcs g4 ++ [.loc 605 0]), (605, gcs g5 ++ [.v (.pointer none)])] := by rw [hl]; rfl
    have hop := fun (m1 : List (Nat × List AV)) (K : AV → List (Nat × List AV) → Prop) => open_postL hses m1 K
    refine Aw_st hE [2, 3] [1, 2, 410, 411, 412, 413, 414, 415, 416] fun K hK => ?_
    simp only [go_sem, seval, ↓hop]
    refine ⟨by decide, ⟨hl6, hc.2⟩, ?_⟩
    subst hl
    refine hK _ ?_; clear hK K
    refine Aw_sq fun B3 hB3 hR3 hX3 => ?_
    refine Aw_st hE [2, 3, 4] [1, 2, 410, 411, 412, 413, 414, 415, 416] fun K hK => ?_
    simp only [go_sem, seval]
    refine hK _ ?_
    refine Aw.leE (Le_E (Le_swb _ 411 574 (by decide) (by decide))) ?_
    simp only [St.swb, swbσ, swbm, AV.swb, AV.swbAll, swp, Nat.reduceEqDiff, if_true, if_false, reduceIte, gcs, List.cons_append, List.nil_append]
    refine Aw.leE (Le_E (Le_swb _ 412 573 (by decide) (by decide))) ?_
    simp only [St.swb, swbσ, swbm, AV.swb, AV.swbAll, swp, Nat.reduceEqDiff, if_true, if_false, reduceIte, gcs, List.cons_append, List.nil_append]
    refine Aw.leE (Le_E (Le_swb _ 413 572 (by decide) (by decide))) ?_
    simp only [St.swb, swbσ, swbm, AV.swb, AV.swbAll, swp, Nat.reduceEqDiff, if_true, if_false, reduceIte, gcs, List.cons_append, List.nil_append]
    refine Aw.leE (Le_E (Le_swb _ 414 571 (by decide) (by decide))) ?_
    simp only [St.swb, swbσ, swbm, AV.swb, AV.swbAll, swp, Nat.reduceEqDiff, if_true, if_false, reduceIte, gcs, List.cons_append, List.nil_append]
    refine Aw.leE (Le_E (Le_swb _ 415 570 (by decide) (by decide))) ?_
    simp only [St.swb, swbσ, swbm, AV.swb, AV.swbAll, swp, Nat.reduceEqDiff, if_true, if_false, reduceIte, gcs, List.cons_append, List.nil_append]
    refine Aw.leE (Le_E (Le_ks [2, 3, 4] [2, 410, 574, 573, 572, 571, 570])) ?_
    exact ribEnd_loop pb hE (l := [g1, g2, g3, g4, g5]) (up := up) (h0 := h0) (k := k) (n := ((5 : Nat) : Int)) hl6 fun st' hle => hB3 _ (Aw.leE hle (ribEnd_rest pb hE _ (by omega) hQ))
  · have hses : sesB h0 up l = [(600, [iv h0, bv up, .loc 601 0, iv ((6 : Nat) : Int)]), (601, gcs g1 ++ [.loc 602 0]), (602, gcs g2 ++ [.loc 603 0]), (603, gcs g3 ++ [.loc 604 0]), (604, gcs g4 ++ [.loc 605 0]), (605, gcs g5 ++ [.loc 606 0]), (606, gcs g6 ++ [.v (.pointer none)])] := by rw [hl]; rfl
    have hop := fun (m1 : List (Nat × List AV)) (K : AV → List (Nat × List AV) → Prop) => open_postL hses m1 K
    refine Aw_st hE [2, 3] [1, 2, 410, 411, 412, 413, 414, 415, 416] fun K hK => ?_
    simp only [go_sem, seval, ↓hop]
    refine ⟨by decide, ⟨hl6, hc.2⟩, ?_⟩
    subst hl
    refine hK _ ?_; clear hK K
    refine Aw_sq fun B3 hB3 hR3 hX3 => ?_
    refine Aw_st hE [2, 3, 4] [1, 2, 410, 411, 412, 413, 414, 415, 416] fun K hK => ?_
    simp only [go_sem, seval]
    refine hK _ ?_
    refine Aw.leE (Le_E (Le_swb _ 411 575 (by decide) (by decide))) ?_
    simp only [St.swb, swbσ, swbm, AV.swb, AV.swbAll, swp, Nat.reduceEqDiff, if_true, if_false, reduceIte, gcs, List.cons_append, List.nil_append]
    refine Aw.leE (Le_E (Le_swb _ 412 574 (by decide) (by decide))) ?_
    simp only [St.swb, swbσ, swbm, AV.swb, AV.swbAll, swp, Nat.reduceEqDiff, if_true, if_false, reduceIte, gcs, List.cons_append, List.nil_append]
    refine Aw.leE (Le_E (Le_swb _ 413 573 (by decide) (by decide))) ?_
    simp only [St.swb, swbσ, swbm, AV.swb, AV.swbAll, swp, Nat.reduceEqDiff, if_true, if_false, reduceIte, gcs, List.cons_append, List.nil_append]
    refine Aw.leE (Le_E (Le_swb _ 414 572 (by decide) (by decide))) ?_
    simp only [St.swb, swbσ, swbm, AV.swb, AV.swbAll, swp, Nat.reduceEqDiff, if_true, if_false, reduceIte, gcs, List.cons_append, List.nil_append]
    refine Aw.leE (Le_E (Le_swb _ 415 571 (by decide) (by decide))) ?_
    simp only [St.swb, swbσ, swbm, AV.swb, AV.swbAll, swp, Nat.reduceEqDiff, if_true, if_false, reduceIte, gcs, List.cons_append, List.nil_append]
    refine Aw.leE (Le_E (Le_swb _ 416 570 (by decide) (by decide))) ?_
    simp only [St.swb, swbσ, swbm, AV.swb, AV.swbAll, swp, Nat.reduceEqDiff, if_true, if_false, reduceIte, gcs, List.cons_append, List.nil_append]
    refine Aw.leE (Le_E (Le_ks [2, 3, 4] [2, 410, 575, 574, 573, 572, 571, 570])) ?_
    exact ribEnd_loop pb hE (l := [g1, g2, g3, g4, g5, g6]) (up := up) (h0 := h0) (k := k) (n := ((6 : Nat) : Int)) hl6 fun st' hle => hB3 _ (Aw.leE hle (ribEnd_rest pb hE _ (by omega) hQ))
end Go.Proofs.W
end
section
namespace Go.Proofs.W
open Go Go.Eng Go.RowKit
set_option linter.unusedSimpArgs false
set_option maxRecDepth 100000

/-! what is found -/
theorem find_at {f : Gt → Bool} : ∀ {l : List Gt} {i : Nat} (hi : i < l.length), f l[i] = true → (∀ x ∈ l.take i, f x = false) → l.find? f = some l[i]
  | [], i, hi, _, _ => by simp at hi
  | x :: l, 0, _, h, _ => by
    rw [List.find?_cons, show f x = true from h]
    rfl
  | x :: l, i + 1, hi, h, hn => by
    have hx : f x = false := hn x (by simp)
    rw [List.find?_cons, hx]
    exact find_at (l := l) (i := i) (by simpa using hi) (by simpa using h) fun y hy => hn y (by simp [hy])
theorem ribFind_cases {h : Int} {up : Bool} {l : List Gt} (f c : Int) (hok : ribOk ⟨h, up, l⟩ = true) :
    (atG l f c = -1 ∧ ribFind ⟨h, up, l⟩ f c = none) ∨ ∃ i, ∃ hi : i < l.length, atG l f c = (i : Nat) ∧ ribFind ⟨h, up, l⟩ f c = some l[i].r := by
  unfold ribFind
  rw [hok, if_pos rfl]
  rcases idxB_some (f := sameRg f c) (l := l) (k := 0) with ⟨h1, h2⟩ | ⟨i, hi, h1, h2, h3⟩
  · left
    refine ⟨h1, ?_⟩
    have : l.find? (sameRg f c) = none := List.find?_eq_none.2 fun x hx => by rw [h2 x hx]; simp
    simp only [this, Option.map_none]
  · right
    refine ⟨i, hi, by unfold atG; rw [h1]; simp, ?_⟩
    simp only [find_at hi h2 h3, Option.map_some]
def gRibFind : List AV → Option (Prop × AV)
  | [.agg [.v (.int .i64 h), .v (.bool up), .sl _ els], .agg [.v (.int .i64 f), .v (.int .i64 c)]] => (match gotsL els with
    | some l => some (l.length ≤ 1000000 ∧ lensG l, resR (ribFind ⟨h, up, l⟩ f c))
    | none => none)
  | _ => none
def dRibFind : DFn := { g := gRibFind }
def dRibFindI (pb : Addr) : DFn := { g := gRibFind, inv := WP pb }
attribute [go_sem] gRibFind dRibFind dRibFindI
def gRfC : List AV → Option (Prop × AV)
  | [.agg [.v (.int .i64 rf), .v (.int .i64 rb), .sl _ _, .v (.int .i64 _), .sl _ _, .v (.bool _)], .el [.v (.int .i64 f), .v (.int .i64 c)]] => some (True, bv (decide (rf = f) && decide (rb = c)))
  | _ => none
def dRfC : DFn := { g := gRfC }
attribute [go_sem] gRfC dRfC
theorem ribFindC_ok : Fine Tryd.prog 27 dRfC.con := by
  refine fine_det (T := TT) Tryd.func27 rfl Tryd.ntmps27 (by rw [Tryd.results27]) rfl rfl tt (gs_nil) (ds_nil) ?_
  intro args c r h hc
  simp only [dRfC, gRfC] at h
  split at h
  rotate_left
  · cases h
  obtain ⟨rfl, rfl⟩ := Prod.mk.inj (Option.some.inj h)
  refine ⟨by simp, fun k E hE Q hQ => ?_⟩
  refine Aw_st hE [1, 2] [2] fun K hK => ?_
  simp only [go_sem, reduceIte, Nat.reduceLT, Nat.reduceLeDiff, Nat.reduceEqDiff, Nat.reduceAdd, Nat.reduceMul, Nat.reduceSub, Nat.reduceBEq, Int.reduceToNat, List.reduceReplicate, reduceCtorEq]
  repeat (refine And.intro (by first | omega | (and_intros <;> first | omega | exact rows_row _ | decide | (simp; done) | (simp; omega)) | fail) ?_)
  refine hK _ ?_; clear hK K
  refine Aw_st hE [3] [] fun K hK => ?_
  simp only [go_sem, reduceIte, Nat.reduceLT, Nat.reduceLeDiff, Nat.reduceEqDiff, Nat.reduceAdd, Nat.reduceMul, Nat.reduceSub, Nat.reduceBEq, Int.reduceToNat, List.reduceReplicate, reduceCtorEq]
  repeat (refine And.intro (by first | omega | (and_intros <;> first | omega | exact rows_row _ | decide | (simp; done) | (simp; omega)) | fail) ?_)
  refine hK _ (Aw_ret (hQ _ ?_))
  simp only [go_sem, reduceIte, Nat.reduceLT, Nat.reduceLeDiff, Nat.reduceEqDiff, Nat.reduceAdd, Nat.reduceMul, Nat.reduceSub, Nat.reduceBEq, Int.reduceToNat, List.reduceReplicate, reduceCtorEq]
  rfl
abbrev cloF (f c : Int) : AV := .dv (.fn 27 [.ptr [.v (.int .i64 f), .v (.int .i64 c)]])
def gIdG : List AV → Option (Prop × AV)
  | [.sl _ els, .dv (.fn 27 [.ptr [.v (.int .i64 f), .v (.int .i64 c)]])] => (match gotsL els with
    | some l => some (l.length ≤ 1000000, iv (atG l f c))
    | none => none)
  | _ => none
def dIdG : DFn := { g := gIdG }
attribute [go_sem] gIdG dIdG
theorem idG_ok : Fine Tryd.prog 26 dIdG.con := by
  refine fine_det (T := TT) Tryd.func26 rfl Tryd.ntmps26 (by rw [Tryd.results26]) rfl rfl tt (gs_nil) (ds_cons ribFindC_ok ds_nil) ?_
  intro args c r h hc
  simp only [dIdG, gIdG] at h
  split at h
  rotate_left
  · cases h
  split at h
  rotate_left
  · cases h
  rename_i t els f c _ l hgo
  obtain rfl := gotsL_eq hgo
  obtain ⟨rfl, rfl⟩ := Prod.mk.inj (Option.some.inj h)
  refine ⟨by simp, fun k E hE Q hQ => ?_⟩
  refine Aw_st hE [0, 1] [] fun K hK => ?_
  simp only [go_sem, reduceIte, Nat.reduceLT, Nat.reduceLeDiff, Nat.reduceEqDiff, Nat.reduceAdd, Nat.reduceMul, Nat.reduceSub, Nat.reduceBEq, Int.reduceToNat, List.reduceReplicate, reduceCtorEq]
  repeat (refine And.intro (by first | omega | (and_intros <;> first | omega | exact rows_row _ | decide | (simp; done) | (simp; omega)) | fail) ?_)
  refine hK _ ?_; clear hK K
  refine Aw_sq fun B1 hB1 hR1 hX1 => ?_
  refine Aw_st hE [0, 1, 7, 8] [] fun K hK => ?_
  simp only [go_sem, reduceIte, Nat.reduceLT, Nat.reduceLeDiff, Nat.reduceEqDiff, Nat.reduceAdd, Nat.reduceMul, Nat.reduceSub, Nat.reduceBEq, Int.reduceToNat, List.reduceReplicate, reduceCtorEq]
  repeat (refine And.intro (by first | omega | (and_intros <;> first | omega | exact rows_row _ | decide | (simp; done) | (simp; omega)) | fail) ?_)
  refine hK _ ?_; clear hK K
  refine Aw_bk fun B2 hN2 hE2 hR2 hX2 => ?_
  refine Aw_lp (fun i : Nat => ⟨19, [(0, .sl t (grows l)), (1, cloF f c), (7, iv l.length), (8, iv i)], [], k⟩) (fun i : Nat => i ≤ l.length ∧ atG l f c = idxB (sameRg f c) (l.drop i) i) (fun i : Nat => l.length - i) (0) (Le.refl _) (⟨by omega, rfl⟩) fun i hi B3 hN3 hR3 hX3 => ?_
  refine Aw_st hE [0, 1, 7, 8, 9] [] fun K hK => ?_
  simp only [go_sem, reduceIte, Nat.reduceLT, Nat.reduceLeDiff, Nat.reduceEqDiff, Nat.reduceAdd, Nat.reduceMul, Nat.reduceSub, Nat.reduceBEq, Int.reduceToNat, List.reduceReplicate, reduceCtorEq]
  repeat (refine And.intro (by first | omega | (and_intros <;> first | omega | exact rows_row _ | decide | (simp; done) | (simp; omega)) | fail) ?_)
  refine hK _ ?_; clear hK K
  refine Aw_sq fun B4 hB4 hR4 hX4 => ?_
  refine Aw_cond rfl (fun hc5 => ?_) (fun hc5 => ?_)
  · simp only [decide_eq_true_eq] at hc5
    have hil : i < l.length := by omega
    have hs := hi.2.trans (idxB_drop hil)
    have hget := grows_get l i hil
    generalize l[i] = x at hget hs
    obtain ⟨⟨rf, rb, p, rk, m⟩, old⟩ := x
    refine Aw_skip (hB4 _ ?_)
    refine Aw_sq fun B6 hB6 hR6 hX6 => ?_
    refine Aw_bk fun B7 hN7 hE7 hR7 hX7 => ?_
    refine Aw_st hE [0, 1, 5, 7, 8] [] fun K hK => ?_
    simp only [go_sem, reduceIte, Nat.reduceLT, Nat.reduceLeDiff, Nat.reduceEqDiff, Nat.reduceAdd, Nat.reduceMul, Nat.reduceSub, Nat.reduceBEq, Int.reduceToNat, List.reduceReplicate, reduceCtorEq]
    repeat (refine And.intro (by first | omega | (and_intros <;> first | omega | exact rows_row _ | decide | (simp; done) | (simp; omega)) | fail) ?_)
    refine hK _ ?_; clear hK K
    refine Aw_st hE [0, 1, 5, 7, 8, 16] [] fun K hK => ?_
    simp only [go_sem, reduceIte, Nat.reduceLT, Nat.reduceLeDiff, Nat.reduceEqDiff, Nat.reduceAdd, Nat.reduceMul, Nat.reduceSub, Nat.reduceBEq, Int.reduceToNat, List.reduceReplicate, reduceCtorEq, hget]
    repeat (refine And.intro (by first | omega | (and_intros <;> first | omega | exact rows_row _ | decide | (simp; done) | (simp; omega)) | fail) ?_)
    refine hK _ (Aw_cond rfl (fun hc8 => ?_) (fun hc8 => ?_))
    · have hsr : sameRg f c ⟨⟨rf, rb, p, rk, m⟩, old⟩ = true := hc8
      rw [hsr] at hs
      refine Aw_st hE [4] [] fun K hK => ?_
      simp only [go_sem, reduceIte, Nat.reduceLT, Nat.reduceLeDiff, Nat.reduceEqDiff, Nat.reduceAdd, Nat.reduceMul, Nat.reduceSub, Nat.reduceBEq, Int.reduceToNat, List.reduceReplicate, reduceCtorEq]
      repeat (refine And.intro (by first | omega | (and_intros <;> first | omega | exact rows_row _ | decide | (simp; done) | (simp; omega)) | fail) ?_)
      refine hK _ (Aw_ret (hR7 _ (hR6 _ (hR3 _ (hR2 _ (hR1 _ (hQ _ ?_)))))))
      simp only [go_sem, reduceIte, Nat.reduceLT, Nat.reduceLeDiff, Nat.reduceEqDiff, Nat.reduceAdd, Nat.reduceMul, Nat.reduceSub, Nat.reduceBEq, Int.reduceToNat, List.reduceReplicate, reduceCtorEq, hs]
    · have hsr : sameRg f c ⟨⟨rf, rb, p, rk, m⟩, old⟩ = false := hc8
      rw [hsr] at hs
      refine Aw_skip (hN7 _ (hB6 _ ?_))
      refine Aw_tx hE [0, 1, 7, 8] [] fun K hK => ?_
      simp only [go_sem, reduceIte, Nat.reduceLT, Nat.reduceLeDiff, Nat.reduceEqDiff, Nat.reduceAdd, Nat.reduceMul, Nat.reduceSub, Nat.reduceBEq, Int.reduceToNat, List.reduceReplicate, reduceCtorEq]
      repeat (refine And.intro (by first | omega | (and_intros <;> first | omega | exact rows_row _ | decide | (simp; done) | (simp; omega)) | fail) ?_)
      refine hK _ (hN3 (i + 1) _ (⟨by omega, hs⟩) (by omega) (Le.refl _))
  · simp only [decide_eq_false_iff_not] at hc5
    refine Aw_exit (hX4 _ _ (hX3 _ _ (hE2 _ (hB1 _ ?_))))
    refine Aw_st hE [4] [] fun K hK => ?_
    simp only [go_sem, reduceIte, Nat.reduceLT, Nat.reduceLeDiff, Nat.reduceEqDiff, Nat.reduceAdd, Nat.reduceMul, Nat.reduceSub, Nat.reduceBEq, Int.reduceToNat, List.reduceReplicate, reduceCtorEq]
    repeat (refine And.intro (by first | omega | (and_intros <;> first | omega | exact rows_row _ | decide | (simp; done) | (simp; omega)) | fail) ?_)
    refine hK _ (Aw_ret (hQ _ ?_))
    simp only [go_sem, reduceIte, Nat.reduceLT, Nat.reduceLeDiff, Nat.reduceEqDiff, Nat.reduceAdd, Nat.reduceMul, Nat.reduceSub, Nat.reduceBEq, Int.reduceToNat, List.reduceReplicate, reduceCtorEq]
    rw [hi.2, List.drop_eq_nil_of_le (by omega)]
    rfl
theorem iRibFind_ok (pb : Addr) : Fine Tryd.prog 9 (dRibFindI pb).con := by
  refine fine_det (T := TT) Tryd.func9 rfl Tryd.ntmps9 (by rw [Tryd.results9]) rfl rfl tt (gs_nil) (ds_cons (iRibOk_ok pb) (ds_cons idG_ok (ds_cons copyD_ok ds_nil)) (wp_inh pb)) ?_
  intro args c r h hc
  simp only [dRibFindI, gRibFind] at h
  split at h
  rotate_left
  · cases h
  split at h
  rotate_left
  · cases h
  rename_i h0 up t els f c _ l hgo
  obtain rfl := gotsL_eq hgo
  obtain ⟨rfl, rfl⟩ := Prod.mk.inj (Option.some.inj h)
  refine ⟨by simp, fun k E hE Q hQ => ?_⟩
  obtain ⟨hll, hlen⟩ := hc
  refine Aw_st hE [2, 3, 4] [2, 3, 4] fun K hK => ?_
  simp only [go_sem, reduceIte, Nat.reduceLT, Nat.reduceLeDiff, Nat.reduceEqDiff, Nat.reduceAdd, Nat.reduceMul, Nat.reduceSub, Nat.reduceBEq, Int.reduceToNat, List.reduceReplicate, reduceCtorEq]
  refine hK _ ?_; clear hK K
  refine Aw_sq fun B1 hB1 hR1 hX1 => ?_
  refine Aw_st hE [2, 3, 4, 9] [2, 3, 4] fun K hK => ?_
  simp only [go_sem, reduceIte, Nat.reduceLT, Nat.reduceLeDiff, Nat.reduceEqDiff, Nat.reduceAdd, Nat.reduceMul, Nat.reduceSub, Nat.reduceBEq, Int.reduceToNat, List.reduceReplicate, reduceCtorEq]
  refine ⟨⟨hll, hlen⟩, ?_⟩
  refine hK _ (Aw_cond rfl (fun hc2 => ?_) (fun hc2 => ?_))
  · have hok : ribOk ⟨h0, up, l⟩ = false := by simpa using hc2
    have hz : resR (ribFind ⟨h0, up, l⟩ f c) = .tup [.agg [iv 0, iv 0, isl [], iv 0, isl []], bv false] := by simp [ribFind, hok, resR, rt0]
    refine Aw_st hE [4, 5] [4] fun K hK => ?_
    simp only [go_sem, reduceIte, Nat.reduceLT, Nat.reduceLeDiff, Nat.reduceEqDiff, Nat.reduceAdd, Nat.reduceMul, Nat.reduceSub, Nat.reduceBEq, Int.reduceToNat, List.reduceReplicate, reduceCtorEq]
    refine hK _ (Aw_ret (hR1 _ (hQ _ ?_)))
    simp only [go_sem, reduceIte, Nat.reduceLT, Nat.reduceLeDiff, Nat.reduceEqDiff, Nat.reduceAdd, Nat.reduceMul, Nat.reduceSub, Nat.reduceBEq, Int.reduceToNat, List.reduceReplicate, reduceCtorEq, hz]
    rfl
  have hok : ribOk ⟨h0, up, l⟩ = true := by simpa using hc2
  refine Aw_skip (hB1 _ ?_)
  rcases ribFind_cases f c hok with ⟨h1, h2⟩ | ⟨i, hi, h1, h2⟩
  · have hz : resR (ribFind ⟨h0, up, l⟩ f c) = .tup [.agg [iv 0, iv 0, isl [], iv 0, isl []], bv false] := by rw [h2]; rfl
    refine Aw_st hE [2, 4, 6] [2, 4] fun K hK => ?_
    simp only [go_sem, reduceIte, Nat.reduceLT, Nat.reduceLeDiff, Nat.reduceEqDiff, Nat.reduceAdd, Nat.reduceMul, Nat.reduceSub, Nat.reduceBEq, Int.reduceToNat, List.reduceReplicate, reduceCtorEq, h1]
    refine ⟨hll, ?_⟩
    refine hK _ ?_; clear hK K
    refine Aw_sq fun B3 hB3 hR3 hX3 => ?_
    refine Aw_st hE [2, 4, 6, 16] [2, 4] fun K hK => ?_
    simp only [go_sem, reduceIte, Nat.reduceLT, Nat.reduceLeDiff, Nat.reduceEqDiff, Nat.reduceAdd, Nat.reduceMul, Nat.reduceSub, Nat.reduceBEq, Int.reduceToNat, List.reduceReplicate, reduceCtorEq]
    refine hK _ (Aw_yes rfl ?_)
    refine Aw_st hE [4, 5] [4] fun K hK => ?_
    simp only [go_sem, reduceIte, Nat.reduceLT, Nat.reduceLeDiff, Nat.reduceEqDiff, Nat.reduceAdd, Nat.reduceMul, Nat.reduceSub, Nat.reduceBEq, Int.reduceToNat, List.reduceReplicate, reduceCtorEq]
    refine hK _ (Aw_ret (hR3 _ (hQ _ ?_)))
    simp only [go_sem, reduceIte, Nat.reduceLT, Nat.reduceLeDiff, Nat.reduceEqDiff, Nat.reduceAdd, Nat.reduceMul, Nat.reduceSub, Nat.reduceBEq, Int.reduceToNat, List.reduceReplicate, reduceCtorEq, hz]
    rfl
  · have hget := grows_get l i hi
    have hln := hlen _ (List.getElem_mem hi)
    generalize l[i] = x at hget hln h2
    obtain ⟨⟨rf, rb, p, rk, m⟩, old⟩ := x
    simp only at hln
    have hz : resR (ribFind ⟨h0, up, l⟩ f c) = .tup [.agg [iv rf, iv rb, isl p, iv rk, isl m], bv true] := by rw [h2]; rfl
    have hlt : decide ((i : Int) < 0) = false := decide_eq_false (by omega)
    refine Aw_st hE [2, 4, 6] [2, 4] fun K hK => ?_
    simp only [go_sem, reduceIte, Nat.reduceLT, Nat.reduceLeDiff, Nat.reduceEqDiff, Nat.reduceAdd, Nat.reduceMul, Nat.reduceSub, Nat.reduceBEq, Int.reduceToNat, List.reduceReplicate, reduceCtorEq, h1]
    refine ⟨hll, ?_⟩
    refine hK _ ?_; clear hK K
    refine Aw_sq fun B3 hB3 hR3 hX3 => ?_
    refine Aw_st hE [2, 4, 6, 16] [2, 4] fun K hK => ?_
    simp only [go_sem, reduceIte, Nat.reduceLT, Nat.reduceLeDiff, Nat.reduceEqDiff, Nat.reduceAdd, Nat.reduceMul, Nat.reduceSub, Nat.reduceBEq, Int.reduceToNat, List.reduceReplicate, reduceCtorEq, hlt]
    refine hK _ (Aw_no rfl (Aw_skip (hB3 _ ?_)))
    refine Aw_st hE [4, 5] [4] fun K hK => ?_
    simp only [go_sem, reduceIte, Nat.reduceLT, Nat.reduceLeDiff, Nat.reduceEqDiff, Nat.reduceAdd, Nat.reduceMul, Nat.reduceSub, Nat.reduceBEq, Int.reduceToNat, List.reduceReplicate, reduceCtorEq, hget, Int.toNat_natCast]
    refine ⟨by omega, ⟨by omega, by omega⟩, ?_⟩
    refine hK _ (Aw_ret (hQ _ ?_))
    simp only [go_sem, reduceIte, Nat.reduceLT, Nat.reduceLeDiff, Nat.reduceEqDiff, Nat.reduceAdd, Nat.reduceMul, Nat.reduceSub, Nat.reduceBEq, Int.reduceToNat, List.reduceReplicate, reduceCtorEq, hz]
end Go.Proofs.W
end
section
namespace Go.Proofs.W
open Go Go.Eng Go.RowKit
set_option linter.unusedSimpArgs false
set_option maxRecDepth 100000

theorem ribFind_none {b : Rb} {f c : Int} (h : ribOk b = true) (hn : ∀ g ∈ b.all, sameRg f c g = false) : ribFind b f c = none := by
  unfold ribFind
  rw [h, if_pos rfl, List.find?_eq_none.2 fun x hx => by rw [hn x hx]; simp]
  rfl
end Go.Proofs.W
end
section
namespace Go.Proofs.W
open Go Go.Eng Go.RowKit
set_option linter.unusedSimpArgs false
set_option maxRecDepth 100000

theorem endL_end (l : List Gt) : endL (endL l) = endL l := by
  rw [endL_eq (endL l)]
  rw [endL_eq l, List.filter_map, List.map_map]
  have h1 : List.filter ((fun g : Gt => !g.old) ∘ newG) (l.filter fun g => !g.old) = l.filter fun g => !g.old := List.filter_eq_self.2 fun g _ => rfl
  rw [h1]
  rfl
theorem endL_old (l : List Gt) : endL (l.map oldG) = [] := by
  rw [endL_eq, List.filter_map]
  have h1 : List.filter ((fun g : Gt => !g.old) ∘ oldG) l = [] := List.filter_eq_nil_iff.2 fun g _ => by simp [oldG]
  rw [h1]; rfl
theorem newG_of {g : Gt} (h : g.old = false) : newG g = g := by
  obtain ⟨r, o⟩ := g
  simp only at h
  subst h; rfl
theorem sameRg_iff {f c : Int} {g : Gt} : sameRg f c g = true ↔ g.r.f = f ∧ g.r.b = c := by simp [sameRg]
/-- in a list by range a range stands once -/
theorem one_key {L : List Gt} (hp : L.Pairwise ltG) {g g' : Gt} (hg : g ∈ L) (hg' : g' ∈ L) (hf : g.r.f = g'.r.f) (hb : g.r.b = g'.r.b) : g = g' := by
  induction hp with
  | nil => cases hg
  | cons h1 _ ih =>
    rcases List.mem_cons.1 hg with e1 | m1
    · rcases List.mem_cons.1 hg' with e2 | m2
      · rw [e1, e2]
      · subst e1
        have := h1 _ m2
        unfold ltG at this; omega
    · rcases List.mem_cons.1 hg' with e2 | m2
      · subst e2
        have := h1 _ m1
        unfold ltG at this; omega
      · exact ih m1 m2
theorem find_key {L : List Gt} (hp : L.Pairwise ltG) {g : Gt} (hg : g ∈ L) : L.find? (sameRg g.r.f g.r.b) = some g := by
  cases h : L.find? (sameRg g.r.f g.r.b) with
  | none => exact absurd (List.find?_eq_none.1 h g hg) (by simp [sameRg])
  | some x =>
    have h1 := List.mem_of_find?_eq_some h
    have h2 := sameRg_iff.1 (List.find?_some h)
    rw [one_key hp h1 hg h2.1 h2.2]
theorem ribFind_key {h : Int} {up : Bool} {L : List Gt} (hok : ribOk ⟨h, up, L⟩ = true) {g : Gt} (hg : g ∈ L) : ribFind ⟨h, up, L⟩ g.r.f g.r.b = some g.r := by
  unfold ribFind
  rw [hok, if_pos rfl, find_key (ribOk_iff.1 hok).2.2.2 hg]
  rfl
theorem ribFind_end {h : Int} {up : Bool} {l : List Gt} (hok : ribOk ⟨h, up, l⟩ = true) {g : Gt} (hg : g ∈ l) : ribFind ⟨h, up, endL l⟩ g.r.f g.r.b = if g.old then none else some g.r := by
  have hok2 := ribOk_end hok
  have hp := (ribOk_iff.1 hok).2.2.2
  cases ho : g.old with
  | false =>
    rw [if_neg (by simp)]
    have : g ∈ endL l := by
      rw [endL_eq]
      exact List.mem_map.2 ⟨g, List.mem_filter.2 ⟨hg, by simp [ho]⟩, newG_of ho⟩
    exact ribFind_key hok2 this
  | true =>
    rw [if_pos rfl]
    refine ribFind_none (b := ⟨h, up, endL l⟩) hok2 fun x hx => ?_
    simp only at hx
    rw [endL_eq] at hx
    obtain ⟨y, hy, rfl⟩ := List.mem_map.1 hx
    obtain ⟨hy1, hy2⟩ := List.mem_filter.1 hy
    cases hs : sameRg g.r.f g.r.b (newG y) with
    | false => rfl
    | true =>
      have h2 := sameRg_iff.1 hs
      have := one_key hp hy1 hg h2.1 h2.2
      rw [this, ho] at hy2
      cases hy2
theorem endL_take {l : List Gt} {i : Nat} (hi : i < l.length) : (endL (l.take (i + 1))).length = (endL (l.take i)).length + (if l[i].old then 0 else 1) := by
  rw [List.take_succ_eq_append_getElem hi, endL_app, List.length_append]
  simp only [endL, List.append_nil]
  cases l[i].old <;> rfl
set_option maxHeartbeats 4000000 in
theorem fnEnd_ok (pb : Addr) : Fine Tryd.prog 6 (cLawP pb) := by
  refine fine_of (T := TT) Tryd.func6 rfl Tryd.ntmps6 (by rw [Tryd.results6]) rfl rfl tt (gs_cons drawRibEnd_ok gs_nil) (ds_cons ribEnd_ok (ds_cons (iRibEnd_ok pb) (ds_cons lyRib_ok (ds_cons lyRoute_ok (ds_cons sRibOk_ok (ds_cons (iRibFind_ok pb) (ds_cons (iRibDown_ok pb) ds_nil (wp_inh pb)) (wp_inh pb))))) (wp_inh pb))) ?_
  rintro args ⟨bs, hbs, rfl⟩
  refine ⟨by simp, fun k hk E hE Q hQ => ?_⟩
  refine Aw_st hE [0] [] fun K hK => ?_
  simp only [go_sem, reduceIte, Nat.reduceLT, Nat.reduceLeDiff, Nat.reduceEqDiff, Nat.reduceAdd, Nat.reduceMul, Nat.reduceSub, Nat.reduceBEq, Int.reduceToNat, List.reduceReplicate, reduceCtorEq]
  refine hK _ ?_; clear hK K
  refine Aw_sq fun B1 hB1 hR1 hX1 => ?_
  refine Aw_st hE [0, 11] [] fun K hK => ?_
  simp only [go_sem, reduceIte, Nat.reduceLT, Nat.reduceLeDiff, Nat.reduceEqDiff, Nat.reduceAdd, Nat.reduceMul, Nat.reduceSub, Nat.reduceBEq, Int.reduceToNat, List.reduceReplicate, reduceCtorEq]
  refine hK _ (Aw_cond rfl (fun hc2 => ?_) (fun hc2 => ?_))
  · refine Aw_st hE [2] [] fun K hK => ?_
    simp only [go_sem, reduceIte, Nat.reduceLT, Nat.reduceLeDiff, Nat.reduceEqDiff, Nat.reduceAdd, Nat.reduceMul, Nat.reduceSub, Nat.reduceBEq, Int.reduceToNat, List.reduceReplicate, reduceCtorEq]
    refine hK _ (Aw_ret (hR1 _ (hQ _ ?_)))
    simp only [go_sem, reduceIte, Nat.reduceLT, Nat.reduceLeDiff, Nat.reduceEqDiff, Nat.reduceAdd, Nat.reduceMul, Nat.reduceSub, Nat.reduceBEq, Int.reduceToNat, List.reduceReplicate, reduceCtorEq]
  refine Aw_skip (hB1 _ ?_)
  refine Aw_st hE [3] [3] fun K hK => ?_
  simp only [go_sem, reduceIte, Nat.reduceLT, Nat.reduceLeDiff, Nat.reduceEqDiff, Nat.reduceAdd, Nat.reduceMul, Nat.reduceSub, Nat.reduceBEq, Int.reduceToNat, List.reduceReplicate, reduceCtorEq]
  refine ⟨dre_pre bs hbs, fun b hb => ?_⟩
  obtain ⟨h0, up, l⟩ := b
  obtain ⟨hb1, hlg⟩ := hb
  simp only at hb1 hlg
  refine hK _ ?_; clear hK K
  cases hok : ribOk ⟨h0, up, l⟩ with
  | false =>
    refine Aw_st hE [3, 4] [3, 4] fun K hK => ?_
    simp only [go_sem, reduceIte, Nat.reduceLT, Nat.reduceLeDiff, Nat.reduceEqDiff, Nat.reduceAdd, Nat.reduceMul, Nat.reduceSub, Nat.reduceBEq, Int.reduceToNat, List.reduceReplicate, reduceCtorEq, hok, Bool.false_eq_true, if_false]
    refine ⟨⟨by omega, hlg⟩, ?_⟩
    refine hK _ ?_; clear hK K
    refine Aw_sq fun B3 hB3 hR3 hX3 => ?_
    refine Aw_sd hE [3, 4, 25] [3, 4] 6 (by kernel_rfl) fun K hK => ?_
    simp only [go_sem, reduceIte, Nat.reduceLT, Nat.reduceLeDiff, Nat.reduceEqDiff, Nat.reduceAdd, Nat.reduceMul, Nat.reduceSub, Nat.reduceBEq, Int.reduceToNat, List.reduceReplicate, reduceCtorEq, hok, Bool.false_eq_true, if_false, gotsL_nil, eqGs_refl, decide_true, Bool.and_self]
    repeat (refine And.intro (by first | omega | exact hlg | exact lensG_nil | (and_intros <;> first | omega | exact hlg | exact lensG_nil | fail) | fail) ?_)
    refine hK _ (Aw_yes rfl ?_)
    refine Aw_sd hE [2] [] 6 (by kernel_rfl) fun K hK => ?_
    simp only [go_sem, reduceIte, Nat.reduceLT, Nat.reduceLeDiff, Nat.reduceEqDiff, Nat.reduceAdd, Nat.reduceMul, Nat.reduceSub, Nat.reduceBEq, Int.reduceToNat, List.reduceReplicate, reduceCtorEq, hok, Bool.false_eq_true, if_false, gotsL_nil, eqGs_refl, decide_true, Bool.and_self]
    repeat (refine And.intro (by first | omega | exact hlg | exact lensG_nil | (and_intros <;> first | omega | exact hlg | exact lensG_nil | fail) | fail) ?_)
    refine hK _ (Aw_ret (hR3 _ (hQ _ ?_)))
    simp only [go_sem, reduceIte, Nat.reduceLT, Nat.reduceLeDiff, Nat.reduceEqDiff, Nat.reduceAdd, Nat.reduceMul, Nat.reduceSub, Nat.reduceBEq, Int.reduceToNat, List.reduceReplicate, reduceCtorEq]
  | true =>
    refine Aw_st hE [3, 4] [3, 4] fun K hK => ?_
    simp only [go_sem, reduceIte, Nat.reduceLT, Nat.reduceLeDiff, Nat.reduceEqDiff, Nat.reduceAdd, Nat.reduceMul, Nat.reduceSub, Nat.reduceBEq, Int.reduceToNat, List.reduceReplicate, reduceCtorEq, hok, if_true]
    refine ⟨⟨by omega, hlg⟩, ?_⟩
    refine hK _ ?_; clear hK K
    refine Aw_sq fun B3 hB3 hR3 hX3 => ?_
    have hlg2 := lensG_end hlg
    have hlen2 := endL_len l
    have hrk := eqGs_refl (endL l)
    have hok2 := ribOk_end hok
    refine Aw_sd hE [3, 4, 25] [3, 4] 6 (by kernel_rfl) fun K hK => ?_
    simp only [go_sem, reduceIte, Nat.reduceLT, Nat.reduceLeDiff, Nat.reduceEqDiff, Nat.reduceAdd, Nat.reduceMul, Nat.reduceSub, Nat.reduceBEq, Int.reduceToNat, List.reduceReplicate, reduceCtorEq, hok, if_true, hrk, decide_true, Bool.and_self]
    refine ⟨⟨by omega, hlg⟩, ⟨⟨by omega, hlg2⟩, by omega, hlg2⟩, ⟨by omega, hlg⟩, ?_⟩
    refine hK _ (Aw_no rfl (Aw_skip (hB3 _ ?_)))
    refine Aw_st hE [3, 4, 5] [3, 4] fun K hK => ?_
    simp only [go_sem, reduceIte, Nat.reduceLT, Nat.reduceLeDiff, Nat.reduceEqDiff, Nat.reduceAdd, Nat.reduceMul, Nat.reduceSub, Nat.reduceBEq, Int.reduceToNat, List.reduceReplicate, reduceCtorEq]
    refine hK _ ?_; clear hK K
    refine Aw_sq fun B7 hB7 hR7 hX7 => ?_
    refine Aw_st hE [3, 4, 5, 6] [3, 4] fun K hK => ?_
    simp only [go_sem, reduceIte, Nat.reduceLT, Nat.reduceLeDiff, Nat.reduceEqDiff, Nat.reduceAdd, Nat.reduceMul, Nat.reduceSub, Nat.reduceBEq, Int.reduceToNat, List.reduceReplicate, reduceCtorEq]
    refine hK _ ?_; clear hK K
    refine Aw_bk fun B8 hN8 hE8 hR8 hX8 => ?_
    refine Aw_lp (fun i : Nat => ⟨106, [(3, .loc 3 0), (4, .loc 4 0), (5, iv (endL (l.take i)).length), (6, iv i)], [(3, [iv h0, bv up, .sl none (grows l)]), (4, [iv h0, bv up, .sl none (grows (endL l))])], k⟩) (fun i => i ≤ l.length) (fun i => l.length - i) 0 (Le.refl _) (by omega) fun i hi B9 hN9 hR9 hX9 => ?_
    refine Aw_sq fun B10 hB10 hR10 hX10 => ?_
    refine Aw_st hE [3, 4, 5, 6, 34] [3, 4] fun K hK => ?_
    simp only [go_sem, reduceIte, Nat.reduceLT, Nat.reduceLeDiff, Nat.reduceEqDiff, Nat.reduceAdd, Nat.reduceMul, Nat.reduceSub, Nat.reduceBEq, Int.reduceToNat, List.reduceReplicate, reduceCtorEq]
    refine hK _ (Aw_cond rfl (fun hc11 => ?_) (fun hc11 => ?_))
    · simp only [decide_eq_true_eq] at hc11
      have hil : i < l.length := by omega
      have hget := grows_get l i hil
      have hln := hlg _ (List.getElem_mem hil)
      have hfe := ribFind_end hok (List.getElem_mem hil)
      have htk := endL_take hil
      have hcn : (endL (l.take i)).length ≤ 1000 := Nat.le_trans (endL_len _) (by rw [List.length_take]; omega)
      generalize l[i] = x at hget hln hfe htk
      obtain ⟨⟨rf, rb, p, rk, m⟩, old⟩ := x
      simp only at hln hfe htk
      refine Aw_skip (hB10 _ ?_)
      refine Aw_sq fun B12 hB12 hR12 hX12 => ?_
      refine Aw_bk fun B13 hN13 hE13 hR13 hX13 => ?_
      cases old with
      | true =>
        simp only [if_true] at hfe
        have hrs : resR (ribFind ⟨h0, up, endL l⟩ rf rb) = .tup [.agg [iv 0, iv 0, isl [], iv 0, isl []], bv false] := by rw [hfe]; rfl
        apply (fun F0 F1 F2 F3 F4 F5 F6 F7 F8 F9 F10 => Aw_sD hE [([0, 1, 2, 3], (.alt 4 (.fst 5 (.fst 6 (.ref 4))) (.alt 12 (.ref 3) .non))), ([0, 1, 3, 12], (.alt 2 (.ref 3) .non)), ([1, 2, 3, 12], (.alt 0 (.ref 3) (.alt 4 (.fst 5 (.fst 6 (.ref 5))) .non))), ([0, 1, 2, 3, 12], (.alt 4 (.fst 5 (.fst 6 (.ref 7))) .non)), ([0, 1, 2, 3, 4, 5, 6], (.alt 7 (.ref 6) (.alt 12 (.ref 7) .non))), ([1, 2, 3, 4, 5, 6, 12], (.alt 0 (.ref 7) (.alt 7 (.ref 8) .non))), ([0, 1, 2, 3, 4, 5, 6, 7], (.alt 8 (.fst 9 (.fst 10 (.fst 11 (.alt 12 (.ref 10) .non)))) (.alt 12 (.ref 9) .non))), ([0, 1, 2, 3, 4, 5, 6, 12], (.alt 7 (.ref 9) .non)), ([1, 2, 3, 4, 5, 6, 7, 12], (.alt 0 (.ref 9) .non)), ([0, 1, 2, 3, 4, 5, 6, 7, 12], (.alt 8 (.fst 9 (.fst 10 (.fst 11 (.ref 10)))) .non)), ([0, 1, 2, 3, 4, 5, 6, 7, 8, 9, 10, 11, 12], (.alt 13 (.fst 14 .done) .non))] (.fst 1 (.fst 3 (.alt 0 (.alt 2 (.ref 0) (.alt 12 (.ref 1) .non)) (.alt 2 (.alt 0 (.ref 0) (.alt 4 (.fst 5 (.fst 6 (.alt 0 (.ref 4) (.alt 7 (.alt 0 (.ref 6) (.alt 12 (.ref 8) .non)) (.alt 12 (.ref 5) .non))))) (.alt 12 (.ref 2) .non))) (.alt 12 (.alt 0 (.ref 1) (.alt 2 (.ref 2) .non)) .non))))) [F0, F1, F2, F3, F4, F5, F6, F7, F8, F9, F10] [3, 4, 5, 6, 7, 8] [3, 4, 7])
        · kernel_rfl
        intro K hK
        refine And.intro ?_ ?_
        · simp only [go_sem, reduceIte, Nat.reduceLT, Nat.reduceLeDiff, Nat.reduceEqDiff, Nat.reduceAdd, Nat.reduceMul, Nat.reduceSub, Nat.reduceBEq, Int.reduceToNat, List.reduceReplicate, reduceCtorEq, hget, hrs]
          repeat' (first | exact (fun _ _ r => r) | exact LeE_eq (by simp only [go_sem, reduceIte, Nat.reduceLT, Nat.reduceLeDiff, Nat.reduceEqDiff, Nat.reduceAdd, Nat.reduceMul, Nat.reduceSub, Nat.reduceBEq, Int.reduceToNat, List.reduceReplicate, reduceCtorEq, hget, hrs]) (by simp only [go_sem, reduceIte, Nat.reduceLT, Nat.reduceLeDiff, Nat.reduceEqDiff, Nat.reduceAdd, Nat.reduceMul, Nat.reduceSub, Nat.reduceBEq, Int.reduceToNat, List.reduceReplicate, reduceCtorEq, hget, hrs]) | exact LeE_wk (by simp only [go_sem, reduceIte, Nat.reduceLT, Nat.reduceLeDiff, Nat.reduceEqDiff, Nat.reduceAdd, Nat.reduceMul, Nat.reduceSub, Nat.reduceBEq, Int.reduceToNat, List.reduceReplicate, reduceCtorEq, hget, hrs]) (by simp only [go_sem, reduceIte, Nat.reduceLT, Nat.reduceLeDiff, Nat.reduceEqDiff, Nat.reduceAdd, Nat.reduceMul, Nat.reduceSub, Nat.reduceBEq, Int.reduceToNat, List.reduceReplicate, reduceCtorEq, hget, hrs]) | refine And.intro (by first | omega | exact crows_row _ | exact rrows_row _ | exact rows_row _ | (and_intros <;> first | omega | exact crows_row _ | exact rrows_row _ | exact rows_row _ | decide | (simp; done) | (simp; omega)) | fail) ?_ | refine And.intro ?_ ?_)
        refine And.intro ?_ ?_
        · simp only [go_sem, reduceIte, Nat.reduceLT, Nat.reduceLeDiff, Nat.reduceEqDiff, Nat.reduceAdd, Nat.reduceMul, Nat.reduceSub, Nat.reduceBEq, Int.reduceToNat, List.reduceReplicate, reduceCtorEq, hget, hrs]
          repeat' (first | exact (fun _ _ r => r) | exact LeE_eq (by simp only [go_sem, reduceIte, Nat.reduceLT, Nat.reduceLeDiff, Nat.reduceEqDiff, Nat.reduceAdd, Nat.reduceMul, Nat.reduceSub, Nat.reduceBEq, Int.reduceToNat, List.reduceReplicate, reduceCtorEq, hget, hrs]) (by simp only [go_sem, reduceIte, Nat.reduceLT, Nat.reduceLeDiff, Nat.reduceEqDiff, Nat.reduceAdd, Nat.reduceMul, Nat.reduceSub, Nat.reduceBEq, Int.reduceToNat, List.reduceReplicate, reduceCtorEq, hget, hrs]) | exact LeE_wk (by simp only [go_sem, reduceIte, Nat.reduceLT, Nat.reduceLeDiff, Nat.reduceEqDiff, Nat.reduceAdd, Nat.reduceMul, Nat.reduceSub, Nat.reduceBEq, Int.reduceToNat, List.reduceReplicate, reduceCtorEq, hget, hrs]) (by simp only [go_sem, reduceIte, Nat.reduceLT, Nat.reduceLeDiff, Nat.reduceEqDiff, Nat.reduceAdd, Nat.reduceMul, Nat.reduceSub, Nat.reduceBEq, Int.reduceToNat, List.reduceReplicate, reduceCtorEq, hget, hrs]) | refine And.intro (by first | omega | exact crows_row _ | exact rrows_row _ | exact rows_row _ | (and_intros <;> first | omega | exact crows_row _ | exact rrows_row _ | exact rows_row _ | decide | (simp; done) | (simp; omega)) | fail) ?_ | refine And.intro ?_ ?_)
        refine And.intro ?_ ?_
        · simp only [go_sem, reduceIte, Nat.reduceLT, Nat.reduceLeDiff, Nat.reduceEqDiff, Nat.reduceAdd, Nat.reduceMul, Nat.reduceSub, Nat.reduceBEq, Int.reduceToNat, List.reduceReplicate, reduceCtorEq, hget, hrs]
          repeat' (first | exact (fun _ _ r => r) | exact LeE_eq (by simp only [go_sem, reduceIte, Nat.reduceLT, Nat.reduceLeDiff, Nat.reduceEqDiff, Nat.reduceAdd, Nat.reduceMul, Nat.reduceSub, Nat.reduceBEq, Int.reduceToNat, List.reduceReplicate, reduceCtorEq, hget, hrs]) (by simp only [go_sem, reduceIte, Nat.reduceLT, Nat.reduceLeDiff, Nat.reduceEqDiff, Nat.reduceAdd, Nat.reduceMul, Nat.reduceSub, Nat.reduceBEq, Int.reduceToNat, List.reduceReplicate, reduceCtorEq, hget, hrs]) | exact LeE_wk (by simp only [go_sem, reduceIte, Nat.reduceLT, Nat.reduceLeDiff, Nat.reduceEqDiff, Nat.reduceAdd, Nat.reduceMul, Nat.reduceSub, Nat.reduceBEq, Int.reduceToNat, List.reduceReplicate, reduceCtorEq, hget, hrs]) (by simp only [go_sem, reduceIte, Nat.reduceLT, Nat.reduceLeDiff, Nat.reduceEqDiff, Nat.reduceAdd, Nat.reduceMul, Nat.reduceSub, Nat.reduceBEq, Int.reduceToNat, List.reduceReplicate, reduceCtorEq, hget, hrs]) | refine And.intro (by first | omega | exact crows_row _ | exact rrows_row _ | exact rows_row _ | (and_intros <;> first | omega | exact crows_row _ | exact rrows_row _ | exact rows_row _ | decide | (simp; done) | (simp; omega)) | fail) ?_ | refine And.intro ?_ ?_)
        refine And.intro ?_ ?_
        · simp only [go_sem, reduceIte, Nat.reduceLT, Nat.reduceLeDiff, Nat.reduceEqDiff, Nat.reduceAdd, Nat.reduceMul, Nat.reduceSub, Nat.reduceBEq, Int.reduceToNat, List.reduceReplicate, reduceCtorEq, hget, hrs]
          repeat' (first | exact (fun _ _ r => r) | exact LeE_eq (by simp only [go_sem, reduceIte, Nat.reduceLT, Nat.reduceLeDiff, Nat.reduceEqDiff, Nat.reduceAdd, Nat.reduceMul, Nat.reduceSub, Nat.reduceBEq, Int.reduceToNat, List.reduceReplicate, reduceCtorEq, hget, hrs]) (by simp only [go_sem, reduceIte, Nat.reduceLT, Nat.reduceLeDiff, Nat.reduceEqDiff, Nat.reduceAdd, Nat.reduceMul, Nat.reduceSub, Nat.reduceBEq, Int.reduceToNat, List.reduceReplicate, reduceCtorEq, hget, hrs]) | exact LeE_wk (by simp only [go_sem, reduceIte, Nat.reduceLT, Nat.reduceLeDiff, Nat.reduceEqDiff, Nat.reduceAdd, Nat.reduceMul, Nat.reduceSub, Nat.reduceBEq, Int.reduceToNat, List.reduceReplicate, reduceCtorEq, hget, hrs]) (by simp only [go_sem, reduceIte, Nat.reduceLT, Nat.reduceLeDiff, Nat.reduceEqDiff, Nat.reduceAdd, Nat.reduceMul, Nat.reduceSub, Nat.reduceBEq, Int.reduceToNat, List.reduceReplicate, reduceCtorEq, hget, hrs]) | refine And.intro (by first | omega | exact crows_row _ | exact rrows_row _ | exact rows_row _ | (and_intros <;> first | omega | exact crows_row _ | exact rrows_row _ | exact rows_row _ | decide | (simp; done) | (simp; omega)) | fail) ?_ | refine And.intro ?_ ?_)
        refine And.intro ?_ ?_
        · simp only [go_sem, reduceIte, Nat.reduceLT, Nat.reduceLeDiff, Nat.reduceEqDiff, Nat.reduceAdd, Nat.reduceMul, Nat.reduceSub, Nat.reduceBEq, Int.reduceToNat, List.reduceReplicate, reduceCtorEq, hget, hrs]
          repeat' (first | exact (fun _ _ r => r) | exact LeE_eq (by simp only [go_sem, reduceIte, Nat.reduceLT, Nat.reduceLeDiff, Nat.reduceEqDiff, Nat.reduceAdd, Nat.reduceMul, Nat.reduceSub, Nat.reduceBEq, Int.reduceToNat, List.reduceReplicate, reduceCtorEq, hget, hrs]) (by simp only [go_sem, reduceIte, Nat.reduceLT, Nat.reduceLeDiff, Nat.reduceEqDiff, Nat.reduceAdd, Nat.reduceMul, Nat.reduceSub, Nat.reduceBEq, Int.reduceToNat, List.reduceReplicate, reduceCtorEq, hget, hrs]) | exact LeE_wk (by simp only [go_sem, reduceIte, Nat.reduceLT, Nat.reduceLeDiff, Nat.reduceEqDiff, Nat.reduceAdd, Nat.reduceMul, Nat.reduceSub, Nat.reduceBEq, Int.reduceToNat, List.reduceReplicate, reduceCtorEq, hget, hrs]) (by simp only [go_sem, reduceIte, Nat.reduceLT, Nat.reduceLeDiff, Nat.reduceEqDiff, Nat.reduceAdd, Nat.reduceMul, Nat.reduceSub, Nat.reduceBEq, Int.reduceToNat, List.reduceReplicate, reduceCtorEq, hget, hrs]) | refine And.intro (by first | omega | exact crows_row _ | exact rrows_row _ | exact rows_row _ | (and_intros <;> first | omega | exact crows_row _ | exact rrows_row _ | exact rows_row _ | decide | (simp; done) | (simp; omega)) | fail) ?_ | refine And.intro ?_ ?_)
        refine And.intro ?_ ?_
        · simp only [go_sem, reduceIte, Nat.reduceLT, Nat.reduceLeDiff, Nat.reduceEqDiff, Nat.reduceAdd, Nat.reduceMul, Nat.reduceSub, Nat.reduceBEq, Int.reduceToNat, List.reduceReplicate, reduceCtorEq, hget, hrs]
          repeat' (first | exact (fun _ _ r => r) | exact LeE_eq (by simp only [go_sem, reduceIte, Nat.reduceLT, Nat.reduceLeDiff, Nat.reduceEqDiff, Nat.reduceAdd, Nat.reduceMul, Nat.reduceSub, Nat.reduceBEq, Int.reduceToNat, List.reduceReplicate, reduceCtorEq, hget, hrs]) (by simp only [go_sem, reduceIte, Nat.reduceLT, Nat.reduceLeDiff, Nat.reduceEqDiff, Nat.reduceAdd, Nat.reduceMul, Nat.reduceSub, Nat.reduceBEq, Int.reduceToNat, List.reduceReplicate, reduceCtorEq, hget, hrs]) | exact LeE_wk (by simp only [go_sem, reduceIte, Nat.reduceLT, Nat.reduceLeDiff, Nat.reduceEqDiff, Nat.reduceAdd, Nat.reduceMul, Nat.reduceSub, Nat.reduceBEq, Int.reduceToNat, List.reduceReplicate, reduceCtorEq, hget, hrs]) (by simp only [go_sem, reduceIte, Nat.reduceLT, Nat.reduceLeDiff, Nat.reduceEqDiff, Nat.reduceAdd, Nat.reduceMul, Nat.reduceSub, Nat.reduceBEq, Int.reduceToNat, List.reduceReplicate, reduceCtorEq, hget, hrs]) | refine And.intro (by first | omega | exact crows_row _ | exact rrows_row _ | exact rows_row _ | (and_intros <;> first | omega | exact crows_row _ | exact rrows_row _ | exact rows_row _ | decide | (simp; done) | (simp; omega)) | fail) ?_ | refine And.intro ?_ ?_)
        refine And.intro ?_ ?_
        · simp only [go_sem, reduceIte, Nat.reduceLT, Nat.reduceLeDiff, Nat.reduceEqDiff, Nat.reduceAdd, Nat.reduceMul, Nat.reduceSub, Nat.reduceBEq, Int.reduceToNat, List.reduceReplicate, reduceCtorEq, hget, hrs]
          repeat' (first | exact (fun _ _ r => r) | exact LeE_eq (by simp only [go_sem, reduceIte, Nat.reduceLT, Nat.reduceLeDiff, Nat.reduceEqDiff, Nat.reduceAdd, Nat.reduceMul, Nat.reduceSub, Nat.reduceBEq, Int.reduceToNat, List.reduceReplicate, reduceCtorEq, hget, hrs]) (by simp only [go_sem, reduceIte, Nat.reduceLT, Nat.reduceLeDiff, Nat.reduceEqDiff, Nat.reduceAdd, Nat.reduceMul, Nat.reduceSub, Nat.reduceBEq, Int.reduceToNat, List.reduceReplicate, reduceCtorEq, hget, hrs]) | exact LeE_wk (by simp only [go_sem, reduceIte, Nat.reduceLT, Nat.reduceLeDiff, Nat.reduceEqDiff, Nat.reduceAdd, Nat.reduceMul, Nat.reduceSub, Nat.reduceBEq, Int.reduceToNat, List.reduceReplicate, reduceCtorEq, hget, hrs]) (by simp only [go_sem, reduceIte, Nat.reduceLT, Nat.reduceLeDiff, Nat.reduceEqDiff, Nat.reduceAdd, Nat.reduceMul, Nat.reduceSub, Nat.reduceBEq, Int.reduceToNat, List.reduceReplicate, reduceCtorEq, hget, hrs]) | refine And.intro (by first | omega | exact crows_row _ | exact rrows_row _ | exact rows_row _ | (and_intros <;> first | omega | exact crows_row _ | exact rrows_row _ | exact rows_row _ | decide | (simp; done) | (simp; omega)) | fail) ?_ | refine And.intro ?_ ?_)
        refine And.intro ?_ ?_
        · simp only [go_sem, reduceIte, Nat.reduceLT, Nat.reduceLeDiff, Nat.reduceEqDiff, Nat.reduceAdd, Nat.reduceMul, Nat.reduceSub, Nat.reduceBEq, Int.reduceToNat, List.reduceReplicate, reduceCtorEq, hget, hrs]
          repeat' (first | exact (fun _ _ r => r) | exact LeE_eq (by simp only [go_sem, reduceIte, Nat.reduceLT, Nat.reduceLeDiff, Nat.reduceEqDiff, Nat.reduceAdd, Nat.reduceMul, Nat.reduceSub, Nat.reduceBEq, Int.reduceToNat, List.reduceReplicate, reduceCtorEq, hget, hrs]) (by simp only [go_sem, reduceIte, Nat.reduceLT, Nat.reduceLeDiff, Nat.reduceEqDiff, Nat.reduceAdd, Nat.reduceMul, Nat.reduceSub, Nat.reduceBEq, Int.reduceToNat, List.reduceReplicate, reduceCtorEq, hget, hrs]) | exact LeE_wk (by simp only [go_sem, reduceIte, Nat.reduceLT, Nat.reduceLeDiff, Nat.reduceEqDiff, Nat.reduceAdd, Nat.reduceMul, Nat.reduceSub, Nat.reduceBEq, Int.reduceToNat, List.reduceReplicate, reduceCtorEq, hget, hrs]) (by simp only [go_sem, reduceIte, Nat.reduceLT, Nat.reduceLeDiff, Nat.reduceEqDiff, Nat.reduceAdd, Nat.reduceMul, Nat.reduceSub, Nat.reduceBEq, Int.reduceToNat, List.reduceReplicate, reduceCtorEq, hget, hrs]) | refine And.intro (by first | omega | exact crows_row _ | exact rrows_row _ | exact rows_row _ | (and_intros <;> first | omega | exact crows_row _ | exact rrows_row _ | exact rows_row _ | decide | (simp; done) | (simp; omega)) | fail) ?_ | refine And.intro ?_ ?_)
        refine And.intro ?_ ?_
        · simp only [go_sem, reduceIte, Nat.reduceLT, Nat.reduceLeDiff, Nat.reduceEqDiff, Nat.reduceAdd, Nat.reduceMul, Nat.reduceSub, Nat.reduceBEq, Int.reduceToNat, List.reduceReplicate, reduceCtorEq, hget, hrs]
          repeat' (first | exact (fun _ _ r => r) | exact LeE_eq (by simp only [go_sem, reduceIte, Nat.reduceLT, Nat.reduceLeDiff, Nat.reduceEqDiff, Nat.reduceAdd, Nat.reduceMul, Nat.reduceSub, Nat.reduceBEq, Int.reduceToNat, List.reduceReplicate, reduceCtorEq, hget, hrs]) (by simp only [go_sem, reduceIte, Nat.reduceLT, Nat.reduceLeDiff, Nat.reduceEqDiff, Nat.reduceAdd, Nat.reduceMul, Nat.reduceSub, Nat.reduceBEq, Int.reduceToNat, List.reduceReplicate, reduceCtorEq, hget, hrs]) | exact LeE_wk (by simp only [go_sem, reduceIte, Nat.reduceLT, Nat.reduceLeDiff, Nat.reduceEqDiff, Nat.reduceAdd, Nat.reduceMul, Nat.reduceSub, Nat.reduceBEq, Int.reduceToNat, List.reduceReplicate, reduceCtorEq, hget, hrs]) (by simp only [go_sem, reduceIte, Nat.reduceLT, Nat.reduceLeDiff, Nat.reduceEqDiff, Nat.reduceAdd, Nat.reduceMul, Nat.reduceSub, Nat.reduceBEq, Int.reduceToNat, List.reduceReplicate, reduceCtorEq, hget, hrs]) | refine And.intro (by first | omega | exact crows_row _ | exact rrows_row _ | exact rows_row _ | (and_intros <;> first | omega | exact crows_row _ | exact rrows_row _ | exact rows_row _ | decide | (simp; done) | (simp; omega)) | fail) ?_ | refine And.intro ?_ ?_)
        refine And.intro ?_ ?_
        · simp only [go_sem, reduceIte, Nat.reduceLT, Nat.reduceLeDiff, Nat.reduceEqDiff, Nat.reduceAdd, Nat.reduceMul, Nat.reduceSub, Nat.reduceBEq, Int.reduceToNat, List.reduceReplicate, reduceCtorEq, hget, hrs]
          repeat' (first | exact (fun _ _ r => r) | exact LeE_eq (by simp only [go_sem, reduceIte, Nat.reduceLT, Nat.reduceLeDiff, Nat.reduceEqDiff, Nat.reduceAdd, Nat.reduceMul, Nat.reduceSub, Nat.reduceBEq, Int.reduceToNat, List.reduceReplicate, reduceCtorEq, hget, hrs]) (by simp only [go_sem, reduceIte, Nat.reduceLT, Nat.reduceLeDiff, Nat.reduceEqDiff, Nat.reduceAdd, Nat.reduceMul, Nat.reduceSub, Nat.reduceBEq, Int.reduceToNat, List.reduceReplicate, reduceCtorEq, hget, hrs]) | exact LeE_wk (by simp only [go_sem, reduceIte, Nat.reduceLT, Nat.reduceLeDiff, Nat.reduceEqDiff, Nat.reduceAdd, Nat.reduceMul, Nat.reduceSub, Nat.reduceBEq, Int.reduceToNat, List.reduceReplicate, reduceCtorEq, hget, hrs]) (by simp only [go_sem, reduceIte, Nat.reduceLT, Nat.reduceLeDiff, Nat.reduceEqDiff, Nat.reduceAdd, Nat.reduceMul, Nat.reduceSub, Nat.reduceBEq, Int.reduceToNat, List.reduceReplicate, reduceCtorEq, hget, hrs]) | refine And.intro (by first | omega | exact crows_row _ | exact rrows_row _ | exact rows_row _ | (and_intros <;> first | omega | exact crows_row _ | exact rrows_row _ | exact rows_row _ | decide | (simp; done) | (simp; omega)) | fail) ?_ | refine And.intro ?_ ?_)
        refine And.intro ?_ ?_
        · simp only [go_sem, reduceIte, Nat.reduceLT, Nat.reduceLeDiff, Nat.reduceEqDiff, Nat.reduceAdd, Nat.reduceMul, Nat.reduceSub, Nat.reduceBEq, Int.reduceToNat, List.reduceReplicate, reduceCtorEq, hget, hrs]
          repeat' (first | exact (fun _ _ r => r) | exact LeE_eq (by simp only [go_sem, reduceIte, Nat.reduceLT, Nat.reduceLeDiff, Nat.reduceEqDiff, Nat.reduceAdd, Nat.reduceMul, Nat.reduceSub, Nat.reduceBEq, Int.reduceToNat, List.reduceReplicate, reduceCtorEq, hget, hrs]) (by simp only [go_sem, reduceIte, Nat.reduceLT, Nat.reduceLeDiff, Nat.reduceEqDiff, Nat.reduceAdd, Nat.reduceMul, Nat.reduceSub, Nat.reduceBEq, Int.reduceToNat, List.reduceReplicate, reduceCtorEq, hget, hrs]) | exact LeE_wk (by simp only [go_sem, reduceIte, Nat.reduceLT, Nat.reduceLeDiff, Nat.reduceEqDiff, Nat.reduceAdd, Nat.reduceMul, Nat.reduceSub, Nat.reduceBEq, Int.reduceToNat, List.reduceReplicate, reduceCtorEq, hget, hrs]) (by simp only [go_sem, reduceIte, Nat.reduceLT, Nat.reduceLeDiff, Nat.reduceEqDiff, Nat.reduceAdd, Nat.reduceMul, Nat.reduceSub, Nat.reduceBEq, Int.reduceToNat, List.reduceReplicate, reduceCtorEq, hget, hrs]) | refine And.intro (by first | omega | exact crows_row _ | exact rrows_row _ | exact rows_row _ | (and_intros <;> first | omega | exact crows_row _ | exact rrows_row _ | exact rows_row _ | decide | (simp; done) | (simp; omega)) | fail) ?_ | refine And.intro ?_ ?_)
        refine And.intro ?_ trivial
        simp only [go_sem, reduceIte, Nat.reduceLT, Nat.reduceLeDiff, Nat.reduceEqDiff, Nat.reduceAdd, Nat.reduceMul, Nat.reduceSub, Nat.reduceBEq, Int.reduceToNat, List.reduceReplicate, reduceCtorEq, hget, hrs]
        refine hK _ ?_; clear hK K
        refine Aw_sq fun B14 hB14 hR14 hX14 => ?_
        have hbb : (false == true) = false := rfl
        refine Aw_se hE [0, 1, 3, 2, 4, 5, 6, 7, 8, 9, 10, 11, 12, 13, 14, 15, 16, 17, 18, 19, 20, 21] [0, 0, 2, 0, 14, 30, 62, 127, 255, 511, 1023, 2047, 2047, 6143, 2047, 30719, 63487, 129023, 262143, 524287, 1048575, 2097151] [3, 4, 5, 6, 70] [3, 4] (by kernel_rfl) fun K hK => ?_
        refine daopsE_cut 6 fun K1 hK1 => ?_
        simp only [go_sem, reduceIte, Nat.reduceLT, Nat.reduceLeDiff, Nat.reduceEqDiff, Nat.reduceAdd, Nat.reduceMul, Nat.reduceSub, Nat.reduceBEq, Int.reduceToNat, List.reduceReplicate, reduceCtorEq, hget, hbb, Bool.not_false, Bool.not_true]
        repeat (refine And.intro (by first | omega | (and_intros <;> first | omega | exact rows_row _ | decide | (simp; done) | (simp; omega)) | fail) ?_)
        refine hK1 _ ?_
        clear hK1
        refine daopsE_cut 6 fun K1 hK1 => ?_
        simp only [go_sem, reduceIte, Nat.reduceLT, Nat.reduceLeDiff, Nat.reduceEqDiff, Nat.reduceAdd, Nat.reduceMul, Nat.reduceSub, Nat.reduceBEq, Int.reduceToNat, List.reduceReplicate, reduceCtorEq, hget, hbb, Bool.not_false, Bool.not_true]
        repeat (refine And.intro (by first | omega | (and_intros <;> first | omega | exact rows_row _ | decide | (simp; done) | (simp; omega)) | fail) ?_)
        refine hK1 _ ?_
        clear hK1
        refine daopsE_cut 6 fun K1 hK1 => ?_
        simp only [go_sem, reduceIte, Nat.reduceLT, Nat.reduceLeDiff, Nat.reduceEqDiff, Nat.reduceAdd, Nat.reduceMul, Nat.reduceSub, Nat.reduceBEq, Int.reduceToNat, List.reduceReplicate, reduceCtorEq, hget, hbb, Bool.not_false, Bool.not_true]
        repeat (refine And.intro (by first | omega | (and_intros <;> first | omega | exact rows_row _ | decide | (simp; done) | (simp; omega)) | fail) ?_)
        refine hK1 _ ?_
        clear hK1
        simp only [go_sem, reduceIte, Nat.reduceLT, Nat.reduceLeDiff, Nat.reduceEqDiff, Nat.reduceAdd, Nat.reduceMul, Nat.reduceSub, Nat.reduceBEq, Int.reduceToNat, List.reduceReplicate, reduceCtorEq, hget, hbb, Bool.not_false, Bool.not_true]
        repeat (refine And.intro (by first | omega | (and_intros <;> first | omega | exact rows_row _ | decide | (simp; done) | (simp; omega)) | fail) ?_)
        refine hK _ (Aw_no rfl (Aw_skip (hB14 _ ?_)))
        refine Aw_st hE [3, 4, 5, 6, 77] [3, 4] fun K hK => ?_
        simp only [go_sem, reduceIte, Nat.reduceLT, Nat.reduceLeDiff, Nat.reduceEqDiff, Nat.reduceAdd, Nat.reduceMul, Nat.reduceSub, Nat.reduceBEq, Int.reduceToNat, List.reduceReplicate, reduceCtorEq, hget]
        repeat (refine And.intro (by first | omega | (and_intros <;> first | omega | exact rows_row _ | decide | (simp; done) | (simp; omega)) | fail) ?_)
        refine hK _ (Aw_no rfl (Aw_skip (hN13 _ (hB12 _ ?_))))
        refine Aw_tx hE [3, 4, 5, 6] [3, 4] fun K hK => ?_
        simp only [go_sem, reduceIte, Nat.reduceLT, Nat.reduceLeDiff, Nat.reduceEqDiff, Nat.reduceAdd, Nat.reduceMul, Nat.reduceSub, Nat.reduceBEq, Int.reduceToNat, List.reduceReplicate, reduceCtorEq]
        repeat (refine And.intro (by first | omega | (and_intros <;> first | omega | exact rows_row _ | decide | (simp; done) | (simp; omega)) | fail) ?_)
        refine hK _ (hN9 (i + 1) _ (by omega) (by omega) ?_)
        rw [htk]
        exact Le.refl _
      | false =>
        simp only [Bool.false_eq_true, if_false] at hfe
        have hrs : resR (ribFind ⟨h0, up, endL l⟩ rf rb) = .tup [.agg [iv rf, iv rb, isl p, iv rk, isl m], bv true] := by rw [hfe]; rfl
        apply (fun F0 F1 F2 F3 F4 F5 F6 F7 F8 F9 F10 => Aw_sD hE [([0, 1, 2, 3], (.alt 4 (.fst 5 (.fst 6 (.ref 4))) (.alt 12 (.ref 3) .non))), ([0, 1, 3, 12], (.alt 2 (.ref 3) .non)), ([1, 2, 3, 12], (.alt 0 (.ref 3) (.alt 4 (.fst 5 (.fst 6 (.ref 5))) .non))), ([0, 1, 2, 3, 12], (.alt 4 (.fst 5 (.fst 6 (.ref 7))) .non)), ([0, 1, 2, 3, 4, 5, 6], (.alt 7 (.ref 6) (.alt 12 (.ref 7) .non))), ([1, 2, 3, 4, 5, 6, 12], (.alt 0 (.ref 7) (.alt 7 (.ref 8) .non))), ([0, 1, 2, 3, 4, 5, 6, 7], (.alt 8 (.fst 9 (.fst 10 (.fst 11 (.alt 12 (.ref 10) .non)))) (.alt 12 (.ref 9) .non))), ([0, 1, 2, 3, 4, 5, 6, 12], (.alt 7 (.ref 9) .non)), ([1, 2, 3, 4, 5, 6, 7, 12], (.alt 0 (.ref 9) .non)), ([0, 1, 2, 3, 4, 5, 6, 7, 12], (.alt 8 (.fst 9 (.fst 10 (.fst 11 (.ref 10)))) .non)), ([0, 1, 2, 3, 4, 5, 6, 7, 8, 9, 10, 11, 12], (.alt 13 (.fst 14 .done) .non))] (.fst 1 (.fst 3 (.alt 0 (.alt 2 (.ref 0) (.alt 12 (.ref 1) .non)) (.alt 2 (.alt 0 (.ref 0) (.alt 4 (.fst 5 (.fst 6 (.alt 0 (.ref 4) (.alt 7 (.alt 0 (.ref 6) (.alt 12 (.ref 8) .non)) (.alt 12 (.ref 5) .non))))) (.alt 12 (.ref 2) .non))) (.alt 12 (.alt 0 (.ref 1) (.alt 2 (.ref 2) .non)) .non))))) [F0, F1, F2, F3, F4, F5, F6, F7, F8, F9, F10] [3, 4, 5, 6, 7, 8] [3, 4, 7])
        · kernel_rfl
        intro K hK
        refine And.intro ?_ ?_
        · simp only [go_sem, reduceIte, Nat.reduceLT, Nat.reduceLeDiff, Nat.reduceEqDiff, Nat.reduceAdd, Nat.reduceMul, Nat.reduceSub, Nat.reduceBEq, Int.reduceToNat, List.reduceReplicate, reduceCtorEq, hget, hrs]
          repeat' (first | exact (fun _ _ r => r) | exact LeE_eq (by simp only [go_sem, reduceIte, Nat.reduceLT, Nat.reduceLeDiff, Nat.reduceEqDiff, Nat.reduceAdd, Nat.reduceMul, Nat.reduceSub, Nat.reduceBEq, Int.reduceToNat, List.reduceReplicate, reduceCtorEq, hget, hrs]) (by simp only [go_sem, reduceIte, Nat.reduceLT, Nat.reduceLeDiff, Nat.reduceEqDiff, Nat.reduceAdd, Nat.reduceMul, Nat.reduceSub, Nat.reduceBEq, Int.reduceToNat, List.reduceReplicate, reduceCtorEq, hget, hrs]) | exact LeE_wk (by simp only [go_sem, reduceIte, Nat.reduceLT, Nat.reduceLeDiff, Nat.reduceEqDiff, Nat.reduceAdd, Nat.reduceMul, Nat.reduceSub, Nat.reduceBEq, Int.reduceToNat, List.reduceReplicate, reduceCtorEq, hget, hrs]) (by simp only [go_sem, reduceIte, Nat.reduceLT, Nat.reduceLeDiff, Nat.reduceEqDiff, Nat.reduceAdd, Nat.reduceMul, Nat.reduceSub, Nat.reduceBEq, Int.reduceToNat, List.reduceReplicate, reduceCtorEq, hget, hrs]) | refine And.intro (by first | omega | exact crows_row _ | exact rrows_row _ | exact rows_row _ | (and_intros <;> first | omega | exact crows_row _ | exact rrows_row _ | exact rows_row _ | decide | (simp; done) | (simp; omega)) | fail) ?_ | refine And.intro ?_ ?_)
        refine And.intro ?_ ?_
        · simp only [go_sem, reduceIte, Nat.reduceLT, Nat.reduceLeDiff, Nat.reduceEqDiff, Nat.reduceAdd, Nat.reduceMul, Nat.reduceSub, Nat.reduceBEq, Int.reduceToNat, List.reduceReplicate, reduceCtorEq, hget, hrs]
          repeat' (first | exact (fun _ _ r => r) | exact LeE_eq (by simp only [go_sem, reduceIte, Nat.reduceLT, Nat.reduceLeDiff, Nat.reduceEqDiff, Nat.reduceAdd, Nat.reduceMul, Nat.reduceSub, Nat.reduceBEq, Int.reduceToNat, List.reduceReplicate, reduceCtorEq, hget, hrs]) (by simp only [go_sem, reduceIte, Nat.reduceLT, Nat.reduceLeDiff, Nat.reduceEqDiff, Nat.reduceAdd, Nat.reduceMul, Nat.reduceSub, Nat.reduceBEq, Int.reduceToNat, List.reduceReplicate, reduceCtorEq, hget, hrs]) | exact LeE_wk (by simp only [go_sem, reduceIte, Nat.reduceLT, Nat.reduceLeDiff, Nat.reduceEqDiff, Nat.reduceAdd, Nat.reduceMul, Nat.reduceSub, Nat.reduceBEq, Int.reduceToNat, List.reduceReplicate, reduceCtorEq, hget, hrs]) (by simp only [go_sem, reduceIte, Nat.reduceLT, Nat.reduceLeDiff, Nat.reduceEqDiff, Nat.reduceAdd, Nat.reduceMul, Nat.reduceSub, Nat.reduceBEq, Int.reduceToNat, List.reduceReplicate, reduceCtorEq, hget, hrs]) | refine And.intro (by first | omega | exact crows_row _ | exact rrows_row _ | exact rows_row _ | (and_intros <;> first | omega | exact crows_row _ | exact rrows_row _ | exact rows_row _ | decide | (simp; done) | (simp; omega)) | fail) ?_ | refine And.intro ?_ ?_)
        refine And.intro ?_ ?_
        · simp only [go_sem, reduceIte, Nat.reduceLT, Nat.reduceLeDiff, Nat.reduceEqDiff, Nat.reduceAdd, Nat.reduceMul, Nat.reduceSub, Nat.reduceBEq, Int.reduceToNat, List.reduceReplicate, reduceCtorEq, hget, hrs]
          repeat' (first | exact (fun _ _ r => r) | exact LeE_eq (by simp only [go_sem, reduceIte, Nat.reduceLT, Nat.reduceLeDiff, Nat.reduceEqDiff, Nat.reduceAdd, Nat.reduceMul, Nat.reduceSub, Nat.reduceBEq, Int.reduceToNat, List.reduceReplicate, reduceCtorEq, hget, hrs]) (by simp only [go_sem, reduceIte, Nat.reduceLT, Nat.reduceLeDiff, Nat.reduceEqDiff, Nat.reduceAdd, Nat.reduceMul, Nat.reduceSub, Nat.reduceBEq, Int.reduceToNat, List.reduceReplicate, reduceCtorEq, hget, hrs]) | exact LeE_wk (by simp only [go_sem, reduceIte, Nat.reduceLT, Nat.reduceLeDiff, Nat.reduceEqDiff, Nat.reduceAdd, Nat.reduceMul, Nat.reduceSub, Nat.reduceBEq, Int.reduceToNat, List.reduceReplicate, reduceCtorEq, hget, hrs]) (by simp only [go_sem, reduceIte, Nat.reduceLT, Nat.reduceLeDiff, Nat.reduceEqDiff, Nat.reduceAdd, Nat.reduceMul, Nat.reduceSub, Nat.reduceBEq, Int.reduceToNat, List.reduceReplicate, reduceCtorEq, hget, hrs]) | refine And.intro (by first | omega | exact crows_row _ | exact rrows_row _ | exact rows_row _ | (and_intros <;> first | omega | exact crows_row _ | exact rrows_row _ | exact rows_row _ | decide | (simp; done) | (simp; omega)) | fail) ?_ | refine And.intro ?_ ?_)
        refine And.intro ?_ ?_
        · simp only [go_sem, reduceIte, Nat.reduceLT, Nat.reduceLeDiff, Nat.reduceEqDiff, Nat.reduceAdd, Nat.reduceMul, Nat.reduceSub, Nat.reduceBEq, Int.reduceToNat, List.reduceReplicate, reduceCtorEq, hget, hrs]
          repeat' (first | exact (fun _ _ r => r) | exact LeE_eq (by simp only [go_sem, reduceIte, Nat.reduceLT, Nat.reduceLeDiff, Nat.reduceEqDiff, Nat.reduceAdd, Nat.reduceMul, Nat.reduceSub, Nat.reduceBEq, Int.reduceToNat, List.reduceReplicate, reduceCtorEq, hget, hrs]) (by simp only [go_sem, reduceIte, Nat.reduceLT, Nat.reduceLeDiff, Nat.reduceEqDiff, Nat.reduceAdd, Nat.reduceMul, Nat.reduceSub, Nat.reduceBEq, Int.reduceToNat, List.reduceReplicate, reduceCtorEq, hget, hrs]) | exact LeE_wk (by simp only [go_sem, reduceIte, Nat.reduceLT, Nat.reduceLeDiff, Nat.reduceEqDiff, Nat.reduceAdd, Nat.reduceMul, Nat.reduceSub, Nat.reduceBEq, Int.reduceToNat, List.reduceReplicate, reduceCtorEq, hget, hrs]) (by simp only [go_sem, reduceIte, Nat.reduceLT, Nat.reduceLeDiff, Nat.reduceEqDiff, Nat.reduceAdd, Nat.reduceMul, Nat.reduceSub, Nat.reduceBEq, Int.reduceToNat, List.reduceReplicate, reduceCtorEq, hget, hrs]) | refine And.intro (by first | omega | exact crows_row _ | exact rrows_row _ | exact rows_row _ | (and_intros <;> first | omega | exact crows_row _ | exact rrows_row _ | exact rows_row _ | decide | (simp; done) | (simp; omega)) | fail) ?_ | refine And.intro ?_ ?_)
        refine And.intro ?_ ?_
        · simp only [go_sem, reduceIte, Nat.reduceLT, Nat.reduceLeDiff, Nat.reduceEqDiff, Nat.reduceAdd, Nat.reduceMul, Nat.reduceSub, Nat.reduceBEq, Int.reduceToNat, List.reduceReplicate, reduceCtorEq, hget, hrs]
          repeat' (first | exact (fun _ _ r => r) | exact LeE_eq (by simp only [go_sem, reduceIte, Nat.reduceLT, Nat.reduceLeDiff, Nat.reduceEqDiff, Nat.reduceAdd, Nat.reduceMul, Nat.reduceSub, Nat.reduceBEq, Int.reduceToNat, List.reduceReplicate, reduceCtorEq, hget, hrs]) (by simp only [go_sem, reduceIte, Nat.reduceLT, Nat.reduceLeDiff, Nat.reduceEqDiff, Nat.reduceAdd, Nat.reduceMul, Nat.reduceSub, Nat.reduceBEq, Int.reduceToNat, List.reduceReplicate, reduceCtorEq, hget, hrs]) | exact LeE_wk (by simp only [go_sem, reduceIte, Nat.reduceLT, Nat.reduceLeDiff, Nat.reduceEqDiff, Nat.reduceAdd, Nat.reduceMul, Nat.reduceSub, Nat.reduceBEq, Int.reduceToNat, List.reduceReplicate, reduceCtorEq, hget, hrs]) (by simp only [go_sem, reduceIte, Nat.reduceLT, Nat.reduceLeDiff, Nat.reduceEqDiff, Nat.reduceAdd, Nat.reduceMul, Nat.reduceSub, Nat.reduceBEq, Int.reduceToNat, List.reduceReplicate, reduceCtorEq, hget, hrs]) | refine And.intro (by first | omega | exact crows_row _ | exact rrows_row _ | exact rows_row _ | (and_intros <;> first | omega | exact crows_row _ | exact rrows_row _ | exact rows_row _ | decide | (simp; done) | (simp; omega)) | fail) ?_ | refine And.intro ?_ ?_)
        refine And.intro ?_ ?_
        · simp only [go_sem, reduceIte, Nat.reduceLT, Nat.reduceLeDiff, Nat.reduceEqDiff, Nat.reduceAdd, Nat.reduceMul, Nat.reduceSub, Nat.reduceBEq, Int.reduceToNat, List.reduceReplicate, reduceCtorEq, hget, hrs]
          repeat' (first | exact (fun _ _ r => r) | exact LeE_eq (by simp only [go_sem, reduceIte, Nat.reduceLT, Nat.reduceLeDiff, Nat.reduceEqDiff, Nat.reduceAdd, Nat.reduceMul, Nat.reduceSub, Nat.reduceBEq, Int.reduceToNat, List.reduceReplicate, reduceCtorEq, hget, hrs]) (by simp only [go_sem, reduceIte, Nat.reduceLT, Nat.reduceLeDiff, Nat.reduceEqDiff, Nat.reduceAdd, Nat.reduceMul, Nat.reduceSub, Nat.reduceBEq, Int.reduceToNat, List.reduceReplicate, reduceCtorEq, hget, hrs]) | exact LeE_wk (by simp only [go_sem, reduceIte, Nat.reduceLT, Nat.reduceLeDiff, Nat.reduceEqDiff, Nat.reduceAdd, Nat.reduceMul, Nat.reduceSub, Nat.reduceBEq, Int.reduceToNat, List.reduceReplicate, reduceCtorEq, hget, hrs]) (by simp only [go_sem, reduceIte, Nat.reduceLT, Nat.reduceLeDiff, Nat.reduceEqDiff, Nat.reduceAdd, Nat.reduceMul, Nat.reduceSub, Nat.reduceBEq, Int.reduceToNat, List.reduceReplicate, reduceCtorEq, hget, hrs]) | refine And.intro (by first | omega | exact crows_row _ | exact rrows_row _ | exact rows_row _ | (and_intros <;> first | omega | exact crows_row _ | exact rrows_row _ | exact rows_row _ | decide | (simp; done) | (simp; omega)) | fail) ?_ | refine And.intro ?_ ?_)
        refine And.intro ?_ ?_
        · simp only [go_sem, reduceIte, Nat.reduceLT, Nat.reduceLeDiff, Nat.reduceEqDiff, Nat.reduceAdd, Nat.reduceMul, Nat.reduceSub, Nat.reduceBEq, Int.reduceToNat, List.reduceReplicate, reduceCtorEq, hget, hrs]
          repeat' (first | exact (fun _ _ r => r) | exact LeE_eq (by simp only [go_sem, reduceIte, Nat.reduceLT, Nat.reduceLeDiff, Nat.reduceEqDiff, Nat.reduceAdd, Nat.reduceMul, Nat.reduceSub, Nat.reduceBEq, Int.reduceToNat, List.reduceReplicate, reduceCtorEq, hget, hrs]) (by simp only [go_sem, reduceIte, Nat.reduceLT, Nat.reduceLeDiff, Nat.reduceEqDiff, Nat.reduceAdd, Nat.reduceMul, Nat.reduceSub, Nat.reduceBEq, Int.reduceToNat, List.reduceReplicate, reduceCtorEq, hget, hrs]) | exact LeE_wk (by simp only [go_sem, reduceIte, Nat.reduceLT, Nat.reduceLeDiff, Nat.reduceEqDiff, Nat.reduceAdd, Nat.reduceMul, Nat.reduceSub, Nat.reduceBEq, Int.reduceToNat, List.reduceReplicate, reduceCtorEq, hget, hrs]) (by simp only [go_sem, reduceIte, Nat.reduceLT, Nat.reduceLeDiff, Nat.reduceEqDiff, Nat.reduceAdd, Nat.reduceMul, Nat.reduceSub, Nat.reduceBEq, Int.reduceToNat, List.reduceReplicate, reduceCtorEq, hget, hrs]) | refine And.intro (by first | omega | exact crows_row _ | exact rrows_row _ | exact rows_row _ | (and_intros <;> first | omega | exact crows_row _ | exact rrows_row _ | exact rows_row _ | decide | (simp; done) | (simp; omega)) | fail) ?_ | refine And.intro ?_ ?_)
        refine And.intro ?_ ?_
        · simp only [go_sem, reduceIte, Nat.reduceLT, Nat.reduceLeDiff, Nat.reduceEqDiff, Nat.reduceAdd, Nat.reduceMul, Nat.reduceSub, Nat.reduceBEq, Int.reduceToNat, List.reduceReplicate, reduceCtorEq, hget, hrs]
          repeat' (first | exact (fun _ _ r => r) | exact LeE_eq (by simp only [go_sem, reduceIte, Nat.reduceLT, Nat.reduceLeDiff, Nat.reduceEqDiff, Nat.reduceAdd, Nat.reduceMul, Nat.reduceSub, Nat.reduceBEq, Int.reduceToNat, List.reduceReplicate, reduceCtorEq, hget, hrs]) (by simp only [go_sem, reduceIte, Nat.reduceLT, Nat.reduceLeDiff, Nat.reduceEqDiff, Nat.reduceAdd, Nat.reduceMul, Nat.reduceSub, Nat.reduceBEq, Int.reduceToNat, List.reduceReplicate, reduceCtorEq, hget, hrs]) | exact LeE_wk (by simp only [go_sem, reduceIte, Nat.reduceLT, Nat.reduceLeDiff, Nat.reduceEqDiff, Nat.reduceAdd, Nat.reduceMul, Nat.reduceSub, Nat.reduceBEq, Int.reduceToNat, List.reduceReplicate, reduceCtorEq, hget, hrs]) (by simp only [go_sem, reduceIte, Nat.reduceLT, Nat.reduceLeDiff, Nat.reduceEqDiff, Nat.reduceAdd, Nat.reduceMul, Nat.reduceSub, Nat.reduceBEq, Int.reduceToNat, List.reduceReplicate, reduceCtorEq, hget, hrs]) | refine And.intro (by first | omega | exact crows_row _ | exact rrows_row _ | exact rows_row _ | (and_intros <;> first | omega | exact crows_row _ | exact rrows_row _ | exact rows_row _ | decide | (simp; done) | (simp; omega)) | fail) ?_ | refine And.intro ?_ ?_)
        refine And.intro ?_ ?_
        · simp only [go_sem, reduceIte, Nat.reduceLT, Nat.reduceLeDiff, Nat.reduceEqDiff, Nat.reduceAdd, Nat.reduceMul, Nat.reduceSub, Nat.reduceBEq, Int.reduceToNat, List.reduceReplicate, reduceCtorEq, hget, hrs]
          repeat' (first | exact (fun _ _ r => r) | exact LeE_eq (by simp only [go_sem, reduceIte, Nat.reduceLT, Nat.reduceLeDiff, Nat.reduceEqDiff, Nat.reduceAdd, Nat.reduceMul, Nat.reduceSub, Nat.reduceBEq, Int.reduceToNat, List.reduceReplicate, reduceCtorEq, hget, hrs]) (by simp only [go_sem, reduceIte, Nat.reduceLT, Nat.reduceLeDiff, Nat.reduceEqDiff, Nat.reduceAdd, Nat.reduceMul, Nat.reduceSub, Nat.reduceBEq, Int.reduceToNat, List.reduceReplicate, reduceCtorEq, hget, hrs]) | exact LeE_wk (by simp only [go_sem, reduceIte, Nat.reduceLT, Nat.reduceLeDiff, Nat.reduceEqDiff, Nat.reduceAdd, Nat.reduceMul, Nat.reduceSub, Nat.reduceBEq, Int.reduceToNat, List.reduceReplicate, reduceCtorEq, hget, hrs]) (by simp only [go_sem, reduceIte, Nat.reduceLT, Nat.reduceLeDiff, Nat.reduceEqDiff, Nat.reduceAdd, Nat.reduceMul, Nat.reduceSub, Nat.reduceBEq, Int.reduceToNat, List.reduceReplicate, reduceCtorEq, hget, hrs]) | refine And.intro (by first | omega | exact crows_row _ | exact rrows_row _ | exact rows_row _ | (and_intros <;> first | omega | exact crows_row _ | exact rrows_row _ | exact rows_row _ | decide | (simp; done) | (simp; omega)) | fail) ?_ | refine And.intro ?_ ?_)
        refine And.intro ?_ ?_
        · simp only [go_sem, reduceIte, Nat.reduceLT, Nat.reduceLeDiff, Nat.reduceEqDiff, Nat.reduceAdd, Nat.reduceMul, Nat.reduceSub, Nat.reduceBEq, Int.reduceToNat, List.reduceReplicate, reduceCtorEq, hget, hrs]
          repeat' (first | exact (fun _ _ r => r) | exact LeE_eq (by simp only [go_sem, reduceIte, Nat.reduceLT, Nat.reduceLeDiff, Nat.reduceEqDiff, Nat.reduceAdd, Nat.reduceMul, Nat.reduceSub, Nat.reduceBEq, Int.reduceToNat, List.reduceReplicate, reduceCtorEq, hget, hrs]) (by simp only [go_sem, reduceIte, Nat.reduceLT, Nat.reduceLeDiff, Nat.reduceEqDiff, Nat.reduceAdd, Nat.reduceMul, Nat.reduceSub, Nat.reduceBEq, Int.reduceToNat, List.reduceReplicate, reduceCtorEq, hget, hrs]) | exact LeE_wk (by simp only [go_sem, reduceIte, Nat.reduceLT, Nat.reduceLeDiff, Nat.reduceEqDiff, Nat.reduceAdd, Nat.reduceMul, Nat.reduceSub, Nat.reduceBEq, Int.reduceToNat, List.reduceReplicate, reduceCtorEq, hget, hrs]) (by simp only [go_sem, reduceIte, Nat.reduceLT, Nat.reduceLeDiff, Nat.reduceEqDiff, Nat.reduceAdd, Nat.reduceMul, Nat.reduceSub, Nat.reduceBEq, Int.reduceToNat, List.reduceReplicate, reduceCtorEq, hget, hrs]) | refine And.intro (by first | omega | exact crows_row _ | exact rrows_row _ | exact rows_row _ | (and_intros <;> first | omega | exact crows_row _ | exact rrows_row _ | exact rows_row _ | decide | (simp; done) | (simp; omega)) | fail) ?_ | refine And.intro ?_ ?_)
        refine And.intro ?_ ?_
        · simp only [go_sem, reduceIte, Nat.reduceLT, Nat.reduceLeDiff, Nat.reduceEqDiff, Nat.reduceAdd, Nat.reduceMul, Nat.reduceSub, Nat.reduceBEq, Int.reduceToNat, List.reduceReplicate, reduceCtorEq, hget, hrs]
          repeat' (first | exact (fun _ _ r => r) | exact LeE_eq (by simp only [go_sem, reduceIte, Nat.reduceLT, Nat.reduceLeDiff, Nat.reduceEqDiff, Nat.reduceAdd, Nat.reduceMul, Nat.reduceSub, Nat.reduceBEq, Int.reduceToNat, List.reduceReplicate, reduceCtorEq, hget, hrs]) (by simp only [go_sem, reduceIte, Nat.reduceLT, Nat.reduceLeDiff, Nat.reduceEqDiff, Nat.reduceAdd, Nat.reduceMul, Nat.reduceSub, Nat.reduceBEq, Int.reduceToNat, List.reduceReplicate, reduceCtorEq, hget, hrs]) | exact LeE_wk (by simp only [go_sem, reduceIte, Nat.reduceLT, Nat.reduceLeDiff, Nat.reduceEqDiff, Nat.reduceAdd, Nat.reduceMul, Nat.reduceSub, Nat.reduceBEq, Int.reduceToNat, List.reduceReplicate, reduceCtorEq, hget, hrs]) (by simp only [go_sem, reduceIte, Nat.reduceLT, Nat.reduceLeDiff, Nat.reduceEqDiff, Nat.reduceAdd, Nat.reduceMul, Nat.reduceSub, Nat.reduceBEq, Int.reduceToNat, List.reduceReplicate, reduceCtorEq, hget, hrs]) | refine And.intro (by first | omega | exact crows_row _ | exact rrows_row _ | exact rows_row _ | (and_intros <;> first | omega | exact crows_row _ | exact rrows_row _ | exact rows_row _ | decide | (simp; done) | (simp; omega)) | fail) ?_ | refine And.intro ?_ ?_)
        refine And.intro ?_ trivial
        simp only [go_sem, reduceIte, Nat.reduceLT, Nat.reduceLeDiff, Nat.reduceEqDiff, Nat.reduceAdd, Nat.reduceMul, Nat.reduceSub, Nat.reduceBEq, Int.reduceToNat, List.reduceReplicate, reduceCtorEq, hget, hrs]
        refine hK _ ?_; clear hK K
        refine Aw_sq fun B14 hB14 hR14 hX14 => ?_
        have hbb : (true == false) = false := rfl
        refine Aw_se hE [0, 1, 3, 2, 4, 5, 6, 7, 8, 9, 10, 11, 12, 13, 14, 15, 16, 17, 18, 19, 20, 21] [0, 0, 2, 0, 14, 30, 62, 127, 255, 511, 1023, 2047, 2047, 6143, 2047, 30719, 63487, 129023, 262143, 524287, 1048575, 2097151] [3, 4, 5, 6, 70] [3, 4] (by kernel_rfl) fun K hK => ?_
        refine daopsE_cut 6 fun K1 hK1 => ?_
        simp only [go_sem, reduceIte, Nat.reduceLT, Nat.reduceLeDiff, Nat.reduceEqDiff, Nat.reduceAdd, Nat.reduceMul, Nat.reduceSub, Nat.reduceBEq, Int.reduceToNat, List.reduceReplicate, reduceCtorEq, hget, hbb, Bool.not_false, Bool.not_true, and_self, decide_true]
        repeat (refine And.intro (by first | omega | (and_intros <;> first | omega | exact rows_row _ | decide | (simp; done) | (simp; omega)) | fail) ?_)
        refine hK1 _ ?_
        clear hK1
        refine daopsE_cut 6 fun K1 hK1 => ?_
        simp only [go_sem, reduceIte, Nat.reduceLT, Nat.reduceLeDiff, Nat.reduceEqDiff, Nat.reduceAdd, Nat.reduceMul, Nat.reduceSub, Nat.reduceBEq, Int.reduceToNat, List.reduceReplicate, reduceCtorEq, hget, hbb, Bool.not_false, Bool.not_true, and_self, decide_true]
        repeat (refine And.intro (by first | omega | (and_intros <;> first | omega | exact rows_row _ | decide | (simp; done) | (simp; omega)) | fail) ?_)
        refine hK1 _ ?_
        clear hK1
        refine daopsE_cut 6 fun K1 hK1 => ?_
        simp only [go_sem, reduceIte, Nat.reduceLT, Nat.reduceLeDiff, Nat.reduceEqDiff, Nat.reduceAdd, Nat.reduceMul, Nat.reduceSub, Nat.reduceBEq, Int.reduceToNat, List.reduceReplicate, reduceCtorEq, hget, hbb, Bool.not_false, Bool.not_true, and_self, decide_true]
        repeat (refine And.intro (by first | omega | (and_intros <;> first | omega | exact rows_row _ | decide | (simp; done) | (simp; omega)) | fail) ?_)
        refine hK1 _ ?_
        clear hK1
        simp only [go_sem, reduceIte, Nat.reduceLT, Nat.reduceLeDiff, Nat.reduceEqDiff, Nat.reduceAdd, Nat.reduceMul, Nat.reduceSub, Nat.reduceBEq, Int.reduceToNat, List.reduceReplicate, reduceCtorEq, hget, hbb, Bool.not_false, Bool.not_true, and_self, decide_true]
        repeat (refine And.intro (by first | omega | (and_intros <;> first | omega | exact rows_row _ | decide | (simp; done) | (simp; omega)) | fail) ?_)
        refine hK _ (Aw_no rfl (Aw_skip (hB14 _ ?_)))
        refine Aw_st hE [3, 4, 5, 6, 77] [3, 4] fun K hK => ?_
        simp only [go_sem, reduceIte, Nat.reduceLT, Nat.reduceLeDiff, Nat.reduceEqDiff, Nat.reduceAdd, Nat.reduceMul, Nat.reduceSub, Nat.reduceBEq, Int.reduceToNat, List.reduceReplicate, reduceCtorEq, hget]
        repeat (refine And.intro (by first | omega | (and_intros <;> first | omega | exact rows_row _ | decide | (simp; done) | (simp; omega)) | fail) ?_)
        refine hK _ (Aw_yes rfl ?_)
        refine Aw_tx hE [3, 4, 5, 6] [3, 4] fun K hK => ?_
        simp only [go_sem, reduceIte, Nat.reduceLT, Nat.reduceLeDiff, Nat.reduceEqDiff, Nat.reduceAdd, Nat.reduceMul, Nat.reduceSub, Nat.reduceBEq, Int.reduceToNat, List.reduceReplicate, reduceCtorEq]
        repeat (refine And.intro (by first | omega | (and_intros <;> first | omega | exact rows_row _ | decide | (simp; done) | (simp; omega)) | fail) ?_)
        refine hK _ (hN13 _ (hB12 _ ?_))
        refine Aw_tx hE [3, 4, 5, 6] [3, 4] fun K hK => ?_
        simp only [go_sem, reduceIte, Nat.reduceLT, Nat.reduceLeDiff, Nat.reduceEqDiff, Nat.reduceAdd, Nat.reduceMul, Nat.reduceSub, Nat.reduceBEq, Int.reduceToNat, List.reduceReplicate, reduceCtorEq]
        repeat (refine And.intro (by first | omega | (and_intros <;> first | omega | exact rows_row _ | decide | (simp; done) | (simp; omega)) | fail) ?_)
        refine hK _ (hN9 (i + 1) _ (by omega) (by omega) ?_)
        rw [htk]
        exact Le.refl _
    · simp only [decide_eq_false_iff_not] at hc11
      have hil : i = l.length := by omega
      subst hil
      rw [List.take_length]
      refine Aw_exit (hX10 _ _ (hX9 _ _ (hE8 _ (hB7 _ ?_))))
      have hokd := ribOk_down (g := true) hok
      simp only [if_true] at hokd
      have hml : (l.map oldG).length = l.length := List.length_map _
      refine Aw_sd hE [2] [] 6 (by kernel_rfl) fun K hK => ?_
      simp only [go_sem, reduceIte, Nat.reduceLT, Nat.reduceLeDiff, Nat.reduceEqDiff, Nat.reduceAdd, Nat.reduceMul, Nat.reduceSub, Nat.reduceBEq, Int.reduceToNat, List.reduceReplicate, reduceCtorEq, hok, hok2, hokd, if_true, endL_end, endL_old, hrk, hml, decide_true, Bool.and_self]
      refine ⟨⟨by omega, hlg2⟩, ⟨⟨by omega, hlg2⟩, by omega, hlg2⟩, ⟨by omega, hlg⟩, ⟨by omega, lensG_old hlg⟩, fun _ => ?_, fun h => absurd h (by simp)⟩
      refine hK _ (Aw_ret (hQ _ ?_))
      simp only [go_sem, reduceIte, Nat.reduceLT, Nat.reduceLeDiff, Nat.reduceEqDiff, Nat.reduceAdd, Nat.reduceMul, Nat.reduceSub, Nat.reduceBEq, Int.reduceToNat, List.reduceReplicate, reduceCtorEq]
end Go.Proofs.W
end
