/- YtgfclgpljhiicaaDoorWd: part of the proof that laws hold, for every input that the row speaks of (no condition of ours). -/
import Derived.Test.YtgfclgpljhiicaaDoorWc
import Derived.Test.YtgfclgpljhiicaaDoorWa
set_option linter.unusedVariables false
set_option linter.unusedSimpArgs false
section
namespace Go.Proofs.W
open Go Go.Eng Go.RowKit
set_option linter.unusedSimpArgs false
set_option maxRecDepth 100000
/-! relations are drawn: filled -/
set_option maxHeartbeats 16000000 in
theorem relsB2 {E:En} (hE:TbOk E tbRels) {k:Nat} (hk:k + 40≤1099511627776) {Q:Exit→St→Prop} (hQ:∀ (L:List (List Int)) (rn:Nat),(2≤L.length∧L.length≤5)→(∀ w ∈ L,w.length=L.length)→rn≤k + 40→Aw E .ret ⟨111,[(2,wsl L)],[],rn⟩ Q) {r:Nat→List Int} (hr:∀ q,(r q).length=2) {d:Nat→Nat} {c:Nat}:Aw E (seqB (seqB (seqB (seqB (Tryd.f30.body.getD .skip))))) ⟨111,[(0,.rd),(3,iv 2),(4,.xs 700 0 2 (c + 2) 1)],(700,vws 2 d 710 2++jN c)::bxs 2 d r 710 2,k + 1⟩ Q:=by
 refine Aw_st hE [0,3,4,6] [700,701,710,711,712,713,714,720,721,722,723,724] fun K hK=>?_
 simp only [go_sem,seval]
 refine ⟨by omega,fun x hx1 hx2=>?_⟩
 generalize decide (x=0)=bb
 refine hK _ ?_;clear hK K
 refine Aw_sqJ (fun i:(Nat→List Int) × Nat=>⟨111,[(0,.rd),(3,iv 2),(4,.xs 700 0 2 (c + 2) 1)],(700,vws 2 d 710 2++jN c)::bxs 2 d i.1 710 2,i.2⟩) (fun i=>(∀ x,(i.1 x).length=2)∧i.2≤k + 29) (fun i hi=>relsR2 hE hk hQ hi.1 hi.2) fun B1 hB1 hR1 hX1=>?_
 refine Aw_st hE [0,3,4,6,7] [700,701,710,711,712,713,714,720,721,722,723,724] fun K hK=>?_
 simp only [go_sem,seval]
 refine hK _ ?_;clear hK K
 refine Aw_bk fun B2 hN2 hE2 hR2 hX2=>?_
 refine Aw_lp (fun i:Nat × (Nat→List Int)=>⟨111,[(0,.rd),(3,iv 2),(4,.xs 700 0 2 (c + 2) 1),(6,bv bb),(7,iv (i.1:Int))],(700,vws 2 d 710 2++jN c)::bxs 2 d i.2 710 2,k + 2 + i.1 * (3 - i.1)⟩) (fun i=>i.1≤2∧∀ x,(i.2 x).length=2) (fun i=>2 - i.1) (0,r) (Le_wk (by first | omega | (dsimp only;omega) | (simp only;omega) | (simp;omega)) (by simp only [go_sem,seval]) (by simp only [go_sem,seval])) ⟨by omega,hr⟩ fun i hi B3 hN3 hR3 hX3=>?_
 obtain ⟨a,r⟩:=i
 obtain ⟨hi,hr⟩:=hi
 simp only at hi hr
 refine Aw_sq fun B4 hB4 hR4 hX4=>?_
 rcases (show a=2∨a=0∨a=1 by omega) with rfl | rfl | rfl
 ·refine Aw_st hE [0,3,4,6,7,33] [700,701,710,711,712,713,714,720,721,722,723,724] fun K hK=>?_
  simp only [go_sem,seval]
  refine hK _ (Aw_no rfl (Aw_exit (hX4 _ _ (hX3 _ _ (hE2 _ (hB1 (r,k + 29) _ ⟨hr,by simp only;omega⟩ (LeE_of (Le_wk (by first | omega | (dsimp only;omega) | (simp only;omega) | (simp;omega)) (by simp only [go_sem,seval]) (by simp only [go_sem,seval])))))))))
 ·refine Aw_st hE [0,3,4,6,7,33] [700,701,710,711,712,713,714,720,721,722,723,724] fun K hK=>?_
  simp only [go_sem,seval]
  refine hK _ (Aw_yes rfl (Aw_skip (hB4 _ ?_)))
  refine Aw_sq fun B6 hB6 hR6 hX6=>?_
  refine Aw_bk fun B7 hN7 hE7 hR7 hX7=>?_
  refine Aw_st hE [0,3,4,6,7,8] [700,701,710,711,712,713,714,720,721,722,723,724] fun K hK=>?_
  simp only [go_sem,seval]
  refine hK _ ?_;clear hK K
  refine Aw_bk fun B8 hN8 hE8 hR8 hX8=>?_
  refine Aw_lp (fun i:Nat × (Nat→List Int)=>⟨111,[(0,.rd),(3,iv 2),(4,.xs 700 0 2 (c + 2) 1),(6,bv bb),(7,iv 0),(8,iv (i.1:Int))],(700,vws 2 d 710 2++jN c)::bxs 2 d i.2 710 2,k + 0 + 2 * i.1⟩) (fun i=>1≤i.1∧i.1≤2∧∀ x,(i.2 x).length=2) (fun i=>2 - i.1) (1,r) (Le_wk (by first | omega | (dsimp only;omega) | (simp only;omega) | (simp;omega)) (by simp only [go_sem,seval]) (by simp only [go_sem,seval])) ⟨by omega,by omega,hr⟩ fun i hi B9 hN9 hR9 hX9=>?_
  obtain ⟨b,r⟩:=i
  obtain ⟨hi1,hi2,hr⟩:=hi
  simp only at hi1 hi2 hr
  have hr0:=hr 0
  have hr1:=hr 1
  refine Aw_sq fun B10 hB10 hR10 hX10=>?_
  rcases (show b=2∨b=1 by omega) with rfl | rfl
  ·refine Aw_st hE [0,3,4,6,7,8,40] [700,701,710,711,712,713,714,720,721,722,723,724] fun K hK=>?_
   simp only [go_sem,seval]
   refine hK _ (Aw_no rfl (Aw_exit (hX10 _ _ (hX9 _ _ (hE8 _ ?_)))))
   refine hN7 _ (hB6 _ ?_)
   refine Aw_tx hE [0,3,4,6,7] [700,701,710,711,712,713,714,720,721,722,723,724] fun K hK=>?_
   simp only [go_sem,seval]
   repeat refine ⟨by first|omega|(and_intros<;>first|omega|exact rows_row _|exact wrows_row _|decide|(simp<;>omega))|fail,?_⟩
   refine hK _ (hN3 (1,r) _ ⟨by omega,hr⟩ (by simp only;omega) (Le_wk (by first | omega | (dsimp only;omega) | (simp only;omega) | (simp;omega)) (by simp only [go_sem,seval]) (by simp only [go_sem,seval])))
  ·refine Aw_st hE [0,3,4,6,7,8,40] [700,701,710,711,712,713,714,720,721,722,723,724] fun K hK=>?_
   simp only [go_sem,seval]
   refine hK _ (Aw_yes rfl (Aw_skip (hB10 _ ?_)))
   refine Aw_sq fun B11 hB11 hR11 hX11=>?_
   refine Aw_bk fun B12 hN12 hE12 hR12 hX12=>?_
   refine Aw_st hE [0,3,4,6,7,8,9] [700,701,710,711,712,713,714,720,721,722,723,724] fun K hK=>?_
   refine aops_cut 3 fun K1 hK1=>?_
   simp only [go_sem,seval]
   repeat refine ⟨by first|omega|(and_intros<;>first|omega|exact rows_row _|exact wrows_row _|decide|(simp<;>omega))|fail,?_⟩
   intro x hx1 hx2
   obtain ⟨v,hv,hv1,hv2⟩:=pick4 x hx1 hx2
   refine hK1 _ ?_
   clear hK1
   simp only [go_sem,seval,hv]
   repeat refine ⟨by first|omega|(and_intros<;>first|omega|exact rows_row _|exact wrows_row _|decide|(simp<;>omega))|fail,?_⟩
   refine hK _ ?_;clear hK K
   refine Aw_sqJ (fun v:Int=>⟨111,[(0,.rd),(3,iv 2),(4,.xs 700 0 2 (c + 2) 1),(6,bv bb),(7,iv 0),(8,iv 1),(9,iv v)],(700,vws 2 d 710 2++jN c)::bxs 2 d r 710 2,k + 4⟩) (fun v=>0≤v∧v≤3) (fun v hv=>?_) fun B13 hB13 hR13 hX13=>?_
   ·have hs1:=cI_set (r 0) (d 0) 1 v (by omega)
    have hs2:=fun y=>cI_set (r 1) (d 1) 0 y (by omega)
    obtain ⟨hv1,hv2⟩:=hv
    refine Aw_st hE [0,3,4,6,7,8,9] [700,701,710,711,712,713,714,720,721,722,723,724] fun K hK=>?_
    simp only [go_sem,seval,hs1]
    refine ⟨by omega,?_⟩
    refine hK _ ?_;clear hK K
    refine Aw_td hE [0,3,4,6,7,8] [700,701,710,711,712,713,714,720,721,722,723,724] 6 (by kernel_rfl) fun K hK=>?_
    simp only [go_sem,seval,hs2,hv1,hv2]
    refine ⟨by omega,hK _ (hN12 _ (hB11 _ ?_))⟩
    refine Aw_tx hE [0,3,4,6,7,8] [700,701,710,711,712,713,714,720,721,722,723,724] fun K hK=>?_
    simp only [go_sem,seval]
    repeat refine ⟨by first|omega|(and_intros<;>first|omega|exact rows_row _|exact wrows_row _|decide|(simp<;>omega))|fail,?_⟩
    refine hK _ (hN9 (2,upd (upd r 0 1 v) 1 0 (mirr v)) _ ⟨by omega,by omega,upd_len (upd_len hr)⟩ (by simp only;omega) (Le_wk (by first | omega | (dsimp only;omega) | (simp only;omega) | (simp;omega)) (by simp only [go_sem,seval,upd]) (by simp only [go_sem,seval,upd])))
   ·refine Aw_st hE [0,3,4,6,7,8,9,53] [700,701,710,711,712,713,714,720,721,722,723,724] fun K hK=>?_
    simp only [go_sem,seval]
    refine ⟨fun hg23=>⟨by omega,fun y hy1 hy2=>?_⟩,fun hg23=>?_⟩
    ·refine hK _ (Aw_cond rfl (fun hc24=>?_) (fun hc24=>?_))
     ·refine Aw_tx hE [0,3,4,6,7,8,9] [700,701,710,711,712,713,714,720,721,722,723,724] fun K hK=>?_
      simp only [go_sem,seval]
      exact hK _ (hB13 3 _ ⟨by decide,by decide⟩ (LeE_of (Le_wk (by first | omega | (dsimp only;omega) | (simp only;omega) | (simp;omega)) (by simp only [go_sem,seval]) (by simp only [go_sem,seval]))))
     ·exact Aw_skip (hB13 v _ ⟨hv1,hv2⟩ (LeE_of (Le_wk (by first | omega | (dsimp only;omega) | (simp only;omega) | (simp;omega)) (by simp only [go_sem,seval]) (by simp only [go_sem,seval]))))
    ·exact hK _ (Aw_no rfl (Aw_skip (hB13 v _ ⟨hv1,hv2⟩ (LeE_of (Le_wk (by first | omega | (dsimp only;omega) | (simp only;omega) | (simp;omega)) (by simp only [go_sem,seval]) (by simp only [go_sem,seval]))))))
 ·refine Aw_st hE [0,3,4,6,7,33] [700,701,710,711,712,713,714,720,721,722,723,724] fun K hK=>?_
  simp only [go_sem,seval]
  refine hK _ (Aw_yes rfl (Aw_skip (hB4 _ ?_)))
  refine Aw_sq fun B6 hB6 hR6 hX6=>?_
  refine Aw_bk fun B7 hN7 hE7 hR7 hX7=>?_
  refine Aw_st hE [0,3,4,6,7,8] [700,701,710,711,712,713,714,720,721,722,723,724] fun K hK=>?_
  simp only [go_sem,seval]
  refine hK _ ?_;clear hK K
  refine Aw_bk fun B8 hN8 hE8 hR8 hX8=>?_
  refine Aw_lp (fun i:Nat × (Nat→List Int)=>⟨111,[(0,.rd),(3,iv 2),(4,.xs 700 0 2 (c + 2) 1),(6,bv bb),(7,iv 1),(8,iv (i.1:Int))],(700,vws 2 d 710 2++jN c)::bxs 2 d i.2 710 2,k + 0 + 2 * i.1⟩) (fun i=>2≤i.1∧i.1≤2∧∀ x,(i.2 x).length=2) (fun i=>2 - i.1) (2,r) (Le_wk (by first | omega | (dsimp only;omega) | (simp only;omega) | (simp;omega)) (by simp only [go_sem,seval]) (by simp only [go_sem,seval])) ⟨by omega,by omega,hr⟩ fun i hi B9 hN9 hR9 hX9=>?_
  obtain ⟨b,r⟩:=i
  obtain ⟨hi1,hi2,hr⟩:=hi
  simp only at hi1 hi2 hr
  have hr0:=hr 0
  have hr1:=hr 1
  refine Aw_sq fun B10 hB10 hR10 hX10=>?_
  obtain rfl:b=2:=by omega
  ·refine Aw_st hE [0,3,4,6,7,8,40] [700,701,710,711,712,713,714,720,721,722,723,724] fun K hK=>?_
   simp only [go_sem,seval]
   refine hK _ (Aw_no rfl (Aw_exit (hX10 _ _ (hX9 _ _ (hE8 _ ?_)))))
   refine hN7 _ (hB6 _ ?_)
   refine Aw_tx hE [0,3,4,6,7] [700,701,710,711,712,713,714,720,721,722,723,724] fun K hK=>?_
   simp only [go_sem,seval]
   repeat refine ⟨by first|omega|(and_intros<;>first|omega|exact rows_row _|exact wrows_row _|decide|(simp<;>omega))|fail,?_⟩
   refine hK _ (hN3 (2,r) _ ⟨by omega,hr⟩ (by simp only;omega) (Le_wk (by first | omega | (dsimp only;omega) | (simp only;omega) | (simp;omega)) (by simp only [go_sem,seval]) (by simp only [go_sem,seval])))
set_option maxHeartbeats 16000000 in
theorem relsB3 {E:En} (hE:TbOk E tbRels) {k:Nat} (hk:k + 40≤1099511627776) {Q:Exit→St→Prop} (hQ:∀ (L:List (List Int)) (rn:Nat),(2≤L.length∧L.length≤5)→(∀ w ∈ L,w.length=L.length)→rn≤k + 40→Aw E .ret ⟨111,[(2,wsl L)],[],rn⟩ Q) {r:Nat→List Int} (hr:∀ q,(r q).length=3) {d:Nat→Nat} {c:Nat}:Aw E (seqB (seqB (seqB (seqB (Tryd.f30.body.getD .skip))))) ⟨111,[(0,.rd),(3,iv 3),(4,.xs 700 0 3 (c + 3) 1)],(700,vws 3 d 710 3++jN c)::bxs 3 d r 710 3,k + 1⟩ Q:=by
 refine Aw_st hE [0,3,4,6] [700,701,710,711,712,713,714,720,721,722,723,724] fun K hK=>?_
 simp only [go_sem,seval]
 refine ⟨by omega,fun x hx1 hx2=>?_⟩
 generalize decide (x=0)=bb
 refine hK _ ?_;clear hK K
 refine Aw_sqJ (fun i:(Nat→List Int) × Nat=>⟨111,[(0,.rd),(3,iv 3),(4,.xs 700 0 3 (c + 3) 1)],(700,vws 3 d 710 3++jN c)::bxs 3 d i.1 710 3,i.2⟩) (fun i=>(∀ x,(i.1 x).length=3)∧i.2≤k + 29) (fun i hi=>relsR3 hE hk hQ hi.1 hi.2) fun B1 hB1 hR1 hX1=>?_
 refine Aw_st hE [0,3,4,6,7] [700,701,710,711,712,713,714,720,721,722,723,724] fun K hK=>?_
 simp only [go_sem,seval]
 refine hK _ ?_;clear hK K
 refine Aw_bk fun B2 hN2 hE2 hR2 hX2=>?_
 refine Aw_lp (fun i:Nat × (Nat→List Int)=>⟨111,[(0,.rd),(3,iv 3),(4,.xs 700 0 3 (c + 3) 1),(6,bv bb),(7,iv (i.1:Int))],(700,vws 3 d 710 3++jN c)::bxs 3 d i.2 710 3,k + 2 + i.1 * (5 - i.1)⟩) (fun i=>i.1≤3∧∀ x,(i.2 x).length=3) (fun i=>3 - i.1) (0,r) (Le_wk (by first | omega | (dsimp only;omega) | (simp only;omega) | (simp;omega)) (by simp only [go_sem,seval]) (by simp only [go_sem,seval])) ⟨by omega,hr⟩ fun i hi B3 hN3 hR3 hX3=>?_
 obtain ⟨a,r⟩:=i
 obtain ⟨hi,hr⟩:=hi
 simp only at hi hr
 refine Aw_sq fun B4 hB4 hR4 hX4=>?_
 rcases (show a=3∨a=0∨a=1∨a=2 by omega) with rfl | rfl | rfl | rfl
 ·refine Aw_st hE [0,3,4,6,7,33] [700,701,710,711,712,713,714,720,721,722,723,724] fun K hK=>?_
  simp only [go_sem,seval]
  refine hK _ (Aw_no rfl (Aw_exit (hX4 _ _ (hX3 _ _ (hE2 _ (hB1 (r,k + 29) _ ⟨hr,by simp only;omega⟩ (LeE_of (Le_wk (by first | omega | (dsimp only;omega) | (simp only;omega) | (simp;omega)) (by simp only [go_sem,seval]) (by simp only [go_sem,seval])))))))))
 ·refine Aw_st hE [0,3,4,6,7,33] [700,701,710,711,712,713,714,720,721,722,723,724] fun K hK=>?_
  simp only [go_sem,seval]
  refine hK _ (Aw_yes rfl (Aw_skip (hB4 _ ?_)))
  refine Aw_sq fun B6 hB6 hR6 hX6=>?_
  refine Aw_bk fun B7 hN7 hE7 hR7 hX7=>?_
  refine Aw_st hE [0,3,4,6,7,8] [700,701,710,711,712,713,714,720,721,722,723,724] fun K hK=>?_
  simp only [go_sem,seval]
  refine hK _ ?_;clear hK K
  refine Aw_bk fun B8 hN8 hE8 hR8 hX8=>?_
  refine Aw_lp (fun i:Nat × (Nat→List Int)=>⟨111,[(0,.rd),(3,iv 3),(4,.xs 700 0 3 (c + 3) 1),(6,bv bb),(7,iv 0),(8,iv (i.1:Int))],(700,vws 3 d 710 3++jN c)::bxs 3 d i.2 710 3,k + 0 + 2 * i.1⟩) (fun i=>1≤i.1∧i.1≤3∧∀ x,(i.2 x).length=3) (fun i=>3 - i.1) (1,r) (Le_wk (by first | omega | (dsimp only;omega) | (simp only;omega) | (simp;omega)) (by simp only [go_sem,seval]) (by simp only [go_sem,seval])) ⟨by omega,by omega,hr⟩ fun i hi B9 hN9 hR9 hX9=>?_
  obtain ⟨b,r⟩:=i
  obtain ⟨hi1,hi2,hr⟩:=hi
  simp only at hi1 hi2 hr
  have hr0:=hr 0
  have hr1:=hr 1
  have hr2:=hr 2
  refine Aw_sq fun B10 hB10 hR10 hX10=>?_
  rcases (show b=3∨b=1∨b=2 by omega) with rfl | rfl | rfl
  ·refine Aw_st hE [0,3,4,6,7,8,40] [700,701,710,711,712,713,714,720,721,722,723,724] fun K hK=>?_
   simp only [go_sem,seval]
   refine hK _ (Aw_no rfl (Aw_exit (hX10 _ _ (hX9 _ _ (hE8 _ ?_)))))
   refine hN7 _ (hB6 _ ?_)
   refine Aw_tx hE [0,3,4,6,7] [700,701,710,711,712,713,714,720,721,722,723,724] fun K hK=>?_
   simp only [go_sem,seval]
   repeat refine ⟨by first|omega|(and_intros<;>first|omega|exact rows_row _|exact wrows_row _|decide|(simp<;>omega))|fail,?_⟩
   refine hK _ (hN3 (1,r) _ ⟨by omega,hr⟩ (by simp only;omega) (Le_wk (by first | omega | (dsimp only;omega) | (simp only;omega) | (simp;omega)) (by simp only [go_sem,seval]) (by simp only [go_sem,seval])))
  ·refine Aw_st hE [0,3,4,6,7,8,40] [700,701,710,711,712,713,714,720,721,722,723,724] fun K hK=>?_
   simp only [go_sem,seval]
   refine hK _ (Aw_yes rfl (Aw_skip (hB10 _ ?_)))
   refine Aw_sq fun B11 hB11 hR11 hX11=>?_
   refine Aw_bk fun B12 hN12 hE12 hR12 hX12=>?_
   refine Aw_st hE [0,3,4,6,7,8,9] [700,701,710,711,712,713,714,720,721,722,723,724] fun K hK=>?_
   refine aops_cut 3 fun K1 hK1=>?_
   simp only [go_sem,seval]
   repeat refine ⟨by first|omega|(and_intros<;>first|omega|exact rows_row _|exact wrows_row _|decide|(simp<;>omega))|fail,?_⟩
   intro x hx1 hx2
   obtain ⟨v,hv,hv1,hv2⟩:=pick4 x hx1 hx2
   refine hK1 _ ?_
   clear hK1
   simp only [go_sem,seval,hv]
   repeat refine ⟨by first|omega|(and_intros<;>first|omega|exact rows_row _|exact wrows_row _|decide|(simp<;>omega))|fail,?_⟩
   refine hK _ ?_;clear hK K
   refine Aw_sqJ (fun v:Int=>⟨111,[(0,.rd),(3,iv 3),(4,.xs 700 0 3 (c + 3) 1),(6,bv bb),(7,iv 0),(8,iv 1),(9,iv v)],(700,vws 3 d 710 3++jN c)::bxs 3 d r 710 3,k + 4⟩) (fun v=>0≤v∧v≤3) (fun v hv=>?_) fun B13 hB13 hR13 hX13=>?_
   ·have hs1:=cI_set (r 0) (d 0) 1 v (by omega)
    have hs2:=fun y=>cI_set (r 1) (d 1) 0 y (by omega)
    obtain ⟨hv1,hv2⟩:=hv
    refine Aw_st hE [0,3,4,6,7,8,9] [700,701,710,711,712,713,714,720,721,722,723,724] fun K hK=>?_
    simp only [go_sem,seval,hs1]
    refine ⟨by omega,?_⟩
    refine hK _ ?_;clear hK K
    refine Aw_td hE [0,3,4,6,7,8] [700,701,710,711,712,713,714,720,721,722,723,724] 6 (by kernel_rfl) fun K hK=>?_
    simp only [go_sem,seval,hs2,hv1,hv2]
    refine ⟨by omega,hK _ (hN12 _ (hB11 _ ?_))⟩
    refine Aw_tx hE [0,3,4,6,7,8] [700,701,710,711,712,713,714,720,721,722,723,724] fun K hK=>?_
    simp only [go_sem,seval]
    repeat refine ⟨by first|omega|(and_intros<;>first|omega|exact rows_row _|exact wrows_row _|decide|(simp<;>omega))|fail,?_⟩
    refine hK _ (hN9 (2,upd (upd r 0 1 v) 1 0 (mirr v)) _ ⟨by omega,by omega,upd_len (upd_len hr)⟩ (by simp only;omega) (Le_wk (by first | omega | (dsimp only;omega) | (simp only;omega) | (simp;omega)) (by simp only [go_sem,seval,upd]) (by simp only [go_sem,seval,upd])))
   ·refine Aw_st hE [0,3,4,6,7,8,9,53] [700,701,710,711,712,713,714,720,721,722,723,724] fun K hK=>?_
    simp only [go_sem,seval]
    refine ⟨fun hg23=>⟨by omega,fun y hy1 hy2=>?_⟩,fun hg23=>?_⟩
    ·refine hK _ (Aw_cond rfl (fun hc24=>?_) (fun hc24=>?_))
     ·refine Aw_tx hE [0,3,4,6,7,8,9] [700,701,710,711,712,713,714,720,721,722,723,724] fun K hK=>?_
      simp only [go_sem,seval]
      exact hK _ (hB13 3 _ ⟨by decide,by decide⟩ (LeE_of (Le_wk (by first | omega | (dsimp only;omega) | (simp only;omega) | (simp;omega)) (by simp only [go_sem,seval]) (by simp only [go_sem,seval]))))
     ·exact Aw_skip (hB13 v _ ⟨hv1,hv2⟩ (LeE_of (Le_wk (by first | omega | (dsimp only;omega) | (simp only;omega) | (simp;omega)) (by simp only [go_sem,seval]) (by simp only [go_sem,seval]))))
    ·exact hK _ (Aw_no rfl (Aw_skip (hB13 v _ ⟨hv1,hv2⟩ (LeE_of (Le_wk (by first | omega | (dsimp only;omega) | (simp only;omega) | (simp;omega)) (by simp only [go_sem,seval]) (by simp only [go_sem,seval]))))))
  ·refine Aw_st hE [0,3,4,6,7,8,40] [700,701,710,711,712,713,714,720,721,722,723,724] fun K hK=>?_
   simp only [go_sem,seval]
   refine hK _ (Aw_yes rfl (Aw_skip (hB10 _ ?_)))
   refine Aw_sq fun B11 hB11 hR11 hX11=>?_
   refine Aw_bk fun B12 hN12 hE12 hR12 hX12=>?_
   refine Aw_st hE [0,3,4,6,7,8,9] [700,701,710,711,712,713,714,720,721,722,723,724] fun K hK=>?_
   refine aops_cut 3 fun K1 hK1=>?_
   simp only [go_sem,seval]
   repeat refine ⟨by first|omega|(and_intros<;>first|omega|exact rows_row _|exact wrows_row _|decide|(simp<;>omega))|fail,?_⟩
   intro x hx1 hx2
   obtain ⟨v,hv,hv1,hv2⟩:=pick4 x hx1 hx2
   refine hK1 _ ?_
   clear hK1
   simp only [go_sem,seval,hv]
   repeat refine ⟨by first|omega|(and_intros<;>first|omega|exact rows_row _|exact wrows_row _|decide|(simp<;>omega))|fail,?_⟩
   refine hK _ ?_;clear hK K
   refine Aw_sqJ (fun v:Int=>⟨111,[(0,.rd),(3,iv 3),(4,.xs 700 0 3 (c + 3) 1),(6,bv bb),(7,iv 0),(8,iv 2),(9,iv v)],(700,vws 3 d 710 3++jN c)::bxs 3 d r 710 3,k + 6⟩) (fun v=>0≤v∧v≤3) (fun v hv=>?_) fun B13 hB13 hR13 hX13=>?_
   ·have hs1:=cI_set (r 0) (d 0) 2 v (by omega)
    have hs2:=fun y=>cI_set (r 2) (d 2) 0 y (by omega)
    obtain ⟨hv1,hv2⟩:=hv
    refine Aw_st hE [0,3,4,6,7,8,9] [700,701,710,711,712,713,714,720,721,722,723,724] fun K hK=>?_
    simp only [go_sem,seval,hs1]
    refine ⟨by omega,?_⟩
    refine hK _ ?_;clear hK K
    refine Aw_td hE [0,3,4,6,7,8] [700,701,710,711,712,713,714,720,721,722,723,724] 6 (by kernel_rfl) fun K hK=>?_
    simp only [go_sem,seval,hs2,hv1,hv2]
    refine ⟨by omega,hK _ (hN12 _ (hB11 _ ?_))⟩
    refine Aw_tx hE [0,3,4,6,7,8] [700,701,710,711,712,713,714,720,721,722,723,724] fun K hK=>?_
    simp only [go_sem,seval]
    repeat refine ⟨by first|omega|(and_intros<;>first|omega|exact rows_row _|exact wrows_row _|decide|(simp<;>omega))|fail,?_⟩
    refine hK _ (hN9 (3,upd (upd r 0 2 v) 2 0 (mirr v)) _ ⟨by omega,by omega,upd_len (upd_len hr)⟩ (by simp only;omega) (Le_wk (by first | omega | (dsimp only;omega) | (simp only;omega) | (simp;omega)) (by simp only [go_sem,seval,upd]) (by simp only [go_sem,seval,upd])))
   ·refine Aw_st hE [0,3,4,6,7,8,9,53] [700,701,710,711,712,713,714,720,721,722,723,724] fun K hK=>?_
    simp only [go_sem,seval]
    refine ⟨fun hg23=>⟨by omega,fun y hy1 hy2=>?_⟩,fun hg23=>?_⟩
    ·refine hK _ (Aw_cond rfl (fun hc24=>?_) (fun hc24=>?_))
     ·refine Aw_tx hE [0,3,4,6,7,8,9] [700,701,710,711,712,713,714,720,721,722,723,724] fun K hK=>?_
      simp only [go_sem,seval]
      exact hK _ (hB13 3 _ ⟨by decide,by decide⟩ (LeE_of (Le_wk (by first | omega | (dsimp only;omega) | (simp only;omega) | (simp;omega)) (by simp only [go_sem,seval]) (by simp only [go_sem,seval]))))
     ·exact Aw_skip (hB13 v _ ⟨hv1,hv2⟩ (LeE_of (Le_wk (by first | omega | (dsimp only;omega) | (simp only;omega) | (simp;omega)) (by simp only [go_sem,seval]) (by simp only [go_sem,seval]))))
    ·exact hK _ (Aw_no rfl (Aw_skip (hB13 v _ ⟨hv1,hv2⟩ (LeE_of (Le_wk (by first | omega | (dsimp only;omega) | (simp only;omega) | (simp;omega)) (by simp only [go_sem,seval]) (by simp only [go_sem,seval]))))))
 ·refine Aw_st hE [0,3,4,6,7,33] [700,701,710,711,712,713,714,720,721,722,723,724] fun K hK=>?_
  simp only [go_sem,seval]
  refine hK _ (Aw_yes rfl (Aw_skip (hB4 _ ?_)))
  refine Aw_sq fun B6 hB6 hR6 hX6=>?_
  refine Aw_bk fun B7 hN7 hE7 hR7 hX7=>?_
  refine Aw_st hE [0,3,4,6,7,8] [700,701,710,711,712,713,714,720,721,722,723,724] fun K hK=>?_
  simp only [go_sem,seval]
  refine hK _ ?_;clear hK K
  refine Aw_bk fun B8 hN8 hE8 hR8 hX8=>?_
  refine Aw_lp (fun i:Nat × (Nat→List Int)=>⟨111,[(0,.rd),(3,iv 3),(4,.xs 700 0 3 (c + 3) 1),(6,bv bb),(7,iv 1),(8,iv (i.1:Int))],(700,vws 3 d 710 3++jN c)::bxs 3 d i.2 710 3,k + 2 + 2 * i.1⟩) (fun i=>2≤i.1∧i.1≤3∧∀ x,(i.2 x).length=3) (fun i=>3 - i.1) (2,r) (Le_wk (by first | omega | (dsimp only;omega) | (simp only;omega) | (simp;omega)) (by simp only [go_sem,seval]) (by simp only [go_sem,seval])) ⟨by omega,by omega,hr⟩ fun i hi B9 hN9 hR9 hX9=>?_
  obtain ⟨b,r⟩:=i
  obtain ⟨hi1,hi2,hr⟩:=hi
  simp only at hi1 hi2 hr
  have hr0:=hr 0
  have hr1:=hr 1
  have hr2:=hr 2
  refine Aw_sq fun B10 hB10 hR10 hX10=>?_
  rcases (show b=3∨b=2 by omega) with rfl | rfl
  ·refine Aw_st hE [0,3,4,6,7,8,40] [700,701,710,711,712,713,714,720,721,722,723,724] fun K hK=>?_
   simp only [go_sem,seval]
   refine hK _ (Aw_no rfl (Aw_exit (hX10 _ _ (hX9 _ _ (hE8 _ ?_)))))
   refine hN7 _ (hB6 _ ?_)
   refine Aw_tx hE [0,3,4,6,7] [700,701,710,711,712,713,714,720,721,722,723,724] fun K hK=>?_
   simp only [go_sem,seval]
   repeat refine ⟨by first|omega|(and_intros<;>first|omega|exact rows_row _|exact wrows_row _|decide|(simp<;>omega))|fail,?_⟩
   refine hK _ (hN3 (2,r) _ ⟨by omega,hr⟩ (by simp only;omega) (Le_wk (by first | omega | (dsimp only;omega) | (simp only;omega) | (simp;omega)) (by simp only [go_sem,seval]) (by simp only [go_sem,seval])))
  ·refine Aw_st hE [0,3,4,6,7,8,40] [700,701,710,711,712,713,714,720,721,722,723,724] fun K hK=>?_
   simp only [go_sem,seval]
   refine hK _ (Aw_yes rfl (Aw_skip (hB10 _ ?_)))
   refine Aw_sq fun B11 hB11 hR11 hX11=>?_
   refine Aw_bk fun B12 hN12 hE12 hR12 hX12=>?_
   refine Aw_st hE [0,3,4,6,7,8,9] [700,701,710,711,712,713,714,720,721,722,723,724] fun K hK=>?_
   refine aops_cut 3 fun K1 hK1=>?_
   simp only [go_sem,seval]
   repeat refine ⟨by first|omega|(and_intros<;>first|omega|exact rows_row _|exact wrows_row _|decide|(simp<;>omega))|fail,?_⟩
   intro x hx1 hx2
   obtain ⟨v,hv,hv1,hv2⟩:=pick4 x hx1 hx2
   refine hK1 _ ?_
   clear hK1
   simp only [go_sem,seval,hv]
   repeat refine ⟨by first|omega|(and_intros<;>first|omega|exact rows_row _|exact wrows_row _|decide|(simp<;>omega))|fail,?_⟩
   refine hK _ ?_;clear hK K
   refine Aw_sqJ (fun v:Int=>⟨111,[(0,.rd),(3,iv 3),(4,.xs 700 0 3 (c + 3) 1),(6,bv bb),(7,iv 1),(8,iv 2),(9,iv v)],(700,vws 3 d 710 3++jN c)::bxs 3 d r 710 3,k + 8⟩) (fun v=>0≤v∧v≤3) (fun v hv=>?_) fun B13 hB13 hR13 hX13=>?_
   ·have hs1:=cI_set (r 1) (d 1) 2 v (by omega)
    have hs2:=fun y=>cI_set (r 2) (d 2) 1 y (by omega)
    obtain ⟨hv1,hv2⟩:=hv
    refine Aw_st hE [0,3,4,6,7,8,9] [700,701,710,711,712,713,714,720,721,722,723,724] fun K hK=>?_
    simp only [go_sem,seval,hs1]
    refine ⟨by omega,?_⟩
    refine hK _ ?_;clear hK K
    refine Aw_td hE [0,3,4,6,7,8] [700,701,710,711,712,713,714,720,721,722,723,724] 6 (by kernel_rfl) fun K hK=>?_
    simp only [go_sem,seval,hs2,hv1,hv2]
    refine ⟨by omega,hK _ (hN12 _ (hB11 _ ?_))⟩
    refine Aw_tx hE [0,3,4,6,7,8] [700,701,710,711,712,713,714,720,721,722,723,724] fun K hK=>?_
    simp only [go_sem,seval]
    repeat refine ⟨by first|omega|(and_intros<;>first|omega|exact rows_row _|exact wrows_row _|decide|(simp<;>omega))|fail,?_⟩
    refine hK _ (hN9 (3,upd (upd r 1 2 v) 2 1 (mirr v)) _ ⟨by omega,by omega,upd_len (upd_len hr)⟩ (by simp only;omega) (Le_wk (by first | omega | (dsimp only;omega) | (simp only;omega) | (simp;omega)) (by simp only [go_sem,seval,upd]) (by simp only [go_sem,seval,upd])))
   ·refine Aw_st hE [0,3,4,6,7,8,9,53] [700,701,710,711,712,713,714,720,721,722,723,724] fun K hK=>?_
    simp only [go_sem,seval]
    refine ⟨fun hg23=>⟨by omega,fun y hy1 hy2=>?_⟩,fun hg23=>?_⟩
    ·refine hK _ (Aw_cond rfl (fun hc24=>?_) (fun hc24=>?_))
     ·refine Aw_tx hE [0,3,4,6,7,8,9] [700,701,710,711,712,713,714,720,721,722,723,724] fun K hK=>?_
      simp only [go_sem,seval]
      exact hK _ (hB13 3 _ ⟨by decide,by decide⟩ (LeE_of (Le_wk (by first | omega | (dsimp only;omega) | (simp only;omega) | (simp;omega)) (by simp only [go_sem,seval]) (by simp only [go_sem,seval]))))
     ·exact Aw_skip (hB13 v _ ⟨hv1,hv2⟩ (LeE_of (Le_wk (by first | omega | (dsimp only;omega) | (simp only;omega) | (simp;omega)) (by simp only [go_sem,seval]) (by simp only [go_sem,seval]))))
    ·exact hK _ (Aw_no rfl (Aw_skip (hB13 v _ ⟨hv1,hv2⟩ (LeE_of (Le_wk (by first | omega | (dsimp only;omega) | (simp only;omega) | (simp;omega)) (by simp only [go_sem,seval]) (by simp only [go_sem,seval]))))))
 ·refine Aw_st hE [0,3,4,6,7,33] [700,701,710,711,712,713,714,720,721,722,723,724] fun K hK=>?_
  simp only [go_sem,seval]
  refine hK _ (Aw_yes rfl (Aw_skip (hB4 _ ?_)))
  refine Aw_sq fun B6 hB6 hR6 hX6=>?_
  refine Aw_bk fun B7 hN7 hE7 hR7 hX7=>?_
  refine Aw_st hE [0,3,4,6,7,8] [700,701,710,711,712,713,714,720,721,722,723,724] fun K hK=>?_
  simp only [go_sem,seval]
  refine hK _ ?_;clear hK K
  refine Aw_bk fun B8 hN8 hE8 hR8 hX8=>?_
  refine Aw_lp (fun i:Nat × (Nat→List Int)=>⟨111,[(0,.rd),(3,iv 3),(4,.xs 700 0 3 (c + 3) 1),(6,bv bb),(7,iv 2),(8,iv (i.1:Int))],(700,vws 3 d 710 3++jN c)::bxs 3 d i.2 710 3,k + 2 + 2 * i.1⟩) (fun i=>3≤i.1∧i.1≤3∧∀ x,(i.2 x).length=3) (fun i=>3 - i.1) (3,r) (Le_wk (by first | omega | (dsimp only;omega) | (simp only;omega) | (simp;omega)) (by simp only [go_sem,seval]) (by simp only [go_sem,seval])) ⟨by omega,by omega,hr⟩ fun i hi B9 hN9 hR9 hX9=>?_
  obtain ⟨b,r⟩:=i
  obtain ⟨hi1,hi2,hr⟩:=hi
  simp only at hi1 hi2 hr
  have hr0:=hr 0
  have hr1:=hr 1
  have hr2:=hr 2
  refine Aw_sq fun B10 hB10 hR10 hX10=>?_
  obtain rfl:b=3:=by omega
  ·refine Aw_st hE [0,3,4,6,7,8,40] [700,701,710,711,712,713,714,720,721,722,723,724] fun K hK=>?_
   simp only [go_sem,seval]
   refine hK _ (Aw_no rfl (Aw_exit (hX10 _ _ (hX9 _ _ (hE8 _ ?_)))))
   refine hN7 _ (hB6 _ ?_)
   refine Aw_tx hE [0,3,4,6,7] [700,701,710,711,712,713,714,720,721,722,723,724] fun K hK=>?_
   simp only [go_sem,seval]
   repeat refine ⟨by first|omega|(and_intros<;>first|omega|exact rows_row _|exact wrows_row _|decide|(simp<;>omega))|fail,?_⟩
   refine hK _ (hN3 (3,r) _ ⟨by omega,hr⟩ (by simp only;omega) (Le_wk (by first | omega | (dsimp only;omega) | (simp only;omega) | (simp;omega)) (by simp only [go_sem,seval]) (by simp only [go_sem,seval])))
set_option maxHeartbeats 16000000 in
theorem relsB4 {E:En} (hE:TbOk E tbRels) {k:Nat} (hk:k + 40≤1099511627776) {Q:Exit→St→Prop} (hQ:∀ (L:List (List Int)) (rn:Nat),(2≤L.length∧L.length≤5)→(∀ w ∈ L,w.length=L.length)→rn≤k + 40→Aw E .ret ⟨111,[(2,wsl L)],[],rn⟩ Q) {r:Nat→List Int} (hr:∀ q,(r q).length=4) {d:Nat→Nat} {c:Nat}:Aw E (seqB (seqB (seqB (seqB (Tryd.f30.body.getD .skip))))) ⟨111,[(0,.rd),(3,iv 4),(4,.xs 700 0 4 (c + 4) 1)],(700,vws 4 d 710 4++jN c)::bxs 4 d r 710 4,k + 1⟩ Q:=by
 refine Aw_st hE [0,3,4,6] [700,701,710,711,712,713,714,720,721,722,723,724] fun K hK=>?_
 simp only [go_sem,seval]
 refine ⟨by omega,fun x hx1 hx2=>?_⟩
 generalize decide (x=0)=bb
 refine hK _ ?_;clear hK K
 refine Aw_sqJ (fun i:(Nat→List Int) × Nat=>⟨111,[(0,.rd),(3,iv 4),(4,.xs 700 0 4 (c + 4) 1)],(700,vws 4 d 710 4++jN c)::bxs 4 d i.1 710 4,i.2⟩) (fun i=>(∀ x,(i.1 x).length=4)∧i.2≤k + 29) (fun i hi=>relsR4 hE hk hQ hi.1 hi.2) fun B1 hB1 hR1 hX1=>?_
 refine Aw_st hE [0,3,4,6,7] [700,701,710,711,712,713,714,720,721,722,723,724] fun K hK=>?_
 simp only [go_sem,seval]
 refine hK _ ?_;clear hK K
 refine Aw_bk fun B2 hN2 hE2 hR2 hX2=>?_
 refine Aw_lp (fun i:Nat × (Nat→List Int)=>⟨111,[(0,.rd),(3,iv 4),(4,.xs 700 0 4 (c + 4) 1),(6,bv bb),(7,iv (i.1:Int))],(700,vws 4 d 710 4++jN c)::bxs 4 d i.2 710 4,k + 2 + i.1 * (7 - i.1)⟩) (fun i=>i.1≤4∧∀ x,(i.2 x).length=4) (fun i=>4 - i.1) (0,r) (Le_wk (by first | omega | (dsimp only;omega) | (simp only;omega) | (simp;omega)) (by simp only [go_sem,seval]) (by simp only [go_sem,seval])) ⟨by omega,hr⟩ fun i hi B3 hN3 hR3 hX3=>?_
 obtain ⟨a,r⟩:=i
 obtain ⟨hi,hr⟩:=hi
 simp only at hi hr
 refine Aw_sq fun B4 hB4 hR4 hX4=>?_
 rcases (show a=4∨a=0∨a=1∨a=2∨a=3 by omega) with rfl | rfl | rfl | rfl | rfl
 ·refine Aw_st hE [0,3,4,6,7,33] [700,701,710,711,712,713,714,720,721,722,723,724] fun K hK=>?_
  simp only [go_sem,seval]
  refine hK _ (Aw_no rfl (Aw_exit (hX4 _ _ (hX3 _ _ (hE2 _ (hB1 (r,k + 29) _ ⟨hr,by simp only;omega⟩ (LeE_of (Le_wk (by first | omega | (dsimp only;omega) | (simp only;omega) | (simp;omega)) (by simp only [go_sem,seval]) (by simp only [go_sem,seval])))))))))
 ·refine Aw_st hE [0,3,4,6,7,33] [700,701,710,711,712,713,714,720,721,722,723,724] fun K hK=>?_
  simp only [go_sem,seval]
  refine hK _ (Aw_yes rfl (Aw_skip (hB4 _ ?_)))
  refine Aw_sq fun B6 hB6 hR6 hX6=>?_
  refine Aw_bk fun B7 hN7 hE7 hR7 hX7=>?_
  refine Aw_st hE [0,3,4,6,7,8] [700,701,710,711,712,713,714,720,721,722,723,724] fun K hK=>?_
  simp only [go_sem,seval]
  refine hK _ ?_;clear hK K
  refine Aw_bk fun B8 hN8 hE8 hR8 hX8=>?_
  refine Aw_lp (fun i:Nat × (Nat→List Int)=>⟨111,[(0,.rd),(3,iv 4),(4,.xs 700 0 4 (c + 4) 1),(6,bv bb),(7,iv 0),(8,iv (i.1:Int))],(700,vws 4 d 710 4++jN c)::bxs 4 d i.2 710 4,k + 0 + 2 * i.1⟩) (fun i=>1≤i.1∧i.1≤4∧∀ x,(i.2 x).length=4) (fun i=>4 - i.1) (1,r) (Le_wk (by first | omega | (dsimp only;omega) | (simp only;omega) | (simp;omega)) (by simp only [go_sem,seval]) (by simp only [go_sem,seval])) ⟨by omega,by omega,hr⟩ fun i hi B9 hN9 hR9 hX9=>?_
  obtain ⟨b,r⟩:=i
  obtain ⟨hi1,hi2,hr⟩:=hi
  simp only at hi1 hi2 hr
  have hr0:=hr 0
  have hr1:=hr 1
  have hr2:=hr 2
  have hr3:=hr 3
  refine Aw_sq fun B10 hB10 hR10 hX10=>?_
  rcases (show b=4∨b=1∨b=2∨b=3 by omega) with rfl | rfl | rfl | rfl
  ·refine Aw_st hE [0,3,4,6,7,8,40] [700,701,710,711,712,713,714,720,721,722,723,724] fun K hK=>?_
   simp only [go_sem,seval]
   refine hK _ (Aw_no rfl (Aw_exit (hX10 _ _ (hX9 _ _ (hE8 _ ?_)))))
   refine hN7 _ (hB6 _ ?_)
   refine Aw_tx hE [0,3,4,6,7] [700,701,710,711,712,713,714,720,721,722,723,724] fun K hK=>?_
   simp only [go_sem,seval]
   repeat refine ⟨by first|omega|(and_intros<;>first|omega|exact rows_row _|exact wrows_row _|decide|(simp<;>omega))|fail,?_⟩
   refine hK _ (hN3 (1,r) _ ⟨by omega,hr⟩ (by simp only;omega) (Le_wk (by first | omega | (dsimp only;omega) | (simp only;omega) | (simp;omega)) (by simp only [go_sem,seval]) (by simp only [go_sem,seval])))
  ·refine Aw_st hE [0,3,4,6,7,8,40] [700,701,710,711,712,713,714,720,721,722,723,724] fun K hK=>?_
   simp only [go_sem,seval]
   refine hK _ (Aw_yes rfl (Aw_skip (hB10 _ ?_)))
   refine Aw_sq fun B11 hB11 hR11 hX11=>?_
   refine Aw_bk fun B12 hN12 hE12 hR12 hX12=>?_
   refine Aw_st hE [0,3,4,6,7,8,9] [700,701,710,711,712,713,714,720,721,722,723,724] fun K hK=>?_
   refine aops_cut 3 fun K1 hK1=>?_
   simp only [go_sem,seval]
   repeat refine ⟨by first|omega|(and_intros<;>first|omega|exact rows_row _|exact wrows_row _|decide|(simp<;>omega))|fail,?_⟩
   intro x hx1 hx2
   obtain ⟨v,hv,hv1,hv2⟩:=pick4 x hx1 hx2
   refine hK1 _ ?_
   clear hK1
   simp only [go_sem,seval,hv]
   repeat refine ⟨by first|omega|(and_intros<;>first|omega|exact rows_row _|exact wrows_row _|decide|(simp<;>omega))|fail,?_⟩
   refine hK _ ?_;clear hK K
   refine Aw_sqJ (fun v:Int=>⟨111,[(0,.rd),(3,iv 4),(4,.xs 700 0 4 (c + 4) 1),(6,bv bb),(7,iv 0),(8,iv 1),(9,iv v)],(700,vws 4 d 710 4++jN c)::bxs 4 d r 710 4,k + 4⟩) (fun v=>0≤v∧v≤3) (fun v hv=>?_) fun B13 hB13 hR13 hX13=>?_
   ·have hs1:=cI_set (r 0) (d 0) 1 v (by omega)
    have hs2:=fun y=>cI_set (r 1) (d 1) 0 y (by omega)
    obtain ⟨hv1,hv2⟩:=hv
    refine Aw_st hE [0,3,4,6,7,8,9] [700,701,710,711,712,713,714,720,721,722,723,724] fun K hK=>?_
    simp only [go_sem,seval,hs1]
    refine ⟨by omega,?_⟩
    refine hK _ ?_;clear hK K
    refine Aw_td hE [0,3,4,6,7,8] [700,701,710,711,712,713,714,720,721,722,723,724] 6 (by kernel_rfl) fun K hK=>?_
    simp only [go_sem,seval,hs2,hv1,hv2]
    refine ⟨by omega,hK _ (hN12 _ (hB11 _ ?_))⟩
    refine Aw_tx hE [0,3,4,6,7,8] [700,701,710,711,712,713,714,720,721,722,723,724] fun K hK=>?_
    simp only [go_sem,seval]
    repeat refine ⟨by first|omega|(and_intros<;>first|omega|exact rows_row _|exact wrows_row _|decide|(simp<;>omega))|fail,?_⟩
    refine hK _ (hN9 (2,upd (upd r 0 1 v) 1 0 (mirr v)) _ ⟨by omega,by omega,upd_len (upd_len hr)⟩ (by simp only;omega) (Le_wk (by first | omega | (dsimp only;omega) | (simp only;omega) | (simp;omega)) (by simp only [go_sem,seval,upd]) (by simp only [go_sem,seval,upd])))
   ·refine Aw_st hE [0,3,4,6,7,8,9,53] [700,701,710,711,712,713,714,720,721,722,723,724] fun K hK=>?_
    simp only [go_sem,seval]
    refine ⟨fun hg23=>⟨by omega,fun y hy1 hy2=>?_⟩,fun hg23=>?_⟩
    ·refine hK _ (Aw_cond rfl (fun hc24=>?_) (fun hc24=>?_))
     ·refine Aw_tx hE [0,3,4,6,7,8,9] [700,701,710,711,712,713,714,720,721,722,723,724] fun K hK=>?_
      simp only [go_sem,seval]
      exact hK _ (hB13 3 _ ⟨by decide,by decide⟩ (LeE_of (Le_wk (by first | omega | (dsimp only;omega) | (simp only;omega) | (simp;omega)) (by simp only [go_sem,seval]) (by simp only [go_sem,seval]))))
     ·exact Aw_skip (hB13 v _ ⟨hv1,hv2⟩ (LeE_of (Le_wk (by first | omega | (dsimp only;omega) | (simp only;omega) | (simp;omega)) (by simp only [go_sem,seval]) (by simp only [go_sem,seval]))))
    ·exact hK _ (Aw_no rfl (Aw_skip (hB13 v _ ⟨hv1,hv2⟩ (LeE_of (Le_wk (by first | omega | (dsimp only;omega) | (simp only;omega) | (simp;omega)) (by simp only [go_sem,seval]) (by simp only [go_sem,seval]))))))
  ·refine Aw_st hE [0,3,4,6,7,8,40] [700,701,710,711,712,713,714,720,721,722,723,724] fun K hK=>?_
   simp only [go_sem,seval]
   refine hK _ (Aw_yes rfl (Aw_skip (hB10 _ ?_)))
   refine Aw_sq fun B11 hB11 hR11 hX11=>?_
   refine Aw_bk fun B12 hN12 hE12 hR12 hX12=>?_
   refine Aw_st hE [0,3,4,6,7,8,9] [700,701,710,711,712,713,714,720,721,722,723,724] fun K hK=>?_
   refine aops_cut 3 fun K1 hK1=>?_
   simp only [go_sem,seval]
   repeat refine ⟨by first|omega|(and_intros<;>first|omega|exact rows_row _|exact wrows_row _|decide|(simp<;>omega))|fail,?_⟩
   intro x hx1 hx2
   obtain ⟨v,hv,hv1,hv2⟩:=pick4 x hx1 hx2
   refine hK1 _ ?_
   clear hK1
   simp only [go_sem,seval,hv]
   repeat refine ⟨by first|omega|(and_intros<;>first|omega|exact rows_row _|exact wrows_row _|decide|(simp<;>omega))|fail,?_⟩
   refine hK _ ?_;clear hK K
   refine Aw_sqJ (fun v:Int=>⟨111,[(0,.rd),(3,iv 4),(4,.xs 700 0 4 (c + 4) 1),(6,bv bb),(7,iv 0),(8,iv 2),(9,iv v)],(700,vws 4 d 710 4++jN c)::bxs 4 d r 710 4,k + 6⟩) (fun v=>0≤v∧v≤3) (fun v hv=>?_) fun B13 hB13 hR13 hX13=>?_
   ·have hs1:=cI_set (r 0) (d 0) 2 v (by omega)
    have hs2:=fun y=>cI_set (r 2) (d 2) 0 y (by omega)
    obtain ⟨hv1,hv2⟩:=hv
    refine Aw_st hE [0,3,4,6,7,8,9] [700,701,710,711,712,713,714,720,721,722,723,724] fun K hK=>?_
    simp only [go_sem,seval,hs1]
    refine ⟨by omega,?_⟩
    refine hK _ ?_;clear hK K
    refine Aw_td hE [0,3,4,6,7,8] [700,701,710,711,712,713,714,720,721,722,723,724] 6 (by kernel_rfl) fun K hK=>?_
    simp only [go_sem,seval,hs2,hv1,hv2]
    refine ⟨by omega,hK _ (hN12 _ (hB11 _ ?_))⟩
    refine Aw_tx hE [0,3,4,6,7,8] [700,701,710,711,712,713,714,720,721,722,723,724] fun K hK=>?_
    simp only [go_sem,seval]
    repeat refine ⟨by first|omega|(and_intros<;>first|omega|exact rows_row _|exact wrows_row _|decide|(simp<;>omega))|fail,?_⟩
    refine hK _ (hN9 (3,upd (upd r 0 2 v) 2 0 (mirr v)) _ ⟨by omega,by omega,upd_len (upd_len hr)⟩ (by simp only;omega) (Le_wk (by first | omega | (dsimp only;omega) | (simp only;omega) | (simp;omega)) (by simp only [go_sem,seval,upd]) (by simp only [go_sem,seval,upd])))
   ·refine Aw_st hE [0,3,4,6,7,8,9,53] [700,701,710,711,712,713,714,720,721,722,723,724] fun K hK=>?_
    simp only [go_sem,seval]
    refine ⟨fun hg23=>⟨by omega,fun y hy1 hy2=>?_⟩,fun hg23=>?_⟩
    ·refine hK _ (Aw_cond rfl (fun hc24=>?_) (fun hc24=>?_))
     ·refine Aw_tx hE [0,3,4,6,7,8,9] [700,701,710,711,712,713,714,720,721,722,723,724] fun K hK=>?_
      simp only [go_sem,seval]
      exact hK _ (hB13 3 _ ⟨by decide,by decide⟩ (LeE_of (Le_wk (by first | omega | (dsimp only;omega) | (simp only;omega) | (simp;omega)) (by simp only [go_sem,seval]) (by simp only [go_sem,seval]))))
     ·exact Aw_skip (hB13 v _ ⟨hv1,hv2⟩ (LeE_of (Le_wk (by first | omega | (dsimp only;omega) | (simp only;omega) | (simp;omega)) (by simp only [go_sem,seval]) (by simp only [go_sem,seval]))))
    ·exact hK _ (Aw_no rfl (Aw_skip (hB13 v _ ⟨hv1,hv2⟩ (LeE_of (Le_wk (by first | omega | (dsimp only;omega) | (simp only;omega) | (simp;omega)) (by simp only [go_sem,seval]) (by simp only [go_sem,seval]))))))
  ·refine Aw_st hE [0,3,4,6,7,8,40] [700,701,710,711,712,713,714,720,721,722,723,724] fun K hK=>?_
   simp only [go_sem,seval]
   refine hK _ (Aw_yes rfl (Aw_skip (hB10 _ ?_)))
   refine Aw_sq fun B11 hB11 hR11 hX11=>?_
   refine Aw_bk fun B12 hN12 hE12 hR12 hX12=>?_
   refine Aw_st hE [0,3,4,6,7,8,9] [700,701,710,711,712,713,714,720,721,722,723,724] fun K hK=>?_
   refine aops_cut 3 fun K1 hK1=>?_
   simp only [go_sem,seval]
   repeat refine ⟨by first|omega|(and_intros<;>first|omega|exact rows_row _|exact wrows_row _|decide|(simp<;>omega))|fail,?_⟩
   intro x hx1 hx2
   obtain ⟨v,hv,hv1,hv2⟩:=pick4 x hx1 hx2
   refine hK1 _ ?_
   clear hK1
   simp only [go_sem,seval,hv]
   repeat refine ⟨by first|omega|(and_intros<;>first|omega|exact rows_row _|exact wrows_row _|decide|(simp<;>omega))|fail,?_⟩
   refine hK _ ?_;clear hK K
   refine Aw_sqJ (fun v:Int=>⟨111,[(0,.rd),(3,iv 4),(4,.xs 700 0 4 (c + 4) 1),(6,bv bb),(7,iv 0),(8,iv 3),(9,iv v)],(700,vws 4 d 710 4++jN c)::bxs 4 d r 710 4,k + 8⟩) (fun v=>0≤v∧v≤3) (fun v hv=>?_) fun B13 hB13 hR13 hX13=>?_
   ·have hs1:=cI_set (r 0) (d 0) 3 v (by omega)
    have hs2:=fun y=>cI_set (r 3) (d 3) 0 y (by omega)
    obtain ⟨hv1,hv2⟩:=hv
    refine Aw_st hE [0,3,4,6,7,8,9] [700,701,710,711,712,713,714,720,721,722,723,724] fun K hK=>?_
    simp only [go_sem,seval,hs1]
    refine ⟨by omega,?_⟩
    refine hK _ ?_;clear hK K
    refine Aw_td hE [0,3,4,6,7,8] [700,701,710,711,712,713,714,720,721,722,723,724] 6 (by kernel_rfl) fun K hK=>?_
    simp only [go_sem,seval,hs2,hv1,hv2]
    refine ⟨by omega,hK _ (hN12 _ (hB11 _ ?_))⟩
    refine Aw_tx hE [0,3,4,6,7,8] [700,701,710,711,712,713,714,720,721,722,723,724] fun K hK=>?_
    simp only [go_sem,seval]
    repeat refine ⟨by first|omega|(and_intros<;>first|omega|exact rows_row _|exact wrows_row _|decide|(simp<;>omega))|fail,?_⟩
    refine hK _ (hN9 (4,upd (upd r 0 3 v) 3 0 (mirr v)) _ ⟨by omega,by omega,upd_len (upd_len hr)⟩ (by simp only;omega) (Le_wk (by first | omega | (dsimp only;omega) | (simp only;omega) | (simp;omega)) (by simp only [go_sem,seval,upd]) (by simp only [go_sem,seval,upd])))
   ·refine Aw_st hE [0,3,4,6,7,8,9,53] [700,701,710,711,712,713,714,720,721,722,723,724] fun K hK=>?_
    simp only [go_sem,seval]
    refine ⟨fun hg23=>⟨by omega,fun y hy1 hy2=>?_⟩,fun hg23=>?_⟩
    ·refine hK _ (Aw_cond rfl (fun hc24=>?_) (fun hc24=>?_))
     ·refine Aw_tx hE [0,3,4,6,7,8,9] [700,701,710,711,712,713,714,720,721,722,723,724] fun K hK=>?_
      simp only [go_sem,seval]
      exact hK _ (hB13 3 _ ⟨by decide,by decide⟩ (LeE_of (Le_wk (by first | omega | (dsimp only;omega) | (simp only;omega) | (simp;omega)) (by simp only [go_sem,seval]) (by simp only [go_sem,seval]))))
     ·exact Aw_skip (hB13 v _ ⟨hv1,hv2⟩ (LeE_of (Le_wk (by first | omega | (dsimp only;omega) | (simp only;omega) | (simp;omega)) (by simp only [go_sem,seval]) (by simp only [go_sem,seval]))))
    ·exact hK _ (Aw_no rfl (Aw_skip (hB13 v _ ⟨hv1,hv2⟩ (LeE_of (Le_wk (by first | omega | (dsimp only;omega) | (simp only;omega) | (simp;omega)) (by simp only [go_sem,seval]) (by simp only [go_sem,seval]))))))
 ·refine Aw_st hE [0,3,4,6,7,33] [700,701,710,711,712,713,714,720,721,722,723,724] fun K hK=>?_
  simp only [go_sem,seval]
  refine hK _ (Aw_yes rfl (Aw_skip (hB4 _ ?_)))
  refine Aw_sq fun B6 hB6 hR6 hX6=>?_
  refine Aw_bk fun B7 hN7 hE7 hR7 hX7=>?_
  refine Aw_st hE [0,3,4,6,7,8] [700,701,710,711,712,713,714,720,721,722,723,724] fun K hK=>?_
  simp only [go_sem,seval]
  refine hK _ ?_;clear hK K
  refine Aw_bk fun B8 hN8 hE8 hR8 hX8=>?_
  refine Aw_lp (fun i:Nat × (Nat→List Int)=>⟨111,[(0,.rd),(3,iv 4),(4,.xs 700 0 4 (c + 4) 1),(6,bv bb),(7,iv 1),(8,iv (i.1:Int))],(700,vws 4 d 710 4++jN c)::bxs 4 d i.2 710 4,k + 4 + 2 * i.1⟩) (fun i=>2≤i.1∧i.1≤4∧∀ x,(i.2 x).length=4) (fun i=>4 - i.1) (2,r) (Le_wk (by first | omega | (dsimp only;omega) | (simp only;omega) | (simp;omega)) (by simp only [go_sem,seval]) (by simp only [go_sem,seval])) ⟨by omega,by omega,hr⟩ fun i hi B9 hN9 hR9 hX9=>?_
  obtain ⟨b,r⟩:=i
  obtain ⟨hi1,hi2,hr⟩:=hi
  simp only at hi1 hi2 hr
  have hr0:=hr 0
  have hr1:=hr 1
  have hr2:=hr 2
  have hr3:=hr 3
  refine Aw_sq fun B10 hB10 hR10 hX10=>?_
  rcases (show b=4∨b=2∨b=3 by omega) with rfl | rfl | rfl
  ·refine Aw_st hE [0,3,4,6,7,8,40] [700,701,710,711,712,713,714,720,721,722,723,724] fun K hK=>?_
   simp only [go_sem,seval]
   refine hK _ (Aw_no rfl (Aw_exit (hX10 _ _ (hX9 _ _ (hE8 _ ?_)))))
   refine hN7 _ (hB6 _ ?_)
   refine Aw_tx hE [0,3,4,6,7] [700,701,710,711,712,713,714,720,721,722,723,724] fun K hK=>?_
   simp only [go_sem,seval]
   repeat refine ⟨by first|omega|(and_intros<;>first|omega|exact rows_row _|exact wrows_row _|decide|(simp<;>omega))|fail,?_⟩
   refine hK _ (hN3 (2,r) _ ⟨by omega,hr⟩ (by simp only;omega) (Le_wk (by first | omega | (dsimp only;omega) | (simp only;omega) | (simp;omega)) (by simp only [go_sem,seval]) (by simp only [go_sem,seval])))
  ·refine Aw_st hE [0,3,4,6,7,8,40] [700,701,710,711,712,713,714,720,721,722,723,724] fun K hK=>?_
   simp only [go_sem,seval]
   refine hK _ (Aw_yes rfl (Aw_skip (hB10 _ ?_)))
   refine Aw_sq fun B11 hB11 hR11 hX11=>?_
   refine Aw_bk fun B12 hN12 hE12 hR12 hX12=>?_
   refine Aw_st hE [0,3,4,6,7,8,9] [700,701,710,711,712,713,714,720,721,722,723,724] fun K hK=>?_
   refine aops_cut 3 fun K1 hK1=>?_
   simp only [go_sem,seval]
   repeat refine ⟨by first|omega|(and_intros<;>first|omega|exact rows_row _|exact wrows_row _|decide|(simp<;>omega))|fail,?_⟩
   intro x hx1 hx2
   obtain ⟨v,hv,hv1,hv2⟩:=pick4 x hx1 hx2
   refine hK1 _ ?_
   clear hK1
   simp only [go_sem,seval,hv]
   repeat refine ⟨by first|omega|(and_intros<;>first|omega|exact rows_row _|exact wrows_row _|decide|(simp<;>omega))|fail,?_⟩
   refine hK _ ?_;clear hK K
   refine Aw_sqJ (fun v:Int=>⟨111,[(0,.rd),(3,iv 4),(4,.xs 700 0 4 (c + 4) 1),(6,bv bb),(7,iv 1),(8,iv 2),(9,iv v)],(700,vws 4 d 710 4++jN c)::bxs 4 d r 710 4,k + 10⟩) (fun v=>0≤v∧v≤3) (fun v hv=>?_) fun B13 hB13 hR13 hX13=>?_
   ·have hs1:=cI_set (r 1) (d 1) 2 v (by omega)
    have hs2:=fun y=>cI_set (r 2) (d 2) 1 y (by omega)
    obtain ⟨hv1,hv2⟩:=hv
    refine Aw_st hE [0,3,4,6,7,8,9] [700,701,710,711,712,713,714,720,721,722,723,724] fun K hK=>?_
    simp only [go_sem,seval,hs1]
    refine ⟨by omega,?_⟩
    refine hK _ ?_;clear hK K
    refine Aw_td hE [0,3,4,6,7,8] [700,701,710,711,712,713,714,720,721,722,723,724] 6 (by kernel_rfl) fun K hK=>?_
    simp only [go_sem,seval,hs2,hv1,hv2]
    refine ⟨by omega,hK _ (hN12 _ (hB11 _ ?_))⟩
    refine Aw_tx hE [0,3,4,6,7,8] [700,701,710,711,712,713,714,720,721,722,723,724] fun K hK=>?_
    simp only [go_sem,seval]
    repeat refine ⟨by first|omega|(and_intros<;>first|omega|exact rows_row _|exact wrows_row _|decide|(simp<;>omega))|fail,?_⟩
    refine hK _ (hN9 (3,upd (upd r 1 2 v) 2 1 (mirr v)) _ ⟨by omega,by omega,upd_len (upd_len hr)⟩ (by simp only;omega) (Le_wk (by first | omega | (dsimp only;omega) | (simp only;omega) | (simp;omega)) (by simp only [go_sem,seval,upd]) (by simp only [go_sem,seval,upd])))
   ·refine Aw_st hE [0,3,4,6,7,8,9,53] [700,701,710,711,712,713,714,720,721,722,723,724] fun K hK=>?_
    simp only [go_sem,seval]
    refine ⟨fun hg23=>⟨by omega,fun y hy1 hy2=>?_⟩,fun hg23=>?_⟩
    ·refine hK _ (Aw_cond rfl (fun hc24=>?_) (fun hc24=>?_))
     ·refine Aw_tx hE [0,3,4,6,7,8,9] [700,701,710,711,712,713,714,720,721,722,723,724] fun K hK=>?_
      simp only [go_sem,seval]
      exact hK _ (hB13 3 _ ⟨by decide,by decide⟩ (LeE_of (Le_wk (by first | omega | (dsimp only;omega) | (simp only;omega) | (simp;omega)) (by simp only [go_sem,seval]) (by simp only [go_sem,seval]))))
     ·exact Aw_skip (hB13 v _ ⟨hv1,hv2⟩ (LeE_of (Le_wk (by first | omega | (dsimp only;omega) | (simp only;omega) | (simp;omega)) (by simp only [go_sem,seval]) (by simp only [go_sem,seval]))))
    ·exact hK _ (Aw_no rfl (Aw_skip (hB13 v _ ⟨hv1,hv2⟩ (LeE_of (Le_wk (by first | omega | (dsimp only;omega) | (simp only;omega) | (simp;omega)) (by simp only [go_sem,seval]) (by simp only [go_sem,seval]))))))
  ·refine Aw_st hE [0,3,4,6,7,8,40] [700,701,710,711,712,713,714,720,721,722,723,724] fun K hK=>?_
   simp only [go_sem,seval]
   refine hK _ (Aw_yes rfl (Aw_skip (hB10 _ ?_)))
   refine Aw_sq fun B11 hB11 hR11 hX11=>?_
   refine Aw_bk fun B12 hN12 hE12 hR12 hX12=>?_
   refine Aw_st hE [0,3,4,6,7,8,9] [700,701,710,711,712,713,714,720,721,722,723,724] fun K hK=>?_
   refine aops_cut 3 fun K1 hK1=>?_
   simp only [go_sem,seval]
   repeat refine ⟨by first|omega|(and_intros<;>first|omega|exact rows_row _|exact wrows_row _|decide|(simp<;>omega))|fail,?_⟩
   intro x hx1 hx2
   obtain ⟨v,hv,hv1,hv2⟩:=pick4 x hx1 hx2
   refine hK1 _ ?_
   clear hK1
   simp only [go_sem,seval,hv]
   repeat refine ⟨by first|omega|(and_intros<;>first|omega|exact rows_row _|exact wrows_row _|decide|(simp<;>omega))|fail,?_⟩
   refine hK _ ?_;clear hK K
   refine Aw_sqJ (fun v:Int=>⟨111,[(0,.rd),(3,iv 4),(4,.xs 700 0 4 (c + 4) 1),(6,bv bb),(7,iv 1),(8,iv 3),(9,iv v)],(700,vws 4 d 710 4++jN c)::bxs 4 d r 710 4,k + 12⟩) (fun v=>0≤v∧v≤3) (fun v hv=>?_) fun B13 hB13 hR13 hX13=>?_
   ·have hs1:=cI_set (r 1) (d 1) 3 v (by omega)
    have hs2:=fun y=>cI_set (r 3) (d 3) 1 y (by omega)
    obtain ⟨hv1,hv2⟩:=hv
    refine Aw_st hE [0,3,4,6,7,8,9] [700,701,710,711,712,713,714,720,721,722,723,724] fun K hK=>?_
    simp only [go_sem,seval,hs1]
    refine ⟨by omega,?_⟩
    refine hK _ ?_;clear hK K
    refine Aw_td hE [0,3,4,6,7,8] [700,701,710,711,712,713,714,720,721,722,723,724] 6 (by kernel_rfl) fun K hK=>?_
    simp only [go_sem,seval,hs2,hv1,hv2]
    refine ⟨by omega,hK _ (hN12 _ (hB11 _ ?_))⟩
    refine Aw_tx hE [0,3,4,6,7,8] [700,701,710,711,712,713,714,720,721,722,723,724] fun K hK=>?_
    simp only [go_sem,seval]
    repeat refine ⟨by first|omega|(and_intros<;>first|omega|exact rows_row _|exact wrows_row _|decide|(simp<;>omega))|fail,?_⟩
    refine hK _ (hN9 (4,upd (upd r 1 3 v) 3 1 (mirr v)) _ ⟨by omega,by omega,upd_len (upd_len hr)⟩ (by simp only;omega) (Le_wk (by first | omega | (dsimp only;omega) | (simp only;omega) | (simp;omega)) (by simp only [go_sem,seval,upd]) (by simp only [go_sem,seval,upd])))
   ·refine Aw_st hE [0,3,4,6,7,8,9,53] [700,701,710,711,712,713,714,720,721,722,723,724] fun K hK=>?_
    simp only [go_sem,seval]
    refine ⟨fun hg23=>⟨by omega,fun y hy1 hy2=>?_⟩,fun hg23=>?_⟩
    ·refine hK _ (Aw_cond rfl (fun hc24=>?_) (fun hc24=>?_))
     ·refine Aw_tx hE [0,3,4,6,7,8,9] [700,701,710,711,712,713,714,720,721,722,723,724] fun K hK=>?_
      simp only [go_sem,seval]
      exact hK _ (hB13 3 _ ⟨by decide,by decide⟩ (LeE_of (Le_wk (by first | omega | (dsimp only;omega) | (simp only;omega) | (simp;omega)) (by simp only [go_sem,seval]) (by simp only [go_sem,seval]))))
     ·exact Aw_skip (hB13 v _ ⟨hv1,hv2⟩ (LeE_of (Le_wk (by first | omega | (dsimp only;omega) | (simp only;omega) | (simp;omega)) (by simp only [go_sem,seval]) (by simp only [go_sem,seval]))))
    ·exact hK _ (Aw_no rfl (Aw_skip (hB13 v _ ⟨hv1,hv2⟩ (LeE_of (Le_wk (by first | omega | (dsimp only;omega) | (simp only;omega) | (simp;omega)) (by simp only [go_sem,seval]) (by simp only [go_sem,seval]))))))
 ·refine Aw_st hE [0,3,4,6,7,33] [700,701,710,711,712,713,714,720,721,722,723,724] fun K hK=>?_
  simp only [go_sem,seval]
  refine hK _ (Aw_yes rfl (Aw_skip (hB4 _ ?_)))
  refine Aw_sq fun B6 hB6 hR6 hX6=>?_
  refine Aw_bk fun B7 hN7 hE7 hR7 hX7=>?_
  refine Aw_st hE [0,3,4,6,7,8] [700,701,710,711,712,713,714,720,721,722,723,724] fun K hK=>?_
  simp only [go_sem,seval]
  refine hK _ ?_;clear hK K
  refine Aw_bk fun B8 hN8 hE8 hR8 hX8=>?_
  refine Aw_lp (fun i:Nat × (Nat→List Int)=>⟨111,[(0,.rd),(3,iv 4),(4,.xs 700 0 4 (c + 4) 1),(6,bv bb),(7,iv 2),(8,iv (i.1:Int))],(700,vws 4 d 710 4++jN c)::bxs 4 d i.2 710 4,k + 6 + 2 * i.1⟩) (fun i=>3≤i.1∧i.1≤4∧∀ x,(i.2 x).length=4) (fun i=>4 - i.1) (3,r) (Le_wk (by first | omega | (dsimp only;omega) | (simp only;omega) | (simp;omega)) (by simp only [go_sem,seval]) (by simp only [go_sem,seval])) ⟨by omega,by omega,hr⟩ fun i hi B9 hN9 hR9 hX9=>?_
  obtain ⟨b,r⟩:=i
  obtain ⟨hi1,hi2,hr⟩:=hi
  simp only at hi1 hi2 hr
  have hr0:=hr 0
  have hr1:=hr 1
  have hr2:=hr 2
  have hr3:=hr 3
  refine Aw_sq fun B10 hB10 hR10 hX10=>?_
  rcases (show b=4∨b=3 by omega) with rfl | rfl
  ·refine Aw_st hE [0,3,4,6,7,8,40] [700,701,710,711,712,713,714,720,721,722,723,724] fun K hK=>?_
   simp only [go_sem,seval]
   refine hK _ (Aw_no rfl (Aw_exit (hX10 _ _ (hX9 _ _ (hE8 _ ?_)))))
   refine hN7 _ (hB6 _ ?_)
   refine Aw_tx hE [0,3,4,6,7] [700,701,710,711,712,713,714,720,721,722,723,724] fun K hK=>?_
   simp only [go_sem,seval]
   repeat refine ⟨by first|omega|(and_intros<;>first|omega|exact rows_row _|exact wrows_row _|decide|(simp<;>omega))|fail,?_⟩
   refine hK _ (hN3 (3,r) _ ⟨by omega,hr⟩ (by simp only;omega) (Le_wk (by first | omega | (dsimp only;omega) | (simp only;omega) | (simp;omega)) (by simp only [go_sem,seval]) (by simp only [go_sem,seval])))
  ·refine Aw_st hE [0,3,4,6,7,8,40] [700,701,710,711,712,713,714,720,721,722,723,724] fun K hK=>?_
   simp only [go_sem,seval]
   refine hK _ (Aw_yes rfl (Aw_skip (hB10 _ ?_)))
   refine Aw_sq fun B11 hB11 hR11 hX11=>?_
   refine Aw_bk fun B12 hN12 hE12 hR12 hX12=>?_
   refine Aw_st hE [0,3,4,6,7,8,9] [700,701,710,711,712,713,714,720,721,722,723,724] fun K hK=>?_
   refine aops_cut 3 fun K1 hK1=>?_
   simp only [go_sem,seval]
   repeat refine ⟨by first|omega|(and_intros<;>first|omega|exact rows_row _|exact wrows_row _|decide|(simp<;>omega))|fail,?_⟩
   intro x hx1 hx2
   obtain ⟨v,hv,hv1,hv2⟩:=pick4 x hx1 hx2
   refine hK1 _ ?_
   clear hK1
   simp only [go_sem,seval,hv]
   repeat refine ⟨by first|omega|(and_intros<;>first|omega|exact rows_row _|exact wrows_row _|decide|(simp<;>omega))|fail,?_⟩
   refine hK _ ?_;clear hK K
   refine Aw_sqJ (fun v:Int=>⟨111,[(0,.rd),(3,iv 4),(4,.xs 700 0 4 (c + 4) 1),(6,bv bb),(7,iv 2),(8,iv 3),(9,iv v)],(700,vws 4 d 710 4++jN c)::bxs 4 d r 710 4,k + 14⟩) (fun v=>0≤v∧v≤3) (fun v hv=>?_) fun B13 hB13 hR13 hX13=>?_
   ·have hs1:=cI_set (r 2) (d 2) 3 v (by omega)
    have hs2:=fun y=>cI_set (r 3) (d 3) 2 y (by omega)
    obtain ⟨hv1,hv2⟩:=hv
    refine Aw_st hE [0,3,4,6,7,8,9] [700,701,710,711,712,713,714,720,721,722,723,724] fun K hK=>?_
    simp only [go_sem,seval,hs1]
    refine ⟨by omega,?_⟩
    refine hK _ ?_;clear hK K
    refine Aw_td hE [0,3,4,6,7,8] [700,701,710,711,712,713,714,720,721,722,723,724] 6 (by kernel_rfl) fun K hK=>?_
    simp only [go_sem,seval,hs2,hv1,hv2]
    refine ⟨by omega,hK _ (hN12 _ (hB11 _ ?_))⟩
    refine Aw_tx hE [0,3,4,6,7,8] [700,701,710,711,712,713,714,720,721,722,723,724] fun K hK=>?_
    simp only [go_sem,seval]
    repeat refine ⟨by first|omega|(and_intros<;>first|omega|exact rows_row _|exact wrows_row _|decide|(simp<;>omega))|fail,?_⟩
    refine hK _ (hN9 (4,upd (upd r 2 3 v) 3 2 (mirr v)) _ ⟨by omega,by omega,upd_len (upd_len hr)⟩ (by simp only;omega) (Le_wk (by first | omega | (dsimp only;omega) | (simp only;omega) | (simp;omega)) (by simp only [go_sem,seval,upd]) (by simp only [go_sem,seval,upd])))
   ·refine Aw_st hE [0,3,4,6,7,8,9,53] [700,701,710,711,712,713,714,720,721,722,723,724] fun K hK=>?_
    simp only [go_sem,seval]
    refine ⟨fun hg23=>⟨by omega,fun y hy1 hy2=>?_⟩,fun hg23=>?_⟩
    ·refine hK _ (Aw_cond rfl (fun hc24=>?_) (fun hc24=>?_))
     ·refine Aw_tx hE [0,3,4,6,7,8,9] [700,701,710,711,712,713,714,720,721,722,723,724] fun K hK=>?_
      simp only [go_sem,seval]
      exact hK _ (hB13 3 _ ⟨by decide,by decide⟩ (LeE_of (Le_wk (by first | omega | (dsimp only;omega) | (simp only;omega) | (simp;omega)) (by simp only [go_sem,seval]) (by simp only [go_sem,seval]))))
     ·exact Aw_skip (hB13 v _ ⟨hv1,hv2⟩ (LeE_of (Le_wk (by first | omega | (dsimp only;omega) | (simp only;omega) | (simp;omega)) (by simp only [go_sem,seval]) (by simp only [go_sem,seval]))))
    ·exact hK _ (Aw_no rfl (Aw_skip (hB13 v _ ⟨hv1,hv2⟩ (LeE_of (Le_wk (by first | omega | (dsimp only;omega) | (simp only;omega) | (simp;omega)) (by simp only [go_sem,seval]) (by simp only [go_sem,seval]))))))
 ·refine Aw_st hE [0,3,4,6,7,33] [700,701,710,711,712,713,714,720,721,722,723,724] fun K hK=>?_
  simp only [go_sem,seval]
  refine hK _ (Aw_yes rfl (Aw_skip (hB4 _ ?_)))
  refine Aw_sq fun B6 hB6 hR6 hX6=>?_
  refine Aw_bk fun B7 hN7 hE7 hR7 hX7=>?_
  refine Aw_st hE [0,3,4,6,7,8] [700,701,710,711,712,713,714,720,721,722,723,724] fun K hK=>?_
  simp only [go_sem,seval]
  refine hK _ ?_;clear hK K
  refine Aw_bk fun B8 hN8 hE8 hR8 hX8=>?_
  refine Aw_lp (fun i:Nat × (Nat→List Int)=>⟨111,[(0,.rd),(3,iv 4),(4,.xs 700 0 4 (c + 4) 1),(6,bv bb),(7,iv 3),(8,iv (i.1:Int))],(700,vws 4 d 710 4++jN c)::bxs 4 d i.2 710 4,k + 6 + 2 * i.1⟩) (fun i=>4≤i.1∧i.1≤4∧∀ x,(i.2 x).length=4) (fun i=>4 - i.1) (4,r) (Le_wk (by first | omega | (dsimp only;omega) | (simp only;omega) | (simp;omega)) (by simp only [go_sem,seval]) (by simp only [go_sem,seval])) ⟨by omega,by omega,hr⟩ fun i hi B9 hN9 hR9 hX9=>?_
  obtain ⟨b,r⟩:=i
  obtain ⟨hi1,hi2,hr⟩:=hi
  simp only at hi1 hi2 hr
  have hr0:=hr 0
  have hr1:=hr 1
  have hr2:=hr 2
  have hr3:=hr 3
  refine Aw_sq fun B10 hB10 hR10 hX10=>?_
  obtain rfl:b=4:=by omega
  ·refine Aw_st hE [0,3,4,6,7,8,40] [700,701,710,711,712,713,714,720,721,722,723,724] fun K hK=>?_
   simp only [go_sem,seval]
   refine hK _ (Aw_no rfl (Aw_exit (hX10 _ _ (hX9 _ _ (hE8 _ ?_)))))
   refine hN7 _ (hB6 _ ?_)
   refine Aw_tx hE [0,3,4,6,7] [700,701,710,711,712,713,714,720,721,722,723,724] fun K hK=>?_
   simp only [go_sem,seval]
   repeat refine ⟨by first|omega|(and_intros<;>first|omega|exact rows_row _|exact wrows_row _|decide|(simp<;>omega))|fail,?_⟩
   refine hK _ (hN3 (4,r) _ ⟨by omega,hr⟩ (by simp only;omega) (Le_wk (by first | omega | (dsimp only;omega) | (simp only;omega) | (simp;omega)) (by simp only [go_sem,seval]) (by simp only [go_sem,seval])))
set_option maxHeartbeats 16000000 in
theorem relsB5 {E:En} (hE:TbOk E tbRels) {k:Nat} (hk:k + 40≤1099511627776) {Q:Exit→St→Prop} (hQ:∀ (L:List (List Int)) (rn:Nat),(2≤L.length∧L.length≤5)→(∀ w ∈ L,w.length=L.length)→rn≤k + 40→Aw E .ret ⟨111,[(2,wsl L)],[],rn⟩ Q) {r:Nat→List Int} (hr:∀ q,(r q).length=5) {d:Nat→Nat} {c:Nat}:Aw E (seqB (seqB (seqB (seqB (Tryd.f30.body.getD .skip))))) ⟨111,[(0,.rd),(3,iv 5),(4,.xs 700 0 5 (c + 5) 1)],(700,vws 5 d 710 5++jN c)::bxs 5 d r 710 5,k + 1⟩ Q:=by
 refine Aw_st hE [0,3,4,6] [700,701,710,711,712,713,714,720,721,722,723,724] fun K hK=>?_
 simp only [go_sem,seval]
 refine ⟨by omega,fun x hx1 hx2=>?_⟩
 generalize decide (x=0)=bb
 refine hK _ ?_;clear hK K
 refine Aw_sqJ (fun i:(Nat→List Int) × Nat=>⟨111,[(0,.rd),(3,iv 5),(4,.xs 700 0 5 (c + 5) 1)],(700,vws 5 d 710 5++jN c)::bxs 5 d i.1 710 5,i.2⟩) (fun i=>(∀ x,(i.1 x).length=5)∧i.2≤k + 29) (fun i hi=>relsR5 hE hk hQ hi.1 hi.2) fun B1 hB1 hR1 hX1=>?_
 refine Aw_st hE [0,3,4,6,7] [700,701,710,711,712,713,714,720,721,722,723,724] fun K hK=>?_
 simp only [go_sem,seval]
 refine hK _ ?_;clear hK K
 refine Aw_bk fun B2 hN2 hE2 hR2 hX2=>?_
 refine Aw_lp (fun i:Nat × (Nat→List Int)=>⟨111,[(0,.rd),(3,iv 5),(4,.xs 700 0 5 (c + 5) 1),(6,bv bb),(7,iv (i.1:Int))],(700,vws 5 d 710 5++jN c)::bxs 5 d i.2 710 5,k + 2 + i.1 * (9 - i.1)⟩) (fun i=>i.1≤5∧∀ x,(i.2 x).length=5) (fun i=>5 - i.1) (0,r) (Le_wk (by first | omega | (dsimp only;omega) | (simp only;omega) | (simp;omega)) (by simp only [go_sem,seval]) (by simp only [go_sem,seval])) ⟨by omega,hr⟩ fun i hi B3 hN3 hR3 hX3=>?_
 obtain ⟨a,r⟩:=i
 obtain ⟨hi,hr⟩:=hi
 simp only at hi hr
 refine Aw_sq fun B4 hB4 hR4 hX4=>?_
 rcases (show a=5∨a=0∨a=1∨a=2∨a=3∨a=4 by omega) with rfl | rfl | rfl | rfl | rfl | rfl
 ·refine Aw_st hE [0,3,4,6,7,33] [700,701,710,711,712,713,714,720,721,722,723,724] fun K hK=>?_
  simp only [go_sem,seval]
  refine hK _ (Aw_no rfl (Aw_exit (hX4 _ _ (hX3 _ _ (hE2 _ (hB1 (r,k + 29) _ ⟨hr,by simp only;omega⟩ (LeE_of (Le_wk (by first | omega | (dsimp only;omega) | (simp only;omega) | (simp;omega)) (by simp only [go_sem,seval]) (by simp only [go_sem,seval])))))))))
 ·refine Aw_st hE [0,3,4,6,7,33] [700,701,710,711,712,713,714,720,721,722,723,724] fun K hK=>?_
  simp only [go_sem,seval]
  refine hK _ (Aw_yes rfl (Aw_skip (hB4 _ ?_)))
  refine Aw_sq fun B6 hB6 hR6 hX6=>?_
  refine Aw_bk fun B7 hN7 hE7 hR7 hX7=>?_
  refine Aw_st hE [0,3,4,6,7,8] [700,701,710,711,712,713,714,720,721,722,723,724] fun K hK=>?_
  simp only [go_sem,seval]
  refine hK _ ?_;clear hK K
  refine Aw_bk fun B8 hN8 hE8 hR8 hX8=>?_
  refine Aw_lp (fun i:Nat × (Nat→List Int)=>⟨111,[(0,.rd),(3,iv 5),(4,.xs 700 0 5 (c + 5) 1),(6,bv bb),(7,iv 0),(8,iv (i.1:Int))],(700,vws 5 d 710 5++jN c)::bxs 5 d i.2 710 5,k + 0 + 2 * i.1⟩) (fun i=>1≤i.1∧i.1≤5∧∀ x,(i.2 x).length=5) (fun i=>5 - i.1) (1,r) (Le_wk (by first | omega | (dsimp only;omega) | (simp only;omega) | (simp;omega)) (by simp only [go_sem,seval]) (by simp only [go_sem,seval])) ⟨by omega,by omega,hr⟩ fun i hi B9 hN9 hR9 hX9=>?_
  obtain ⟨b,r⟩:=i
  obtain ⟨hi1,hi2,hr⟩:=hi
  simp only at hi1 hi2 hr
  have hr0:=hr 0
  have hr1:=hr 1
  have hr2:=hr 2
  have hr3:=hr 3
  have hr4:=hr 4
  refine Aw_sq fun B10 hB10 hR10 hX10=>?_
  rcases (show b=5∨b=1∨b=2∨b=3∨b=4 by omega) with rfl | rfl | rfl | rfl | rfl
  ·refine Aw_st hE [0,3,4,6,7,8,40] [700,701,710,711,712,713,714,720,721,722,723,724] fun K hK=>?_
   simp only [go_sem,seval]
   refine hK _ (Aw_no rfl (Aw_exit (hX10 _ _ (hX9 _ _ (hE8 _ ?_)))))
   refine hN7 _ (hB6 _ ?_)
   refine Aw_tx hE [0,3,4,6,7] [700,701,710,711,712,713,714,720,721,722,723,724] fun K hK=>?_
   simp only [go_sem,seval]
   repeat refine ⟨by first|omega|(and_intros<;>first|omega|exact rows_row _|exact wrows_row _|decide|(simp<;>omega))|fail,?_⟩
   refine hK _ (hN3 (1,r) _ ⟨by omega,hr⟩ (by simp only;omega) (Le_wk (by first | omega | (dsimp only;omega) | (simp only;omega) | (simp;omega)) (by simp only [go_sem,seval]) (by simp only [go_sem,seval])))
  ·refine Aw_st hE [0,3,4,6,7,8,40] [700,701,710,711,712,713,714,720,721,722,723,724] fun K hK=>?_
   simp only [go_sem,seval]
   refine hK _ (Aw_yes rfl (Aw_skip (hB10 _ ?_)))
   refine Aw_sq fun B11 hB11 hR11 hX11=>?_
   refine Aw_bk fun B12 hN12 hE12 hR12 hX12=>?_
   refine Aw_st hE [0,3,4,6,7,8,9] [700,701,710,711,712,713,714,720,721,722,723,724] fun K hK=>?_
   refine aops_cut 3 fun K1 hK1=>?_
   simp only [go_sem,seval]
   repeat refine ⟨by first|omega|(and_intros<;>first|omega|exact rows_row _|exact wrows_row _|decide|(simp<;>omega))|fail,?_⟩
   intro x hx1 hx2
   obtain ⟨v,hv,hv1,hv2⟩:=pick4 x hx1 hx2
   refine hK1 _ ?_
   clear hK1
   simp only [go_sem,seval,hv]
   repeat refine ⟨by first|omega|(and_intros<;>first|omega|exact rows_row _|exact wrows_row _|decide|(simp<;>omega))|fail,?_⟩
   refine hK _ ?_;clear hK K
   refine Aw_sqJ (fun v:Int=>⟨111,[(0,.rd),(3,iv 5),(4,.xs 700 0 5 (c + 5) 1),(6,bv bb),(7,iv 0),(8,iv 1),(9,iv v)],(700,vws 5 d 710 5++jN c)::bxs 5 d r 710 5,k + 4⟩) (fun v=>0≤v∧v≤3) (fun v hv=>?_) fun B13 hB13 hR13 hX13=>?_
   ·have hs1:=cI_set (r 0) (d 0) 1 v (by omega)
    have hs2:=fun y=>cI_set (r 1) (d 1) 0 y (by omega)
    obtain ⟨hv1,hv2⟩:=hv
    refine Aw_st hE [0,3,4,6,7,8,9] [700,701,710,711,712,713,714,720,721,722,723,724] fun K hK=>?_
    simp only [go_sem,seval,hs1]
    refine ⟨by omega,?_⟩
    refine hK _ ?_;clear hK K
    refine Aw_td hE [0,3,4,6,7,8] [700,701,710,711,712,713,714,720,721,722,723,724] 6 (by kernel_rfl) fun K hK=>?_
    simp only [go_sem,seval,hs2,hv1,hv2]
    refine ⟨by omega,hK _ (hN12 _ (hB11 _ ?_))⟩
    refine Aw_tx hE [0,3,4,6,7,8] [700,701,710,711,712,713,714,720,721,722,723,724] fun K hK=>?_
    simp only [go_sem,seval]
    repeat refine ⟨by first|omega|(and_intros<;>first|omega|exact rows_row _|exact wrows_row _|decide|(simp<;>omega))|fail,?_⟩
    refine hK _ (hN9 (2,upd (upd r 0 1 v) 1 0 (mirr v)) _ ⟨by omega,by omega,upd_len (upd_len hr)⟩ (by simp only;omega) (Le_wk (by first | omega | (dsimp only;omega) | (simp only;omega) | (simp;omega)) (by simp only [go_sem,seval,upd]) (by simp only [go_sem,seval,upd])))
   ·refine Aw_st hE [0,3,4,6,7,8,9,53] [700,701,710,711,712,713,714,720,721,722,723,724] fun K hK=>?_
    simp only [go_sem,seval]
    refine ⟨fun hg23=>⟨by omega,fun y hy1 hy2=>?_⟩,fun hg23=>?_⟩
    ·refine hK _ (Aw_cond rfl (fun hc24=>?_) (fun hc24=>?_))
     ·refine Aw_tx hE [0,3,4,6,7,8,9] [700,701,710,711,712,713,714,720,721,722,723,724] fun K hK=>?_
      simp only [go_sem,seval]
      exact hK _ (hB13 3 _ ⟨by decide,by decide⟩ (LeE_of (Le_wk (by first | omega | (dsimp only;omega) | (simp only;omega) | (simp;omega)) (by simp only [go_sem,seval]) (by simp only [go_sem,seval]))))
     ·exact Aw_skip (hB13 v _ ⟨hv1,hv2⟩ (LeE_of (Le_wk (by first | omega | (dsimp only;omega) | (simp only;omega) | (simp;omega)) (by simp only [go_sem,seval]) (by simp only [go_sem,seval]))))
    ·exact hK _ (Aw_no rfl (Aw_skip (hB13 v _ ⟨hv1,hv2⟩ (LeE_of (Le_wk (by first | omega | (dsimp only;omega) | (simp only;omega) | (simp;omega)) (by simp only [go_sem,seval]) (by simp only [go_sem,seval]))))))
  ·refine Aw_st hE [0,3,4,6,7,8,40] [700,701,710,711,712,713,714,720,721,722,723,724] fun K hK=>?_
   simp only [go_sem,seval]
   refine hK _ (Aw_yes rfl (Aw_skip (hB10 _ ?_)))
   refine Aw_sq fun B11 hB11 hR11 hX11=>?_
   refine Aw_bk fun B12 hN12 hE12 hR12 hX12=>?_
   refine Aw_st hE [0,3,4,6,7,8,9] [700,701,710,711,712,713,714,720,721,722,723,724] fun K hK=>?_
   refine aops_cut 3 fun K1 hK1=>?_
   simp only [go_sem,seval]
   repeat refine ⟨by first|omega|(and_intros<;>first|omega|exact rows_row _|exact wrows_row _|decide|(simp<;>omega))|fail,?_⟩
   intro x hx1 hx2
   obtain ⟨v,hv,hv1,hv2⟩:=pick4 x hx1 hx2
   refine hK1 _ ?_
   clear hK1
   simp only [go_sem,seval,hv]
   repeat refine ⟨by first|omega|(and_intros<;>first|omega|exact rows_row _|exact wrows_row _|decide|(simp<;>omega))|fail,?_⟩
   refine hK _ ?_;clear hK K
   refine Aw_sqJ (fun v:Int=>⟨111,[(0,.rd),(3,iv 5),(4,.xs 700 0 5 (c + 5) 1),(6,bv bb),(7,iv 0),(8,iv 2),(9,iv v)],(700,vws 5 d 710 5++jN c)::bxs 5 d r 710 5,k + 6⟩) (fun v=>0≤v∧v≤3) (fun v hv=>?_) fun B13 hB13 hR13 hX13=>?_
   ·have hs1:=cI_set (r 0) (d 0) 2 v (by omega)
    have hs2:=fun y=>cI_set (r 2) (d 2) 0 y (by omega)
    obtain ⟨hv1,hv2⟩:=hv
    refine Aw_st hE [0,3,4,6,7,8,9] [700,701,710,711,712,713,714,720,721,722,723,724] fun K hK=>?_
    simp only [go_sem,seval,hs1]
    refine ⟨by omega,?_⟩
    refine hK _ ?_;clear hK K
    refine Aw_td hE [0,3,4,6,7,8] [700,701,710,711,712,713,714,720,721,722,723,724] 6 (by kernel_rfl) fun K hK=>?_
    simp only [go_sem,seval,hs2,hv1,hv2]
    refine ⟨by omega,hK _ (hN12 _ (hB11 _ ?_))⟩
    refine Aw_tx hE [0,3,4,6,7,8] [700,701,710,711,712,713,714,720,721,722,723,724] fun K hK=>?_
    simp only [go_sem,seval]
    repeat refine ⟨by first|omega|(and_intros<;>first|omega|exact rows_row _|exact wrows_row _|decide|(simp<;>omega))|fail,?_⟩
    refine hK _ (hN9 (3,upd (upd r 0 2 v) 2 0 (mirr v)) _ ⟨by omega,by omega,upd_len (upd_len hr)⟩ (by simp only;omega) (Le_wk (by first | omega | (dsimp only;omega) | (simp only;omega) | (simp;omega)) (by simp only [go_sem,seval,upd]) (by simp only [go_sem,seval,upd])))
   ·refine Aw_st hE [0,3,4,6,7,8,9,53] [700,701,710,711,712,713,714,720,721,722,723,724] fun K hK=>?_
    simp only [go_sem,seval]
    refine ⟨fun hg23=>⟨by omega,fun y hy1 hy2=>?_⟩,fun hg23=>?_⟩
    ·refine hK _ (Aw_cond rfl (fun hc24=>?_) (fun hc24=>?_))
     ·refine Aw_tx hE [0,3,4,6,7,8,9] [700,701,710,711,712,713,714,720,721,722,723,724] fun K hK=>?_
      simp only [go_sem,seval]
      exact hK _ (hB13 3 _ ⟨by decide,by decide⟩ (LeE_of (Le_wk (by first | omega | (dsimp only;omega) | (simp only;omega) | (simp;omega)) (by simp only [go_sem,seval]) (by simp only [go_sem,seval]))))
     ·exact Aw_skip (hB13 v _ ⟨hv1,hv2⟩ (LeE_of (Le_wk (by first | omega | (dsimp only;omega) | (simp only;omega) | (simp;omega)) (by simp only [go_sem,seval]) (by simp only [go_sem,seval]))))
    ·exact hK _ (Aw_no rfl (Aw_skip (hB13 v _ ⟨hv1,hv2⟩ (LeE_of (Le_wk (by first | omega | (dsimp only;omega) | (simp only;omega) | (simp;omega)) (by simp only [go_sem,seval]) (by simp only [go_sem,seval]))))))
  ·refine Aw_st hE [0,3,4,6,7,8,40] [700,701,710,711,712,713,714,720,721,722,723,724] fun K hK=>?_
   simp only [go_sem,seval]
   refine hK _ (Aw_yes rfl (Aw_skip (hB10 _ ?_)))
   refine Aw_sq fun B11 hB11 hR11 hX11=>?_
   refine Aw_bk fun B12 hN12 hE12 hR12 hX12=>?_
   refine Aw_st hE [0,3,4,6,7,8,9] [700,701,710,711,712,713,714,720,721,722,723,724] fun K hK=>?_
   refine aops_cut 3 fun K1 hK1=>?_
   simp only [go_sem,seval]
   repeat refine ⟨by first|omega|(and_intros<;>first|omega|exact rows_row _|exact wrows_row _|decide|(simp<;>omega))|fail,?_⟩
   intro x hx1 hx2
   obtain ⟨v,hv,hv1,hv2⟩:=pick4 x hx1 hx2
   refine hK1 _ ?_
   clear hK1
   simp only [go_sem,seval,hv]
   repeat refine ⟨by first|omega|(and_intros<;>first|omega|exact rows_row _|exact wrows_row _|decide|(simp<;>omega))|fail,?_⟩
   refine hK _ ?_;clear hK K
   refine Aw_sqJ (fun v:Int=>⟨111,[(0,.rd),(3,iv 5),(4,.xs 700 0 5 (c + 5) 1),(6,bv bb),(7,iv 0),(8,iv 3),(9,iv v)],(700,vws 5 d 710 5++jN c)::bxs 5 d r 710 5,k + 8⟩) (fun v=>0≤v∧v≤3) (fun v hv=>?_) fun B13 hB13 hR13 hX13=>?_
   ·have hs1:=cI_set (r 0) (d 0) 3 v (by omega)
    have hs2:=fun y=>cI_set (r 3) (d 3) 0 y (by omega)
    obtain ⟨hv1,hv2⟩:=hv
    refine Aw_st hE [0,3,4,6,7,8,9] [700,701,710,711,712,713,714,720,721,722,723,724] fun K hK=>?_
    simp only [go_sem,seval,hs1]
    refine ⟨by omega,?_⟩
    refine hK _ ?_;clear hK K
    refine Aw_td hE [0,3,4,6,7,8] [700,701,710,711,712,713,714,720,721,722,723,724] 6 (by kernel_rfl) fun K hK=>?_
    simp only [go_sem,seval,hs2,hv1,hv2]
    refine ⟨by omega,hK _ (hN12 _ (hB11 _ ?_))⟩
    refine Aw_tx hE [0,3,4,6,7,8] [700,701,710,711,712,713,714,720,721,722,723,724] fun K hK=>?_
    simp only [go_sem,seval]
    repeat refine ⟨by first|omega|(and_intros<;>first|omega|exact rows_row _|exact wrows_row _|decide|(simp<;>omega))|fail,?_⟩
    refine hK _ (hN9 (4,upd (upd r 0 3 v) 3 0 (mirr v)) _ ⟨by omega,by omega,upd_len (upd_len hr)⟩ (by simp only;omega) (Le_wk (by first | omega | (dsimp only;omega) | (simp only;omega) | (simp;omega)) (by simp only [go_sem,seval,upd]) (by simp only [go_sem,seval,upd])))
   ·refine Aw_st hE [0,3,4,6,7,8,9,53] [700,701,710,711,712,713,714,720,721,722,723,724] fun K hK=>?_
    simp only [go_sem,seval]
    refine ⟨fun hg23=>⟨by omega,fun y hy1 hy2=>?_⟩,fun hg23=>?_⟩
    ·refine hK _ (Aw_cond rfl (fun hc24=>?_) (fun hc24=>?_))
     ·refine Aw_tx hE [0,3,4,6,7,8,9] [700,701,710,711,712,713,714,720,721,722,723,724] fun K hK=>?_
      simp only [go_sem,seval]
      exact hK _ (hB13 3 _ ⟨by decide,by decide⟩ (LeE_of (Le_wk (by first | omega | (dsimp only;omega) | (simp only;omega) | (simp;omega)) (by simp only [go_sem,seval]) (by simp only [go_sem,seval]))))
     ·exact Aw_skip (hB13 v _ ⟨hv1,hv2⟩ (LeE_of (Le_wk (by first | omega | (dsimp only;omega) | (simp only;omega) | (simp;omega)) (by simp only [go_sem,seval]) (by simp only [go_sem,seval]))))
    ·exact hK _ (Aw_no rfl (Aw_skip (hB13 v _ ⟨hv1,hv2⟩ (LeE_of (Le_wk (by first | omega | (dsimp only;omega) | (simp only;omega) | (simp;omega)) (by simp only [go_sem,seval]) (by simp only [go_sem,seval]))))))
  ·refine Aw_st hE [0,3,4,6,7,8,40] [700,701,710,711,712,713,714,720,721,722,723,724] fun K hK=>?_
   simp only [go_sem,seval]
   refine hK _ (Aw_yes rfl (Aw_skip (hB10 _ ?_)))
   refine Aw_sq fun B11 hB11 hR11 hX11=>?_
   refine Aw_bk fun B12 hN12 hE12 hR12 hX12=>?_
   refine Aw_st hE [0,3,4,6,7,8,9] [700,701,710,711,712,713,714,720,721,722,723,724] fun K hK=>?_
   refine aops_cut 3 fun K1 hK1=>?_
   simp only [go_sem,seval]
   repeat refine ⟨by first|omega|(and_intros<;>first|omega|exact rows_row _|exact wrows_row _|decide|(simp<;>omega))|fail,?_⟩
   intro x hx1 hx2
   obtain ⟨v,hv,hv1,hv2⟩:=pick4 x hx1 hx2
   refine hK1 _ ?_
   clear hK1
   simp only [go_sem,seval,hv]
   repeat refine ⟨by first|omega|(and_intros<;>first|omega|exact rows_row _|exact wrows_row _|decide|(simp<;>omega))|fail,?_⟩
   refine hK _ ?_;clear hK K
   refine Aw_sqJ (fun v:Int=>⟨111,[(0,.rd),(3,iv 5),(4,.xs 700 0 5 (c + 5) 1),(6,bv bb),(7,iv 0),(8,iv 4),(9,iv v)],(700,vws 5 d 710 5++jN c)::bxs 5 d r 710 5,k + 10⟩) (fun v=>0≤v∧v≤3) (fun v hv=>?_) fun B13 hB13 hR13 hX13=>?_
   ·have hs1:=cI_set (r 0) (d 0) 4 v (by omega)
    have hs2:=fun y=>cI_set (r 4) (d 4) 0 y (by omega)
    obtain ⟨hv1,hv2⟩:=hv
    refine Aw_st hE [0,3,4,6,7,8,9] [700,701,710,711,712,713,714,720,721,722,723,724] fun K hK=>?_
    simp only [go_sem,seval,hs1]
    refine ⟨by omega,?_⟩
    refine hK _ ?_;clear hK K
    refine Aw_td hE [0,3,4,6,7,8] [700,701,710,711,712,713,714,720,721,722,723,724] 6 (by kernel_rfl) fun K hK=>?_
    simp only [go_sem,seval,hs2,hv1,hv2]
    refine ⟨by omega,hK _ (hN12 _ (hB11 _ ?_))⟩
    refine Aw_tx hE [0,3,4,6,7,8] [700,701,710,711,712,713,714,720,721,722,723,724] fun K hK=>?_
    simp only [go_sem,seval]
    repeat refine ⟨by first|omega|(and_intros<;>first|omega|exact rows_row _|exact wrows_row _|decide|(simp<;>omega))|fail,?_⟩
    refine hK _ (hN9 (5,upd (upd r 0 4 v) 4 0 (mirr v)) _ ⟨by omega,by omega,upd_len (upd_len hr)⟩ (by simp only;omega) (Le_wk (by first | omega | (dsimp only;omega) | (simp only;omega) | (simp;omega)) (by simp only [go_sem,seval,upd]) (by simp only [go_sem,seval,upd])))
   ·refine Aw_st hE [0,3,4,6,7,8,9,53] [700,701,710,711,712,713,714,720,721,722,723,724] fun K hK=>?_
    simp only [go_sem,seval]
    refine ⟨fun hg23=>⟨by omega,fun y hy1 hy2=>?_⟩,fun hg23=>?_⟩
    ·refine hK _ (Aw_cond rfl (fun hc24=>?_) (fun hc24=>?_))
     ·refine Aw_tx hE [0,3,4,6,7,8,9] [700,701,710,711,712,713,714,720,721,722,723,724] fun K hK=>?_
      simp only [go_sem,seval]
      exact hK _ (hB13 3 _ ⟨by decide,by decide⟩ (LeE_of (Le_wk (by first | omega | (dsimp only;omega) | (simp only;omega) | (simp;omega)) (by simp only [go_sem,seval]) (by simp only [go_sem,seval]))))
     ·exact Aw_skip (hB13 v _ ⟨hv1,hv2⟩ (LeE_of (Le_wk (by first | omega | (dsimp only;omega) | (simp only;omega) | (simp;omega)) (by simp only [go_sem,seval]) (by simp only [go_sem,seval]))))
    ·exact hK _ (Aw_no rfl (Aw_skip (hB13 v _ ⟨hv1,hv2⟩ (LeE_of (Le_wk (by first | omega | (dsimp only;omega) | (simp only;omega) | (simp;omega)) (by simp only [go_sem,seval]) (by simp only [go_sem,seval]))))))
 ·refine Aw_st hE [0,3,4,6,7,33] [700,701,710,711,712,713,714,720,721,722,723,724] fun K hK=>?_
  simp only [go_sem,seval]
  refine hK _ (Aw_yes rfl (Aw_skip (hB4 _ ?_)))
  refine Aw_sq fun B6 hB6 hR6 hX6=>?_
  refine Aw_bk fun B7 hN7 hE7 hR7 hX7=>?_
  refine Aw_st hE [0,3,4,6,7,8] [700,701,710,711,712,713,714,720,721,722,723,724] fun K hK=>?_
  simp only [go_sem,seval]
  refine hK _ ?_;clear hK K
  refine Aw_bk fun B8 hN8 hE8 hR8 hX8=>?_
  refine Aw_lp (fun i:Nat × (Nat→List Int)=>⟨111,[(0,.rd),(3,iv 5),(4,.xs 700 0 5 (c + 5) 1),(6,bv bb),(7,iv 1),(8,iv (i.1:Int))],(700,vws 5 d 710 5++jN c)::bxs 5 d i.2 710 5,k + 6 + 2 * i.1⟩) (fun i=>2≤i.1∧i.1≤5∧∀ x,(i.2 x).length=5) (fun i=>5 - i.1) (2,r) (Le_wk (by first | omega | (dsimp only;omega) | (simp only;omega) | (simp;omega)) (by simp only [go_sem,seval]) (by simp only [go_sem,seval])) ⟨by omega,by omega,hr⟩ fun i hi B9 hN9 hR9 hX9=>?_
  obtain ⟨b,r⟩:=i
  obtain ⟨hi1,hi2,hr⟩:=hi
  simp only at hi1 hi2 hr
  have hr0:=hr 0
  have hr1:=hr 1
  have hr2:=hr 2
  have hr3:=hr 3
  have hr4:=hr 4
  refine Aw_sq fun B10 hB10 hR10 hX10=>?_
  rcases (show b=5∨b=2∨b=3∨b=4 by omega) with rfl | rfl | rfl | rfl
  ·refine Aw_st hE [0,3,4,6,7,8,40] [700,701,710,711,712,713,714,720,721,722,723,724] fun K hK=>?_
   simp only [go_sem,seval]
   refine hK _ (Aw_no rfl (Aw_exit (hX10 _ _ (hX9 _ _ (hE8 _ ?_)))))
   refine hN7 _ (hB6 _ ?_)
   refine Aw_tx hE [0,3,4,6,7] [700,701,710,711,712,713,714,720,721,722,723,724] fun K hK=>?_
   simp only [go_sem,seval]
   repeat refine ⟨by first|omega|(and_intros<;>first|omega|exact rows_row _|exact wrows_row _|decide|(simp<;>omega))|fail,?_⟩
   refine hK _ (hN3 (2,r) _ ⟨by omega,hr⟩ (by simp only;omega) (Le_wk (by first | omega | (dsimp only;omega) | (simp only;omega) | (simp;omega)) (by simp only [go_sem,seval]) (by simp only [go_sem,seval])))
  ·refine Aw_st hE [0,3,4,6,7,8,40] [700,701,710,711,712,713,714,720,721,722,723,724] fun K hK=>?_
   simp only [go_sem,seval]
   refine hK _ (Aw_yes rfl (Aw_skip (hB10 _ ?_)))
   refine Aw_sq fun B11 hB11 hR11 hX11=>?_
   refine Aw_bk fun B12 hN12 hE12 hR12 hX12=>?_
   refine Aw_st hE [0,3,4,6,7,8,9] [700,701,710,711,712,713,714,720,721,722,723,724] fun K hK=>?_
   refine aops_cut 3 fun K1 hK1=>?_
   simp only [go_sem,seval]
   repeat refine ⟨by first|omega|(and_intros<;>first|omega|exact rows_row _|exact wrows_row _|decide|(simp<;>omega))|fail,?_⟩
   intro x hx1 hx2
   obtain ⟨v,hv,hv1,hv2⟩:=pick4 x hx1 hx2
   refine hK1 _ ?_
   clear hK1
   simp only [go_sem,seval,hv]
   repeat refine ⟨by first|omega|(and_intros<;>first|omega|exact rows_row _|exact wrows_row _|decide|(simp<;>omega))|fail,?_⟩
   refine hK _ ?_;clear hK K
   refine Aw_sqJ (fun v:Int=>⟨111,[(0,.rd),(3,iv 5),(4,.xs 700 0 5 (c + 5) 1),(6,bv bb),(7,iv 1),(8,iv 2),(9,iv v)],(700,vws 5 d 710 5++jN c)::bxs 5 d r 710 5,k + 12⟩) (fun v=>0≤v∧v≤3) (fun v hv=>?_) fun B13 hB13 hR13 hX13=>?_
   ·have hs1:=cI_set (r 1) (d 1) 2 v (by omega)
    have hs2:=fun y=>cI_set (r 2) (d 2) 1 y (by omega)
    obtain ⟨hv1,hv2⟩:=hv
    refine Aw_st hE [0,3,4,6,7,8,9] [700,701,710,711,712,713,714,720,721,722,723,724] fun K hK=>?_
    simp only [go_sem,seval,hs1]
    refine ⟨by omega,?_⟩
    refine hK _ ?_;clear hK K
    refine Aw_td hE [0,3,4,6,7,8] [700,701,710,711,712,713,714,720,721,722,723,724] 6 (by kernel_rfl) fun K hK=>?_
    simp only [go_sem,seval,hs2,hv1,hv2]
    refine ⟨by omega,hK _ (hN12 _ (hB11 _ ?_))⟩
    refine Aw_tx hE [0,3,4,6,7,8] [700,701,710,711,712,713,714,720,721,722,723,724] fun K hK=>?_
    simp only [go_sem,seval]
    repeat refine ⟨by first|omega|(and_intros<;>first|omega|exact rows_row _|exact wrows_row _|decide|(simp<;>omega))|fail,?_⟩
    refine hK _ (hN9 (3,upd (upd r 1 2 v) 2 1 (mirr v)) _ ⟨by omega,by omega,upd_len (upd_len hr)⟩ (by simp only;omega) (Le_wk (by first | omega | (dsimp only;omega) | (simp only;omega) | (simp;omega)) (by simp only [go_sem,seval,upd]) (by simp only [go_sem,seval,upd])))
   ·refine Aw_st hE [0,3,4,6,7,8,9,53] [700,701,710,711,712,713,714,720,721,722,723,724] fun K hK=>?_
    simp only [go_sem,seval]
    refine ⟨fun hg23=>⟨by omega,fun y hy1 hy2=>?_⟩,fun hg23=>?_⟩
    ·refine hK _ (Aw_cond rfl (fun hc24=>?_) (fun hc24=>?_))
     ·refine Aw_tx hE [0,3,4,6,7,8,9] [700,701,710,711,712,713,714,720,721,722,723,724] fun K hK=>?_
      simp only [go_sem,seval]
      exact hK _ (hB13 3 _ ⟨by decide,by decide⟩ (LeE_of (Le_wk (by first | omega | (dsimp only;omega) | (simp only;omega) | (simp;omega)) (by simp only [go_sem,seval]) (by simp only [go_sem,seval]))))
     ·exact Aw_skip (hB13 v _ ⟨hv1,hv2⟩ (LeE_of (Le_wk (by first | omega | (dsimp only;omega) | (simp only;omega) | (simp;omega)) (by simp only [go_sem,seval]) (by simp only [go_sem,seval]))))
    ·exact hK _ (Aw_no rfl (Aw_skip (hB13 v _ ⟨hv1,hv2⟩ (LeE_of (Le_wk (by first | omega | (dsimp only;omega) | (simp only;omega) | (simp;omega)) (by simp only [go_sem,seval]) (by simp only [go_sem,seval]))))))
  ·refine Aw_st hE [0,3,4,6,7,8,40] [700,701,710,711,712,713,714,720,721,722,723,724] fun K hK=>?_
   simp only [go_sem,seval]
   refine hK _ (Aw_yes rfl (Aw_skip (hB10 _ ?_)))
   refine Aw_sq fun B11 hB11 hR11 hX11=>?_
   refine Aw_bk fun B12 hN12 hE12 hR12 hX12=>?_
   refine Aw_st hE [0,3,4,6,7,8,9] [700,701,710,711,712,713,714,720,721,722,723,724] fun K hK=>?_
   refine aops_cut 3 fun K1 hK1=>?_
   simp only [go_sem,seval]
   repeat refine ⟨by first|omega|(and_intros<;>first|omega|exact rows_row _|exact wrows_row _|decide|(simp<;>omega))|fail,?_⟩
   intro x hx1 hx2
   obtain ⟨v,hv,hv1,hv2⟩:=pick4 x hx1 hx2
   refine hK1 _ ?_
   clear hK1
   simp only [go_sem,seval,hv]
   repeat refine ⟨by first|omega|(and_intros<;>first|omega|exact rows_row _|exact wrows_row _|decide|(simp<;>omega))|fail,?_⟩
   refine hK _ ?_;clear hK K
   refine Aw_sqJ (fun v:Int=>⟨111,[(0,.rd),(3,iv 5),(4,.xs 700 0 5 (c + 5) 1),(6,bv bb),(7,iv 1),(8,iv 3),(9,iv v)],(700,vws 5 d 710 5++jN c)::bxs 5 d r 710 5,k + 14⟩) (fun v=>0≤v∧v≤3) (fun v hv=>?_) fun B13 hB13 hR13 hX13=>?_
   ·have hs1:=cI_set (r 1) (d 1) 3 v (by omega)
    have hs2:=fun y=>cI_set (r 3) (d 3) 1 y (by omega)
    obtain ⟨hv1,hv2⟩:=hv
    refine Aw_st hE [0,3,4,6,7,8,9] [700,701,710,711,712,713,714,720,721,722,723,724] fun K hK=>?_
    simp only [go_sem,seval,hs1]
    refine ⟨by omega,?_⟩
    refine hK _ ?_;clear hK K
    refine Aw_td hE [0,3,4,6,7,8] [700,701,710,711,712,713,714,720,721,722,723,724] 6 (by kernel_rfl) fun K hK=>?_
    simp only [go_sem,seval,hs2,hv1,hv2]
    refine ⟨by omega,hK _ (hN12 _ (hB11 _ ?_))⟩
    refine Aw_tx hE [0,3,4,6,7,8] [700,701,710,711,712,713,714,720,721,722,723,724] fun K hK=>?_
    simp only [go_sem,seval]
    repeat refine ⟨by first|omega|(and_intros<;>first|omega|exact rows_row _|exact wrows_row _|decide|(simp<;>omega))|fail,?_⟩
    refine hK _ (hN9 (4,upd (upd r 1 3 v) 3 1 (mirr v)) _ ⟨by omega,by omega,upd_len (upd_len hr)⟩ (by simp only;omega) (Le_wk (by first | omega | (dsimp only;omega) | (simp only;omega) | (simp;omega)) (by simp only [go_sem,seval,upd]) (by simp only [go_sem,seval,upd])))
   ·refine Aw_st hE [0,3,4,6,7,8,9,53] [700,701,710,711,712,713,714,720,721,722,723,724] fun K hK=>?_
    simp only [go_sem,seval]
    refine ⟨fun hg23=>⟨by omega,fun y hy1 hy2=>?_⟩,fun hg23=>?_⟩
    ·refine hK _ (Aw_cond rfl (fun hc24=>?_) (fun hc24=>?_))
     ·refine Aw_tx hE [0,3,4,6,7,8,9] [700,701,710,711,712,713,714,720,721,722,723,724] fun K hK=>?_
      simp only [go_sem,seval]
      exact hK _ (hB13 3 _ ⟨by decide,by decide⟩ (LeE_of (Le_wk (by first | omega | (dsimp only;omega) | (simp only;omega) | (simp;omega)) (by simp only [go_sem,seval]) (by simp only [go_sem,seval]))))
     ·exact Aw_skip (hB13 v _ ⟨hv1,hv2⟩ (LeE_of (Le_wk (by first | omega | (dsimp only;omega) | (simp only;omega) | (simp;omega)) (by simp only [go_sem,seval]) (by simp only [go_sem,seval]))))
    ·exact hK _ (Aw_no rfl (Aw_skip (hB13 v _ ⟨hv1,hv2⟩ (LeE_of (Le_wk (by first | omega | (dsimp only;omega) | (simp only;omega) | (simp;omega)) (by simp only [go_sem,seval]) (by simp only [go_sem,seval]))))))
  ·refine Aw_st hE [0,3,4,6,7,8,40] [700,701,710,711,712,713,714,720,721,722,723,724] fun K hK=>?_
   simp only [go_sem,seval]
   refine hK _ (Aw_yes rfl (Aw_skip (hB10 _ ?_)))
   refine Aw_sq fun B11 hB11 hR11 hX11=>?_
   refine Aw_bk fun B12 hN12 hE12 hR12 hX12=>?_
   refine Aw_st hE [0,3,4,6,7,8,9] [700,701,710,711,712,713,714,720,721,722,723,724] fun K hK=>?_
   refine aops_cut 3 fun K1 hK1=>?_
   simp only [go_sem,seval]
   repeat refine ⟨by first|omega|(and_intros<;>first|omega|exact rows_row _|exact wrows_row _|decide|(simp<;>omega))|fail,?_⟩
   intro x hx1 hx2
   obtain ⟨v,hv,hv1,hv2⟩:=pick4 x hx1 hx2
   refine hK1 _ ?_
   clear hK1
   simp only [go_sem,seval,hv]
   repeat refine ⟨by first|omega|(and_intros<;>first|omega|exact rows_row _|exact wrows_row _|decide|(simp<;>omega))|fail,?_⟩
   refine hK _ ?_;clear hK K
   refine Aw_sqJ (fun v:Int=>⟨111,[(0,.rd),(3,iv 5),(4,.xs 700 0 5 (c + 5) 1),(6,bv bb),(7,iv 1),(8,iv 4),(9,iv v)],(700,vws 5 d 710 5++jN c)::bxs 5 d r 710 5,k + 16⟩) (fun v=>0≤v∧v≤3) (fun v hv=>?_) fun B13 hB13 hR13 hX13=>?_
   ·have hs1:=cI_set (r 1) (d 1) 4 v (by omega)
    have hs2:=fun y=>cI_set (r 4) (d 4) 1 y (by omega)
    obtain ⟨hv1,hv2⟩:=hv
    refine Aw_st hE [0,3,4,6,7,8,9] [700,701,710,711,712,713,714,720,721,722,723,724] fun K hK=>?_
    simp only [go_sem,seval,hs1]
    refine ⟨by omega,?_⟩
    refine hK _ ?_;clear hK K
    refine Aw_td hE [0,3,4,6,7,8] [700,701,710,711,712,713,714,720,721,722,723,724] 6 (by kernel_rfl) fun K hK=>?_
    simp only [go_sem,seval,hs2,hv1,hv2]
    refine ⟨by omega,hK _ (hN12 _ (hB11 _ ?_))⟩
    refine Aw_tx hE [0,3,4,6,7,8] [700,701,710,711,712,713,714,720,721,722,723,724] fun K hK=>?_
    simp only [go_sem,seval]
    repeat refine ⟨by first|omega|(and_intros<;>first|omega|exact rows_row _|exact wrows_row _|decide|(simp<;>omega))|fail,?_⟩
    refine hK _ (hN9 (5,upd (upd r 1 4 v) 4 1 (mirr v)) _ ⟨by omega,by omega,upd_len (upd_len hr)⟩ (by simp only;omega) (Le_wk (by first | omega | (dsimp only;omega) | (simp only;omega) | (simp;omega)) (by simp only [go_sem,seval,upd]) (by simp only [go_sem,seval,upd])))
   ·refine Aw_st hE [0,3,4,6,7,8,9,53] [700,701,710,711,712,713,714,720,721,722,723,724] fun K hK=>?_
    simp only [go_sem,seval]
    refine ⟨fun hg23=>⟨by omega,fun y hy1 hy2=>?_⟩,fun hg23=>?_⟩
    ·refine hK _ (Aw_cond rfl (fun hc24=>?_) (fun hc24=>?_))
     ·refine Aw_tx hE [0,3,4,6,7,8,9] [700,701,710,711,712,713,714,720,721,722,723,724] fun K hK=>?_
      simp only [go_sem,seval]
      exact hK _ (hB13 3 _ ⟨by decide,by decide⟩ (LeE_of (Le_wk (by first | omega | (dsimp only;omega) | (simp only;omega) | (simp;omega)) (by simp only [go_sem,seval]) (by simp only [go_sem,seval]))))
     ·exact Aw_skip (hB13 v _ ⟨hv1,hv2⟩ (LeE_of (Le_wk (by first | omega | (dsimp only;omega) | (simp only;omega) | (simp;omega)) (by simp only [go_sem,seval]) (by simp only [go_sem,seval]))))
    ·exact hK _ (Aw_no rfl (Aw_skip (hB13 v _ ⟨hv1,hv2⟩ (LeE_of (Le_wk (by first | omega | (dsimp only;omega) | (simp only;omega) | (simp;omega)) (by simp only [go_sem,seval]) (by simp only [go_sem,seval]))))))
 ·refine Aw_st hE [0,3,4,6,7,33] [700,701,710,711,712,713,714,720,721,722,723,724] fun K hK=>?_
  simp only [go_sem,seval]
  refine hK _ (Aw_yes rfl (Aw_skip (hB4 _ ?_)))
  refine Aw_sq fun B6 hB6 hR6 hX6=>?_
  refine Aw_bk fun B7 hN7 hE7 hR7 hX7=>?_
  refine Aw_st hE [0,3,4,6,7,8] [700,701,710,711,712,713,714,720,721,722,723,724] fun K hK=>?_
  simp only [go_sem,seval]
  refine hK _ ?_;clear hK K
  refine Aw_bk fun B8 hN8 hE8 hR8 hX8=>?_
  refine Aw_lp (fun i:Nat × (Nat→List Int)=>⟨111,[(0,.rd),(3,iv 5),(4,.xs 700 0 5 (c + 5) 1),(6,bv bb),(7,iv 2),(8,iv (i.1:Int))],(700,vws 5 d 710 5++jN c)::bxs 5 d i.2 710 5,k + 10 + 2 * i.1⟩) (fun i=>3≤i.1∧i.1≤5∧∀ x,(i.2 x).length=5) (fun i=>5 - i.1) (3,r) (Le_wk (by first | omega | (dsimp only;omega) | (simp only;omega) | (simp;omega)) (by simp only [go_sem,seval]) (by simp only [go_sem,seval])) ⟨by omega,by omega,hr⟩ fun i hi B9 hN9 hR9 hX9=>?_
  obtain ⟨b,r⟩:=i
  obtain ⟨hi1,hi2,hr⟩:=hi
  simp only at hi1 hi2 hr
  have hr0:=hr 0
  have hr1:=hr 1
  have hr2:=hr 2
  have hr3:=hr 3
  have hr4:=hr 4
  refine Aw_sq fun B10 hB10 hR10 hX10=>?_
  rcases (show b=5∨b=3∨b=4 by omega) with rfl | rfl | rfl
  ·refine Aw_st hE [0,3,4,6,7,8,40] [700,701,710,711,712,713,714,720,721,722,723,724] fun K hK=>?_
   simp only [go_sem,seval]
   refine hK _ (Aw_no rfl (Aw_exit (hX10 _ _ (hX9 _ _ (hE8 _ ?_)))))
   refine hN7 _ (hB6 _ ?_)
   refine Aw_tx hE [0,3,4,6,7] [700,701,710,711,712,713,714,720,721,722,723,724] fun K hK=>?_
   simp only [go_sem,seval]
   repeat refine ⟨by first|omega|(and_intros<;>first|omega|exact rows_row _|exact wrows_row _|decide|(simp<;>omega))|fail,?_⟩
   refine hK _ (hN3 (3,r) _ ⟨by omega,hr⟩ (by simp only;omega) (Le_wk (by first | omega | (dsimp only;omega) | (simp only;omega) | (simp;omega)) (by simp only [go_sem,seval]) (by simp only [go_sem,seval])))
  ·refine Aw_st hE [0,3,4,6,7,8,40] [700,701,710,711,712,713,714,720,721,722,723,724] fun K hK=>?_
   simp only [go_sem,seval]
   refine hK _ (Aw_yes rfl (Aw_skip (hB10 _ ?_)))
   refine Aw_sq fun B11 hB11 hR11 hX11=>?_
   refine Aw_bk fun B12 hN12 hE12 hR12 hX12=>?_
   refine Aw_st hE [0,3,4,6,7,8,9] [700,701,710,711,712,713,714,720,721,722,723,724] fun K hK=>?_
   refine aops_cut 3 fun K1 hK1=>?_
   simp only [go_sem,seval]
   repeat refine ⟨by first|omega|(and_intros<;>first|omega|exact rows_row _|exact wrows_row _|decide|(simp<;>omega))|fail,?_⟩
   intro x hx1 hx2
   obtain ⟨v,hv,hv1,hv2⟩:=pick4 x hx1 hx2
   refine hK1 _ ?_
   clear hK1
   simp only [go_sem,seval,hv]
   repeat refine ⟨by first|omega|(and_intros<;>first|omega|exact rows_row _|exact wrows_row _|decide|(simp<;>omega))|fail,?_⟩
   refine hK _ ?_;clear hK K
   refine Aw_sqJ (fun v:Int=>⟨111,[(0,.rd),(3,iv 5),(4,.xs 700 0 5 (c + 5) 1),(6,bv bb),(7,iv 2),(8,iv 3),(9,iv v)],(700,vws 5 d 710 5++jN c)::bxs 5 d r 710 5,k + 18⟩) (fun v=>0≤v∧v≤3) (fun v hv=>?_) fun B13 hB13 hR13 hX13=>?_
   ·have hs1:=cI_set (r 2) (d 2) 3 v (by omega)
    have hs2:=fun y=>cI_set (r 3) (d 3) 2 y (by omega)
    obtain ⟨hv1,hv2⟩:=hv
    refine Aw_st hE [0,3,4,6,7,8,9] [700,701,710,711,712,713,714,720,721,722,723,724] fun K hK=>?_
    simp only [go_sem,seval,hs1]
    refine ⟨by omega,?_⟩
    refine hK _ ?_;clear hK K
    refine Aw_td hE [0,3,4,6,7,8] [700,701,710,711,712,713,714,720,721,722,723,724] 6 (by kernel_rfl) fun K hK=>?_
    simp only [go_sem,seval,hs2,hv1,hv2]
    refine ⟨by omega,hK _ (hN12 _ (hB11 _ ?_))⟩
    refine Aw_tx hE [0,3,4,6,7,8] [700,701,710,711,712,713,714,720,721,722,723,724] fun K hK=>?_
    simp only [go_sem,seval]
    repeat refine ⟨by first|omega|(and_intros<;>first|omega|exact rows_row _|exact wrows_row _|decide|(simp<;>omega))|fail,?_⟩
    refine hK _ (hN9 (4,upd (upd r 2 3 v) 3 2 (mirr v)) _ ⟨by omega,by omega,upd_len (upd_len hr)⟩ (by simp only;omega) (Le_wk (by first | omega | (dsimp only;omega) | (simp only;omega) | (simp;omega)) (by simp only [go_sem,seval,upd]) (by simp only [go_sem,seval,upd])))
   ·refine Aw_st hE [0,3,4,6,7,8,9,53] [700,701,710,711,712,713,714,720,721,722,723,724] fun K hK=>?_
    simp only [go_sem,seval]
    refine ⟨fun hg23=>⟨by omega,fun y hy1 hy2=>?_⟩,fun hg23=>?_⟩
    ·refine hK _ (Aw_cond rfl (fun hc24=>?_) (fun hc24=>?_))
     ·refine Aw_tx hE [0,3,4,6,7,8,9] [700,701,710,711,712,713,714,720,721,722,723,724] fun K hK=>?_
      simp only [go_sem,seval]
      exact hK _ (hB13 3 _ ⟨by decide,by decide⟩ (LeE_of (Le_wk (by first | omega | (dsimp only;omega) | (simp only;omega) | (simp;omega)) (by simp only [go_sem,seval]) (by simp only [go_sem,seval]))))
     ·exact Aw_skip (hB13 v _ ⟨hv1,hv2⟩ (LeE_of (Le_wk (by first | omega | (dsimp only;omega) | (simp only;omega) | (simp;omega)) (by simp only [go_sem,seval]) (by simp only [go_sem,seval]))))
    ·exact hK _ (Aw_no rfl (Aw_skip (hB13 v _ ⟨hv1,hv2⟩ (LeE_of (Le_wk (by first | omega | (dsimp only;omega) | (simp only;omega) | (simp;omega)) (by simp only [go_sem,seval]) (by simp only [go_sem,seval]))))))
  ·refine Aw_st hE [0,3,4,6,7,8,40] [700,701,710,711,712,713,714,720,721,722,723,724] fun K hK=>?_
   simp only [go_sem,seval]
   refine hK _ (Aw_yes rfl (Aw_skip (hB10 _ ?_)))
   refine Aw_sq fun B11 hB11 hR11 hX11=>?_
   refine Aw_bk fun B12 hN12 hE12 hR12 hX12=>?_
   refine Aw_st hE [0,3,4,6,7,8,9] [700,701,710,711,712,713,714,720,721,722,723,724] fun K hK=>?_
   refine aops_cut 3 fun K1 hK1=>?_
   simp only [go_sem,seval]
   repeat refine ⟨by first|omega|(and_intros<;>first|omega|exact rows_row _|exact wrows_row _|decide|(simp<;>omega))|fail,?_⟩
   intro x hx1 hx2
   obtain ⟨v,hv,hv1,hv2⟩:=pick4 x hx1 hx2
   refine hK1 _ ?_
   clear hK1
   simp only [go_sem,seval,hv]
   repeat refine ⟨by first|omega|(and_intros<;>first|omega|exact rows_row _|exact wrows_row _|decide|(simp<;>omega))|fail,?_⟩
   refine hK _ ?_;clear hK K
   refine Aw_sqJ (fun v:Int=>⟨111,[(0,.rd),(3,iv 5),(4,.xs 700 0 5 (c + 5) 1),(6,bv bb),(7,iv 2),(8,iv 4),(9,iv v)],(700,vws 5 d 710 5++jN c)::bxs 5 d r 710 5,k + 20⟩) (fun v=>0≤v∧v≤3) (fun v hv=>?_) fun B13 hB13 hR13 hX13=>?_
   ·have hs1:=cI_set (r 2) (d 2) 4 v (by omega)
    have hs2:=fun y=>cI_set (r 4) (d 4) 2 y (by omega)
    obtain ⟨hv1,hv2⟩:=hv
    refine Aw_st hE [0,3,4,6,7,8,9] [700,701,710,711,712,713,714,720,721,722,723,724] fun K hK=>?_
    simp only [go_sem,seval,hs1]
    refine ⟨by omega,?_⟩
    refine hK _ ?_;clear hK K
    refine Aw_td hE [0,3,4,6,7,8] [700,701,710,711,712,713,714,720,721,722,723,724] 6 (by kernel_rfl) fun K hK=>?_
    simp only [go_sem,seval,hs2,hv1,hv2]
    refine ⟨by omega,hK _ (hN12 _ (hB11 _ ?_))⟩
    refine Aw_tx hE [0,3,4,6,7,8] [700,701,710,711,712,713,714,720,721,722,723,724] fun K hK=>?_
    simp only [go_sem,seval]
    repeat refine ⟨by first|omega|(and_intros<;>first|omega|exact rows_row _|exact wrows_row _|decide|(simp<;>omega))|fail,?_⟩
    refine hK _ (hN9 (5,upd (upd r 2 4 v) 4 2 (mirr v)) _ ⟨by omega,by omega,upd_len (upd_len hr)⟩ (by simp only;omega) (Le_wk (by first | omega | (dsimp only;omega) | (simp only;omega) | (simp;omega)) (by simp only [go_sem,seval,upd]) (by simp only [go_sem,seval,upd])))
   ·refine Aw_st hE [0,3,4,6,7,8,9,53] [700,701,710,711,712,713,714,720,721,722,723,724] fun K hK=>?_
    simp only [go_sem,seval]
    refine ⟨fun hg23=>⟨by omega,fun y hy1 hy2=>?_⟩,fun hg23=>?_⟩
    ·refine hK _ (Aw_cond rfl (fun hc24=>?_) (fun hc24=>?_))
     ·refine Aw_tx hE [0,3,4,6,7,8,9] [700,701,710,711,712,713,714,720,721,722,723,724] fun K hK=>?_
      simp only [go_sem,seval]
      exact hK _ (hB13 3 _ ⟨by decide,by decide⟩ (LeE_of (Le_wk (by first | omega | (dsimp only;omega) | (simp only;omega) | (simp;omega)) (by simp only [go_sem,seval]) (by simp only [go_sem,seval]))))
     ·exact Aw_skip (hB13 v _ ⟨hv1,hv2⟩ (LeE_of (Le_wk (by first | omega | (dsimp only;omega) | (simp only;omega) | (simp;omega)) (by simp only [go_sem,seval]) (by simp only [go_sem,seval]))))
    ·exact hK _ (Aw_no rfl (Aw_skip (hB13 v _ ⟨hv1,hv2⟩ (LeE_of (Le_wk (by first | omega | (dsimp only;omega) | (simp only;omega) | (simp;omega)) (by simp only [go_sem,seval]) (by simp only [go_sem,seval]))))))
 ·refine Aw_st hE [0,3,4,6,7,33] [700,701,710,711,712,713,714,720,721,722,723,724] fun K hK=>?_
  simp only [go_sem,seval]
  refine hK _ (Aw_yes rfl (Aw_skip (hB4 _ ?_)))
  refine Aw_sq fun B6 hB6 hR6 hX6=>?_
  refine Aw_bk fun B7 hN7 hE7 hR7 hX7=>?_
  refine Aw_st hE [0,3,4,6,7,8] [700,701,710,711,712,713,714,720,721,722,723,724] fun K hK=>?_
  simp only [go_sem,seval]
  refine hK _ ?_;clear hK K
  refine Aw_bk fun B8 hN8 hE8 hR8 hX8=>?_
  refine Aw_lp (fun i:Nat × (Nat→List Int)=>⟨111,[(0,.rd),(3,iv 5),(4,.xs 700 0 5 (c + 5) 1),(6,bv bb),(7,iv 3),(8,iv (i.1:Int))],(700,vws 5 d 710 5++jN c)::bxs 5 d i.2 710 5,k + 12 + 2 * i.1⟩) (fun i=>4≤i.1∧i.1≤5∧∀ x,(i.2 x).length=5) (fun i=>5 - i.1) (4,r) (Le_wk (by first | omega | (dsimp only;omega) | (simp only;omega) | (simp;omega)) (by simp only [go_sem,seval]) (by simp only [go_sem,seval])) ⟨by omega,by omega,hr⟩ fun i hi B9 hN9 hR9 hX9=>?_
  obtain ⟨b,r⟩:=i
  obtain ⟨hi1,hi2,hr⟩:=hi
  simp only at hi1 hi2 hr
  have hr0:=hr 0
  have hr1:=hr 1
  have hr2:=hr 2
  have hr3:=hr 3
  have hr4:=hr 4
  refine Aw_sq fun B10 hB10 hR10 hX10=>?_
  rcases (show b=5∨b=4 by omega) with rfl | rfl
  ·refine Aw_st hE [0,3,4,6,7,8,40] [700,701,710,711,712,713,714,720,721,722,723,724] fun K hK=>?_
   simp only [go_sem,seval]
   refine hK _ (Aw_no rfl (Aw_exit (hX10 _ _ (hX9 _ _ (hE8 _ ?_)))))
   refine hN7 _ (hB6 _ ?_)
   refine Aw_tx hE [0,3,4,6,7] [700,701,710,711,712,713,714,720,721,722,723,724] fun K hK=>?_
   simp only [go_sem,seval]
   repeat refine ⟨by first|omega|(and_intros<;>first|omega|exact rows_row _|exact wrows_row _|decide|(simp<;>omega))|fail,?_⟩
   refine hK _ (hN3 (4,r) _ ⟨by omega,hr⟩ (by simp only;omega) (Le_wk (by first | omega | (dsimp only;omega) | (simp only;omega) | (simp;omega)) (by simp only [go_sem,seval]) (by simp only [go_sem,seval])))
  ·refine Aw_st hE [0,3,4,6,7,8,40] [700,701,710,711,712,713,714,720,721,722,723,724] fun K hK=>?_
   simp only [go_sem,seval]
   refine hK _ (Aw_yes rfl (Aw_skip (hB10 _ ?_)))
   refine Aw_sq fun B11 hB11 hR11 hX11=>?_
   refine Aw_bk fun B12 hN12 hE12 hR12 hX12=>?_
   refine Aw_st hE [0,3,4,6,7,8,9] [700,701,710,711,712,713,714,720,721,722,723,724] fun K hK=>?_
   refine aops_cut 3 fun K1 hK1=>?_
   simp only [go_sem,seval]
   repeat refine ⟨by first|omega|(and_intros<;>first|omega|exact rows_row _|exact wrows_row _|decide|(simp<;>omega))|fail,?_⟩
   intro x hx1 hx2
   obtain ⟨v,hv,hv1,hv2⟩:=pick4 x hx1 hx2
   refine hK1 _ ?_
   clear hK1
   simp only [go_sem,seval,hv]
   repeat refine ⟨by first|omega|(and_intros<;>first|omega|exact rows_row _|exact wrows_row _|decide|(simp<;>omega))|fail,?_⟩
   refine hK _ ?_;clear hK K
   refine Aw_sqJ (fun v:Int=>⟨111,[(0,.rd),(3,iv 5),(4,.xs 700 0 5 (c + 5) 1),(6,bv bb),(7,iv 3),(8,iv 4),(9,iv v)],(700,vws 5 d 710 5++jN c)::bxs 5 d r 710 5,k + 22⟩) (fun v=>0≤v∧v≤3) (fun v hv=>?_) fun B13 hB13 hR13 hX13=>?_
   ·have hs1:=cI_set (r 3) (d 3) 4 v (by omega)
    have hs2:=fun y=>cI_set (r 4) (d 4) 3 y (by omega)
    obtain ⟨hv1,hv2⟩:=hv
    refine Aw_st hE [0,3,4,6,7,8,9] [700,701,710,711,712,713,714,720,721,722,723,724] fun K hK=>?_
    simp only [go_sem,seval,hs1]
    refine ⟨by omega,?_⟩
    refine hK _ ?_;clear hK K
    refine Aw_td hE [0,3,4,6,7,8] [700,701,710,711,712,713,714,720,721,722,723,724] 6 (by kernel_rfl) fun K hK=>?_
    simp only [go_sem,seval,hs2,hv1,hv2]
    refine ⟨by omega,hK _ (hN12 _ (hB11 _ ?_))⟩
    refine Aw_tx hE [0,3,4,6,7,8] [700,701,710,711,712,713,714,720,721,722,723,724] fun K hK=>?_
    simp only [go_sem,seval]
    repeat refine ⟨by first|omega|(and_intros<;>first|omega|exact rows_row _|exact wrows_row _|decide|(simp<;>omega))|fail,?_⟩
    refine hK _ (hN9 (5,upd (upd r 3 4 v) 4 3 (mirr v)) _ ⟨by omega,by omega,upd_len (upd_len hr)⟩ (by simp only;omega) (Le_wk (by first | omega | (dsimp only;omega) | (simp only;omega) | (simp;omega)) (by simp only [go_sem,seval,upd]) (by simp only [go_sem,seval,upd])))
   ·refine Aw_st hE [0,3,4,6,7,8,9,53] [700,701,710,711,712,713,714,720,721,722,723,724] fun K hK=>?_
    simp only [go_sem,seval]
    refine ⟨fun hg23=>⟨by omega,fun y hy1 hy2=>?_⟩,fun hg23=>?_⟩
    ·refine hK _ (Aw_cond rfl (fun hc24=>?_) (fun hc24=>?_))
     ·refine Aw_tx hE [0,3,4,6,7,8,9] [700,701,710,711,712,713,714,720,721,722,723,724] fun K hK=>?_
      simp only [go_sem,seval]
      exact hK _ (hB13 3 _ ⟨by decide,by decide⟩ (LeE_of (Le_wk (by first | omega | (dsimp only;omega) | (simp only;omega) | (simp;omega)) (by simp only [go_sem,seval]) (by simp only [go_sem,seval]))))
     ·exact Aw_skip (hB13 v _ ⟨hv1,hv2⟩ (LeE_of (Le_wk (by first | omega | (dsimp only;omega) | (simp only;omega) | (simp;omega)) (by simp only [go_sem,seval]) (by simp only [go_sem,seval]))))
    ·exact hK _ (Aw_no rfl (Aw_skip (hB13 v _ ⟨hv1,hv2⟩ (LeE_of (Le_wk (by first | omega | (dsimp only;omega) | (simp only;omega) | (simp;omega)) (by simp only [go_sem,seval]) (by simp only [go_sem,seval]))))))
 ·refine Aw_st hE [0,3,4,6,7,33] [700,701,710,711,712,713,714,720,721,722,723,724] fun K hK=>?_
  simp only [go_sem,seval]
  refine hK _ (Aw_yes rfl (Aw_skip (hB4 _ ?_)))
  refine Aw_sq fun B6 hB6 hR6 hX6=>?_
  refine Aw_bk fun B7 hN7 hE7 hR7 hX7=>?_
  refine Aw_st hE [0,3,4,6,7,8] [700,701,710,711,712,713,714,720,721,722,723,724] fun K hK=>?_
  simp only [go_sem,seval]
  refine hK _ ?_;clear hK K
  refine Aw_bk fun B8 hN8 hE8 hR8 hX8=>?_
  refine Aw_lp (fun i:Nat × (Nat→List Int)=>⟨111,[(0,.rd),(3,iv 5),(4,.xs 700 0 5 (c + 5) 1),(6,bv bb),(7,iv 4),(8,iv (i.1:Int))],(700,vws 5 d 710 5++jN c)::bxs 5 d i.2 710 5,k + 12 + 2 * i.1⟩) (fun i=>5≤i.1∧i.1≤5∧∀ x,(i.2 x).length=5) (fun i=>5 - i.1) (5,r) (Le_wk (by first | omega | (dsimp only;omega) | (simp only;omega) | (simp;omega)) (by simp only [go_sem,seval]) (by simp only [go_sem,seval])) ⟨by omega,by omega,hr⟩ fun i hi B9 hN9 hR9 hX9=>?_
  obtain ⟨b,r⟩:=i
  obtain ⟨hi1,hi2,hr⟩:=hi
  simp only at hi1 hi2 hr
  have hr0:=hr 0
  have hr1:=hr 1
  have hr2:=hr 2
  have hr3:=hr 3
  have hr4:=hr 4
  refine Aw_sq fun B10 hB10 hR10 hX10=>?_
  obtain rfl:b=5:=by omega
  ·refine Aw_st hE [0,3,4,6,7,8,40] [700,701,710,711,712,713,714,720,721,722,723,724] fun K hK=>?_
   simp only [go_sem,seval]
   refine hK _ (Aw_no rfl (Aw_exit (hX10 _ _ (hX9 _ _ (hE8 _ ?_)))))
   refine hN7 _ (hB6 _ ?_)
   refine Aw_tx hE [0,3,4,6,7] [700,701,710,711,712,713,714,720,721,722,723,724] fun K hK=>?_
   simp only [go_sem,seval]
   repeat refine ⟨by first|omega|(and_intros<;>first|omega|exact rows_row _|exact wrows_row _|decide|(simp<;>omega))|fail,?_⟩
   refine hK _ (hN3 (5,r) _ ⟨by omega,hr⟩ (by simp only;omega) (Le_wk (by first | omega | (dsimp only;omega) | (simp only;omega) | (simp;omega)) (by simp only [go_sem,seval]) (by simp only [go_sem,seval])))
end Go.Proofs.W
end
section
namespace Go.Proofs.W
open Go Go.Eng Go.RowKit
set_option linter.unusedSimpArgs false
set_option maxRecDepth 100000
/-! relations are drawn: made -/
set_option maxHeartbeats 16000000 in
theorem relsA2 {E:En} (hE:TbOk E tbRels) {k:Nat} (hk:k + 40≤1099511627776) {Q:Exit→St→Prop} (hQ:∀ (L:List (List Int)) (rn:Nat),(2≤L.length∧L.length≤5)→(∀ w ∈ L,w.length=L.length)→rn≤k + 40→Aw E .ret ⟨111,[(2,wsl L)],[],rn⟩ Q):Aw E (seqB (seqB (seqB (Tryd.f30.body.getD .skip)))) ⟨111,[(0,.rd),(3,iv 2),(4,.xs 17 0 0 0 1)],[(17,[])],k + 1⟩ Q:=by
 refine Aw_sq fun B1 hB1 hR1 hX1=>?_
 refine Aw_st hE [0,3,4,5] [17,25,27,700,701,710,711,712,713,714,720,721,722,723,724] fun K hK=>?_
 simp only [go_sem,seval]
 refine hK _ ?_;clear hK K
 refine Aw_bk fun B2 hN2 hE2 hR2 hX2=>?_
 refine Aw_lp (fun i:Nat × Nat=>⟨111,[(0,.rd),(3,iv 2),(4,.xs 700 0 i.1 (i.2 + i.1) 1),(5,iv (i.1:Int))],(700,vws 2 (fun _=>0) 710 i.1++jN i.2)::bxs 2 (fun _=>0) (fun _=>List.replicate 2 0) 710 i.1,k + 1⟩) (fun i=>i.1≤2) (fun i=>2 - i.1) (0,0) ?_ (by omega) fun i hi B3 hN3 hR3 hX3=>?_
 ·refine (Le_swb _ 17 700 (by decide) (by decide)).trans ?_
  simp only [St.swb,swbσ,swbm,AV.swb,AV.swbAll,swp,jN_swb,row_swb,Nat.reduceEqDiff,if_true,if_false,reduceIte]
  exact Le_wk (by first | omega | (dsimp only;omega) | (simp only;omega) | (simp;omega)) (by simp only [go_sem,seval]) (by simp only [go_sem,seval])
 obtain ⟨i,c⟩:=i
 simp only at hi
 refine Aw_sq fun B4 hB4 hR4 hX4=>?_
 rcases (show i=2∨i=0∨i=1 by omega) with rfl | rfl | rfl
 ·refine Aw_st hE [0,3,4,5,20] [17,25,27,700,701,710,711,712,713,714,720,721,722,723,724] fun K hK=>?_
  simp only [go_sem,seval]
  refine hK _ (Aw_no rfl (Aw_exit (hX4 _ _ (hX3 _ _ (hE2 _ (hB1 _ ?_))))))
  refine Aw.leE (LeE_of (show Le _ ⟨111,[(0,.rd),(3,iv 2),(4,.xs 700 0 2 (c + 2) 1)],(700,vws 2 (fun _=>0) 710 2++jN c)::bxs 2 (fun _=>0) (fun _=>List.replicate 2 0) 710 2,k + 1⟩ from Le_wk (by first | omega | (dsimp only;omega) | (simp only;omega) | (simp;omega)) (by simp only [go_sem,seval]) (by simp only [go_sem,seval]))) (relsB2 hE hk hQ (fun _=>rfl))
 ·refine Aw_st hE [0,3,4,5,20] [17,25,27,700,701,710,711,712,713,714,720,721,722,723,724] fun K hK=>?_
  simp only [go_sem,seval]
  refine hK _ (Aw_yes rfl (Aw_skip (hB4 _ ?_)))
  refine Aw_sq fun B6 hB6 hR6 hX6=>?_
  refine Aw_bk fun B7 hN7 hE7 hR7 hX7=>?_
  refine Aw_tx hE [0,3,4,5] [17,25,27,700,701,710,711,712,713,714,720,721,722,723,724] fun K hK=>?_
  simp only [go_sem,seval,List.flatten_cons,List.flatten_nil,List.cons_append,List.nil_append]
  refine ⟨fun h=>?_,fun h cap' hcap'=>?_⟩
  ·obtain ⟨c1,rfl⟩:∃ c1,c=c1 + 1:=⟨c - 1,by omega⟩
   simp only [jN_s,List.set_cons_zero]
   refine hK _ (hN7 _ (hB6 _ ?_))
   refine Aw_tx hE [0,3,4,5] [17,25,27,700,701,710,711,712,713,714,720,721,722,723,724] fun K hK=>?_
   simp only [go_sem,seval]
   repeat refine ⟨by first|omega|(and_intros<;>first|omega|exact rows_row _|exact wrows_row _|decide|(simp<;>omega))|fail,?_⟩
   refine hK _ (hN3 (1,c1) _ (by omega) (by simp only;omega) ?_)
   refine (Le_swb _ 25 710 (by decide) (by decide)).trans ?_
   simp only [St.swb,swbσ,swbm,AV.swb,AV.swbAll,swp,jN_swb,row_swb,Nat.reduceEqDiff,if_true,if_false,reduceIte]
   exact Le_wk (by first | omega | (dsimp only;omega) | (simp only;omega) | (simp;omega)) (by simp only [go_sem,seval,Nat.add_assoc]) (by simp only [go_sem,seval])
  ·obtain ⟨c1,rfl⟩:∃ c1,cap'=c1 + 1:=⟨cap' - 1,by omega⟩
   rw [Nat.add_sub_cancel]
   refine hK _ (hN7 _ (hB6 _ ?_))
   refine Aw_tx hE [0,3,4,5] [17,25,27,700,701,710,711,712,713,714,720,721,722,723,724] fun K hK=>?_
   simp only [go_sem,seval]
   repeat refine ⟨by first|omega|(and_intros<;>first|omega|exact rows_row _|exact wrows_row _|decide|(simp<;>omega))|fail,?_⟩
   refine hK _ (hN3 (1,c1) _ (by omega) (by simp only;omega) ?_)
   refine (Le_swb _ 25 710 (by decide) (by decide)).trans ?_
   simp only [St.swb,swbσ,swbm,AV.swb,AV.swbAll,swp,jN_swb,row_swb,Nat.reduceEqDiff,if_true,if_false,reduceIte]
   refine (Le_swb _ 27 700 (by decide) (by decide)).trans ?_
   simp only [St.swb,swbσ,swbm,AV.swb,AV.swbAll,swp,jN_swb,row_swb,Nat.reduceEqDiff,if_true,if_false,reduceIte]
   exact Le_wk (by first | omega | (dsimp only;omega) | (simp only;omega) | (simp;omega)) (by simp only [go_sem,seval,Nat.add_assoc]) (by simp only [go_sem,seval])
 ·refine Aw_st hE [0,3,4,5,20] [17,25,27,700,701,710,711,712,713,714,720,721,722,723,724] fun K hK=>?_
  simp only [go_sem,seval]
  refine hK _ (Aw_yes rfl (Aw_skip (hB4 _ ?_)))
  refine Aw_sq fun B6 hB6 hR6 hX6=>?_
  refine Aw_bk fun B7 hN7 hE7 hR7 hX7=>?_
  refine Aw_tx hE [0,3,4,5] [17,25,27,700,701,710,711,712,713,714,720,721,722,723,724] fun K hK=>?_
  simp only [go_sem,seval,List.flatten_cons,List.flatten_nil,List.cons_append,List.nil_append]
  refine ⟨fun h=>?_,fun h cap' hcap'=>?_⟩
  ·obtain ⟨c1,rfl⟩:∃ c1,c=c1 + 1:=⟨c - 1,by omega⟩
   simp only [jN_s,List.set_cons_zero]
   refine hK _ (hN7 _ (hB6 _ ?_))
   refine Aw_tx hE [0,3,4,5] [17,25,27,700,701,710,711,712,713,714,720,721,722,723,724] fun K hK=>?_
   simp only [go_sem,seval]
   repeat refine ⟨by first|omega|(and_intros<;>first|omega|exact rows_row _|exact wrows_row _|decide|(simp<;>omega))|fail,?_⟩
   refine hK _ (hN3 (2,c1) _ (by omega) (by simp only;omega) ?_)
   refine (Le_swb _ 25 711 (by decide) (by decide)).trans ?_
   simp only [St.swb,swbσ,swbm,AV.swb,AV.swbAll,swp,jN_swb,row_swb,Nat.reduceEqDiff,if_true,if_false,reduceIte]
   exact Le_wk (by first | omega | (dsimp only;omega) | (simp only;omega) | (simp;omega)) (by simp only [go_sem,seval,Nat.add_assoc]) (by simp only [go_sem,seval])
  ·obtain ⟨c1,rfl⟩:∃ c1,cap'=c1 + 2:=⟨cap' - 2,by omega⟩
   rw [Nat.add_sub_cancel]
   refine hK _ (hN7 _ (hB6 _ ?_))
   refine Aw_tx hE [0,3,4,5] [17,25,27,700,701,710,711,712,713,714,720,721,722,723,724] fun K hK=>?_
   simp only [go_sem,seval]
   repeat refine ⟨by first|omega|(and_intros<;>first|omega|exact rows_row _|exact wrows_row _|decide|(simp<;>omega))|fail,?_⟩
   refine hK _ (hN3 (2,c1) _ (by omega) (by simp only;omega) ?_)
   refine (Le_swb _ 25 711 (by decide) (by decide)).trans ?_
   simp only [St.swb,swbσ,swbm,AV.swb,AV.swbAll,swp,jN_swb,row_swb,Nat.reduceEqDiff,if_true,if_false,reduceIte]
   refine (Le_swb _ 27 700 (by decide) (by decide)).trans ?_
   simp only [St.swb,swbσ,swbm,AV.swb,AV.swbAll,swp,jN_swb,row_swb,Nat.reduceEqDiff,if_true,if_false,reduceIte]
   exact Le_wk (by first | omega | (dsimp only;omega) | (simp only;omega) | (simp;omega)) (by simp only [go_sem,seval,Nat.add_assoc]) (by simp only [go_sem,seval])
set_option maxHeartbeats 16000000 in
theorem relsA3 {E:En} (hE:TbOk E tbRels) {k:Nat} (hk:k + 40≤1099511627776) {Q:Exit→St→Prop} (hQ:∀ (L:List (List Int)) (rn:Nat),(2≤L.length∧L.length≤5)→(∀ w ∈ L,w.length=L.length)→rn≤k + 40→Aw E .ret ⟨111,[(2,wsl L)],[],rn⟩ Q):Aw E (seqB (seqB (seqB (Tryd.f30.body.getD .skip)))) ⟨111,[(0,.rd),(3,iv 3),(4,.xs 17 0 0 0 1)],[(17,[])],k + 1⟩ Q:=by
 refine Aw_sq fun B1 hB1 hR1 hX1=>?_
 refine Aw_st hE [0,3,4,5] [17,25,27,700,701,710,711,712,713,714,720,721,722,723,724] fun K hK=>?_
 simp only [go_sem,seval]
 refine hK _ ?_;clear hK K
 refine Aw_bk fun B2 hN2 hE2 hR2 hX2=>?_
 refine Aw_lp (fun i:Nat × Nat=>⟨111,[(0,.rd),(3,iv 3),(4,.xs 700 0 i.1 (i.2 + i.1) 1),(5,iv (i.1:Int))],(700,vws 3 (fun _=>0) 710 i.1++jN i.2)::bxs 3 (fun _=>0) (fun _=>List.replicate 3 0) 710 i.1,k + 1⟩) (fun i=>i.1≤3) (fun i=>3 - i.1) (0,0) ?_ (by omega) fun i hi B3 hN3 hR3 hX3=>?_
 ·refine (Le_swb _ 17 700 (by decide) (by decide)).trans ?_
  simp only [St.swb,swbσ,swbm,AV.swb,AV.swbAll,swp,jN_swb,row_swb,Nat.reduceEqDiff,if_true,if_false,reduceIte]
  exact Le_wk (by first | omega | (dsimp only;omega) | (simp only;omega) | (simp;omega)) (by simp only [go_sem,seval]) (by simp only [go_sem,seval])
 obtain ⟨i,c⟩:=i
 simp only at hi
 refine Aw_sq fun B4 hB4 hR4 hX4=>?_
 rcases (show i=3∨i=0∨i=1∨i=2 by omega) with rfl | rfl | rfl | rfl
 ·refine Aw_st hE [0,3,4,5,20] [17,25,27,700,701,710,711,712,713,714,720,721,722,723,724] fun K hK=>?_
  simp only [go_sem,seval]
  refine hK _ (Aw_no rfl (Aw_exit (hX4 _ _ (hX3 _ _ (hE2 _ (hB1 _ ?_))))))
  refine Aw.leE (LeE_of (show Le _ ⟨111,[(0,.rd),(3,iv 3),(4,.xs 700 0 3 (c + 3) 1)],(700,vws 3 (fun _=>0) 710 3++jN c)::bxs 3 (fun _=>0) (fun _=>List.replicate 3 0) 710 3,k + 1⟩ from Le_wk (by first | omega | (dsimp only;omega) | (simp only;omega) | (simp;omega)) (by simp only [go_sem,seval]) (by simp only [go_sem,seval]))) (relsB3 hE hk hQ (fun _=>rfl))
 ·refine Aw_st hE [0,3,4,5,20] [17,25,27,700,701,710,711,712,713,714,720,721,722,723,724] fun K hK=>?_
  simp only [go_sem,seval]
  refine hK _ (Aw_yes rfl (Aw_skip (hB4 _ ?_)))
  refine Aw_sq fun B6 hB6 hR6 hX6=>?_
  refine Aw_bk fun B7 hN7 hE7 hR7 hX7=>?_
  refine Aw_tx hE [0,3,4,5] [17,25,27,700,701,710,711,712,713,714,720,721,722,723,724] fun K hK=>?_
  simp only [go_sem,seval,List.flatten_cons,List.flatten_nil,List.cons_append,List.nil_append]
  refine ⟨fun h=>?_,fun h cap' hcap'=>?_⟩
  ·obtain ⟨c1,rfl⟩:∃ c1,c=c1 + 1:=⟨c - 1,by omega⟩
   simp only [jN_s,List.set_cons_zero]
   refine hK _ (hN7 _ (hB6 _ ?_))
   refine Aw_tx hE [0,3,4,5] [17,25,27,700,701,710,711,712,713,714,720,721,722,723,724] fun K hK=>?_
   simp only [go_sem,seval]
   repeat refine ⟨by first|omega|(and_intros<;>first|omega|exact rows_row _|exact wrows_row _|decide|(simp<;>omega))|fail,?_⟩
   refine hK _ (hN3 (1,c1) _ (by omega) (by simp only;omega) ?_)
   refine (Le_swb _ 25 710 (by decide) (by decide)).trans ?_
   simp only [St.swb,swbσ,swbm,AV.swb,AV.swbAll,swp,jN_swb,row_swb,Nat.reduceEqDiff,if_true,if_false,reduceIte]
   exact Le_wk (by first | omega | (dsimp only;omega) | (simp only;omega) | (simp;omega)) (by simp only [go_sem,seval,Nat.add_assoc]) (by simp only [go_sem,seval])
  ·obtain ⟨c1,rfl⟩:∃ c1,cap'=c1 + 1:=⟨cap' - 1,by omega⟩
   rw [Nat.add_sub_cancel]
   refine hK _ (hN7 _ (hB6 _ ?_))
   refine Aw_tx hE [0,3,4,5] [17,25,27,700,701,710,711,712,713,714,720,721,722,723,724] fun K hK=>?_
   simp only [go_sem,seval]
   repeat refine ⟨by first|omega|(and_intros<;>first|omega|exact rows_row _|exact wrows_row _|decide|(simp<;>omega))|fail,?_⟩
   refine hK _ (hN3 (1,c1) _ (by omega) (by simp only;omega) ?_)
   refine (Le_swb _ 25 710 (by decide) (by decide)).trans ?_
   simp only [St.swb,swbσ,swbm,AV.swb,AV.swbAll,swp,jN_swb,row_swb,Nat.reduceEqDiff,if_true,if_false,reduceIte]
   refine (Le_swb _ 27 700 (by decide) (by decide)).trans ?_
   simp only [St.swb,swbσ,swbm,AV.swb,AV.swbAll,swp,jN_swb,row_swb,Nat.reduceEqDiff,if_true,if_false,reduceIte]
   exact Le_wk (by first | omega | (dsimp only;omega) | (simp only;omega) | (simp;omega)) (by simp only [go_sem,seval,Nat.add_assoc]) (by simp only [go_sem,seval])
 ·refine Aw_st hE [0,3,4,5,20] [17,25,27,700,701,710,711,712,713,714,720,721,722,723,724] fun K hK=>?_
  simp only [go_sem,seval]
  refine hK _ (Aw_yes rfl (Aw_skip (hB4 _ ?_)))
  refine Aw_sq fun B6 hB6 hR6 hX6=>?_
  refine Aw_bk fun B7 hN7 hE7 hR7 hX7=>?_
  refine Aw_tx hE [0,3,4,5] [17,25,27,700,701,710,711,712,713,714,720,721,722,723,724] fun K hK=>?_
  simp only [go_sem,seval,List.flatten_cons,List.flatten_nil,List.cons_append,List.nil_append]
  refine ⟨fun h=>?_,fun h cap' hcap'=>?_⟩
  ·obtain ⟨c1,rfl⟩:∃ c1,c=c1 + 1:=⟨c - 1,by omega⟩
   simp only [jN_s,List.set_cons_zero]
   refine hK _ (hN7 _ (hB6 _ ?_))
   refine Aw_tx hE [0,3,4,5] [17,25,27,700,701,710,711,712,713,714,720,721,722,723,724] fun K hK=>?_
   simp only [go_sem,seval]
   repeat refine ⟨by first|omega|(and_intros<;>first|omega|exact rows_row _|exact wrows_row _|decide|(simp<;>omega))|fail,?_⟩
   refine hK _ (hN3 (2,c1) _ (by omega) (by simp only;omega) ?_)
   refine (Le_swb _ 25 711 (by decide) (by decide)).trans ?_
   simp only [St.swb,swbσ,swbm,AV.swb,AV.swbAll,swp,jN_swb,row_swb,Nat.reduceEqDiff,if_true,if_false,reduceIte]
   exact Le_wk (by first | omega | (dsimp only;omega) | (simp only;omega) | (simp;omega)) (by simp only [go_sem,seval,Nat.add_assoc]) (by simp only [go_sem,seval])
  ·obtain ⟨c1,rfl⟩:∃ c1,cap'=c1 + 2:=⟨cap' - 2,by omega⟩
   rw [Nat.add_sub_cancel]
   refine hK _ (hN7 _ (hB6 _ ?_))
   refine Aw_tx hE [0,3,4,5] [17,25,27,700,701,710,711,712,713,714,720,721,722,723,724] fun K hK=>?_
   simp only [go_sem,seval]
   repeat refine ⟨by first|omega|(and_intros<;>first|omega|exact rows_row _|exact wrows_row _|decide|(simp<;>omega))|fail,?_⟩
   refine hK _ (hN3 (2,c1) _ (by omega) (by simp only;omega) ?_)
   refine (Le_swb _ 25 711 (by decide) (by decide)).trans ?_
   simp only [St.swb,swbσ,swbm,AV.swb,AV.swbAll,swp,jN_swb,row_swb,Nat.reduceEqDiff,if_true,if_false,reduceIte]
   refine (Le_swb _ 27 700 (by decide) (by decide)).trans ?_
   simp only [St.swb,swbσ,swbm,AV.swb,AV.swbAll,swp,jN_swb,row_swb,Nat.reduceEqDiff,if_true,if_false,reduceIte]
   exact Le_wk (by first | omega | (dsimp only;omega) | (simp only;omega) | (simp;omega)) (by simp only [go_sem,seval,Nat.add_assoc]) (by simp only [go_sem,seval])
 ·refine Aw_st hE [0,3,4,5,20] [17,25,27,700,701,710,711,712,713,714,720,721,722,723,724] fun K hK=>?_
  simp only [go_sem,seval]
  refine hK _ (Aw_yes rfl (Aw_skip (hB4 _ ?_)))
  refine Aw_sq fun B6 hB6 hR6 hX6=>?_
  refine Aw_bk fun B7 hN7 hE7 hR7 hX7=>?_
  refine Aw_tx hE [0,3,4,5] [17,25,27,700,701,710,711,712,713,714,720,721,722,723,724] fun K hK=>?_
  simp only [go_sem,seval,List.flatten_cons,List.flatten_nil,List.cons_append,List.nil_append]
  refine ⟨fun h=>?_,fun h cap' hcap'=>?_⟩
  ·obtain ⟨c1,rfl⟩:∃ c1,c=c1 + 1:=⟨c - 1,by omega⟩
   simp only [jN_s,List.set_cons_zero]
   refine hK _ (hN7 _ (hB6 _ ?_))
   refine Aw_tx hE [0,3,4,5] [17,25,27,700,701,710,711,712,713,714,720,721,722,723,724] fun K hK=>?_
   simp only [go_sem,seval]
   repeat refine ⟨by first|omega|(and_intros<;>first|omega|exact rows_row _|exact wrows_row _|decide|(simp<;>omega))|fail,?_⟩
   refine hK _ (hN3 (3,c1) _ (by omega) (by simp only;omega) ?_)
   refine (Le_swb _ 25 712 (by decide) (by decide)).trans ?_
   simp only [St.swb,swbσ,swbm,AV.swb,AV.swbAll,swp,jN_swb,row_swb,Nat.reduceEqDiff,if_true,if_false,reduceIte]
   exact Le_wk (by first | omega | (dsimp only;omega) | (simp only;omega) | (simp;omega)) (by simp only [go_sem,seval,Nat.add_assoc]) (by simp only [go_sem,seval])
  ·obtain ⟨c1,rfl⟩:∃ c1,cap'=c1 + 3:=⟨cap' - 3,by omega⟩
   rw [Nat.add_sub_cancel]
   refine hK _ (hN7 _ (hB6 _ ?_))
   refine Aw_tx hE [0,3,4,5] [17,25,27,700,701,710,711,712,713,714,720,721,722,723,724] fun K hK=>?_
   simp only [go_sem,seval]
   repeat refine ⟨by first|omega|(and_intros<;>first|omega|exact rows_row _|exact wrows_row _|decide|(simp<;>omega))|fail,?_⟩
   refine hK _ (hN3 (3,c1) _ (by omega) (by simp only;omega) ?_)
   refine (Le_swb _ 25 712 (by decide) (by decide)).trans ?_
   simp only [St.swb,swbσ,swbm,AV.swb,AV.swbAll,swp,jN_swb,row_swb,Nat.reduceEqDiff,if_true,if_false,reduceIte]
   refine (Le_swb _ 27 700 (by decide) (by decide)).trans ?_
   simp only [St.swb,swbσ,swbm,AV.swb,AV.swbAll,swp,jN_swb,row_swb,Nat.reduceEqDiff,if_true,if_false,reduceIte]
   exact Le_wk (by first | omega | (dsimp only;omega) | (simp only;omega) | (simp;omega)) (by simp only [go_sem,seval,Nat.add_assoc]) (by simp only [go_sem,seval])
set_option maxHeartbeats 16000000 in
theorem relsA4 {E:En} (hE:TbOk E tbRels) {k:Nat} (hk:k + 40≤1099511627776) {Q:Exit→St→Prop} (hQ:∀ (L:List (List Int)) (rn:Nat),(2≤L.length∧L.length≤5)→(∀ w ∈ L,w.length=L.length)→rn≤k + 40→Aw E .ret ⟨111,[(2,wsl L)],[],rn⟩ Q):Aw E (seqB (seqB (seqB (Tryd.f30.body.getD .skip)))) ⟨111,[(0,.rd),(3,iv 4),(4,.xs 17 0 0 0 1)],[(17,[])],k + 1⟩ Q:=by
 refine Aw_sq fun B1 hB1 hR1 hX1=>?_
 refine Aw_st hE [0,3,4,5] [17,25,27,700,701,710,711,712,713,714,720,721,722,723,724] fun K hK=>?_
 simp only [go_sem,seval]
 refine hK _ ?_;clear hK K
 refine Aw_bk fun B2 hN2 hE2 hR2 hX2=>?_
 refine Aw_lp (fun i:Nat × Nat=>⟨111,[(0,.rd),(3,iv 4),(4,.xs 700 0 i.1 (i.2 + i.1) 1),(5,iv (i.1:Int))],(700,vws 4 (fun _=>0) 710 i.1++jN i.2)::bxs 4 (fun _=>0) (fun _=>List.replicate 4 0) 710 i.1,k + 1⟩) (fun i=>i.1≤4) (fun i=>4 - i.1) (0,0) ?_ (by omega) fun i hi B3 hN3 hR3 hX3=>?_
 ·refine (Le_swb _ 17 700 (by decide) (by decide)).trans ?_
  simp only [St.swb,swbσ,swbm,AV.swb,AV.swbAll,swp,jN_swb,row_swb,Nat.reduceEqDiff,if_true,if_false,reduceIte]
  exact Le_wk (by first | omega | (dsimp only;omega) | (simp only;omega) | (simp;omega)) (by simp only [go_sem,seval]) (by simp only [go_sem,seval])
 obtain ⟨i,c⟩:=i
 simp only at hi
 refine Aw_sq fun B4 hB4 hR4 hX4=>?_
 rcases (show i=4∨i=0∨i=1∨i=2∨i=3 by omega) with rfl | rfl | rfl | rfl | rfl
 ·refine Aw_st hE [0,3,4,5,20] [17,25,27,700,701,710,711,712,713,714,720,721,722,723,724] fun K hK=>?_
  simp only [go_sem,seval]
  refine hK _ (Aw_no rfl (Aw_exit (hX4 _ _ (hX3 _ _ (hE2 _ (hB1 _ ?_))))))
  refine Aw.leE (LeE_of (show Le _ ⟨111,[(0,.rd),(3,iv 4),(4,.xs 700 0 4 (c + 4) 1)],(700,vws 4 (fun _=>0) 710 4++jN c)::bxs 4 (fun _=>0) (fun _=>List.replicate 4 0) 710 4,k + 1⟩ from Le_wk (by first | omega | (dsimp only;omega) | (simp only;omega) | (simp;omega)) (by simp only [go_sem,seval]) (by simp only [go_sem,seval]))) (relsB4 hE hk hQ (fun _=>rfl))
 ·refine Aw_st hE [0,3,4,5,20] [17,25,27,700,701,710,711,712,713,714,720,721,722,723,724] fun K hK=>?_
  simp only [go_sem,seval]
  refine hK _ (Aw_yes rfl (Aw_skip (hB4 _ ?_)))
  refine Aw_sq fun B6 hB6 hR6 hX6=>?_
  refine Aw_bk fun B7 hN7 hE7 hR7 hX7=>?_
  refine Aw_tx hE [0,3,4,5] [17,25,27,700,701,710,711,712,713,714,720,721,722,723,724] fun K hK=>?_
  simp only [go_sem,seval,List.flatten_cons,List.flatten_nil,List.cons_append,List.nil_append]
  refine ⟨fun h=>?_,fun h cap' hcap'=>?_⟩
  ·obtain ⟨c1,rfl⟩:∃ c1,c=c1 + 1:=⟨c - 1,by omega⟩
   simp only [jN_s,List.set_cons_zero]
   refine hK _ (hN7 _ (hB6 _ ?_))
   refine Aw_tx hE [0,3,4,5] [17,25,27,700,701,710,711,712,713,714,720,721,722,723,724] fun K hK=>?_
   simp only [go_sem,seval]
   repeat refine ⟨by first|omega|(and_intros<;>first|omega|exact rows_row _|exact wrows_row _|decide|(simp<;>omega))|fail,?_⟩
   refine hK _ (hN3 (1,c1) _ (by omega) (by simp only;omega) ?_)
   refine (Le_swb _ 25 710 (by decide) (by decide)).trans ?_
   simp only [St.swb,swbσ,swbm,AV.swb,AV.swbAll,swp,jN_swb,row_swb,Nat.reduceEqDiff,if_true,if_false,reduceIte]
   exact Le_wk (by first | omega | (dsimp only;omega) | (simp only;omega) | (simp;omega)) (by simp only [go_sem,seval,Nat.add_assoc]) (by simp only [go_sem,seval])
  ·obtain ⟨c1,rfl⟩:∃ c1,cap'=c1 + 1:=⟨cap' - 1,by omega⟩
   rw [Nat.add_sub_cancel]
   refine hK _ (hN7 _ (hB6 _ ?_))
   refine Aw_tx hE [0,3,4,5] [17,25,27,700,701,710,711,712,713,714,720,721,722,723,724] fun K hK=>?_
   simp only [go_sem,seval]
   repeat refine ⟨by first|omega|(and_intros<;>first|omega|exact rows_row _|exact wrows_row _|decide|(simp<;>omega))|fail,?_⟩
   refine hK _ (hN3 (1,c1) _ (by omega) (by simp only;omega) ?_)
   refine (Le_swb _ 25 710 (by decide) (by decide)).trans ?_
   simp only [St.swb,swbσ,swbm,AV.swb,AV.swbAll,swp,jN_swb,row_swb,Nat.reduceEqDiff,if_true,if_false,reduceIte]
   refine (Le_swb _ 27 700 (by decide) (by decide)).trans ?_
   simp only [St.swb,swbσ,swbm,AV.swb,AV.swbAll,swp,jN_swb,row_swb,Nat.reduceEqDiff,if_true,if_false,reduceIte]
   exact Le_wk (by first | omega | (dsimp only;omega) | (simp only;omega) | (simp;omega)) (by simp only [go_sem,seval,Nat.add_assoc]) (by simp only [go_sem,seval])
 ·refine Aw_st hE [0,3,4,5,20] [17,25,27,700,701,710,711,712,713,714,720,721,722,723,724] fun K hK=>?_
  simp only [go_sem,seval]
  refine hK _ (Aw_yes rfl (Aw_skip (hB4 _ ?_)))
  refine Aw_sq fun B6 hB6 hR6 hX6=>?_
  refine Aw_bk fun B7 hN7 hE7 hR7 hX7=>?_
  refine Aw_tx hE [0,3,4,5] [17,25,27,700,701,710,711,712,713,714,720,721,722,723,724] fun K hK=>?_
  simp only [go_sem,seval,List.flatten_cons,List.flatten_nil,List.cons_append,List.nil_append]
  refine ⟨fun h=>?_,fun h cap' hcap'=>?_⟩
  ·obtain ⟨c1,rfl⟩:∃ c1,c=c1 + 1:=⟨c - 1,by omega⟩
   simp only [jN_s,List.set_cons_zero]
   refine hK _ (hN7 _ (hB6 _ ?_))
   refine Aw_tx hE [0,3,4,5] [17,25,27,700,701,710,711,712,713,714,720,721,722,723,724] fun K hK=>?_
   simp only [go_sem,seval]
   repeat refine ⟨by first|omega|(and_intros<;>first|omega|exact rows_row _|exact wrows_row _|decide|(simp<;>omega))|fail,?_⟩
   refine hK _ (hN3 (2,c1) _ (by omega) (by simp only;omega) ?_)
   refine (Le_swb _ 25 711 (by decide) (by decide)).trans ?_
   simp only [St.swb,swbσ,swbm,AV.swb,AV.swbAll,swp,jN_swb,row_swb,Nat.reduceEqDiff,if_true,if_false,reduceIte]
   exact Le_wk (by first | omega | (dsimp only;omega) | (simp only;omega) | (simp;omega)) (by simp only [go_sem,seval,Nat.add_assoc]) (by simp only [go_sem,seval])
  ·obtain ⟨c1,rfl⟩:∃ c1,cap'=c1 + 2:=⟨cap' - 2,by omega⟩
   rw [Nat.add_sub_cancel]
   refine hK _ (hN7 _ (hB6 _ ?_))
   refine Aw_tx hE [0,3,4,5] [17,25,27,700,701,710,711,712,713,714,720,721,722,723,724] fun K hK=>?_
   simp only [go_sem,seval]
   repeat refine ⟨by first|omega|(and_intros<;>first|omega|exact rows_row _|exact wrows_row _|decide|(simp<;>omega))|fail,?_⟩
   refine hK _ (hN3 (2,c1) _ (by omega) (by simp only;omega) ?_)
   refine (Le_swb _ 25 711 (by decide) (by decide)).trans ?_
   simp only [St.swb,swbσ,swbm,AV.swb,AV.swbAll,swp,jN_swb,row_swb,Nat.reduceEqDiff,if_true,if_false,reduceIte]
   refine (Le_swb _ 27 700 (by decide) (by decide)).trans ?_
   simp only [St.swb,swbσ,swbm,AV.swb,AV.swbAll,swp,jN_swb,row_swb,Nat.reduceEqDiff,if_true,if_false,reduceIte]
   exact Le_wk (by first | omega | (dsimp only;omega) | (simp only;omega) | (simp;omega)) (by simp only [go_sem,seval,Nat.add_assoc]) (by simp only [go_sem,seval])
 ·refine Aw_st hE [0,3,4,5,20] [17,25,27,700,701,710,711,712,713,714,720,721,722,723,724] fun K hK=>?_
  simp only [go_sem,seval]
  refine hK _ (Aw_yes rfl (Aw_skip (hB4 _ ?_)))
  refine Aw_sq fun B6 hB6 hR6 hX6=>?_
  refine Aw_bk fun B7 hN7 hE7 hR7 hX7=>?_
  refine Aw_tx hE [0,3,4,5] [17,25,27,700,701,710,711,712,713,714,720,721,722,723,724] fun K hK=>?_
  simp only [go_sem,seval,List.flatten_cons,List.flatten_nil,List.cons_append,List.nil_append]
  refine ⟨fun h=>?_,fun h cap' hcap'=>?_⟩
  ·obtain ⟨c1,rfl⟩:∃ c1,c=c1 + 1:=⟨c - 1,by omega⟩
   simp only [jN_s,List.set_cons_zero]
   refine hK _ (hN7 _ (hB6 _ ?_))
   refine Aw_tx hE [0,3,4,5] [17,25,27,700,701,710,711,712,713,714,720,721,722,723,724] fun K hK=>?_
   simp only [go_sem,seval]
   repeat refine ⟨by first|omega|(and_intros<;>first|omega|exact rows_row _|exact wrows_row _|decide|(simp<;>omega))|fail,?_⟩
   refine hK _ (hN3 (3,c1) _ (by omega) (by simp only;omega) ?_)
   refine (Le_swb _ 25 712 (by decide) (by decide)).trans ?_
   simp only [St.swb,swbσ,swbm,AV.swb,AV.swbAll,swp,jN_swb,row_swb,Nat.reduceEqDiff,if_true,if_false,reduceIte]
   exact Le_wk (by first | omega | (dsimp only;omega) | (simp only;omega) | (simp;omega)) (by simp only [go_sem,seval,Nat.add_assoc]) (by simp only [go_sem,seval])
  ·obtain ⟨c1,rfl⟩:∃ c1,cap'=c1 + 3:=⟨cap' - 3,by omega⟩
   rw [Nat.add_sub_cancel]
   refine hK _ (hN7 _ (hB6 _ ?_))
   refine Aw_tx hE [0,3,4,5] [17,25,27,700,701,710,711,712,713,714,720,721,722,723,724] fun K hK=>?_
   simp only [go_sem,seval]
   repeat refine ⟨by first|omega|(and_intros<;>first|omega|exact rows_row _|exact wrows_row _|decide|(simp<;>omega))|fail,?_⟩
   refine hK _ (hN3 (3,c1) _ (by omega) (by simp only;omega) ?_)
   refine (Le_swb _ 25 712 (by decide) (by decide)).trans ?_
   simp only [St.swb,swbσ,swbm,AV.swb,AV.swbAll,swp,jN_swb,row_swb,Nat.reduceEqDiff,if_true,if_false,reduceIte]
   refine (Le_swb _ 27 700 (by decide) (by decide)).trans ?_
   simp only [St.swb,swbσ,swbm,AV.swb,AV.swbAll,swp,jN_swb,row_swb,Nat.reduceEqDiff,if_true,if_false,reduceIte]
   exact Le_wk (by first | omega | (dsimp only;omega) | (simp only;omega) | (simp;omega)) (by simp only [go_sem,seval,Nat.add_assoc]) (by simp only [go_sem,seval])
 ·refine Aw_st hE [0,3,4,5,20] [17,25,27,700,701,710,711,712,713,714,720,721,722,723,724] fun K hK=>?_
  simp only [go_sem,seval]
  refine hK _ (Aw_yes rfl (Aw_skip (hB4 _ ?_)))
  refine Aw_sq fun B6 hB6 hR6 hX6=>?_
  refine Aw_bk fun B7 hN7 hE7 hR7 hX7=>?_
  refine Aw_tx hE [0,3,4,5] [17,25,27,700,701,710,711,712,713,714,720,721,722,723,724] fun K hK=>?_
  simp only [go_sem,seval,List.flatten_cons,List.flatten_nil,List.cons_append,List.nil_append]
  refine ⟨fun h=>?_,fun h cap' hcap'=>?_⟩
  ·obtain ⟨c1,rfl⟩:∃ c1,c=c1 + 1:=⟨c - 1,by omega⟩
   simp only [jN_s,List.set_cons_zero]
   refine hK _ (hN7 _ (hB6 _ ?_))
   refine Aw_tx hE [0,3,4,5] [17,25,27,700,701,710,711,712,713,714,720,721,722,723,724] fun K hK=>?_
   simp only [go_sem,seval]
   repeat refine ⟨by first|omega|(and_intros<;>first|omega|exact rows_row _|exact wrows_row _|decide|(simp<;>omega))|fail,?_⟩
   refine hK _ (hN3 (4,c1) _ (by omega) (by simp only;omega) ?_)
   refine (Le_swb _ 25 713 (by decide) (by decide)).trans ?_
   simp only [St.swb,swbσ,swbm,AV.swb,AV.swbAll,swp,jN_swb,row_swb,Nat.reduceEqDiff,if_true,if_false,reduceIte]
   exact Le_wk (by first | omega | (dsimp only;omega) | (simp only;omega) | (simp;omega)) (by simp only [go_sem,seval,Nat.add_assoc]) (by simp only [go_sem,seval])
  ·obtain ⟨c1,rfl⟩:∃ c1,cap'=c1 + 4:=⟨cap' - 4,by omega⟩
   rw [Nat.add_sub_cancel]
   refine hK _ (hN7 _ (hB6 _ ?_))
   refine Aw_tx hE [0,3,4,5] [17,25,27,700,701,710,711,712,713,714,720,721,722,723,724] fun K hK=>?_
   simp only [go_sem,seval]
   repeat refine ⟨by first|omega|(and_intros<;>first|omega|exact rows_row _|exact wrows_row _|decide|(simp<;>omega))|fail,?_⟩
   refine hK _ (hN3 (4,c1) _ (by omega) (by simp only;omega) ?_)
   refine (Le_swb _ 25 713 (by decide) (by decide)).trans ?_
   simp only [St.swb,swbσ,swbm,AV.swb,AV.swbAll,swp,jN_swb,row_swb,Nat.reduceEqDiff,if_true,if_false,reduceIte]
   refine (Le_swb _ 27 700 (by decide) (by decide)).trans ?_
   simp only [St.swb,swbσ,swbm,AV.swb,AV.swbAll,swp,jN_swb,row_swb,Nat.reduceEqDiff,if_true,if_false,reduceIte]
   exact Le_wk (by first | omega | (dsimp only;omega) | (simp only;omega) | (simp;omega)) (by simp only [go_sem,seval,Nat.add_assoc]) (by simp only [go_sem,seval])
set_option maxHeartbeats 16000000 in
theorem relsA5 {E:En} (hE:TbOk E tbRels) {k:Nat} (hk:k + 40≤1099511627776) {Q:Exit→St→Prop} (hQ:∀ (L:List (List Int)) (rn:Nat),(2≤L.length∧L.length≤5)→(∀ w ∈ L,w.length=L.length)→rn≤k + 40→Aw E .ret ⟨111,[(2,wsl L)],[],rn⟩ Q):Aw E (seqB (seqB (seqB (Tryd.f30.body.getD .skip)))) ⟨111,[(0,.rd),(3,iv 5),(4,.xs 17 0 0 0 1)],[(17,[])],k + 1⟩ Q:=by
 refine Aw_sq fun B1 hB1 hR1 hX1=>?_
 refine Aw_st hE [0,3,4,5] [17,25,27,700,701,710,711,712,713,714,720,721,722,723,724] fun K hK=>?_
 simp only [go_sem,seval]
 refine hK _ ?_;clear hK K
 refine Aw_bk fun B2 hN2 hE2 hR2 hX2=>?_
 refine Aw_lp (fun i:Nat × Nat=>⟨111,[(0,.rd),(3,iv 5),(4,.xs 700 0 i.1 (i.2 + i.1) 1),(5,iv (i.1:Int))],(700,vws 5 (fun _=>0) 710 i.1++jN i.2)::bxs 5 (fun _=>0) (fun _=>List.replicate 5 0) 710 i.1,k + 1⟩) (fun i=>i.1≤5) (fun i=>5 - i.1) (0,0) ?_ (by omega) fun i hi B3 hN3 hR3 hX3=>?_
 ·refine (Le_swb _ 17 700 (by decide) (by decide)).trans ?_
  simp only [St.swb,swbσ,swbm,AV.swb,AV.swbAll,swp,jN_swb,row_swb,Nat.reduceEqDiff,if_true,if_false,reduceIte]
  exact Le_wk (by first | omega | (dsimp only;omega) | (simp only;omega) | (simp;omega)) (by simp only [go_sem,seval]) (by simp only [go_sem,seval])
 obtain ⟨i,c⟩:=i
 simp only at hi
 refine Aw_sq fun B4 hB4 hR4 hX4=>?_
 rcases (show i=5∨i=0∨i=1∨i=2∨i=3∨i=4 by omega) with rfl | rfl | rfl | rfl | rfl | rfl
 ·refine Aw_st hE [0,3,4,5,20] [17,25,27,700,701,710,711,712,713,714,720,721,722,723,724] fun K hK=>?_
  simp only [go_sem,seval]
  refine hK _ (Aw_no rfl (Aw_exit (hX4 _ _ (hX3 _ _ (hE2 _ (hB1 _ ?_))))))
  refine Aw.leE (LeE_of (show Le _ ⟨111,[(0,.rd),(3,iv 5),(4,.xs 700 0 5 (c + 5) 1)],(700,vws 5 (fun _=>0) 710 5++jN c)::bxs 5 (fun _=>0) (fun _=>List.replicate 5 0) 710 5,k + 1⟩ from Le_wk (by first | omega | (dsimp only;omega) | (simp only;omega) | (simp;omega)) (by simp only [go_sem,seval]) (by simp only [go_sem,seval]))) (relsB5 hE hk hQ (fun _=>rfl))
 ·refine Aw_st hE [0,3,4,5,20] [17,25,27,700,701,710,711,712,713,714,720,721,722,723,724] fun K hK=>?_
  simp only [go_sem,seval]
  refine hK _ (Aw_yes rfl (Aw_skip (hB4 _ ?_)))
  refine Aw_sq fun B6 hB6 hR6 hX6=>?_
  refine Aw_bk fun B7 hN7 hE7 hR7 hX7=>?_
  refine Aw_tx hE [0,3,4,5] [17,25,27,700,701,710,711,712,713,714,720,721,722,723,724] fun K hK=>?_
  simp only [go_sem,seval,List.flatten_cons,List.flatten_nil,List.cons_append,List.nil_append]
  refine ⟨fun h=>?_,fun h cap' hcap'=>?_⟩
  ·obtain ⟨c1,rfl⟩:∃ c1,c=c1 + 1:=⟨c - 1,by omega⟩
   simp only [jN_s,List.set_cons_zero]
   refine hK _ (hN7 _ (hB6 _ ?_))
   refine Aw_tx hE [0,3,4,5] [17,25,27,700,701,710,711,712,713,714,720,721,722,723,724] fun K hK=>?_
   simp only [go_sem,seval]
   repeat refine ⟨by first|omega|(and_intros<;>first|omega|exact rows_row _|exact wrows_row _|decide|(simp<;>omega))|fail,?_⟩
   refine hK _ (hN3 (1,c1) _ (by omega) (by simp only;omega) ?_)
   refine (Le_swb _ 25 710 (by decide) (by decide)).trans ?_
   simp only [St.swb,swbσ,swbm,AV.swb,AV.swbAll,swp,jN_swb,row_swb,Nat.reduceEqDiff,if_true,if_false,reduceIte]
   exact Le_wk (by first | omega | (dsimp only;omega) | (simp only;omega) | (simp;omega)) (by simp only [go_sem,seval,Nat.add_assoc]) (by simp only [go_sem,seval])
  ·obtain ⟨c1,rfl⟩:∃ c1,cap'=c1 + 1:=⟨cap' - 1,by omega⟩
   rw [Nat.add_sub_cancel]
   refine hK _ (hN7 _ (hB6 _ ?_))
   refine Aw_tx hE [0,3,4,5] [17,25,27,700,701,710,711,712,713,714,720,721,722,723,724] fun K hK=>?_
   simp only [go_sem,seval]
   repeat refine ⟨by first|omega|(and_intros<;>first|omega|exact rows_row _|exact wrows_row _|decide|(simp<;>omega))|fail,?_⟩
   refine hK _ (hN3 (1,c1) _ (by omega) (by simp only;omega) ?_)
   refine (Le_swb _ 25 710 (by decide) (by decide)).trans ?_
   simp only [St.swb,swbσ,swbm,AV.swb,AV.swbAll,swp,jN_swb,row_swb,Nat.reduceEqDiff,if_true,if_false,reduceIte]
   refine (Le_swb _ 27 700 (by decide) (by decide)).trans ?_
   simp only [St.swb,swbσ,swbm,AV.swb,AV.swbAll,swp,jN_swb,row_swb,Nat.reduceEqDiff,if_true,if_false,reduceIte]
   exact Le_wk (by first | omega | (dsimp only;omega) | (simp only;omega) | (simp;omega)) (by simp only [go_sem,seval,Nat.add_assoc]) (by simp only [go_sem,seval])
 ·refine Aw_st hE [0,3,4,5,20] [17,25,27,700,701,710,711,712,713,714,720,721,722,723,724] fun K hK=>?_
  simp only [go_sem,seval]
  refine hK _ (Aw_yes rfl (Aw_skip (hB4 _ ?_)))
  refine Aw_sq fun B6 hB6 hR6 hX6=>?_
  refine Aw_bk fun B7 hN7 hE7 hR7 hX7=>?_
  refine Aw_tx hE [0,3,4,5] [17,25,27,700,701,710,711,712,713,714,720,721,722,723,724] fun K hK=>?_
  simp only [go_sem,seval,List.flatten_cons,List.flatten_nil,List.cons_append,List.nil_append]
  refine ⟨fun h=>?_,fun h cap' hcap'=>?_⟩
  ·obtain ⟨c1,rfl⟩:∃ c1,c=c1 + 1:=⟨c - 1,by omega⟩
   simp only [jN_s,List.set_cons_zero]
   refine hK _ (hN7 _ (hB6 _ ?_))
   refine Aw_tx hE [0,3,4,5] [17,25,27,700,701,710,711,712,713,714,720,721,722,723,724] fun K hK=>?_
   simp only [go_sem,seval]
   repeat refine ⟨by first|omega|(and_intros<;>first|omega|exact rows_row _|exact wrows_row _|decide|(simp<;>omega))|fail,?_⟩
   refine hK _ (hN3 (2,c1) _ (by omega) (by simp only;omega) ?_)
   refine (Le_swb _ 25 711 (by decide) (by decide)).trans ?_
   simp only [St.swb,swbσ,swbm,AV.swb,AV.swbAll,swp,jN_swb,row_swb,Nat.reduceEqDiff,if_true,if_false,reduceIte]
   exact Le_wk (by first | omega | (dsimp only;omega) | (simp only;omega) | (simp;omega)) (by simp only [go_sem,seval,Nat.add_assoc]) (by simp only [go_sem,seval])
  ·obtain ⟨c1,rfl⟩:∃ c1,cap'=c1 + 2:=⟨cap' - 2,by omega⟩
   rw [Nat.add_sub_cancel]
   refine hK _ (hN7 _ (hB6 _ ?_))
   refine Aw_tx hE [0,3,4,5] [17,25,27,700,701,710,711,712,713,714,720,721,722,723,724] fun K hK=>?_
   simp only [go_sem,seval]
   repeat refine ⟨by first|omega|(and_intros<;>first|omega|exact rows_row _|exact wrows_row _|decide|(simp<;>omega))|fail,?_⟩
   refine hK _ (hN3 (2,c1) _ (by omega) (by simp only;omega) ?_)
   refine (Le_swb _ 25 711 (by decide) (by decide)).trans ?_
   simp only [St.swb,swbσ,swbm,AV.swb,AV.swbAll,swp,jN_swb,row_swb,Nat.reduceEqDiff,if_true,if_false,reduceIte]
   refine (Le_swb _ 27 700 (by decide) (by decide)).trans ?_
   simp only [St.swb,swbσ,swbm,AV.swb,AV.swbAll,swp,jN_swb,row_swb,Nat.reduceEqDiff,if_true,if_false,reduceIte]
   exact Le_wk (by first | omega | (dsimp only;omega) | (simp only;omega) | (simp;omega)) (by simp only [go_sem,seval,Nat.add_assoc]) (by simp only [go_sem,seval])
 ·refine Aw_st hE [0,3,4,5,20] [17,25,27,700,701,710,711,712,713,714,720,721,722,723,724] fun K hK=>?_
  simp only [go_sem,seval]
  refine hK _ (Aw_yes rfl (Aw_skip (hB4 _ ?_)))
  refine Aw_sq fun B6 hB6 hR6 hX6=>?_
  refine Aw_bk fun B7 hN7 hE7 hR7 hX7=>?_
  refine Aw_tx hE [0,3,4,5] [17,25,27,700,701,710,711,712,713,714,720,721,722,723,724] fun K hK=>?_
  simp only [go_sem,seval,List.flatten_cons,List.flatten_nil,List.cons_append,List.nil_append]
  refine ⟨fun h=>?_,fun h cap' hcap'=>?_⟩
  ·obtain ⟨c1,rfl⟩:∃ c1,c=c1 + 1:=⟨c - 1,by omega⟩
   simp only [jN_s,List.set_cons_zero]
   refine hK _ (hN7 _ (hB6 _ ?_))
   refine Aw_tx hE [0,3,4,5] [17,25,27,700,701,710,711,712,713,714,720,721,722,723,724] fun K hK=>?_
   simp only [go_sem,seval]
   repeat refine ⟨by first|omega|(and_intros<;>first|omega|exact rows_row _|exact wrows_row _|decide|(simp<;>omega))|fail,?_⟩
   refine hK _ (hN3 (3,c1) _ (by omega) (by simp only;omega) ?_)
   refine (Le_swb _ 25 712 (by decide) (by decide)).trans ?_
   simp only [St.swb,swbσ,swbm,AV.swb,AV.swbAll,swp,jN_swb,row_swb,Nat.reduceEqDiff,if_true,if_false,reduceIte]
   exact Le_wk (by first | omega | (dsimp only;omega) | (simp only;omega) | (simp;omega)) (by simp only [go_sem,seval,Nat.add_assoc]) (by simp only [go_sem,seval])
  ·obtain ⟨c1,rfl⟩:∃ c1,cap'=c1 + 3:=⟨cap' - 3,by omega⟩
   rw [Nat.add_sub_cancel]
   refine hK _ (hN7 _ (hB6 _ ?_))
   refine Aw_tx hE [0,3,4,5] [17,25,27,700,701,710,711,712,713,714,720,721,722,723,724] fun K hK=>?_
   simp only [go_sem,seval]
   repeat refine ⟨by first|omega|(and_intros<;>first|omega|exact rows_row _|exact wrows_row _|decide|(simp<;>omega))|fail,?_⟩
   refine hK _ (hN3 (3,c1) _ (by omega) (by simp only;omega) ?_)
   refine (Le_swb _ 25 712 (by decide) (by decide)).trans ?_
   simp only [St.swb,swbσ,swbm,AV.swb,AV.swbAll,swp,jN_swb,row_swb,Nat.reduceEqDiff,if_true,if_false,reduceIte]
   refine (Le_swb _ 27 700 (by decide) (by decide)).trans ?_
   simp only [St.swb,swbσ,swbm,AV.swb,AV.swbAll,swp,jN_swb,row_swb,Nat.reduceEqDiff,if_true,if_false,reduceIte]
   exact Le_wk (by first | omega | (dsimp only;omega) | (simp only;omega) | (simp;omega)) (by simp only [go_sem,seval,Nat.add_assoc]) (by simp only [go_sem,seval])
 ·refine Aw_st hE [0,3,4,5,20] [17,25,27,700,701,710,711,712,713,714,720,721,722,723,724] fun K hK=>?_
  simp only [go_sem,seval]
  refine hK _ (Aw_yes rfl (Aw_skip (hB4 _ ?_)))
  refine Aw_sq fun B6 hB6 hR6 hX6=>?_
  refine Aw_bk fun B7 hN7 hE7 hR7 hX7=>?_
  refine Aw_tx hE [0,3,4,5] [17,25,27,700,701,710,711,712,713,714,720,721,722,723,724] fun K hK=>?_
  simp only [go_sem,seval,List.flatten_cons,List.flatten_nil,List.cons_append,List.nil_append]
  refine ⟨fun h=>?_,fun h cap' hcap'=>?_⟩
  ·obtain ⟨c1,rfl⟩:∃ c1,c=c1 + 1:=⟨c - 1,by omega⟩
   simp only [jN_s,List.set_cons_zero]
   refine hK _ (hN7 _ (hB6 _ ?_))
   refine Aw_tx hE [0,3,4,5] [17,25,27,700,701,710,711,712,713,714,720,721,722,723,724] fun K hK=>?_
   simp only [go_sem,seval]
   repeat refine ⟨by first|omega|(and_intros<;>first|omega|exact rows_row _|exact wrows_row _|decide|(simp<;>omega))|fail,?_⟩
   refine hK _ (hN3 (4,c1) _ (by omega) (by simp only;omega) ?_)
   refine (Le_swb _ 25 713 (by decide) (by decide)).trans ?_
   simp only [St.swb,swbσ,swbm,AV.swb,AV.swbAll,swp,jN_swb,row_swb,Nat.reduceEqDiff,if_true,if_false,reduceIte]
   exact Le_wk (by first | omega | (dsimp only;omega) | (simp only;omega) | (simp;omega)) (by simp only [go_sem,seval,Nat.add_assoc]) (by simp only [go_sem,seval])
  ·obtain ⟨c1,rfl⟩:∃ c1,cap'=c1 + 4:=⟨cap' - 4,by omega⟩
   rw [Nat.add_sub_cancel]
   refine hK _ (hN7 _ (hB6 _ ?_))
   refine Aw_tx hE [0,3,4,5] [17,25,27,700,701,710,711,712,713,714,720,721,722,723,724] fun K hK=>?_
   simp only [go_sem,seval]
   repeat refine ⟨by first|omega|(and_intros<;>first|omega|exact rows_row _|exact wrows_row _|decide|(simp<;>omega))|fail,?_⟩
   refine hK _ (hN3 (4,c1) _ (by omega) (by simp only;omega) ?_)
   refine (Le_swb _ 25 713 (by decide) (by decide)).trans ?_
   simp only [St.swb,swbσ,swbm,AV.swb,AV.swbAll,swp,jN_swb,row_swb,Nat.reduceEqDiff,if_true,if_false,reduceIte]
   refine (Le_swb _ 27 700 (by decide) (by decide)).trans ?_
   simp only [St.swb,swbσ,swbm,AV.swb,AV.swbAll,swp,jN_swb,row_swb,Nat.reduceEqDiff,if_true,if_false,reduceIte]
   exact Le_wk (by first | omega | (dsimp only;omega) | (simp only;omega) | (simp;omega)) (by simp only [go_sem,seval,Nat.add_assoc]) (by simp only [go_sem,seval])
 ·refine Aw_st hE [0,3,4,5,20] [17,25,27,700,701,710,711,712,713,714,720,721,722,723,724] fun K hK=>?_
  simp only [go_sem,seval]
  refine hK _ (Aw_yes rfl (Aw_skip (hB4 _ ?_)))
  refine Aw_sq fun B6 hB6 hR6 hX6=>?_
  refine Aw_bk fun B7 hN7 hE7 hR7 hX7=>?_
  refine Aw_tx hE [0,3,4,5] [17,25,27,700,701,710,711,712,713,714,720,721,722,723,724] fun K hK=>?_
  simp only [go_sem,seval,List.flatten_cons,List.flatten_nil,List.cons_append,List.nil_append]
  refine ⟨fun h=>?_,fun h cap' hcap'=>?_⟩
  ·obtain ⟨c1,rfl⟩:∃ c1,c=c1 + 1:=⟨c - 1,by omega⟩
   simp only [jN_s,List.set_cons_zero]
   refine hK _ (hN7 _ (hB6 _ ?_))
   refine Aw_tx hE [0,3,4,5] [17,25,27,700,701,710,711,712,713,714,720,721,722,723,724] fun K hK=>?_
   simp only [go_sem,seval]
   repeat refine ⟨by first|omega|(and_intros<;>first|omega|exact rows_row _|exact wrows_row _|decide|(simp<;>omega))|fail,?_⟩
   refine hK _ (hN3 (5,c1) _ (by omega) (by simp only;omega) ?_)
   refine (Le_swb _ 25 714 (by decide) (by decide)).trans ?_
   simp only [St.swb,swbσ,swbm,AV.swb,AV.swbAll,swp,jN_swb,row_swb,Nat.reduceEqDiff,if_true,if_false,reduceIte]
   exact Le_wk (by first | omega | (dsimp only;omega) | (simp only;omega) | (simp;omega)) (by simp only [go_sem,seval,Nat.add_assoc]) (by simp only [go_sem,seval])
  ·obtain ⟨c1,rfl⟩:∃ c1,cap'=c1 + 5:=⟨cap' - 5,by omega⟩
   rw [Nat.add_sub_cancel]
   refine hK _ (hN7 _ (hB6 _ ?_))
   refine Aw_tx hE [0,3,4,5] [17,25,27,700,701,710,711,712,713,714,720,721,722,723,724] fun K hK=>?_
   simp only [go_sem,seval]
   repeat refine ⟨by first|omega|(and_intros<;>first|omega|exact rows_row _|exact wrows_row _|decide|(simp<;>omega))|fail,?_⟩
   refine hK _ (hN3 (5,c1) _ (by omega) (by simp only;omega) ?_)
   refine (Le_swb _ 25 714 (by decide) (by decide)).trans ?_
   simp only [St.swb,swbσ,swbm,AV.swb,AV.swbAll,swp,jN_swb,row_swb,Nat.reduceEqDiff,if_true,if_false,reduceIte]
   refine (Le_swb _ 27 700 (by decide) (by decide)).trans ?_
   simp only [St.swb,swbσ,swbm,AV.swb,AV.swbAll,swp,jN_swb,row_swb,Nat.reduceEqDiff,if_true,if_false,reduceIte]
   exact Le_wk (by first | omega | (dsimp only;omega) | (simp only;omega) | (simp;omega)) (by simp only [go_sem,seval,Nat.add_assoc]) (by simp only [go_sem,seval])
set_option maxHeartbeats 4000000 in
theorem l91Rels_ok:Fine Tryd.prog 30 cRelsD:=by
 refine fine_ofX [] gl_nil [] ms_nil [] mm_nil [17,25,26,27,72,79,95,98,99] [] ex_nil (T:=TT) Tryd.func30 rfl Tryd.ntmps30 (by rw [Tryd.results30]) rfl rfl tt (gs_cons pick_ok gs_nil) (ds_cons back_ok ds_nil) ?_
 rintro args rfl
 refine ⟨by simp,fun k hk E hE Q hQ=>?_⟩
 have hk:=hk rfl
 simp only [go_sem] at hk
 have hQ2:∀ (L:List (List Int)) (rn:Nat),(2≤L.length∧L.length≤5)→(∀ w ∈ L,w.length=L.length)→rn≤k + 40→Aw E .ret ⟨111,[(2,wsl L)],[],rn⟩ Q:=by
  intro L rn h1 h2 h3
  refine Aw_ret (hQ _ ?_)
  simp only [go_sem,seval]
  exact ⟨h3,L,h1,h2,rfl⟩
 refine Aw_st hE [0] [17] fun K hK=>?_
 simp only [go_sem,seval]
 refine hK _ ?_;clear hK K
 refine Aw_st hE [0,3] [17] fun K hK=>?_
 simp only [go_sem,seval]
 repeat' (first | (refine And.intro (by first | omega | decide) ?_) | intro)
 rename_i n0 hn1 hn2
 refine hK _ ?_;clear hK K
 refine Aw_st hE [0,3,4] [17] fun K hK=>?_
 simp only [go_sem,seval]
 refine hK _ ?_;clear hK K
 have hn:n0=0∨n0=1∨n0=2∨n0=3:=by omega
 rcases hn with rfl | rfl | rfl | rfl
 ·exact relsA2 hE hk hQ2
 ·exact relsA3 hE hk hQ2
 ·exact relsA4 hE hk hQ2
 ·exact relsA5 hE hk hQ2
end Go.Proofs.W
end
section
namespace Go.Proofs.W
open Go Go.Eng Go.RowKit
set_option linter.unusedSimpArgs false
set_option maxRecDepth 100000
/-! relations and a home are drawn -/
def okRl (R:List (List Int)):Prop:=(2≤R.length∧R.length≤5)∧(∀ w ∈ R,w.length=R.length)
theorem okRl_big {R:List (List Int)} (h:okRl R):bigM R:=⟨by have:=h.1;omega,fun w hw=>by have:=h.2 w hw;have:=h.1;omega⟩
theorem relsD_pre:cRelsD.pre [.rd]=True:=eq_true rfl
theorem relsD_post (args:List AV) (K:AV→Prop):(∀ r,cRelsD.post args r→K r)=(∀ R:List (List Int),okRl R→K (wsl R)):=by
 apply propext
 exact ⟨fun h R hR=>h _ ⟨R,hR.1,hR.2,rfl⟩,fun h r ⟨R,h1,h2,e⟩=>e ▸ h R ⟨h1,h2⟩⟩
theorem relsD_ex (args:List AV):(∃ r,cRelsD.post args r)=True:=eq_true ⟨_,[[0,0],[0,0]],⟨by decide,by decide⟩,by decide,rfl⟩
attribute [go_sem] relsD_pre relsD_post relsD_ex
/-- relations of two to five houses,and a home that may be none of them -/
def cDNE:Con:={ pre:=codeArg,post:=fun _ r=>∃ (R:List (List Int)) (x:Int),okRl R∧(1≤x∧x≤100)∧r = .tup [wsl R,iv x] }
theorem cDNE_own:cDNE.own=false:=rfl
theorem cDNE_draws:cDNE.draws=false:=rfl
theorem cDNE_cost:cDNE.cost=0:=rfl
attribute [go_sem] cDNE_own cDNE_draws cDNE_cost
theorem dne_pre (bs:List Nat) (h:∀ b ∈ bs,b < 256):cDNE.pre [.sl none (byteRows bs)]:=⟨bs,h,rfl⟩
theorem dne_post (args:List AV) (K:AV→Prop):(∀ r,cDNE.post args r→K r)=(∀ (R:List (List Int)) (x:Int),okRl R→1≤x→x≤100→K (.tup [wsl R,iv x])):=by
 apply propext
 exact ⟨fun h R x h1 h2 h3=>h _ ⟨R,x,h1,⟨h2,h3⟩,rfl⟩,fun h r ⟨R,x,h1,⟨h2,h3⟩,e⟩=>e ▸ h R x h1 h2 h3⟩
attribute [go_sem] dne_post
theorem drawNetEnd_ok:Fine Tryd.prog 12 cDNE:=by
 refine fine_draw (T:=TT) (C:=cDNE) Tryd.func12 rfl Tryd.ntmps12 (by rw [Tryd.results12]) rfl rfl tt rfl rfl (G:=[(30,cRelsD),(31,cPick)]) (D:=[]) (gs_cons l91Rels_ok (gs_cons pick_ok gs_nil)) ds_nil (l1:=[_]) (l2:=[_]) rfl rfl rfl rfl (by decide) open_calls ⟨_,Tryd.func29,rfl,rfl⟩ ?_ ?_
 ·rintro args r ⟨R,x,_,_,rfl⟩;rfl
 rintro args ⟨bs,hbs,rfl⟩
 refine ⟨by simp,bs,hbs,fun n E hE J hJ=>?_⟩
 refine Aw_tx hE [0] [] fun K hK=>?_
 simp only [go_sem,seval]
 refine hK _ ?_
 simp only [thenA]
 simp only [go_sem,seval]
 refine hJ _ rfl rfl fun E hE Q hQ=>?_
 simp only [go_sem,seval]
 refine Aw_st hE [4,5] [] fun K hK=>?_
 simp only [go_sem,seval]
 intro R hR
 refine hK _ ?_;clear hK K
 refine Aw_st hE [2,3] [] fun K hK=>?_
 simp only [go_sem,seval]
 intro x hx1 hx2
 refine ⟨⟨by omega,by have:=hR.1;omega⟩,fun y hy1 hy2=>?_⟩
 have hd:y.tdiv 23=0∨y.tdiv 23=1:=by
  rw [Int.tdiv_eq_ediv_of_nonneg hy1];omega
 have hR1:=hR.1
 refine ⟨⟨by omega,by omega⟩,⟨by omega,by omega⟩,⟨by omega,by omega⟩,?_⟩
 refine hK _ (Aw_ret (hQ _ ?_))
 simp only [go_sem,seval]
 exact ⟨R,_,hR,⟨by omega,by omega⟩,rfl⟩
end Go.Proofs.W
end
