/- YtkiaifamodjedaaDoorWd: part of the proof that laws hold, for every input that the row speaks of (no condition of ours). -/
import Derived.Test.YtkiaifamodjedaaDoorWc
import Derived.Test.YtkiaifamodjedaaDoorWa
import Derived.Test.YtkiaifamodjedaaDoorWb
import Derived.Test.YtkiaifamodjedaaDoorEc
set_option linter.unusedVariables false
set_option linter.unusedSimpArgs false
section
namespace Go.Proofs.W
open Go Go.Eng Go.RowKit
set_option maxRecDepth 100000
theorem relsB2 {E:En} (hE:TbOk E tbRels) {k:Nat} (hk:k + 40≤1099511627776) {Q:Exit→St→Prop} (hQ:∀ (L:List (List Int)) (rn:Nat),(2≤L.length∧L.length≤5)→(∀ w ∈ L,w.length=L.length)→rn≤k + 40→Aw E .ret ⟨111,[(2,wsl L)],[],rn⟩ Q) {r:Nat→List Int} (hr:∀ q,(r q).length=2) {d:Nat→Nat} {c:Nat}:Aw E (seqB (seqB (seqB (seqB (Tryd.f68.body.getD .skip))))) ⟨111,[(0,.rd),(3,iv 2),(4,.xs 700 0 2 (c + 2) 1)],(700,vws 2 d 710 2++jN c)::bxs 2 d r 710 2,k + 1⟩ Q:=by
 refine Aw_st hE [0,3,4,6] [700,701,710,711,712,713,714,720,721,722,723,724] fun K hK=>?_
 simp only [go_sem,seval]
 refine ⟨by omega,fun x hx1 hx2=>?_⟩
 generalize decide (x=0)=bb
 refine hK _ ?_;clear hK K
 refine Aw_sqJ (fun i:(Nat→List Int) × Nat=>⟨111,[(0,.rd),(3,iv 2),(4,.xs 700 0 2 (c + 2) 1)],(700,vws 2 d 710 2++jN c)::bxs 2 d i.1 710 2,i.2⟩) (fun i=>(∀ x,(i.1 x).length=2)∧i.2≤k + 29) (fun i hi=>relsR2 hE hk hQ hi.1 hi.2) fun B1 hB1 hR1 hX1=>?_
 refine Aw_st hE [0,3,4,6,7] [700,701,710,711,712,713,714,720,721,722,723,724] fun K hK=>?_
 simp only [go_sem,seval]
 refine hK _ ?_;clear hK K
 refine Aw_bk fun B2 hN2 hE2 hR2 hX2=>?_
 refine Aw_lp (fun i:Nat × (Nat→List Int)=>⟨111,[(0,.rd),(3,iv 2),(4,.xs 700 0 2 (c + 2) 1),(6,bv bb),(7,iv (i.1:Int))],(700,vws 2 d 710 2++jN c)::bxs 2 d i.2 710 2,k + 2 + i.1 * (3 - i.1)⟩) (fun i=>i.1≤2∧∀ x,(i.2 x).length=2) (fun i=>2 - i.1) (0,r) (Le_wa) ⟨by omega,hr⟩ fun i hi B3 hN3 hR3 hX3=>?_
 obtain ⟨a,r⟩:=i
 obtain ⟨hi,hr⟩:=hi
 simp only at hi hr
 refine Aw_sq fun B4 hB4 hR4 hX4=>?_
 rcases (show a=2∨a=0∨a=1 by omega) with rfl | rfl | rfl
 ·refine Aw_st hE [0,3,4,6,7,33] [700,701,710,711,712,713,714,720,721,722,723,724] fun K hK=>?_
  simp only [go_sem,seval]
  refine hK _ (Aw_no rfl (Aw_exit (hX4 _ _ (hX3 _ _ (hE2 _ (hB1 (r,k + 29) _ ⟨hr,by simp only;omega⟩ (LeE_of (Le_wa))))))))
 ·refine Aw_st hE [0,3,4,6,7,33] [700,701,710,711,712,713,714,720,721,722,723,724] fun K hK=>?_
  simp only [go_sem,seval]
  refine hK _ (Aw_yes rfl (Aw_skip (hB4 _ ?_)))
  refine Aw_sq fun B6 hB6 hR6 hX6=>?_
  refine Aw_bk fun B7 hN7 hE7 hR7 hX7=>?_
  refine Aw_st hE [0,3,4,6,7,8] [700,701,710,711,712,713,714,720,721,722,723,724] fun K hK=>?_
  simp only [go_sem,seval]
  refine hK _ ?_;clear hK K
  refine Aw_bk fun B8 hN8 hE8 hR8 hX8=>?_
  refine Aw_lp (fun i:Nat × (Nat→List Int)=>⟨111,[(0,.rd),(3,iv 2),(4,.xs 700 0 2 (c + 2) 1),(6,bv bb),(7,iv 0),(8,iv (i.1:Int))],(700,vws 2 d 710 2++jN c)::bxs 2 d i.2 710 2,k + 0 + 2 * i.1⟩) (fun i=>1≤i.1∧i.1≤2∧∀ x,(i.2 x).length=2) (fun i=>2 - i.1) (1,r) (Le_wa) ⟨by omega,by omega,hr⟩ fun i hi B9 hN9 hR9 hX9=>?_
  obtain ⟨b,r⟩:=i
  obtain ⟨hi1,hi2,hr⟩:=hi
  simp only at hi1 hi2 hr
  have hr0:=hr 0
  have hr1:=hr 1
  refine Aw_sq fun B10 hB10 hR10 hX10=>?_
  rcases (show b=2∨b=1 by omega) with rfl | rfl
  ·refine Aw_st hE [0,3,4,6,7,8,40] [700,701,710,711,712,713,714,720,721,722,723,724] fun K hK=>?_
   simp only [go_sem,seval]
   refine hK _ (Aw_no rfl (Aw_exit (hX10 _ _ (hX9 _ _ (hE8 _ ?_)))))
   refine hN7 _ (hB6 _ ?_)
   refine Aw_tx hE [0,3,4,6,7] [700,701,710,711,712,713,714,720,721,722,723,724] fun K hK=>?_
   simp only [go_sem,seval]
   repeat refine sd0 ?_
   refine hK _ (hN3 (1,r) _ ⟨by omega,hr⟩ (by simp only;omega) (Le_wa))
  ·refine Aw_st hE [0,3,4,6,7,8,40] [700,701,710,711,712,713,714,720,721,722,723,724] fun K hK=>?_
   simp only [go_sem,seval]
   refine hK _ (Aw_yes rfl (Aw_skip (hB10 _ ?_)))
   refine Aw_sq fun B11 hB11 hR11 hX11=>?_
   refine Aw_bk fun B12 hN12 hE12 hR12 hX12=>?_
   refine Aw_st hE [0,3,4,6,7,8,9] [700,701,710,711,712,713,714,720,721,722,723,724] fun K hK=>?_
   refine aops_cut 3 fun K1 hK1=>?_
   simp only [go_sem,seval]
   repeat refine sd0 ?_
   intro x hx1 hx2
   obtain ⟨v,hv,hv1,hv2⟩:=pick4 x hx1 hx2
   refine hK1 _ ?_
   clear hK1
   simp only [go_sem,seval,hv]
   repeat refine sd0 ?_
   refine hK _ ?_;clear hK K
   refine Aw_sqJ (fun v:Int=>⟨111,[(0,.rd),(3,iv 2),(4,.xs 700 0 2 (c + 2) 1),(6,bv bb),(7,iv 0),(8,iv 1),(9,iv v)],(700,vws 2 d 710 2++jN c)::bxs 2 d r 710 2,k + 4⟩) (fun v=>0≤v∧v≤3) (fun v hv=>?_) fun B13 hB13 hR13 hX13=>?_
   ·have hs1:=cI_set (r 0) (d 0) 1 v (by omega)
    have hs2:=fun y=>cI_set (r 1) (d 1) 0 y (by omega)
    obtain ⟨hv1,hv2⟩:=hv
    refine Aw_st hE [0,3,4,6,7,8,9] [700,701,710,711,712,713,714,720,721,722,723,724] fun K hK=>?_
    simp only [go_sem,seval,hs1]
    refine ⟨by omega,?_⟩
    refine hK _ ?_;clear hK K
    refine Aw_td hE [0,3,4,6,7,8] [700,701,710,711,712,713,714,720,721,722,723,724] 6 (by kernel_rfl) fun K hK=>?_
    simp only [go_sem,seval,hs2,hv1,hv2]
    refine ⟨by omega,hK _ (hN12 _ (hB11 _ ?_))⟩
    refine Aw_tx hE [0,3,4,6,7,8] [700,701,710,711,712,713,714,720,721,722,723,724] fun K hK=>?_
    simp only [go_sem,seval]
    repeat refine sd0 ?_
    refine hK _ (hN9 (2,upd (upd r 0 1 v) 1 0 (mirr v)) _ ⟨by omega,by omega,upd_len (upd_len hr)⟩ (by simp only;omega) (Le_wc (by simp only [go_sem,seval,upd]) (by simp only [go_sem,seval,upd])))
   ·refine Aw_st hE [0,3,4,6,7,8,9,53] [700,701,710,711,712,713,714,720,721,722,723,724] fun K hK=>?_
    simp only [go_sem,seval]
    refine ⟨fun hg23=>⟨by omega,fun y hy1 hy2=>?_⟩,fun hg23=>?_⟩
    ·refine hK _ (Aw_cond rfl (fun hc24=>?_) (fun hc24=>?_))
     ·refine Aw_tx hE [0,3,4,6,7,8,9] [700,701,710,711,712,713,714,720,721,722,723,724] fun K hK=>?_
      simp only [go_sem,seval]
      exact hK _ (hB13 3 _ ⟨by decide,by decide⟩ (LeE_of (Le_wa)))
     ·exact Aw_skip (hB13 v _ ⟨hv1,hv2⟩ (LeE_of (Le_wa)))
    ·exact hK _ (Aw_no rfl (Aw_skip (hB13 v _ ⟨hv1,hv2⟩ (LeE_of (Le_wa)))))
 ·refine Aw_st hE [0,3,4,6,7,33] [700,701,710,711,712,713,714,720,721,722,723,724] fun K hK=>?_
  simp only [go_sem,seval]
  refine hK _ (Aw_yes rfl (Aw_skip (hB4 _ ?_)))
  refine Aw_sq fun B6 hB6 hR6 hX6=>?_
  refine Aw_bk fun B7 hN7 hE7 hR7 hX7=>?_
  refine Aw_st hE [0,3,4,6,7,8] [700,701,710,711,712,713,714,720,721,722,723,724] fun K hK=>?_
  simp only [go_sem,seval]
  refine hK _ ?_;clear hK K
  refine Aw_bk fun B8 hN8 hE8 hR8 hX8=>?_
  refine Aw_lp (fun i:Nat × (Nat→List Int)=>⟨111,[(0,.rd),(3,iv 2),(4,.xs 700 0 2 (c + 2) 1),(6,bv bb),(7,iv 1),(8,iv (i.1:Int))],(700,vws 2 d 710 2++jN c)::bxs 2 d i.2 710 2,k + 0 + 2 * i.1⟩) (fun i=>2≤i.1∧i.1≤2∧∀ x,(i.2 x).length=2) (fun i=>2 - i.1) (2,r) (Le_wa) ⟨by omega,by omega,hr⟩ fun i hi B9 hN9 hR9 hX9=>?_
  obtain ⟨b,r⟩:=i
  obtain ⟨hi1,hi2,hr⟩:=hi
  simp only at hi1 hi2 hr
  have hr0:=hr 0
  have hr1:=hr 1
  refine Aw_sq fun B10 hB10 hR10 hX10=>?_
  obtain rfl:b=2:=by omega
  ·refine Aw_st hE [0,3,4,6,7,8,40] [700,701,710,711,712,713,714,720,721,722,723,724] fun K hK=>?_
   simp only [go_sem,seval]
   refine hK _ (Aw_no rfl (Aw_exit (hX10 _ _ (hX9 _ _ (hE8 _ ?_)))))
   refine hN7 _ (hB6 _ ?_)
   refine Aw_tx hE [0,3,4,6,7] [700,701,710,711,712,713,714,720,721,722,723,724] fun K hK=>?_
   simp only [go_sem,seval]
   repeat refine sd0 ?_
   refine hK _ (hN3 (2,r) _ ⟨by omega,hr⟩ (by simp only;omega) (Le_wa))
set_option maxHeartbeats 16000000 in
theorem relsB3 {E:En} (hE:TbOk E tbRels) {k:Nat} (hk:k + 40≤1099511627776) {Q:Exit→St→Prop} (hQ:∀ (L:List (List Int)) (rn:Nat),(2≤L.length∧L.length≤5)→(∀ w ∈ L,w.length=L.length)→rn≤k + 40→Aw E .ret ⟨111,[(2,wsl L)],[],rn⟩ Q) {r:Nat→List Int} (hr:∀ q,(r q).length=3) {d:Nat→Nat} {c:Nat}:Aw E (seqB (seqB (seqB (seqB (Tryd.f68.body.getD .skip))))) ⟨111,[(0,.rd),(3,iv 3),(4,.xs 700 0 3 (c + 3) 1)],(700,vws 3 d 710 3++jN c)::bxs 3 d r 710 3,k + 1⟩ Q:=by
 refine Aw_st hE [0,3,4,6] [700,701,710,711,712,713,714,720,721,722,723,724] fun K hK=>?_
 simp only [go_sem,seval]
 refine ⟨by omega,fun x hx1 hx2=>?_⟩
 generalize decide (x=0)=bb
 refine hK _ ?_;clear hK K
 refine Aw_sqJ (fun i:(Nat→List Int) × Nat=>⟨111,[(0,.rd),(3,iv 3),(4,.xs 700 0 3 (c + 3) 1)],(700,vws 3 d 710 3++jN c)::bxs 3 d i.1 710 3,i.2⟩) (fun i=>(∀ x,(i.1 x).length=3)∧i.2≤k + 29) (fun i hi=>relsR3 hE hk hQ hi.1 hi.2) fun B1 hB1 hR1 hX1=>?_
 refine Aw_st hE [0,3,4,6,7] [700,701,710,711,712,713,714,720,721,722,723,724] fun K hK=>?_
 simp only [go_sem,seval]
 refine hK _ ?_;clear hK K
 refine Aw_bk fun B2 hN2 hE2 hR2 hX2=>?_
 refine Aw_lp (fun i:Nat × (Nat→List Int)=>⟨111,[(0,.rd),(3,iv 3),(4,.xs 700 0 3 (c + 3) 1),(6,bv bb),(7,iv (i.1:Int))],(700,vws 3 d 710 3++jN c)::bxs 3 d i.2 710 3,k + 2 + i.1 * (5 - i.1)⟩) (fun i=>i.1≤3∧∀ x,(i.2 x).length=3) (fun i=>3 - i.1) (0,r) (Le_wa) ⟨by omega,hr⟩ fun i hi B3 hN3 hR3 hX3=>?_
 obtain ⟨a,r⟩:=i
 obtain ⟨hi,hr⟩:=hi
 simp only at hi hr
 refine Aw_sq fun B4 hB4 hR4 hX4=>?_
 rcases (show a=3∨a=0∨a=1∨a=2 by omega) with rfl | rfl | rfl | rfl
 ·refine Aw_st hE [0,3,4,6,7,33] [700,701,710,711,712,713,714,720,721,722,723,724] fun K hK=>?_
  simp only [go_sem,seval]
  refine hK _ (Aw_no rfl (Aw_exit (hX4 _ _ (hX3 _ _ (hE2 _ (hB1 (r,k + 29) _ ⟨hr,by simp only;omega⟩ (LeE_of (Le_wa))))))))
 ·refine Aw_st hE [0,3,4,6,7,33] [700,701,710,711,712,713,714,720,721,722,723,724] fun K hK=>?_
  simp only [go_sem,seval]
  refine hK _ (Aw_yes rfl (Aw_skip (hB4 _ ?_)))
  refine Aw_sq fun B6 hB6 hR6 hX6=>?_
  refine Aw_bk fun B7 hN7 hE7 hR7 hX7=>?_
  refine Aw_st hE [0,3,4,6,7,8] [700,701,710,711,712,713,714,720,721,722,723,724] fun K hK=>?_
  simp only [go_sem,seval]
  refine hK _ ?_;clear hK K
  refine Aw_bk fun B8 hN8 hE8 hR8 hX8=>?_
  refine Aw_lp (fun i:Nat × (Nat→List Int)=>⟨111,[(0,.rd),(3,iv 3),(4,.xs 700 0 3 (c + 3) 1),(6,bv bb),(7,iv 0),(8,iv (i.1:Int))],(700,vws 3 d 710 3++jN c)::bxs 3 d i.2 710 3,k + 0 + 2 * i.1⟩) (fun i=>1≤i.1∧i.1≤3∧∀ x,(i.2 x).length=3) (fun i=>3 - i.1) (1,r) (Le_wa) ⟨by omega,by omega,hr⟩ fun i hi B9 hN9 hR9 hX9=>?_
  obtain ⟨b,r⟩:=i
  obtain ⟨hi1,hi2,hr⟩:=hi
  simp only at hi1 hi2 hr
  have hr0:=hr 0
  have hr1:=hr 1
  have hr2:=hr 2
  refine Aw_sq fun B10 hB10 hR10 hX10=>?_
  rcases (show b=3∨b=1∨b=2 by omega) with rfl | rfl | rfl
  ·refine Aw_st hE [0,3,4,6,7,8,40] [700,701,710,711,712,713,714,720,721,722,723,724] fun K hK=>?_
   simp only [go_sem,seval]
   refine hK _ (Aw_no rfl (Aw_exit (hX10 _ _ (hX9 _ _ (hE8 _ ?_)))))
   refine hN7 _ (hB6 _ ?_)
   refine Aw_tx hE [0,3,4,6,7] [700,701,710,711,712,713,714,720,721,722,723,724] fun K hK=>?_
   simp only [go_sem,seval]
   repeat refine sd0 ?_
   refine hK _ (hN3 (1,r) _ ⟨by omega,hr⟩ (by simp only;omega) (Le_wa))
  ·refine Aw_st hE [0,3,4,6,7,8,40] [700,701,710,711,712,713,714,720,721,722,723,724] fun K hK=>?_
   simp only [go_sem,seval]
   refine hK _ (Aw_yes rfl (Aw_skip (hB10 _ ?_)))
   refine Aw_sq fun B11 hB11 hR11 hX11=>?_
   refine Aw_bk fun B12 hN12 hE12 hR12 hX12=>?_
   refine Aw_st hE [0,3,4,6,7,8,9] [700,701,710,711,712,713,714,720,721,722,723,724] fun K hK=>?_
   refine aops_cut 3 fun K1 hK1=>?_
   simp only [go_sem,seval]
   repeat refine sd0 ?_
   intro x hx1 hx2
   obtain ⟨v,hv,hv1,hv2⟩:=pick4 x hx1 hx2
   refine hK1 _ ?_
   clear hK1
   simp only [go_sem,seval,hv]
   repeat refine sd0 ?_
   refine hK _ ?_;clear hK K
   refine Aw_sqJ (fun v:Int=>⟨111,[(0,.rd),(3,iv 3),(4,.xs 700 0 3 (c + 3) 1),(6,bv bb),(7,iv 0),(8,iv 1),(9,iv v)],(700,vws 3 d 710 3++jN c)::bxs 3 d r 710 3,k + 4⟩) (fun v=>0≤v∧v≤3) (fun v hv=>?_) fun B13 hB13 hR13 hX13=>?_
   ·have hs1:=cI_set (r 0) (d 0) 1 v (by omega)
    have hs2:=fun y=>cI_set (r 1) (d 1) 0 y (by omega)
    obtain ⟨hv1,hv2⟩:=hv
    refine Aw_st hE [0,3,4,6,7,8,9] [700,701,710,711,712,713,714,720,721,722,723,724] fun K hK=>?_
    simp only [go_sem,seval,hs1]
    refine ⟨by omega,?_⟩
    refine hK _ ?_;clear hK K
    refine Aw_td hE [0,3,4,6,7,8] [700,701,710,711,712,713,714,720,721,722,723,724] 6 (by kernel_rfl) fun K hK=>?_
    simp only [go_sem,seval,hs2,hv1,hv2]
    refine ⟨by omega,hK _ (hN12 _ (hB11 _ ?_))⟩
    refine Aw_tx hE [0,3,4,6,7,8] [700,701,710,711,712,713,714,720,721,722,723,724] fun K hK=>?_
    simp only [go_sem,seval]
    repeat refine sd0 ?_
    refine hK _ (hN9 (2,upd (upd r 0 1 v) 1 0 (mirr v)) _ ⟨by omega,by omega,upd_len (upd_len hr)⟩ (by simp only;omega) (Le_wc (by simp only [go_sem,seval,upd]) (by simp only [go_sem,seval,upd])))
   ·refine Aw_st hE [0,3,4,6,7,8,9,53] [700,701,710,711,712,713,714,720,721,722,723,724] fun K hK=>?_
    simp only [go_sem,seval]
    refine ⟨fun hg23=>⟨by omega,fun y hy1 hy2=>?_⟩,fun hg23=>?_⟩
    ·refine hK _ (Aw_cond rfl (fun hc24=>?_) (fun hc24=>?_))
     ·refine Aw_tx hE [0,3,4,6,7,8,9] [700,701,710,711,712,713,714,720,721,722,723,724] fun K hK=>?_
      simp only [go_sem,seval]
      exact hK _ (hB13 3 _ ⟨by decide,by decide⟩ (LeE_of (Le_wa)))
     ·exact Aw_skip (hB13 v _ ⟨hv1,hv2⟩ (LeE_of (Le_wa)))
    ·exact hK _ (Aw_no rfl (Aw_skip (hB13 v _ ⟨hv1,hv2⟩ (LeE_of (Le_wa)))))
  ·refine Aw_st hE [0,3,4,6,7,8,40] [700,701,710,711,712,713,714,720,721,722,723,724] fun K hK=>?_
   simp only [go_sem,seval]
   refine hK _ (Aw_yes rfl (Aw_skip (hB10 _ ?_)))
   refine Aw_sq fun B11 hB11 hR11 hX11=>?_
   refine Aw_bk fun B12 hN12 hE12 hR12 hX12=>?_
   refine Aw_st hE [0,3,4,6,7,8,9] [700,701,710,711,712,713,714,720,721,722,723,724] fun K hK=>?_
   refine aops_cut 3 fun K1 hK1=>?_
   simp only [go_sem,seval]
   repeat refine sd0 ?_
   intro x hx1 hx2
   obtain ⟨v,hv,hv1,hv2⟩:=pick4 x hx1 hx2
   refine hK1 _ ?_
   clear hK1
   simp only [go_sem,seval,hv]
   repeat refine sd0 ?_
   refine hK _ ?_;clear hK K
   refine Aw_sqJ (fun v:Int=>⟨111,[(0,.rd),(3,iv 3),(4,.xs 700 0 3 (c + 3) 1),(6,bv bb),(7,iv 0),(8,iv 2),(9,iv v)],(700,vws 3 d 710 3++jN c)::bxs 3 d r 710 3,k + 6⟩) (fun v=>0≤v∧v≤3) (fun v hv=>?_) fun B13 hB13 hR13 hX13=>?_
   ·have hs1:=cI_set (r 0) (d 0) 2 v (by omega)
    have hs2:=fun y=>cI_set (r 2) (d 2) 0 y (by omega)
    obtain ⟨hv1,hv2⟩:=hv
    refine Aw_st hE [0,3,4,6,7,8,9] [700,701,710,711,712,713,714,720,721,722,723,724] fun K hK=>?_
    simp only [go_sem,seval,hs1]
    refine ⟨by omega,?_⟩
    refine hK _ ?_;clear hK K
    refine Aw_td hE [0,3,4,6,7,8] [700,701,710,711,712,713,714,720,721,722,723,724] 6 (by kernel_rfl) fun K hK=>?_
    simp only [go_sem,seval,hs2,hv1,hv2]
    refine ⟨by omega,hK _ (hN12 _ (hB11 _ ?_))⟩
    refine Aw_tx hE [0,3,4,6,7,8] [700,701,710,711,712,713,714,720,721,722,723,724] fun K hK=>?_
    simp only [go_sem,seval]
    repeat refine sd0 ?_
    refine hK _ (hN9 (3,upd (upd r 0 2 v) 2 0 (mirr v)) _ ⟨by omega,by omega,upd_len (upd_len hr)⟩ (by simp only;omega) (Le_wc (by simp only [go_sem,seval,upd]) (by simp only [go_sem,seval,upd])))
   ·refine Aw_st hE [0,3,4,6,7,8,9,53] [700,701,710,711,712,713,714,720,721,722,723,724] fun K hK=>?_
    simp only [go_sem,seval]
    refine ⟨fun hg23=>⟨by omega,fun y hy1 hy2=>?_⟩,fun hg23=>?_⟩
    ·refine hK _ (Aw_cond rfl (fun hc24=>?_) (fun hc24=>?_))
     ·refine Aw_tx hE [0,3,4,6,7,8,9] [700,701,710,711,712,713,714,720,721,722,723,724] fun K hK=>?_
      simp only [go_sem,seval]
      exact hK _ (hB13 3 _ ⟨by decide,by decide⟩ (LeE_of (Le_wa)))
     ·exact Aw_skip (hB13 v _ ⟨hv1,hv2⟩ (LeE_of (Le_wa)))
    ·exact hK _ (Aw_no rfl (Aw_skip (hB13 v _ ⟨hv1,hv2⟩ (LeE_of (Le_wa)))))
 ·refine Aw_st hE [0,3,4,6,7,33] [700,701,710,711,712,713,714,720,721,722,723,724] fun K hK=>?_
  simp only [go_sem,seval]
  refine hK _ (Aw_yes rfl (Aw_skip (hB4 _ ?_)))
  refine Aw_sq fun B6 hB6 hR6 hX6=>?_
  refine Aw_bk fun B7 hN7 hE7 hR7 hX7=>?_
  refine Aw_st hE [0,3,4,6,7,8] [700,701,710,711,712,713,714,720,721,722,723,724] fun K hK=>?_
  simp only [go_sem,seval]
  refine hK _ ?_;clear hK K
  refine Aw_bk fun B8 hN8 hE8 hR8 hX8=>?_
  refine Aw_lp (fun i:Nat × (Nat→List Int)=>⟨111,[(0,.rd),(3,iv 3),(4,.xs 700 0 3 (c + 3) 1),(6,bv bb),(7,iv 1),(8,iv (i.1:Int))],(700,vws 3 d 710 3++jN c)::bxs 3 d i.2 710 3,k + 2 + 2 * i.1⟩) (fun i=>2≤i.1∧i.1≤3∧∀ x,(i.2 x).length=3) (fun i=>3 - i.1) (2,r) (Le_wa) ⟨by omega,by omega,hr⟩ fun i hi B9 hN9 hR9 hX9=>?_
  obtain ⟨b,r⟩:=i
  obtain ⟨hi1,hi2,hr⟩:=hi
  simp only at hi1 hi2 hr
  have hr0:=hr 0
  have hr1:=hr 1
  have hr2:=hr 2
  refine Aw_sq fun B10 hB10 hR10 hX10=>?_
  rcases (show b=3∨b=2 by omega) with rfl | rfl
  ·refine Aw_st hE [0,3,4,6,7,8,40] [700,701,710,711,712,713,714,720,721,722,723,724] fun K hK=>?_
   simp only [go_sem,seval]
   refine hK _ (Aw_no rfl (Aw_exit (hX10 _ _ (hX9 _ _ (hE8 _ ?_)))))
   refine hN7 _ (hB6 _ ?_)
   refine Aw_tx hE [0,3,4,6,7] [700,701,710,711,712,713,714,720,721,722,723,724] fun K hK=>?_
   simp only [go_sem,seval]
   repeat refine sd0 ?_
   refine hK _ (hN3 (2,r) _ ⟨by omega,hr⟩ (by simp only;omega) (Le_wa))
  ·refine Aw_st hE [0,3,4,6,7,8,40] [700,701,710,711,712,713,714,720,721,722,723,724] fun K hK=>?_
   simp only [go_sem,seval]
   refine hK _ (Aw_yes rfl (Aw_skip (hB10 _ ?_)))
   refine Aw_sq fun B11 hB11 hR11 hX11=>?_
   refine Aw_bk fun B12 hN12 hE12 hR12 hX12=>?_
   refine Aw_st hE [0,3,4,6,7,8,9] [700,701,710,711,712,713,714,720,721,722,723,724] fun K hK=>?_
   refine aops_cut 3 fun K1 hK1=>?_
   simp only [go_sem,seval]
   repeat refine sd0 ?_
   intro x hx1 hx2
   obtain ⟨v,hv,hv1,hv2⟩:=pick4 x hx1 hx2
   refine hK1 _ ?_
   clear hK1
   simp only [go_sem,seval,hv]
   repeat refine sd0 ?_
   refine hK _ ?_;clear hK K
   refine Aw_sqJ (fun v:Int=>⟨111,[(0,.rd),(3,iv 3),(4,.xs 700 0 3 (c + 3) 1),(6,bv bb),(7,iv 1),(8,iv 2),(9,iv v)],(700,vws 3 d 710 3++jN c)::bxs 3 d r 710 3,k + 8⟩) (fun v=>0≤v∧v≤3) (fun v hv=>?_) fun B13 hB13 hR13 hX13=>?_
   ·have hs1:=cI_set (r 1) (d 1) 2 v (by omega)
    have hs2:=fun y=>cI_set (r 2) (d 2) 1 y (by omega)
    obtain ⟨hv1,hv2⟩:=hv
    refine Aw_st hE [0,3,4,6,7,8,9] [700,701,710,711,712,713,714,720,721,722,723,724] fun K hK=>?_
    simp only [go_sem,seval,hs1]
    refine ⟨by omega,?_⟩
    refine hK _ ?_;clear hK K
    refine Aw_td hE [0,3,4,6,7,8] [700,701,710,711,712,713,714,720,721,722,723,724] 6 (by kernel_rfl) fun K hK=>?_
    simp only [go_sem,seval,hs2,hv1,hv2]
    refine ⟨by omega,hK _ (hN12 _ (hB11 _ ?_))⟩
    refine Aw_tx hE [0,3,4,6,7,8] [700,701,710,711,712,713,714,720,721,722,723,724] fun K hK=>?_
    simp only [go_sem,seval]
    repeat refine sd0 ?_
    refine hK _ (hN9 (3,upd (upd r 1 2 v) 2 1 (mirr v)) _ ⟨by omega,by omega,upd_len (upd_len hr)⟩ (by simp only;omega) (Le_wc (by simp only [go_sem,seval,upd]) (by simp only [go_sem,seval,upd])))
   ·refine Aw_st hE [0,3,4,6,7,8,9,53] [700,701,710,711,712,713,714,720,721,722,723,724] fun K hK=>?_
    simp only [go_sem,seval]
    refine ⟨fun hg23=>⟨by omega,fun y hy1 hy2=>?_⟩,fun hg23=>?_⟩
    ·refine hK _ (Aw_cond rfl (fun hc24=>?_) (fun hc24=>?_))
     ·refine Aw_tx hE [0,3,4,6,7,8,9] [700,701,710,711,712,713,714,720,721,722,723,724] fun K hK=>?_
      simp only [go_sem,seval]
      exact hK _ (hB13 3 _ ⟨by decide,by decide⟩ (LeE_of (Le_wa)))
     ·exact Aw_skip (hB13 v _ ⟨hv1,hv2⟩ (LeE_of (Le_wa)))
    ·exact hK _ (Aw_no rfl (Aw_skip (hB13 v _ ⟨hv1,hv2⟩ (LeE_of (Le_wa)))))
 ·refine Aw_st hE [0,3,4,6,7,33] [700,701,710,711,712,713,714,720,721,722,723,724] fun K hK=>?_
  simp only [go_sem,seval]
  refine hK _ (Aw_yes rfl (Aw_skip (hB4 _ ?_)))
  refine Aw_sq fun B6 hB6 hR6 hX6=>?_
  refine Aw_bk fun B7 hN7 hE7 hR7 hX7=>?_
  refine Aw_st hE [0,3,4,6,7,8] [700,701,710,711,712,713,714,720,721,722,723,724] fun K hK=>?_
  simp only [go_sem,seval]
  refine hK _ ?_;clear hK K
  refine Aw_bk fun B8 hN8 hE8 hR8 hX8=>?_
  refine Aw_lp (fun i:Nat × (Nat→List Int)=>⟨111,[(0,.rd),(3,iv 3),(4,.xs 700 0 3 (c + 3) 1),(6,bv bb),(7,iv 2),(8,iv (i.1:Int))],(700,vws 3 d 710 3++jN c)::bxs 3 d i.2 710 3,k + 2 + 2 * i.1⟩) (fun i=>3≤i.1∧i.1≤3∧∀ x,(i.2 x).length=3) (fun i=>3 - i.1) (3,r) (Le_wa) ⟨by omega,by omega,hr⟩ fun i hi B9 hN9 hR9 hX9=>?_
  obtain ⟨b,r⟩:=i
  obtain ⟨hi1,hi2,hr⟩:=hi
  simp only at hi1 hi2 hr
  have hr0:=hr 0
  have hr1:=hr 1
  have hr2:=hr 2
  refine Aw_sq fun B10 hB10 hR10 hX10=>?_
  obtain rfl:b=3:=by omega
  ·refine Aw_st hE [0,3,4,6,7,8,40] [700,701,710,711,712,713,714,720,721,722,723,724] fun K hK=>?_
   simp only [go_sem,seval]
   refine hK _ (Aw_no rfl (Aw_exit (hX10 _ _ (hX9 _ _ (hE8 _ ?_)))))
   refine hN7 _ (hB6 _ ?_)
   refine Aw_tx hE [0,3,4,6,7] [700,701,710,711,712,713,714,720,721,722,723,724] fun K hK=>?_
   simp only [go_sem,seval]
   repeat refine sd0 ?_
   refine hK _ (hN3 (3,r) _ ⟨by omega,hr⟩ (by simp only;omega) (Le_wa))
set_option maxHeartbeats 16000000 in
theorem relsB4 {E:En} (hE:TbOk E tbRels) {k:Nat} (hk:k + 40≤1099511627776) {Q:Exit→St→Prop} (hQ:∀ (L:List (List Int)) (rn:Nat),(2≤L.length∧L.length≤5)→(∀ w ∈ L,w.length=L.length)→rn≤k + 40→Aw E .ret ⟨111,[(2,wsl L)],[],rn⟩ Q) {r:Nat→List Int} (hr:∀ q,(r q).length=4) {d:Nat→Nat} {c:Nat}:Aw E (seqB (seqB (seqB (seqB (Tryd.f68.body.getD .skip))))) ⟨111,[(0,.rd),(3,iv 4),(4,.xs 700 0 4 (c + 4) 1)],(700,vws 4 d 710 4++jN c)::bxs 4 d r 710 4,k + 1⟩ Q:=by
 refine Aw_st hE [0,3,4,6] [700,701,710,711,712,713,714,720,721,722,723,724] fun K hK=>?_
 simp only [go_sem,seval]
 refine ⟨by omega,fun x hx1 hx2=>?_⟩
 generalize decide (x=0)=bb
 refine hK _ ?_;clear hK K
 refine Aw_sqJ (fun i:(Nat→List Int) × Nat=>⟨111,[(0,.rd),(3,iv 4),(4,.xs 700 0 4 (c + 4) 1)],(700,vws 4 d 710 4++jN c)::bxs 4 d i.1 710 4,i.2⟩) (fun i=>(∀ x,(i.1 x).length=4)∧i.2≤k + 29) (fun i hi=>relsR4 hE hk hQ hi.1 hi.2) fun B1 hB1 hR1 hX1=>?_
 refine Aw_st hE [0,3,4,6,7] [700,701,710,711,712,713,714,720,721,722,723,724] fun K hK=>?_
 simp only [go_sem,seval]
 refine hK _ ?_;clear hK K
 refine Aw_bk fun B2 hN2 hE2 hR2 hX2=>?_
 refine Aw_lp (fun i:Nat × (Nat→List Int)=>⟨111,[(0,.rd),(3,iv 4),(4,.xs 700 0 4 (c + 4) 1),(6,bv bb),(7,iv (i.1:Int))],(700,vws 4 d 710 4++jN c)::bxs 4 d i.2 710 4,k + 2 + i.1 * (7 - i.1)⟩) (fun i=>i.1≤4∧∀ x,(i.2 x).length=4) (fun i=>4 - i.1) (0,r) (Le_wa) ⟨by omega,hr⟩ fun i hi B3 hN3 hR3 hX3=>?_
 obtain ⟨a,r⟩:=i
 obtain ⟨hi,hr⟩:=hi
 simp only at hi hr
 refine Aw_sq fun B4 hB4 hR4 hX4=>?_
 rcases (show a=4∨a=0∨a=1∨a=2∨a=3 by omega) with rfl | rfl | rfl | rfl | rfl
 ·refine Aw_st hE [0,3,4,6,7,33] [700,701,710,711,712,713,714,720,721,722,723,724] fun K hK=>?_
  simp only [go_sem,seval]
  refine hK _ (Aw_no rfl (Aw_exit (hX4 _ _ (hX3 _ _ (hE2 _ (hB1 (r,k + 29) _ ⟨hr,by simp only;omega⟩ (LeE_of (Le_wa))))))))
 ·refine Aw_st hE [0,3,4,6,7,33] [700,701,710,711,712,713,714,720,721,722,723,724] fun K hK=>?_
  simp only [go_sem,seval]
  refine hK _ (Aw_yes rfl (Aw_skip (hB4 _ ?_)))
  refine Aw_sq fun B6 hB6 hR6 hX6=>?_
  refine Aw_bk fun B7 hN7 hE7 hR7 hX7=>?_
  refine Aw_st hE [0,3,4,6,7,8] [700,701,710,711,712,713,714,720,721,722,723,724] fun K hK=>?_
  simp only [go_sem,seval]
  refine hK _ ?_;clear hK K
  refine Aw_bk fun B8 hN8 hE8 hR8 hX8=>?_
  refine Aw_lp (fun i:Nat × (Nat→List Int)=>⟨111,[(0,.rd),(3,iv 4),(4,.xs 700 0 4 (c + 4) 1),(6,bv bb),(7,iv 0),(8,iv (i.1:Int))],(700,vws 4 d 710 4++jN c)::bxs 4 d i.2 710 4,k + 0 + 2 * i.1⟩) (fun i=>1≤i.1∧i.1≤4∧∀ x,(i.2 x).length=4) (fun i=>4 - i.1) (1,r) (Le_wa) ⟨by omega,by omega,hr⟩ fun i hi B9 hN9 hR9 hX9=>?_
  obtain ⟨b,r⟩:=i
  obtain ⟨hi1,hi2,hr⟩:=hi
  simp only at hi1 hi2 hr
  have hr0:=hr 0
  have hr1:=hr 1
  have hr2:=hr 2
  have hr3:=hr 3
  refine Aw_sq fun B10 hB10 hR10 hX10=>?_
  rcases (show b=4∨b=1∨b=2∨b=3 by omega) with rfl | rfl | rfl | rfl
  ·refine Aw_st hE [0,3,4,6,7,8,40] [700,701,710,711,712,713,714,720,721,722,723,724] fun K hK=>?_
   simp only [go_sem,seval]
   refine hK _ (Aw_no rfl (Aw_exit (hX10 _ _ (hX9 _ _ (hE8 _ ?_)))))
   refine hN7 _ (hB6 _ ?_)
   refine Aw_tx hE [0,3,4,6,7] [700,701,710,711,712,713,714,720,721,722,723,724] fun K hK=>?_
   simp only [go_sem,seval]
   repeat refine sd0 ?_
   refine hK _ (hN3 (1,r) _ ⟨by omega,hr⟩ (by simp only;omega) (Le_wa))
  ·refine Aw_st hE [0,3,4,6,7,8,40] [700,701,710,711,712,713,714,720,721,722,723,724] fun K hK=>?_
   simp only [go_sem,seval]
   refine hK _ (Aw_yes rfl (Aw_skip (hB10 _ ?_)))
   refine Aw_sq fun B11 hB11 hR11 hX11=>?_
   refine Aw_bk fun B12 hN12 hE12 hR12 hX12=>?_
   refine Aw_st hE [0,3,4,6,7,8,9] [700,701,710,711,712,713,714,720,721,722,723,724] fun K hK=>?_
   refine aops_cut 3 fun K1 hK1=>?_
   simp only [go_sem,seval]
   repeat refine sd0 ?_
   intro x hx1 hx2
   obtain ⟨v,hv,hv1,hv2⟩:=pick4 x hx1 hx2
   refine hK1 _ ?_
   clear hK1
   simp only [go_sem,seval,hv]
   repeat refine sd0 ?_
   refine hK _ ?_;clear hK K
   refine Aw_sqJ (fun v:Int=>⟨111,[(0,.rd),(3,iv 4),(4,.xs 700 0 4 (c + 4) 1),(6,bv bb),(7,iv 0),(8,iv 1),(9,iv v)],(700,vws 4 d 710 4++jN c)::bxs 4 d r 710 4,k + 4⟩) (fun v=>0≤v∧v≤3) (fun v hv=>?_) fun B13 hB13 hR13 hX13=>?_
   ·have hs1:=cI_set (r 0) (d 0) 1 v (by omega)
    have hs2:=fun y=>cI_set (r 1) (d 1) 0 y (by omega)
    obtain ⟨hv1,hv2⟩:=hv
    refine Aw_st hE [0,3,4,6,7,8,9] [700,701,710,711,712,713,714,720,721,722,723,724] fun K hK=>?_
    simp only [go_sem,seval,hs1]
    refine ⟨by omega,?_⟩
    refine hK _ ?_;clear hK K
    refine Aw_td hE [0,3,4,6,7,8] [700,701,710,711,712,713,714,720,721,722,723,724] 6 (by kernel_rfl) fun K hK=>?_
    simp only [go_sem,seval,hs2,hv1,hv2]
    refine ⟨by omega,hK _ (hN12 _ (hB11 _ ?_))⟩
    refine Aw_tx hE [0,3,4,6,7,8] [700,701,710,711,712,713,714,720,721,722,723,724] fun K hK=>?_
    simp only [go_sem,seval]
    repeat refine sd0 ?_
    refine hK _ (hN9 (2,upd (upd r 0 1 v) 1 0 (mirr v)) _ ⟨by omega,by omega,upd_len (upd_len hr)⟩ (by simp only;omega) (Le_wc (by simp only [go_sem,seval,upd]) (by simp only [go_sem,seval,upd])))
   ·refine Aw_st hE [0,3,4,6,7,8,9,53] [700,701,710,711,712,713,714,720,721,722,723,724] fun K hK=>?_
    simp only [go_sem,seval]
    refine ⟨fun hg23=>⟨by omega,fun y hy1 hy2=>?_⟩,fun hg23=>?_⟩
    ·refine hK _ (Aw_cond rfl (fun hc24=>?_) (fun hc24=>?_))
     ·refine Aw_tx hE [0,3,4,6,7,8,9] [700,701,710,711,712,713,714,720,721,722,723,724] fun K hK=>?_
      simp only [go_sem,seval]
      exact hK _ (hB13 3 _ ⟨by decide,by decide⟩ (LeE_of (Le_wa)))
     ·exact Aw_skip (hB13 v _ ⟨hv1,hv2⟩ (LeE_of (Le_wa)))
    ·exact hK _ (Aw_no rfl (Aw_skip (hB13 v _ ⟨hv1,hv2⟩ (LeE_of (Le_wa)))))
  ·refine Aw_st hE [0,3,4,6,7,8,40] [700,701,710,711,712,713,714,720,721,722,723,724] fun K hK=>?_
   simp only [go_sem,seval]
   refine hK _ (Aw_yes rfl (Aw_skip (hB10 _ ?_)))
   refine Aw_sq fun B11 hB11 hR11 hX11=>?_
   refine Aw_bk fun B12 hN12 hE12 hR12 hX12=>?_
   refine Aw_st hE [0,3,4,6,7,8,9] [700,701,710,711,712,713,714,720,721,722,723,724] fun K hK=>?_
   refine aops_cut 3 fun K1 hK1=>?_
   simp only [go_sem,seval]
   repeat refine sd0 ?_
   intro x hx1 hx2
   obtain ⟨v,hv,hv1,hv2⟩:=pick4 x hx1 hx2
   refine hK1 _ ?_
   clear hK1
   simp only [go_sem,seval,hv]
   repeat refine sd0 ?_
   refine hK _ ?_;clear hK K
   refine Aw_sqJ (fun v:Int=>⟨111,[(0,.rd),(3,iv 4),(4,.xs 700 0 4 (c + 4) 1),(6,bv bb),(7,iv 0),(8,iv 2),(9,iv v)],(700,vws 4 d 710 4++jN c)::bxs 4 d r 710 4,k + 6⟩) (fun v=>0≤v∧v≤3) (fun v hv=>?_) fun B13 hB13 hR13 hX13=>?_
   ·have hs1:=cI_set (r 0) (d 0) 2 v (by omega)
    have hs2:=fun y=>cI_set (r 2) (d 2) 0 y (by omega)
    obtain ⟨hv1,hv2⟩:=hv
    refine Aw_st hE [0,3,4,6,7,8,9] [700,701,710,711,712,713,714,720,721,722,723,724] fun K hK=>?_
    simp only [go_sem,seval,hs1]
    refine ⟨by omega,?_⟩
    refine hK _ ?_;clear hK K
    refine Aw_td hE [0,3,4,6,7,8] [700,701,710,711,712,713,714,720,721,722,723,724] 6 (by kernel_rfl) fun K hK=>?_
    simp only [go_sem,seval,hs2,hv1,hv2]
    refine ⟨by omega,hK _ (hN12 _ (hB11 _ ?_))⟩
    refine Aw_tx hE [0,3,4,6,7,8] [700,701,710,711,712,713,714,720,721,722,723,724] fun K hK=>?_
    simp only [go_sem,seval]
    repeat refine sd0 ?_
    refine hK _ (hN9 (3,upd (upd r 0 2 v) 2 0 (mirr v)) _ ⟨by omega,by omega,upd_len (upd_len hr)⟩ (by simp only;omega) (Le_wc (by simp only [go_sem,seval,upd]) (by simp only [go_sem,seval,upd])))
   ·refine Aw_st hE [0,3,4,6,7,8,9,53] [700,701,710,711,712,713,714,720,721,722,723,724] fun K hK=>?_
    simp only [go_sem,seval]
    refine ⟨fun hg23=>⟨by omega,fun y hy1 hy2=>?_⟩,fun hg23=>?_⟩
    ·refine hK _ (Aw_cond rfl (fun hc24=>?_) (fun hc24=>?_))
     ·refine Aw_tx hE [0,3,4,6,7,8,9] [700,701,710,711,712,713,714,720,721,722,723,724] fun K hK=>?_
      simp only [go_sem,seval]
      exact hK _ (hB13 3 _ ⟨by decide,by decide⟩ (LeE_of (Le_wa)))
     ·exact Aw_skip (hB13 v _ ⟨hv1,hv2⟩ (LeE_of (Le_wa)))
    ·exact hK _ (Aw_no rfl (Aw_skip (hB13 v _ ⟨hv1,hv2⟩ (LeE_of (Le_wa)))))
  ·refine Aw_st hE [0,3,4,6,7,8,40] [700,701,710,711,712,713,714,720,721,722,723,724] fun K hK=>?_
   simp only [go_sem,seval]
   refine hK _ (Aw_yes rfl (Aw_skip (hB10 _ ?_)))
   refine Aw_sq fun B11 hB11 hR11 hX11=>?_
   refine Aw_bk fun B12 hN12 hE12 hR12 hX12=>?_
   refine Aw_st hE [0,3,4,6,7,8,9] [700,701,710,711,712,713,714,720,721,722,723,724] fun K hK=>?_
   refine aops_cut 3 fun K1 hK1=>?_
   simp only [go_sem,seval]
   repeat refine sd0 ?_
   intro x hx1 hx2
   obtain ⟨v,hv,hv1,hv2⟩:=pick4 x hx1 hx2
   refine hK1 _ ?_
   clear hK1
   simp only [go_sem,seval,hv]
   repeat refine sd0 ?_
   refine hK _ ?_;clear hK K
   refine Aw_sqJ (fun v:Int=>⟨111,[(0,.rd),(3,iv 4),(4,.xs 700 0 4 (c + 4) 1),(6,bv bb),(7,iv 0),(8,iv 3),(9,iv v)],(700,vws 4 d 710 4++jN c)::bxs 4 d r 710 4,k + 8⟩) (fun v=>0≤v∧v≤3) (fun v hv=>?_) fun B13 hB13 hR13 hX13=>?_
   ·have hs1:=cI_set (r 0) (d 0) 3 v (by omega)
    have hs2:=fun y=>cI_set (r 3) (d 3) 0 y (by omega)
    obtain ⟨hv1,hv2⟩:=hv
    refine Aw_st hE [0,3,4,6,7,8,9] [700,701,710,711,712,713,714,720,721,722,723,724] fun K hK=>?_
    simp only [go_sem,seval,hs1]
    refine ⟨by omega,?_⟩
    refine hK _ ?_;clear hK K
    refine Aw_td hE [0,3,4,6,7,8] [700,701,710,711,712,713,714,720,721,722,723,724] 6 (by kernel_rfl) fun K hK=>?_
    simp only [go_sem,seval,hs2,hv1,hv2]
    refine ⟨by omega,hK _ (hN12 _ (hB11 _ ?_))⟩
    refine Aw_tx hE [0,3,4,6,7,8] [700,701,710,711,712,713,714,720,721,722,723,724] fun K hK=>?_
    simp only [go_sem,seval]
    repeat refine sd0 ?_
    refine hK _ (hN9 (4,upd (upd r 0 3 v) 3 0 (mirr v)) _ ⟨by omega,by omega,upd_len (upd_len hr)⟩ (by simp only;omega) (Le_wc (by simp only [go_sem,seval,upd]) (by simp only [go_sem,seval,upd])))
   ·refine Aw_st hE [0,3,4,6,7,8,9,53] [700,701,710,711,712,713,714,720,721,722,723,724] fun K hK=>?_
    simp only [go_sem,seval]
    refine ⟨fun hg23=>⟨by omega,fun y hy1 hy2=>?_⟩,fun hg23=>?_⟩
    ·refine hK _ (Aw_cond rfl (fun hc24=>?_) (fun hc24=>?_))
     ·refine Aw_tx hE [0,3,4,6,7,8,9] [700,701,710,711,712,713,714,720,721,722,723,724] fun K hK=>?_
      simp only [go_sem,seval]
      exact hK _ (hB13 3 _ ⟨by decide,by decide⟩ (LeE_of (Le_wa)))
     ·exact Aw_skip (hB13 v _ ⟨hv1,hv2⟩ (LeE_of (Le_wa)))
    ·exact hK _ (Aw_no rfl (Aw_skip (hB13 v _ ⟨hv1,hv2⟩ (LeE_of (Le_wa)))))
 ·refine Aw_st hE [0,3,4,6,7,33] [700,701,710,711,712,713,714,720,721,722,723,724] fun K hK=>?_
  simp only [go_sem,seval]
  refine hK _ (Aw_yes rfl (Aw_skip (hB4 _ ?_)))
  refine Aw_sq fun B6 hB6 hR6 hX6=>?_
  refine Aw_bk fun B7 hN7 hE7 hR7 hX7=>?_
  refine Aw_st hE [0,3,4,6,7,8] [700,701,710,711,712,713,714,720,721,722,723,724] fun K hK=>?_
  simp only [go_sem,seval]
  refine hK _ ?_;clear hK K
  refine Aw_bk fun B8 hN8 hE8 hR8 hX8=>?_
  refine Aw_lp (fun i:Nat × (Nat→List Int)=>⟨111,[(0,.rd),(3,iv 4),(4,.xs 700 0 4 (c + 4) 1),(6,bv bb),(7,iv 1),(8,iv (i.1:Int))],(700,vws 4 d 710 4++jN c)::bxs 4 d i.2 710 4,k + 4 + 2 * i.1⟩) (fun i=>2≤i.1∧i.1≤4∧∀ x,(i.2 x).length=4) (fun i=>4 - i.1) (2,r) (Le_wa) ⟨by omega,by omega,hr⟩ fun i hi B9 hN9 hR9 hX9=>?_
  obtain ⟨b,r⟩:=i
  obtain ⟨hi1,hi2,hr⟩:=hi
  simp only at hi1 hi2 hr
  have hr0:=hr 0
  have hr1:=hr 1
  have hr2:=hr 2
  have hr3:=hr 3
  refine Aw_sq fun B10 hB10 hR10 hX10=>?_
  rcases (show b=4∨b=2∨b=3 by omega) with rfl | rfl | rfl
  ·refine Aw_st hE [0,3,4,6,7,8,40] [700,701,710,711,712,713,714,720,721,722,723,724] fun K hK=>?_
   simp only [go_sem,seval]
   refine hK _ (Aw_no rfl (Aw_exit (hX10 _ _ (hX9 _ _ (hE8 _ ?_)))))
   refine hN7 _ (hB6 _ ?_)
   refine Aw_tx hE [0,3,4,6,7] [700,701,710,711,712,713,714,720,721,722,723,724] fun K hK=>?_
   simp only [go_sem,seval]
   repeat refine sd0 ?_
   refine hK _ (hN3 (2,r) _ ⟨by omega,hr⟩ (by simp only;omega) (Le_wa))
  ·refine Aw_st hE [0,3,4,6,7,8,40] [700,701,710,711,712,713,714,720,721,722,723,724] fun K hK=>?_
   simp only [go_sem,seval]
   refine hK _ (Aw_yes rfl (Aw_skip (hB10 _ ?_)))
   refine Aw_sq fun B11 hB11 hR11 hX11=>?_
   refine Aw_bk fun B12 hN12 hE12 hR12 hX12=>?_
   refine Aw_st hE [0,3,4,6,7,8,9] [700,701,710,711,712,713,714,720,721,722,723,724] fun K hK=>?_
   refine aops_cut 3 fun K1 hK1=>?_
   simp only [go_sem,seval]
   repeat refine sd0 ?_
   intro x hx1 hx2
   obtain ⟨v,hv,hv1,hv2⟩:=pick4 x hx1 hx2
   refine hK1 _ ?_
   clear hK1
   simp only [go_sem,seval,hv]
   repeat refine sd0 ?_
   refine hK _ ?_;clear hK K
   refine Aw_sqJ (fun v:Int=>⟨111,[(0,.rd),(3,iv 4),(4,.xs 700 0 4 (c + 4) 1),(6,bv bb),(7,iv 1),(8,iv 2),(9,iv v)],(700,vws 4 d 710 4++jN c)::bxs 4 d r 710 4,k + 10⟩) (fun v=>0≤v∧v≤3) (fun v hv=>?_) fun B13 hB13 hR13 hX13=>?_
   ·have hs1:=cI_set (r 1) (d 1) 2 v (by omega)
    have hs2:=fun y=>cI_set (r 2) (d 2) 1 y (by omega)
    obtain ⟨hv1,hv2⟩:=hv
    refine Aw_st hE [0,3,4,6,7,8,9] [700,701,710,711,712,713,714,720,721,722,723,724] fun K hK=>?_
    simp only [go_sem,seval,hs1]
    refine ⟨by omega,?_⟩
    refine hK _ ?_;clear hK K
    refine Aw_td hE [0,3,4,6,7,8] [700,701,710,711,712,713,714,720,721,722,723,724] 6 (by kernel_rfl) fun K hK=>?_
    simp only [go_sem,seval,hs2,hv1,hv2]
    refine ⟨by omega,hK _ (hN12 _ (hB11 _ ?_))⟩
    refine Aw_tx hE [0,3,4,6,7,8] [700,701,710,711,712,713,714,720,721,722,723,724] fun K hK=>?_
    simp only [go_sem,seval]
    repeat refine sd0 ?_
    refine hK _ (hN9 (3,upd (upd r 1 2 v) 2 1 (mirr v)) _ ⟨by omega,by omega,upd_len (upd_len hr)⟩ (by simp only;omega) (Le_wc (by simp only [go_sem,seval,upd]) (by simp only [go_sem,seval,upd])))
   ·refine Aw_st hE [0,3,4,6,7,8,9,53] [700,701,710,711,712,713,714,720,721,722,723,724] fun K hK=>?_
    simp only [go_sem,seval]
    refine ⟨fun hg23=>⟨by omega,fun y hy1 hy2=>?_⟩,fun hg23=>?_⟩
    ·refine hK _ (Aw_cond rfl (fun hc24=>?_) (fun hc24=>?_))
     ·refine Aw_tx hE [0,3,4,6,7,8,9] [700,701,710,711,712,713,714,720,721,722,723,724] fun K hK=>?_
      simp only [go_sem,seval]
      exact hK _ (hB13 3 _ ⟨by decide,by decide⟩ (LeE_of (Le_wa)))
     ·exact Aw_skip (hB13 v _ ⟨hv1,hv2⟩ (LeE_of (Le_wa)))
    ·exact hK _ (Aw_no rfl (Aw_skip (hB13 v _ ⟨hv1,hv2⟩ (LeE_of (Le_wa)))))
  ·refine Aw_st hE [0,3,4,6,7,8,40] [700,701,710,711,712,713,714,720,721,722,723,724] fun K hK=>?_
   simp only [go_sem,seval]
   refine hK _ (Aw_yes rfl (Aw_skip (hB10 _ ?_)))
   refine Aw_sq fun B11 hB11 hR11 hX11=>?_
   refine Aw_bk fun B12 hN12 hE12 hR12 hX12=>?_
   refine Aw_st hE [0,3,4,6,7,8,9] [700,701,710,711,712,713,714,720,721,722,723,724] fun K hK=>?_
   refine aops_cut 3 fun K1 hK1=>?_
   simp only [go_sem,seval]
   repeat refine sd0 ?_
   intro x hx1 hx2
   obtain ⟨v,hv,hv1,hv2⟩:=pick4 x hx1 hx2
   refine hK1 _ ?_
   clear hK1
   simp only [go_sem,seval,hv]
   repeat refine sd0 ?_
   refine hK _ ?_;clear hK K
   refine Aw_sqJ (fun v:Int=>⟨111,[(0,.rd),(3,iv 4),(4,.xs 700 0 4 (c + 4) 1),(6,bv bb),(7,iv 1),(8,iv 3),(9,iv v)],(700,vws 4 d 710 4++jN c)::bxs 4 d r 710 4,k + 12⟩) (fun v=>0≤v∧v≤3) (fun v hv=>?_) fun B13 hB13 hR13 hX13=>?_
   ·have hs1:=cI_set (r 1) (d 1) 3 v (by omega)
    have hs2:=fun y=>cI_set (r 3) (d 3) 1 y (by omega)
    obtain ⟨hv1,hv2⟩:=hv
    refine Aw_st hE [0,3,4,6,7,8,9] [700,701,710,711,712,713,714,720,721,722,723,724] fun K hK=>?_
    simp only [go_sem,seval,hs1]
    refine ⟨by omega,?_⟩
    refine hK _ ?_;clear hK K
    refine Aw_td hE [0,3,4,6,7,8] [700,701,710,711,712,713,714,720,721,722,723,724] 6 (by kernel_rfl) fun K hK=>?_
    simp only [go_sem,seval,hs2,hv1,hv2]
    refine ⟨by omega,hK _ (hN12 _ (hB11 _ ?_))⟩
    refine Aw_tx hE [0,3,4,6,7,8] [700,701,710,711,712,713,714,720,721,722,723,724] fun K hK=>?_
    simp only [go_sem,seval]
    repeat refine sd0 ?_
    refine hK _ (hN9 (4,upd (upd r 1 3 v) 3 1 (mirr v)) _ ⟨by omega,by omega,upd_len (upd_len hr)⟩ (by simp only;omega) (Le_wc (by simp only [go_sem,seval,upd]) (by simp only [go_sem,seval,upd])))
   ·refine Aw_st hE [0,3,4,6,7,8,9,53] [700,701,710,711,712,713,714,720,721,722,723,724] fun K hK=>?_
    simp only [go_sem,seval]
    refine ⟨fun hg23=>⟨by omega,fun y hy1 hy2=>?_⟩,fun hg23=>?_⟩
    ·refine hK _ (Aw_cond rfl (fun hc24=>?_) (fun hc24=>?_))
     ·refine Aw_tx hE [0,3,4,6,7,8,9] [700,701,710,711,712,713,714,720,721,722,723,724] fun K hK=>?_
      simp only [go_sem,seval]
      exact hK _ (hB13 3 _ ⟨by decide,by decide⟩ (LeE_of (Le_wa)))
     ·exact Aw_skip (hB13 v _ ⟨hv1,hv2⟩ (LeE_of (Le_wa)))
    ·exact hK _ (Aw_no rfl (Aw_skip (hB13 v _ ⟨hv1,hv2⟩ (LeE_of (Le_wa)))))
 ·refine Aw_st hE [0,3,4,6,7,33] [700,701,710,711,712,713,714,720,721,722,723,724] fun K hK=>?_
  simp only [go_sem,seval]
  refine hK _ (Aw_yes rfl (Aw_skip (hB4 _ ?_)))
  refine Aw_sq fun B6 hB6 hR6 hX6=>?_
  refine Aw_bk fun B7 hN7 hE7 hR7 hX7=>?_
  refine Aw_st hE [0,3,4,6,7,8] [700,701,710,711,712,713,714,720,721,722,723,724] fun K hK=>?_
  simp only [go_sem,seval]
  refine hK _ ?_;clear hK K
  refine Aw_bk fun B8 hN8 hE8 hR8 hX8=>?_
  refine Aw_lp (fun i:Nat × (Nat→List Int)=>⟨111,[(0,.rd),(3,iv 4),(4,.xs 700 0 4 (c + 4) 1),(6,bv bb),(7,iv 2),(8,iv (i.1:Int))],(700,vws 4 d 710 4++jN c)::bxs 4 d i.2 710 4,k + 6 + 2 * i.1⟩) (fun i=>3≤i.1∧i.1≤4∧∀ x,(i.2 x).length=4) (fun i=>4 - i.1) (3,r) (Le_wa) ⟨by omega,by omega,hr⟩ fun i hi B9 hN9 hR9 hX9=>?_
  obtain ⟨b,r⟩:=i
  obtain ⟨hi1,hi2,hr⟩:=hi
  simp only at hi1 hi2 hr
  have hr0:=hr 0
  have hr1:=hr 1
  have hr2:=hr 2
  have hr3:=hr 3
  refine Aw_sq fun B10 hB10 hR10 hX10=>?_
  rcases (show b=4∨b=3 by omega) with rfl | rfl
  ·refine Aw_st hE [0,3,4,6,7,8,40] [700,701,710,711,712,713,714,720,721,722,723,724] fun K hK=>?_
   simp only [go_sem,seval]
   refine hK _ (Aw_no rfl (Aw_exit (hX10 _ _ (hX9 _ _ (hE8 _ ?_)))))
   refine hN7 _ (hB6 _ ?_)
   refine Aw_tx hE [0,3,4,6,7] [700,701,710,711,712,713,714,720,721,722,723,724] fun K hK=>?_
   simp only [go_sem,seval]
   repeat refine sd0 ?_
   refine hK _ (hN3 (3,r) _ ⟨by omega,hr⟩ (by simp only;omega) (Le_wa))
  ·refine Aw_st hE [0,3,4,6,7,8,40] [700,701,710,711,712,713,714,720,721,722,723,724] fun K hK=>?_
   simp only [go_sem,seval]
   refine hK _ (Aw_yes rfl (Aw_skip (hB10 _ ?_)))
   refine Aw_sq fun B11 hB11 hR11 hX11=>?_
   refine Aw_bk fun B12 hN12 hE12 hR12 hX12=>?_
   refine Aw_st hE [0,3,4,6,7,8,9] [700,701,710,711,712,713,714,720,721,722,723,724] fun K hK=>?_
   refine aops_cut 3 fun K1 hK1=>?_
   simp only [go_sem,seval]
   repeat refine sd0 ?_
   intro x hx1 hx2
   obtain ⟨v,hv,hv1,hv2⟩:=pick4 x hx1 hx2
   refine hK1 _ ?_
   clear hK1
   simp only [go_sem,seval,hv]
   repeat refine sd0 ?_
   refine hK _ ?_;clear hK K
   refine Aw_sqJ (fun v:Int=>⟨111,[(0,.rd),(3,iv 4),(4,.xs 700 0 4 (c + 4) 1),(6,bv bb),(7,iv 2),(8,iv 3),(9,iv v)],(700,vws 4 d 710 4++jN c)::bxs 4 d r 710 4,k + 14⟩) (fun v=>0≤v∧v≤3) (fun v hv=>?_) fun B13 hB13 hR13 hX13=>?_
   ·have hs1:=cI_set (r 2) (d 2) 3 v (by omega)
    have hs2:=fun y=>cI_set (r 3) (d 3) 2 y (by omega)
    obtain ⟨hv1,hv2⟩:=hv
    refine Aw_st hE [0,3,4,6,7,8,9] [700,701,710,711,712,713,714,720,721,722,723,724] fun K hK=>?_
    simp only [go_sem,seval,hs1]
    refine ⟨by omega,?_⟩
    refine hK _ ?_;clear hK K
    refine Aw_td hE [0,3,4,6,7,8] [700,701,710,711,712,713,714,720,721,722,723,724] 6 (by kernel_rfl) fun K hK=>?_
    simp only [go_sem,seval,hs2,hv1,hv2]
    refine ⟨by omega,hK _ (hN12 _ (hB11 _ ?_))⟩
    refine Aw_tx hE [0,3,4,6,7,8] [700,701,710,711,712,713,714,720,721,722,723,724] fun K hK=>?_
    simp only [go_sem,seval]
    repeat refine sd0 ?_
    refine hK _ (hN9 (4,upd (upd r 2 3 v) 3 2 (mirr v)) _ ⟨by omega,by omega,upd_len (upd_len hr)⟩ (by simp only;omega) (Le_wc (by simp only [go_sem,seval,upd]) (by simp only [go_sem,seval,upd])))
   ·refine Aw_st hE [0,3,4,6,7,8,9,53] [700,701,710,711,712,713,714,720,721,722,723,724] fun K hK=>?_
    simp only [go_sem,seval]
    refine ⟨fun hg23=>⟨by omega,fun y hy1 hy2=>?_⟩,fun hg23=>?_⟩
    ·refine hK _ (Aw_cond rfl (fun hc24=>?_) (fun hc24=>?_))
     ·refine Aw_tx hE [0,3,4,6,7,8,9] [700,701,710,711,712,713,714,720,721,722,723,724] fun K hK=>?_
      simp only [go_sem,seval]
      exact hK _ (hB13 3 _ ⟨by decide,by decide⟩ (LeE_of (Le_wa)))
     ·exact Aw_skip (hB13 v _ ⟨hv1,hv2⟩ (LeE_of (Le_wa)))
    ·exact hK _ (Aw_no rfl (Aw_skip (hB13 v _ ⟨hv1,hv2⟩ (LeE_of (Le_wa)))))
 ·refine Aw_st hE [0,3,4,6,7,33] [700,701,710,711,712,713,714,720,721,722,723,724] fun K hK=>?_
  simp only [go_sem,seval]
  refine hK _ (Aw_yes rfl (Aw_skip (hB4 _ ?_)))
  refine Aw_sq fun B6 hB6 hR6 hX6=>?_
  refine Aw_bk fun B7 hN7 hE7 hR7 hX7=>?_
  refine Aw_st hE [0,3,4,6,7,8] [700,701,710,711,712,713,714,720,721,722,723,724] fun K hK=>?_
  simp only [go_sem,seval]
  refine hK _ ?_;clear hK K
  refine Aw_bk fun B8 hN8 hE8 hR8 hX8=>?_
  refine Aw_lp (fun i:Nat × (Nat→List Int)=>⟨111,[(0,.rd),(3,iv 4),(4,.xs 700 0 4 (c + 4) 1),(6,bv bb),(7,iv 3),(8,iv (i.1:Int))],(700,vws 4 d 710 4++jN c)::bxs 4 d i.2 710 4,k + 6 + 2 * i.1⟩) (fun i=>4≤i.1∧i.1≤4∧∀ x,(i.2 x).length=4) (fun i=>4 - i.1) (4,r) (Le_wa) ⟨by omega,by omega,hr⟩ fun i hi B9 hN9 hR9 hX9=>?_
  obtain ⟨b,r⟩:=i
  obtain ⟨hi1,hi2,hr⟩:=hi
  simp only at hi1 hi2 hr
  have hr0:=hr 0
  have hr1:=hr 1
  have hr2:=hr 2
  have hr3:=hr 3
  refine Aw_sq fun B10 hB10 hR10 hX10=>?_
  obtain rfl:b=4:=by omega
  ·refine Aw_st hE [0,3,4,6,7,8,40] [700,701,710,711,712,713,714,720,721,722,723,724] fun K hK=>?_
   simp only [go_sem,seval]
   refine hK _ (Aw_no rfl (Aw_exit (hX10 _ _ (hX9 _ _ (hE8 _ ?_)))))
   refine hN7 _ (hB6 _ ?_)
   refine Aw_tx hE [0,3,4,6,7] [700,701,710,711,712,713,714,720,721,722,723,724] fun K hK=>?_
   simp only [go_sem,seval]
   repeat refine sd0 ?_
   refine hK _ (hN3 (4,r) _ ⟨by omega,hr⟩ (by simp only;omega) (Le_wa))
set_option maxHeartbeats 16000000 in
theorem relsB5 {E:En} (hE:TbOk E tbRels) {k:Nat} (hk:k + 40≤1099511627776) {Q:Exit→St→Prop} (hQ:∀ (L:List (List Int)) (rn:Nat),(2≤L.length∧L.length≤5)→(∀ w ∈ L,w.length=L.length)→rn≤k + 40→Aw E .ret ⟨111,[(2,wsl L)],[],rn⟩ Q) {r:Nat→List Int} (hr:∀ q,(r q).length=5) {d:Nat→Nat} {c:Nat}:Aw E (seqB (seqB (seqB (seqB (Tryd.f68.body.getD .skip))))) ⟨111,[(0,.rd),(3,iv 5),(4,.xs 700 0 5 (c + 5) 1)],(700,vws 5 d 710 5++jN c)::bxs 5 d r 710 5,k + 1⟩ Q:=by
 refine Aw_st hE [0,3,4,6] [700,701,710,711,712,713,714,720,721,722,723,724] fun K hK=>?_
 simp only [go_sem,seval]
 refine ⟨by omega,fun x hx1 hx2=>?_⟩
 generalize decide (x=0)=bb
 refine hK _ ?_;clear hK K
 refine Aw_sqJ (fun i:(Nat→List Int) × Nat=>⟨111,[(0,.rd),(3,iv 5),(4,.xs 700 0 5 (c + 5) 1)],(700,vws 5 d 710 5++jN c)::bxs 5 d i.1 710 5,i.2⟩) (fun i=>(∀ x,(i.1 x).length=5)∧i.2≤k + 29) (fun i hi=>relsR5 hE hk hQ hi.1 hi.2) fun B1 hB1 hR1 hX1=>?_
 refine Aw_st hE [0,3,4,6,7] [700,701,710,711,712,713,714,720,721,722,723,724] fun K hK=>?_
 simp only [go_sem,seval]
 refine hK _ ?_;clear hK K
 refine Aw_bk fun B2 hN2 hE2 hR2 hX2=>?_
 refine Aw_lp (fun i:Nat × (Nat→List Int)=>⟨111,[(0,.rd),(3,iv 5),(4,.xs 700 0 5 (c + 5) 1),(6,bv bb),(7,iv (i.1:Int))],(700,vws 5 d 710 5++jN c)::bxs 5 d i.2 710 5,k + 2 + i.1 * (9 - i.1)⟩) (fun i=>i.1≤5∧∀ x,(i.2 x).length=5) (fun i=>5 - i.1) (0,r) (Le_wa) ⟨by omega,hr⟩ fun i hi B3 hN3 hR3 hX3=>?_
 obtain ⟨a,r⟩:=i
 obtain ⟨hi,hr⟩:=hi
 simp only at hi hr
 refine Aw_sq fun B4 hB4 hR4 hX4=>?_
 rcases (show a=5∨a=0∨a=1∨a=2∨a=3∨a=4 by omega) with rfl | rfl | rfl | rfl | rfl | rfl
 ·refine Aw_st hE [0,3,4,6,7,33] [700,701,710,711,712,713,714,720,721,722,723,724] fun K hK=>?_
  simp only [go_sem,seval]
  refine hK _ (Aw_no rfl (Aw_exit (hX4 _ _ (hX3 _ _ (hE2 _ (hB1 (r,k + 29) _ ⟨hr,by simp only;omega⟩ (LeE_of (Le_wa))))))))
 ·refine Aw_st hE [0,3,4,6,7,33] [700,701,710,711,712,713,714,720,721,722,723,724] fun K hK=>?_
  simp only [go_sem,seval]
  refine hK _ (Aw_yes rfl (Aw_skip (hB4 _ ?_)))
  refine Aw_sq fun B6 hB6 hR6 hX6=>?_
  refine Aw_bk fun B7 hN7 hE7 hR7 hX7=>?_
  refine Aw_st hE [0,3,4,6,7,8] [700,701,710,711,712,713,714,720,721,722,723,724] fun K hK=>?_
  simp only [go_sem,seval]
  refine hK _ ?_;clear hK K
  refine Aw_bk fun B8 hN8 hE8 hR8 hX8=>?_
  refine Aw_lp (fun i:Nat × (Nat→List Int)=>⟨111,[(0,.rd),(3,iv 5),(4,.xs 700 0 5 (c + 5) 1),(6,bv bb),(7,iv 0),(8,iv (i.1:Int))],(700,vws 5 d 710 5++jN c)::bxs 5 d i.2 710 5,k + 0 + 2 * i.1⟩) (fun i=>1≤i.1∧i.1≤5∧∀ x,(i.2 x).length=5) (fun i=>5 - i.1) (1,r) (Le_wa) ⟨by omega,by omega,hr⟩ fun i hi B9 hN9 hR9 hX9=>?_
  obtain ⟨b,r⟩:=i
  obtain ⟨hi1,hi2,hr⟩:=hi
  simp only at hi1 hi2 hr
  have hr0:=hr 0
  have hr1:=hr 1
  have hr2:=hr 2
  have hr3:=hr 3
  have hr4:=hr 4
  refine Aw_sq fun B10 hB10 hR10 hX10=>?_
  rcases (show b=5∨b=1∨b=2∨b=3∨b=4 by omega) with rfl | rfl | rfl | rfl | rfl
  ·refine Aw_st hE [0,3,4,6,7,8,40] [700,701,710,711,712,713,714,720,721,722,723,724] fun K hK=>?_
   simp only [go_sem,seval]
   refine hK _ (Aw_no rfl (Aw_exit (hX10 _ _ (hX9 _ _ (hE8 _ ?_)))))
   refine hN7 _ (hB6 _ ?_)
   refine Aw_tx hE [0,3,4,6,7] [700,701,710,711,712,713,714,720,721,722,723,724] fun K hK=>?_
   simp only [go_sem,seval]
   repeat refine sd0 ?_
   refine hK _ (hN3 (1,r) _ ⟨by omega,hr⟩ (by simp only;omega) (Le_wa))
  ·refine Aw_st hE [0,3,4,6,7,8,40] [700,701,710,711,712,713,714,720,721,722,723,724] fun K hK=>?_
   simp only [go_sem,seval]
   refine hK _ (Aw_yes rfl (Aw_skip (hB10 _ ?_)))
   refine Aw_sq fun B11 hB11 hR11 hX11=>?_
   refine Aw_bk fun B12 hN12 hE12 hR12 hX12=>?_
   refine Aw_st hE [0,3,4,6,7,8,9] [700,701,710,711,712,713,714,720,721,722,723,724] fun K hK=>?_
   refine aops_cut 3 fun K1 hK1=>?_
   simp only [go_sem,seval]
   repeat refine sd0 ?_
   intro x hx1 hx2
   obtain ⟨v,hv,hv1,hv2⟩:=pick4 x hx1 hx2
   refine hK1 _ ?_
   clear hK1
   simp only [go_sem,seval,hv]
   repeat refine sd0 ?_
   refine hK _ ?_;clear hK K
   refine Aw_sqJ (fun v:Int=>⟨111,[(0,.rd),(3,iv 5),(4,.xs 700 0 5 (c + 5) 1),(6,bv bb),(7,iv 0),(8,iv 1),(9,iv v)],(700,vws 5 d 710 5++jN c)::bxs 5 d r 710 5,k + 4⟩) (fun v=>0≤v∧v≤3) (fun v hv=>?_) fun B13 hB13 hR13 hX13=>?_
   ·have hs1:=cI_set (r 0) (d 0) 1 v (by omega)
    have hs2:=fun y=>cI_set (r 1) (d 1) 0 y (by omega)
    obtain ⟨hv1,hv2⟩:=hv
    refine Aw_st hE [0,3,4,6,7,8,9] [700,701,710,711,712,713,714,720,721,722,723,724] fun K hK=>?_
    simp only [go_sem,seval,hs1]
    refine ⟨by omega,?_⟩
    refine hK _ ?_;clear hK K
    refine Aw_td hE [0,3,4,6,7,8] [700,701,710,711,712,713,714,720,721,722,723,724] 6 (by kernel_rfl) fun K hK=>?_
    simp only [go_sem,seval,hs2,hv1,hv2]
    refine ⟨by omega,hK _ (hN12 _ (hB11 _ ?_))⟩
    refine Aw_tx hE [0,3,4,6,7,8] [700,701,710,711,712,713,714,720,721,722,723,724] fun K hK=>?_
    simp only [go_sem,seval]
    repeat refine sd0 ?_
    refine hK _ (hN9 (2,upd (upd r 0 1 v) 1 0 (mirr v)) _ ⟨by omega,by omega,upd_len (upd_len hr)⟩ (by simp only;omega) (Le_wc (by simp only [go_sem,seval,upd]) (by simp only [go_sem,seval,upd])))
   ·refine Aw_st hE [0,3,4,6,7,8,9,53] [700,701,710,711,712,713,714,720,721,722,723,724] fun K hK=>?_
    simp only [go_sem,seval]
    refine ⟨fun hg23=>⟨by omega,fun y hy1 hy2=>?_⟩,fun hg23=>?_⟩
    ·refine hK _ (Aw_cond rfl (fun hc24=>?_) (fun hc24=>?_))
     ·refine Aw_tx hE [0,3,4,6,7,8,9] [700,701,710,711,712,713,714,720,721,722,723,724] fun K hK=>?_
      simp only [go_sem,seval]
      exact hK _ (hB13 3 _ ⟨by decide,by decide⟩ (LeE_of (Le_wa)))
     ·exact Aw_skip (hB13 v _ ⟨hv1,hv2⟩ (LeE_of (Le_wa)))
    ·exact hK _ (Aw_no rfl (Aw_skip (hB13 v _ ⟨hv1,hv2⟩ (LeE_of (Le_wa)))))
  ·refine Aw_st hE [0,3,4,6,7,8,40] [700,701,710,711,712,713,714,720,721,722,723,724] fun K hK=>?_
   simp only [go_sem,seval]
   refine hK _ (Aw_yes rfl (Aw_skip (hB10 _ ?_)))
   refine Aw_sq fun B11 hB11 hR11 hX11=>?_
   refine Aw_bk fun B12 hN12 hE12 hR12 hX12=>?_
   refine Aw_st hE [0,3,4,6,7,8,9] [700,701,710,711,712,713,714,720,721,722,723,724] fun K hK=>?_
   refine aops_cut 3 fun K1 hK1=>?_
   simp only [go_sem,seval]
   repeat refine sd0 ?_
   intro x hx1 hx2
   obtain ⟨v,hv,hv1,hv2⟩:=pick4 x hx1 hx2
   refine hK1 _ ?_
   clear hK1
   simp only [go_sem,seval,hv]
   repeat refine sd0 ?_
   refine hK _ ?_;clear hK K
   refine Aw_sqJ (fun v:Int=>⟨111,[(0,.rd),(3,iv 5),(4,.xs 700 0 5 (c + 5) 1),(6,bv bb),(7,iv 0),(8,iv 2),(9,iv v)],(700,vws 5 d 710 5++jN c)::bxs 5 d r 710 5,k + 6⟩) (fun v=>0≤v∧v≤3) (fun v hv=>?_) fun B13 hB13 hR13 hX13=>?_
   ·have hs1:=cI_set (r 0) (d 0) 2 v (by omega)
    have hs2:=fun y=>cI_set (r 2) (d 2) 0 y (by omega)
    obtain ⟨hv1,hv2⟩:=hv
    refine Aw_st hE [0,3,4,6,7,8,9] [700,701,710,711,712,713,714,720,721,722,723,724] fun K hK=>?_
    simp only [go_sem,seval,hs1]
    refine ⟨by omega,?_⟩
    refine hK _ ?_;clear hK K
    refine Aw_td hE [0,3,4,6,7,8] [700,701,710,711,712,713,714,720,721,722,723,724] 6 (by kernel_rfl) fun K hK=>?_
    simp only [go_sem,seval,hs2,hv1,hv2]
    refine ⟨by omega,hK _ (hN12 _ (hB11 _ ?_))⟩
    refine Aw_tx hE [0,3,4,6,7,8] [700,701,710,711,712,713,714,720,721,722,723,724] fun K hK=>?_
    simp only [go_sem,seval]
    repeat refine sd0 ?_
    refine hK _ (hN9 (3,upd (upd r 0 2 v) 2 0 (mirr v)) _ ⟨by omega,by omega,upd_len (upd_len hr)⟩ (by simp only;omega) (Le_wc (by simp only [go_sem,seval,upd]) (by simp only [go_sem,seval,upd])))
   ·refine Aw_st hE [0,3,4,6,7,8,9,53] [700,701,710,711,712,713,714,720,721,722,723,724] fun K hK=>?_
    simp only [go_sem,seval]
    refine ⟨fun hg23=>⟨by omega,fun y hy1 hy2=>?_⟩,fun hg23=>?_⟩
    ·refine hK _ (Aw_cond rfl (fun hc24=>?_) (fun hc24=>?_))
     ·refine Aw_tx hE [0,3,4,6,7,8,9] [700,701,710,711,712,713,714,720,721,722,723,724] fun K hK=>?_
      simp only [go_sem,seval]
      exact hK _ (hB13 3 _ ⟨by decide,by decide⟩ (LeE_of (Le_wa)))
     ·exact Aw_skip (hB13 v _ ⟨hv1,hv2⟩ (LeE_of (Le_wa)))
    ·exact hK _ (Aw_no rfl (Aw_skip (hB13 v _ ⟨hv1,hv2⟩ (LeE_of (Le_wa)))))
  ·refine Aw_st hE [0,3,4,6,7,8,40] [700,701,710,711,712,713,714,720,721,722,723,724] fun K hK=>?_
   simp only [go_sem,seval]
   refine hK _ (Aw_yes rfl (Aw_skip (hB10 _ ?_)))
   refine Aw_sq fun B11 hB11 hR11 hX11=>?_
   refine Aw_bk fun B12 hN12 hE12 hR12 hX12=>?_
   refine Aw_st hE [0,3,4,6,7,8,9] [700,701,710,711,712,713,714,720,721,722,723,724] fun K hK=>?_
   refine aops_cut 3 fun K1 hK1=>?_
   simp only [go_sem,seval]
   repeat refine sd0 ?_
   intro x hx1 hx2
   obtain ⟨v,hv,hv1,hv2⟩:=pick4 x hx1 hx2
   refine hK1 _ ?_
   clear hK1
   simp only [go_sem,seval,hv]
   repeat refine sd0 ?_
   refine hK _ ?_;clear hK K
   refine Aw_sqJ (fun v:Int=>⟨111,[(0,.rd),(3,iv 5),(4,.xs 700 0 5 (c + 5) 1),(6,bv bb),(7,iv 0),(8,iv 3),(9,iv v)],(700,vws 5 d 710 5++jN c)::bxs 5 d r 710 5,k + 8⟩) (fun v=>0≤v∧v≤3) (fun v hv=>?_) fun B13 hB13 hR13 hX13=>?_
   ·have hs1:=cI_set (r 0) (d 0) 3 v (by omega)
    have hs2:=fun y=>cI_set (r 3) (d 3) 0 y (by omega)
    obtain ⟨hv1,hv2⟩:=hv
    refine Aw_st hE [0,3,4,6,7,8,9] [700,701,710,711,712,713,714,720,721,722,723,724] fun K hK=>?_
    simp only [go_sem,seval,hs1]
    refine ⟨by omega,?_⟩
    refine hK _ ?_;clear hK K
    refine Aw_td hE [0,3,4,6,7,8] [700,701,710,711,712,713,714,720,721,722,723,724] 6 (by kernel_rfl) fun K hK=>?_
    simp only [go_sem,seval,hs2,hv1,hv2]
    refine ⟨by omega,hK _ (hN12 _ (hB11 _ ?_))⟩
    refine Aw_tx hE [0,3,4,6,7,8] [700,701,710,711,712,713,714,720,721,722,723,724] fun K hK=>?_
    simp only [go_sem,seval]
    repeat refine sd0 ?_
    refine hK _ (hN9 (4,upd (upd r 0 3 v) 3 0 (mirr v)) _ ⟨by omega,by omega,upd_len (upd_len hr)⟩ (by simp only;omega) (Le_wc (by simp only [go_sem,seval,upd]) (by simp only [go_sem,seval,upd])))
   ·refine Aw_st hE [0,3,4,6,7,8,9,53] [700,701,710,711,712,713,714,720,721,722,723,724] fun K hK=>?_
    simp only [go_sem,seval]
    refine ⟨fun hg23=>⟨by omega,fun y hy1 hy2=>?_⟩,fun hg23=>?_⟩
    ·refine hK _ (Aw_cond rfl (fun hc24=>?_) (fun hc24=>?_))
     ·refine Aw_tx hE [0,3,4,6,7,8,9] [700,701,710,711,712,713,714,720,721,722,723,724] fun K hK=>?_
      simp only [go_sem,seval]
      exact hK _ (hB13 3 _ ⟨by decide,by decide⟩ (LeE_of (Le_wa)))
     ·exact Aw_skip (hB13 v _ ⟨hv1,hv2⟩ (LeE_of (Le_wa)))
    ·exact hK _ (Aw_no rfl (Aw_skip (hB13 v _ ⟨hv1,hv2⟩ (LeE_of (Le_wa)))))
  ·refine Aw_st hE [0,3,4,6,7,8,40] [700,701,710,711,712,713,714,720,721,722,723,724] fun K hK=>?_
   simp only [go_sem,seval]
   refine hK _ (Aw_yes rfl (Aw_skip (hB10 _ ?_)))
   refine Aw_sq fun B11 hB11 hR11 hX11=>?_
   refine Aw_bk fun B12 hN12 hE12 hR12 hX12=>?_
   refine Aw_st hE [0,3,4,6,7,8,9] [700,701,710,711,712,713,714,720,721,722,723,724] fun K hK=>?_
   refine aops_cut 3 fun K1 hK1=>?_
   simp only [go_sem,seval]
   repeat refine sd0 ?_
   intro x hx1 hx2
   obtain ⟨v,hv,hv1,hv2⟩:=pick4 x hx1 hx2
   refine hK1 _ ?_
   clear hK1
   simp only [go_sem,seval,hv]
   repeat refine sd0 ?_
   refine hK _ ?_;clear hK K
   refine Aw_sqJ (fun v:Int=>⟨111,[(0,.rd),(3,iv 5),(4,.xs 700 0 5 (c + 5) 1),(6,bv bb),(7,iv 0),(8,iv 4),(9,iv v)],(700,vws 5 d 710 5++jN c)::bxs 5 d r 710 5,k + 10⟩) (fun v=>0≤v∧v≤3) (fun v hv=>?_) fun B13 hB13 hR13 hX13=>?_
   ·have hs1:=cI_set (r 0) (d 0) 4 v (by omega)
    have hs2:=fun y=>cI_set (r 4) (d 4) 0 y (by omega)
    obtain ⟨hv1,hv2⟩:=hv
    refine Aw_st hE [0,3,4,6,7,8,9] [700,701,710,711,712,713,714,720,721,722,723,724] fun K hK=>?_
    simp only [go_sem,seval,hs1]
    refine ⟨by omega,?_⟩
    refine hK _ ?_;clear hK K
    refine Aw_td hE [0,3,4,6,7,8] [700,701,710,711,712,713,714,720,721,722,723,724] 6 (by kernel_rfl) fun K hK=>?_
    simp only [go_sem,seval,hs2,hv1,hv2]
    refine ⟨by omega,hK _ (hN12 _ (hB11 _ ?_))⟩
    refine Aw_tx hE [0,3,4,6,7,8] [700,701,710,711,712,713,714,720,721,722,723,724] fun K hK=>?_
    simp only [go_sem,seval]
    repeat refine sd0 ?_
    refine hK _ (hN9 (5,upd (upd r 0 4 v) 4 0 (mirr v)) _ ⟨by omega,by omega,upd_len (upd_len hr)⟩ (by simp only;omega) (Le_wc (by simp only [go_sem,seval,upd]) (by simp only [go_sem,seval,upd])))
   ·refine Aw_st hE [0,3,4,6,7,8,9,53] [700,701,710,711,712,713,714,720,721,722,723,724] fun K hK=>?_
    simp only [go_sem,seval]
    refine ⟨fun hg23=>⟨by omega,fun y hy1 hy2=>?_⟩,fun hg23=>?_⟩
    ·refine hK _ (Aw_cond rfl (fun hc24=>?_) (fun hc24=>?_))
     ·refine Aw_tx hE [0,3,4,6,7,8,9] [700,701,710,711,712,713,714,720,721,722,723,724] fun K hK=>?_
      simp only [go_sem,seval]
      exact hK _ (hB13 3 _ ⟨by decide,by decide⟩ (LeE_of (Le_wa)))
     ·exact Aw_skip (hB13 v _ ⟨hv1,hv2⟩ (LeE_of (Le_wa)))
    ·exact hK _ (Aw_no rfl (Aw_skip (hB13 v _ ⟨hv1,hv2⟩ (LeE_of (Le_wa)))))
 ·refine Aw_st hE [0,3,4,6,7,33] [700,701,710,711,712,713,714,720,721,722,723,724] fun K hK=>?_
  simp only [go_sem,seval]
  refine hK _ (Aw_yes rfl (Aw_skip (hB4 _ ?_)))
  refine Aw_sq fun B6 hB6 hR6 hX6=>?_
  refine Aw_bk fun B7 hN7 hE7 hR7 hX7=>?_
  refine Aw_st hE [0,3,4,6,7,8] [700,701,710,711,712,713,714,720,721,722,723,724] fun K hK=>?_
  simp only [go_sem,seval]
  refine hK _ ?_;clear hK K
  refine Aw_bk fun B8 hN8 hE8 hR8 hX8=>?_
  refine Aw_lp (fun i:Nat × (Nat→List Int)=>⟨111,[(0,.rd),(3,iv 5),(4,.xs 700 0 5 (c + 5) 1),(6,bv bb),(7,iv 1),(8,iv (i.1:Int))],(700,vws 5 d 710 5++jN c)::bxs 5 d i.2 710 5,k + 6 + 2 * i.1⟩) (fun i=>2≤i.1∧i.1≤5∧∀ x,(i.2 x).length=5) (fun i=>5 - i.1) (2,r) (Le_wa) ⟨by omega,by omega,hr⟩ fun i hi B9 hN9 hR9 hX9=>?_
  obtain ⟨b,r⟩:=i
  obtain ⟨hi1,hi2,hr⟩:=hi
  simp only at hi1 hi2 hr
  have hr0:=hr 0
  have hr1:=hr 1
  have hr2:=hr 2
  have hr3:=hr 3
  have hr4:=hr 4
  refine Aw_sq fun B10 hB10 hR10 hX10=>?_
  rcases (show b=5∨b=2∨b=3∨b=4 by omega) with rfl | rfl | rfl | rfl
  ·refine Aw_st hE [0,3,4,6,7,8,40] [700,701,710,711,712,713,714,720,721,722,723,724] fun K hK=>?_
   simp only [go_sem,seval]
   refine hK _ (Aw_no rfl (Aw_exit (hX10 _ _ (hX9 _ _ (hE8 _ ?_)))))
   refine hN7 _ (hB6 _ ?_)
   refine Aw_tx hE [0,3,4,6,7] [700,701,710,711,712,713,714,720,721,722,723,724] fun K hK=>?_
   simp only [go_sem,seval]
   repeat refine sd0 ?_
   refine hK _ (hN3 (2,r) _ ⟨by omega,hr⟩ (by simp only;omega) (Le_wa))
  ·refine Aw_st hE [0,3,4,6,7,8,40] [700,701,710,711,712,713,714,720,721,722,723,724] fun K hK=>?_
   simp only [go_sem,seval]
   refine hK _ (Aw_yes rfl (Aw_skip (hB10 _ ?_)))
   refine Aw_sq fun B11 hB11 hR11 hX11=>?_
   refine Aw_bk fun B12 hN12 hE12 hR12 hX12=>?_
   refine Aw_st hE [0,3,4,6,7,8,9] [700,701,710,711,712,713,714,720,721,722,723,724] fun K hK=>?_
   refine aops_cut 3 fun K1 hK1=>?_
   simp only [go_sem,seval]
   repeat refine sd0 ?_
   intro x hx1 hx2
   obtain ⟨v,hv,hv1,hv2⟩:=pick4 x hx1 hx2
   refine hK1 _ ?_
   clear hK1
   simp only [go_sem,seval,hv]
   repeat refine sd0 ?_
   refine hK _ ?_;clear hK K
   refine Aw_sqJ (fun v:Int=>⟨111,[(0,.rd),(3,iv 5),(4,.xs 700 0 5 (c + 5) 1),(6,bv bb),(7,iv 1),(8,iv 2),(9,iv v)],(700,vws 5 d 710 5++jN c)::bxs 5 d r 710 5,k + 12⟩) (fun v=>0≤v∧v≤3) (fun v hv=>?_) fun B13 hB13 hR13 hX13=>?_
   ·have hs1:=cI_set (r 1) (d 1) 2 v (by omega)
    have hs2:=fun y=>cI_set (r 2) (d 2) 1 y (by omega)
    obtain ⟨hv1,hv2⟩:=hv
    refine Aw_st hE [0,3,4,6,7,8,9] [700,701,710,711,712,713,714,720,721,722,723,724] fun K hK=>?_
    simp only [go_sem,seval,hs1]
    refine ⟨by omega,?_⟩
    refine hK _ ?_;clear hK K
    refine Aw_td hE [0,3,4,6,7,8] [700,701,710,711,712,713,714,720,721,722,723,724] 6 (by kernel_rfl) fun K hK=>?_
    simp only [go_sem,seval,hs2,hv1,hv2]
    refine ⟨by omega,hK _ (hN12 _ (hB11 _ ?_))⟩
    refine Aw_tx hE [0,3,4,6,7,8] [700,701,710,711,712,713,714,720,721,722,723,724] fun K hK=>?_
    simp only [go_sem,seval]
    repeat refine sd0 ?_
    refine hK _ (hN9 (3,upd (upd r 1 2 v) 2 1 (mirr v)) _ ⟨by omega,by omega,upd_len (upd_len hr)⟩ (by simp only;omega) (Le_wc (by simp only [go_sem,seval,upd]) (by simp only [go_sem,seval,upd])))
   ·refine Aw_st hE [0,3,4,6,7,8,9,53] [700,701,710,711,712,713,714,720,721,722,723,724] fun K hK=>?_
    simp only [go_sem,seval]
    refine ⟨fun hg23=>⟨by omega,fun y hy1 hy2=>?_⟩,fun hg23=>?_⟩
    ·refine hK _ (Aw_cond rfl (fun hc24=>?_) (fun hc24=>?_))
     ·refine Aw_tx hE [0,3,4,6,7,8,9] [700,701,710,711,712,713,714,720,721,722,723,724] fun K hK=>?_
      simp only [go_sem,seval]
      exact hK _ (hB13 3 _ ⟨by decide,by decide⟩ (LeE_of (Le_wa)))
     ·exact Aw_skip (hB13 v _ ⟨hv1,hv2⟩ (LeE_of (Le_wa)))
    ·exact hK _ (Aw_no rfl (Aw_skip (hB13 v _ ⟨hv1,hv2⟩ (LeE_of (Le_wa)))))
  ·refine Aw_st hE [0,3,4,6,7,8,40] [700,701,710,711,712,713,714,720,721,722,723,724] fun K hK=>?_
   simp only [go_sem,seval]
   refine hK _ (Aw_yes rfl (Aw_skip (hB10 _ ?_)))
   refine Aw_sq fun B11 hB11 hR11 hX11=>?_
   refine Aw_bk fun B12 hN12 hE12 hR12 hX12=>?_
   refine Aw_st hE [0,3,4,6,7,8,9] [700,701,710,711,712,713,714,720,721,722,723,724] fun K hK=>?_
   refine aops_cut 3 fun K1 hK1=>?_
   simp only [go_sem,seval]
   repeat refine sd0 ?_
   intro x hx1 hx2
   obtain ⟨v,hv,hv1,hv2⟩:=pick4 x hx1 hx2
   refine hK1 _ ?_
   clear hK1
   simp only [go_sem,seval,hv]
   repeat refine sd0 ?_
   refine hK _ ?_;clear hK K
   refine Aw_sqJ (fun v:Int=>⟨111,[(0,.rd),(3,iv 5),(4,.xs 700 0 5 (c + 5) 1),(6,bv bb),(7,iv 1),(8,iv 3),(9,iv v)],(700,vws 5 d 710 5++jN c)::bxs 5 d r 710 5,k + 14⟩) (fun v=>0≤v∧v≤3) (fun v hv=>?_) fun B13 hB13 hR13 hX13=>?_
   ·have hs1:=cI_set (r 1) (d 1) 3 v (by omega)
    have hs2:=fun y=>cI_set (r 3) (d 3) 1 y (by omega)
    obtain ⟨hv1,hv2⟩:=hv
    refine Aw_st hE [0,3,4,6,7,8,9] [700,701,710,711,712,713,714,720,721,722,723,724] fun K hK=>?_
    simp only [go_sem,seval,hs1]
    refine ⟨by omega,?_⟩
    refine hK _ ?_;clear hK K
    refine Aw_td hE [0,3,4,6,7,8] [700,701,710,711,712,713,714,720,721,722,723,724] 6 (by kernel_rfl) fun K hK=>?_
    simp only [go_sem,seval,hs2,hv1,hv2]
    refine ⟨by omega,hK _ (hN12 _ (hB11 _ ?_))⟩
    refine Aw_tx hE [0,3,4,6,7,8] [700,701,710,711,712,713,714,720,721,722,723,724] fun K hK=>?_
    simp only [go_sem,seval]
    repeat refine sd0 ?_
    refine hK _ (hN9 (4,upd (upd r 1 3 v) 3 1 (mirr v)) _ ⟨by omega,by omega,upd_len (upd_len hr)⟩ (by simp only;omega) (Le_wc (by simp only [go_sem,seval,upd]) (by simp only [go_sem,seval,upd])))
   ·refine Aw_st hE [0,3,4,6,7,8,9,53] [700,701,710,711,712,713,714,720,721,722,723,724] fun K hK=>?_
    simp only [go_sem,seval]
    refine ⟨fun hg23=>⟨by omega,fun y hy1 hy2=>?_⟩,fun hg23=>?_⟩
    ·refine hK _ (Aw_cond rfl (fun hc24=>?_) (fun hc24=>?_))
     ·refine Aw_tx hE [0,3,4,6,7,8,9] [700,701,710,711,712,713,714,720,721,722,723,724] fun K hK=>?_
      simp only [go_sem,seval]
      exact hK _ (hB13 3 _ ⟨by decide,by decide⟩ (LeE_of (Le_wa)))
     ·exact Aw_skip (hB13 v _ ⟨hv1,hv2⟩ (LeE_of (Le_wa)))
    ·exact hK _ (Aw_no rfl (Aw_skip (hB13 v _ ⟨hv1,hv2⟩ (LeE_of (Le_wa)))))
  ·refine Aw_st hE [0,3,4,6,7,8,40] [700,701,710,711,712,713,714,720,721,722,723,724] fun K hK=>?_
   simp only [go_sem,seval]
   refine hK _ (Aw_yes rfl (Aw_skip (hB10 _ ?_)))
   refine Aw_sq fun B11 hB11 hR11 hX11=>?_
   refine Aw_bk fun B12 hN12 hE12 hR12 hX12=>?_
   refine Aw_st hE [0,3,4,6,7,8,9] [700,701,710,711,712,713,714,720,721,722,723,724] fun K hK=>?_
   refine aops_cut 3 fun K1 hK1=>?_
   simp only [go_sem,seval]
   repeat refine sd0 ?_
   intro x hx1 hx2
   obtain ⟨v,hv,hv1,hv2⟩:=pick4 x hx1 hx2
   refine hK1 _ ?_
   clear hK1
   simp only [go_sem,seval,hv]
   repeat refine sd0 ?_
   refine hK _ ?_;clear hK K
   refine Aw_sqJ (fun v:Int=>⟨111,[(0,.rd),(3,iv 5),(4,.xs 700 0 5 (c + 5) 1),(6,bv bb),(7,iv 1),(8,iv 4),(9,iv v)],(700,vws 5 d 710 5++jN c)::bxs 5 d r 710 5,k + 16⟩) (fun v=>0≤v∧v≤3) (fun v hv=>?_) fun B13 hB13 hR13 hX13=>?_
   ·have hs1:=cI_set (r 1) (d 1) 4 v (by omega)
    have hs2:=fun y=>cI_set (r 4) (d 4) 1 y (by omega)
    obtain ⟨hv1,hv2⟩:=hv
    refine Aw_st hE [0,3,4,6,7,8,9] [700,701,710,711,712,713,714,720,721,722,723,724] fun K hK=>?_
    simp only [go_sem,seval,hs1]
    refine ⟨by omega,?_⟩
    refine hK _ ?_;clear hK K
    refine Aw_td hE [0,3,4,6,7,8] [700,701,710,711,712,713,714,720,721,722,723,724] 6 (by kernel_rfl) fun K hK=>?_
    simp only [go_sem,seval,hs2,hv1,hv2]
    refine ⟨by omega,hK _ (hN12 _ (hB11 _ ?_))⟩
    refine Aw_tx hE [0,3,4,6,7,8] [700,701,710,711,712,713,714,720,721,722,723,724] fun K hK=>?_
    simp only [go_sem,seval]
    repeat refine sd0 ?_
    refine hK _ (hN9 (5,upd (upd r 1 4 v) 4 1 (mirr v)) _ ⟨by omega,by omega,upd_len (upd_len hr)⟩ (by simp only;omega) (Le_wc (by simp only [go_sem,seval,upd]) (by simp only [go_sem,seval,upd])))
   ·refine Aw_st hE [0,3,4,6,7,8,9,53] [700,701,710,711,712,713,714,720,721,722,723,724] fun K hK=>?_
    simp only [go_sem,seval]
    refine ⟨fun hg23=>⟨by omega,fun y hy1 hy2=>?_⟩,fun hg23=>?_⟩
    ·refine hK _ (Aw_cond rfl (fun hc24=>?_) (fun hc24=>?_))
     ·refine Aw_tx hE [0,3,4,6,7,8,9] [700,701,710,711,712,713,714,720,721,722,723,724] fun K hK=>?_
      simp only [go_sem,seval]
      exact hK _ (hB13 3 _ ⟨by decide,by decide⟩ (LeE_of (Le_wa)))
     ·exact Aw_skip (hB13 v _ ⟨hv1,hv2⟩ (LeE_of (Le_wa)))
    ·exact hK _ (Aw_no rfl (Aw_skip (hB13 v _ ⟨hv1,hv2⟩ (LeE_of (Le_wa)))))
 ·refine Aw_st hE [0,3,4,6,7,33] [700,701,710,711,712,713,714,720,721,722,723,724] fun K hK=>?_
  simp only [go_sem,seval]
  refine hK _ (Aw_yes rfl (Aw_skip (hB4 _ ?_)))
  refine Aw_sq fun B6 hB6 hR6 hX6=>?_
  refine Aw_bk fun B7 hN7 hE7 hR7 hX7=>?_
  refine Aw_st hE [0,3,4,6,7,8] [700,701,710,711,712,713,714,720,721,722,723,724] fun K hK=>?_
  simp only [go_sem,seval]
  refine hK _ ?_;clear hK K
  refine Aw_bk fun B8 hN8 hE8 hR8 hX8=>?_
  refine Aw_lp (fun i:Nat × (Nat→List Int)=>⟨111,[(0,.rd),(3,iv 5),(4,.xs 700 0 5 (c + 5) 1),(6,bv bb),(7,iv 2),(8,iv (i.1:Int))],(700,vws 5 d 710 5++jN c)::bxs 5 d i.2 710 5,k + 10 + 2 * i.1⟩) (fun i=>3≤i.1∧i.1≤5∧∀ x,(i.2 x).length=5) (fun i=>5 - i.1) (3,r) (Le_wa) ⟨by omega,by omega,hr⟩ fun i hi B9 hN9 hR9 hX9=>?_
  obtain ⟨b,r⟩:=i
  obtain ⟨hi1,hi2,hr⟩:=hi
  simp only at hi1 hi2 hr
  have hr0:=hr 0
  have hr1:=hr 1
  have hr2:=hr 2
  have hr3:=hr 3
  have hr4:=hr 4
  refine Aw_sq fun B10 hB10 hR10 hX10=>?_
  rcases (show b=5∨b=3∨b=4 by omega) with rfl | rfl | rfl
  ·refine Aw_st hE [0,3,4,6,7,8,40] [700,701,710,711,712,713,714,720,721,722,723,724] fun K hK=>?_
   simp only [go_sem,seval]
   refine hK _ (Aw_no rfl (Aw_exit (hX10 _ _ (hX9 _ _ (hE8 _ ?_)))))
   refine hN7 _ (hB6 _ ?_)
   refine Aw_tx hE [0,3,4,6,7] [700,701,710,711,712,713,714,720,721,722,723,724] fun K hK=>?_
   simp only [go_sem,seval]
   repeat refine sd0 ?_
   refine hK _ (hN3 (3,r) _ ⟨by omega,hr⟩ (by simp only;omega) (Le_wa))
  ·refine Aw_st hE [0,3,4,6,7,8,40] [700,701,710,711,712,713,714,720,721,722,723,724] fun K hK=>?_
   simp only [go_sem,seval]
   refine hK _ (Aw_yes rfl (Aw_skip (hB10 _ ?_)))
   refine Aw_sq fun B11 hB11 hR11 hX11=>?_
   refine Aw_bk fun B12 hN12 hE12 hR12 hX12=>?_
   refine Aw_st hE [0,3,4,6,7,8,9] [700,701,710,711,712,713,714,720,721,722,723,724] fun K hK=>?_
   refine aops_cut 3 fun K1 hK1=>?_
   simp only [go_sem,seval]
   repeat refine sd0 ?_
   intro x hx1 hx2
   obtain ⟨v,hv,hv1,hv2⟩:=pick4 x hx1 hx2
   refine hK1 _ ?_
   clear hK1
   simp only [go_sem,seval,hv]
   repeat refine sd0 ?_
   refine hK _ ?_;clear hK K
   refine Aw_sqJ (fun v:Int=>⟨111,[(0,.rd),(3,iv 5),(4,.xs 700 0 5 (c + 5) 1),(6,bv bb),(7,iv 2),(8,iv 3),(9,iv v)],(700,vws 5 d 710 5++jN c)::bxs 5 d r 710 5,k + 18⟩) (fun v=>0≤v∧v≤3) (fun v hv=>?_) fun B13 hB13 hR13 hX13=>?_
   ·have hs1:=cI_set (r 2) (d 2) 3 v (by omega)
    have hs2:=fun y=>cI_set (r 3) (d 3) 2 y (by omega)
    obtain ⟨hv1,hv2⟩:=hv
    refine Aw_st hE [0,3,4,6,7,8,9] [700,701,710,711,712,713,714,720,721,722,723,724] fun K hK=>?_
    simp only [go_sem,seval,hs1]
    refine ⟨by omega,?_⟩
    refine hK _ ?_;clear hK K
    refine Aw_td hE [0,3,4,6,7,8] [700,701,710,711,712,713,714,720,721,722,723,724] 6 (by kernel_rfl) fun K hK=>?_
    simp only [go_sem,seval,hs2,hv1,hv2]
    refine ⟨by omega,hK _ (hN12 _ (hB11 _ ?_))⟩
    refine Aw_tx hE [0,3,4,6,7,8] [700,701,710,711,712,713,714,720,721,722,723,724] fun K hK=>?_
    simp only [go_sem,seval]
    repeat refine sd0 ?_
    refine hK _ (hN9 (4,upd (upd r 2 3 v) 3 2 (mirr v)) _ ⟨by omega,by omega,upd_len (upd_len hr)⟩ (by simp only;omega) (Le_wc (by simp only [go_sem,seval,upd]) (by simp only [go_sem,seval,upd])))
   ·refine Aw_st hE [0,3,4,6,7,8,9,53] [700,701,710,711,712,713,714,720,721,722,723,724] fun K hK=>?_
    simp only [go_sem,seval]
    refine ⟨fun hg23=>⟨by omega,fun y hy1 hy2=>?_⟩,fun hg23=>?_⟩
    ·refine hK _ (Aw_cond rfl (fun hc24=>?_) (fun hc24=>?_))
     ·refine Aw_tx hE [0,3,4,6,7,8,9] [700,701,710,711,712,713,714,720,721,722,723,724] fun K hK=>?_
      simp only [go_sem,seval]
      exact hK _ (hB13 3 _ ⟨by decide,by decide⟩ (LeE_of (Le_wa)))
     ·exact Aw_skip (hB13 v _ ⟨hv1,hv2⟩ (LeE_of (Le_wa)))
    ·exact hK _ (Aw_no rfl (Aw_skip (hB13 v _ ⟨hv1,hv2⟩ (LeE_of (Le_wa)))))
  ·refine Aw_st hE [0,3,4,6,7,8,40] [700,701,710,711,712,713,714,720,721,722,723,724] fun K hK=>?_
   simp only [go_sem,seval]
   refine hK _ (Aw_yes rfl (Aw_skip (hB10 _ ?_)))
   refine Aw_sq fun B11 hB11 hR11 hX11=>?_
   refine Aw_bk fun B12 hN12 hE12 hR12 hX12=>?_
   refine Aw_st hE [0,3,4,6,7,8,9] [700,701,710,711,712,713,714,720,721,722,723,724] fun K hK=>?_
   refine aops_cut 3 fun K1 hK1=>?_
   simp only [go_sem,seval]
   repeat refine sd0 ?_
   intro x hx1 hx2
   obtain ⟨v,hv,hv1,hv2⟩:=pick4 x hx1 hx2
   refine hK1 _ ?_
   clear hK1
   simp only [go_sem,seval,hv]
   repeat refine sd0 ?_
   refine hK _ ?_;clear hK K
   refine Aw_sqJ (fun v:Int=>⟨111,[(0,.rd),(3,iv 5),(4,.xs 700 0 5 (c + 5) 1),(6,bv bb),(7,iv 2),(8,iv 4),(9,iv v)],(700,vws 5 d 710 5++jN c)::bxs 5 d r 710 5,k + 20⟩) (fun v=>0≤v∧v≤3) (fun v hv=>?_) fun B13 hB13 hR13 hX13=>?_
   ·have hs1:=cI_set (r 2) (d 2) 4 v (by omega)
    have hs2:=fun y=>cI_set (r 4) (d 4) 2 y (by omega)
    obtain ⟨hv1,hv2⟩:=hv
    refine Aw_st hE [0,3,4,6,7,8,9] [700,701,710,711,712,713,714,720,721,722,723,724] fun K hK=>?_
    simp only [go_sem,seval,hs1]
    refine ⟨by omega,?_⟩
    refine hK _ ?_;clear hK K
    refine Aw_td hE [0,3,4,6,7,8] [700,701,710,711,712,713,714,720,721,722,723,724] 6 (by kernel_rfl) fun K hK=>?_
    simp only [go_sem,seval,hs2,hv1,hv2]
    refine ⟨by omega,hK _ (hN12 _ (hB11 _ ?_))⟩
    refine Aw_tx hE [0,3,4,6,7,8] [700,701,710,711,712,713,714,720,721,722,723,724] fun K hK=>?_
    simp only [go_sem,seval]
    repeat refine sd0 ?_
    refine hK _ (hN9 (5,upd (upd r 2 4 v) 4 2 (mirr v)) _ ⟨by omega,by omega,upd_len (upd_len hr)⟩ (by simp only;omega) (Le_wc (by simp only [go_sem,seval,upd]) (by simp only [go_sem,seval,upd])))
   ·refine Aw_st hE [0,3,4,6,7,8,9,53] [700,701,710,711,712,713,714,720,721,722,723,724] fun K hK=>?_
    simp only [go_sem,seval]
    refine ⟨fun hg23=>⟨by omega,fun y hy1 hy2=>?_⟩,fun hg23=>?_⟩
    ·refine hK _ (Aw_cond rfl (fun hc24=>?_) (fun hc24=>?_))
     ·refine Aw_tx hE [0,3,4,6,7,8,9] [700,701,710,711,712,713,714,720,721,722,723,724] fun K hK=>?_
      simp only [go_sem,seval]
      exact hK _ (hB13 3 _ ⟨by decide,by decide⟩ (LeE_of (Le_wa)))
     ·exact Aw_skip (hB13 v _ ⟨hv1,hv2⟩ (LeE_of (Le_wa)))
    ·exact hK _ (Aw_no rfl (Aw_skip (hB13 v _ ⟨hv1,hv2⟩ (LeE_of (Le_wa)))))
 ·refine Aw_st hE [0,3,4,6,7,33] [700,701,710,711,712,713,714,720,721,722,723,724] fun K hK=>?_
  simp only [go_sem,seval]
  refine hK _ (Aw_yes rfl (Aw_skip (hB4 _ ?_)))
  refine Aw_sq fun B6 hB6 hR6 hX6=>?_
  refine Aw_bk fun B7 hN7 hE7 hR7 hX7=>?_
  refine Aw_st hE [0,3,4,6,7,8] [700,701,710,711,712,713,714,720,721,722,723,724] fun K hK=>?_
  simp only [go_sem,seval]
  refine hK _ ?_;clear hK K
  refine Aw_bk fun B8 hN8 hE8 hR8 hX8=>?_
  refine Aw_lp (fun i:Nat × (Nat→List Int)=>⟨111,[(0,.rd),(3,iv 5),(4,.xs 700 0 5 (c + 5) 1),(6,bv bb),(7,iv 3),(8,iv (i.1:Int))],(700,vws 5 d 710 5++jN c)::bxs 5 d i.2 710 5,k + 12 + 2 * i.1⟩) (fun i=>4≤i.1∧i.1≤5∧∀ x,(i.2 x).length=5) (fun i=>5 - i.1) (4,r) (Le_wa) ⟨by omega,by omega,hr⟩ fun i hi B9 hN9 hR9 hX9=>?_
  obtain ⟨b,r⟩:=i
  obtain ⟨hi1,hi2,hr⟩:=hi
  simp only at hi1 hi2 hr
  have hr0:=hr 0
  have hr1:=hr 1
  have hr2:=hr 2
  have hr3:=hr 3
  have hr4:=hr 4
  refine Aw_sq fun B10 hB10 hR10 hX10=>?_
  rcases (show b=5∨b=4 by omega) with rfl | rfl
  ·refine Aw_st hE [0,3,4,6,7,8,40] [700,701,710,711,712,713,714,720,721,722,723,724] fun K hK=>?_
   simp only [go_sem,seval]
   refine hK _ (Aw_no rfl (Aw_exit (hX10 _ _ (hX9 _ _ (hE8 _ ?_)))))
   refine hN7 _ (hB6 _ ?_)
   refine Aw_tx hE [0,3,4,6,7] [700,701,710,711,712,713,714,720,721,722,723,724] fun K hK=>?_
   simp only [go_sem,seval]
   repeat refine sd0 ?_
   refine hK _ (hN3 (4,r) _ ⟨by omega,hr⟩ (by simp only;omega) (Le_wa))
  ·refine Aw_st hE [0,3,4,6,7,8,40] [700,701,710,711,712,713,714,720,721,722,723,724] fun K hK=>?_
   simp only [go_sem,seval]
   refine hK _ (Aw_yes rfl (Aw_skip (hB10 _ ?_)))
   refine Aw_sq fun B11 hB11 hR11 hX11=>?_
   refine Aw_bk fun B12 hN12 hE12 hR12 hX12=>?_
   refine Aw_st hE [0,3,4,6,7,8,9] [700,701,710,711,712,713,714,720,721,722,723,724] fun K hK=>?_
   refine aops_cut 3 fun K1 hK1=>?_
   simp only [go_sem,seval]
   repeat refine sd0 ?_
   intro x hx1 hx2
   obtain ⟨v,hv,hv1,hv2⟩:=pick4 x hx1 hx2
   refine hK1 _ ?_
   clear hK1
   simp only [go_sem,seval,hv]
   repeat refine sd0 ?_
   refine hK _ ?_;clear hK K
   refine Aw_sqJ (fun v:Int=>⟨111,[(0,.rd),(3,iv 5),(4,.xs 700 0 5 (c + 5) 1),(6,bv bb),(7,iv 3),(8,iv 4),(9,iv v)],(700,vws 5 d 710 5++jN c)::bxs 5 d r 710 5,k + 22⟩) (fun v=>0≤v∧v≤3) (fun v hv=>?_) fun B13 hB13 hR13 hX13=>?_
   ·have hs1:=cI_set (r 3) (d 3) 4 v (by omega)
    have hs2:=fun y=>cI_set (r 4) (d 4) 3 y (by omega)
    obtain ⟨hv1,hv2⟩:=hv
    refine Aw_st hE [0,3,4,6,7,8,9] [700,701,710,711,712,713,714,720,721,722,723,724] fun K hK=>?_
    simp only [go_sem,seval,hs1]
    refine ⟨by omega,?_⟩
    refine hK _ ?_;clear hK K
    refine Aw_td hE [0,3,4,6,7,8] [700,701,710,711,712,713,714,720,721,722,723,724] 6 (by kernel_rfl) fun K hK=>?_
    simp only [go_sem,seval,hs2,hv1,hv2]
    refine ⟨by omega,hK _ (hN12 _ (hB11 _ ?_))⟩
    refine Aw_tx hE [0,3,4,6,7,8] [700,701,710,711,712,713,714,720,721,722,723,724] fun K hK=>?_
    simp only [go_sem,seval]
    repeat refine sd0 ?_
    refine hK _ (hN9 (5,upd (upd r 3 4 v) 4 3 (mirr v)) _ ⟨by omega,by omega,upd_len (upd_len hr)⟩ (by simp only;omega) (Le_wc (by simp only [go_sem,seval,upd]) (by simp only [go_sem,seval,upd])))
   ·refine Aw_st hE [0,3,4,6,7,8,9,53] [700,701,710,711,712,713,714,720,721,722,723,724] fun K hK=>?_
    simp only [go_sem,seval]
    refine ⟨fun hg23=>⟨by omega,fun y hy1 hy2=>?_⟩,fun hg23=>?_⟩
    ·refine hK _ (Aw_cond rfl (fun hc24=>?_) (fun hc24=>?_))
     ·refine Aw_tx hE [0,3,4,6,7,8,9] [700,701,710,711,712,713,714,720,721,722,723,724] fun K hK=>?_
      simp only [go_sem,seval]
      exact hK _ (hB13 3 _ ⟨by decide,by decide⟩ (LeE_of (Le_wa)))
     ·exact Aw_skip (hB13 v _ ⟨hv1,hv2⟩ (LeE_of (Le_wa)))
    ·exact hK _ (Aw_no rfl (Aw_skip (hB13 v _ ⟨hv1,hv2⟩ (LeE_of (Le_wa)))))
 ·refine Aw_st hE [0,3,4,6,7,33] [700,701,710,711,712,713,714,720,721,722,723,724] fun K hK=>?_
  simp only [go_sem,seval]
  refine hK _ (Aw_yes rfl (Aw_skip (hB4 _ ?_)))
  refine Aw_sq fun B6 hB6 hR6 hX6=>?_
  refine Aw_bk fun B7 hN7 hE7 hR7 hX7=>?_
  refine Aw_st hE [0,3,4,6,7,8] [700,701,710,711,712,713,714,720,721,722,723,724] fun K hK=>?_
  simp only [go_sem,seval]
  refine hK _ ?_;clear hK K
  refine Aw_bk fun B8 hN8 hE8 hR8 hX8=>?_
  refine Aw_lp (fun i:Nat × (Nat→List Int)=>⟨111,[(0,.rd),(3,iv 5),(4,.xs 700 0 5 (c + 5) 1),(6,bv bb),(7,iv 4),(8,iv (i.1:Int))],(700,vws 5 d 710 5++jN c)::bxs 5 d i.2 710 5,k + 12 + 2 * i.1⟩) (fun i=>5≤i.1∧i.1≤5∧∀ x,(i.2 x).length=5) (fun i=>5 - i.1) (5,r) (Le_wa) ⟨by omega,by omega,hr⟩ fun i hi B9 hN9 hR9 hX9=>?_
  obtain ⟨b,r⟩:=i
  obtain ⟨hi1,hi2,hr⟩:=hi
  simp only at hi1 hi2 hr
  have hr0:=hr 0
  have hr1:=hr 1
  have hr2:=hr 2
  have hr3:=hr 3
  have hr4:=hr 4
  refine Aw_sq fun B10 hB10 hR10 hX10=>?_
  obtain rfl:b=5:=by omega
  ·refine Aw_st hE [0,3,4,6,7,8,40] [700,701,710,711,712,713,714,720,721,722,723,724] fun K hK=>?_
   simp only [go_sem,seval]
   refine hK _ (Aw_no rfl (Aw_exit (hX10 _ _ (hX9 _ _ (hE8 _ ?_)))))
   refine hN7 _ (hB6 _ ?_)
   refine Aw_tx hE [0,3,4,6,7] [700,701,710,711,712,713,714,720,721,722,723,724] fun K hK=>?_
   simp only [go_sem,seval]
   repeat refine sd0 ?_
   refine hK _ (hN3 (5,r) _ ⟨by omega,hr⟩ (by simp only;omega) (Le_wa))
theorem relsA2 {E:En} (hE:TbOk E tbRels) {k:Nat} (hk:k + 40≤1099511627776) {Q:Exit→St→Prop} (hQ:∀ (L:List (List Int)) (rn:Nat),(2≤L.length∧L.length≤5)→(∀ w ∈ L,w.length=L.length)→rn≤k + 40→Aw E .ret ⟨111,[(2,wsl L)],[],rn⟩ Q):Aw E (seqB (seqB (seqB (Tryd.f68.body.getD .skip)))) ⟨111,[(0,.rd),(3,iv 2),(4,.xs 17 0 0 0 1)],[(17,[])],k + 1⟩ Q:=by
 refine Aw_sq fun B1 hB1 hR1 hX1=>?_
 refine Aw_st hE [0,3,4,5] [17,25,27,700,701,710,711,712,713,714,720,721,722,723,724] fun K hK=>?_
 simp only [go_sem,seval]
 refine hK _ ?_;clear hK K
 refine Aw_bk fun B2 hN2 hE2 hR2 hX2=>?_
 refine Aw_lp (fun i:Nat × Nat=>⟨111,[(0,.rd),(3,iv 2),(4,.xs 700 0 i.1 (i.2 + i.1) 1),(5,iv (i.1:Int))],(700,vws 2 (fun _=>0) 710 i.1++jN i.2)::bxs 2 (fun _=>0) (fun _=>List.replicate 2 0) 710 i.1,k + 1⟩) (fun i=>i.1≤2) (fun i=>2 - i.1) (0,0) ?_ (by omega) fun i hi B3 hN3 hR3 hX3=>?_
 ·refine (Le_swb _ 17 700 (by decide) (by decide)).trans ?_
  simp only [St.swb,swbσ,swbm,AV.swb,AV.swbAll,swp,jN_swb,row_swb,Nat.reduceEqDiff,if_true,if_false,reduceIte]
  exact Le_wa
 obtain ⟨i,c⟩:=i
 simp only at hi
 refine Aw_sq fun B4 hB4 hR4 hX4=>?_
 rcases (show i=2∨i=0∨i=1 by omega) with rfl | rfl | rfl
 ·refine Aw_st hE [0,3,4,5,20] [17,25,27,700,701,710,711,712,713,714,720,721,722,723,724] fun K hK=>?_
  simp only [go_sem,seval]
  refine hK _ (Aw_no rfl (Aw_exit (hX4 _ _ (hX3 _ _ (hE2 _ (hB1 _ ?_))))))
  refine Aw.leE (LeE_of (show Le _ ⟨111,[(0,.rd),(3,iv 2),(4,.xs 700 0 2 (c + 2) 1)],(700,vws 2 (fun _=>0) 710 2++jN c)::bxs 2 (fun _=>0) (fun _=>List.replicate 2 0) 710 2,k + 1⟩ from Le_wa)) (relsB2 hE hk hQ (fun _=>rfl))
 ·refine Aw_st hE [0,3,4,5,20] [17,25,27,700,701,710,711,712,713,714,720,721,722,723,724] fun K hK=>?_
  simp only [go_sem,seval]
  refine hK _ (Aw_yes rfl (Aw_skip (hB4 _ ?_)))
  refine Aw_sq fun B6 hB6 hR6 hX6=>?_
  refine Aw_bk fun B7 hN7 hE7 hR7 hX7=>?_
  refine Aw_tx hE [0,3,4,5] [17,25,27,700,701,710,711,712,713,714,720,721,722,723,724] fun K hK=>?_
  simp only [go_sem,seval,List.flatten_cons,List.flatten_nil,List.cons_append,List.nil_append]
  refine ⟨fun h=>?_,fun h cap' hcap'=>?_⟩
  ·obtain ⟨c1,rfl⟩:∃ c1,c=c1 + 1:=⟨c - 1,by omega⟩
   simp only [jN_s,List.set_cons_zero]
   refine hK _ (hN7 _ (hB6 _ ?_))
   refine Aw_tx hE [0,3,4,5] [17,25,27,700,701,710,711,712,713,714,720,721,722,723,724] fun K hK=>?_
   simp only [go_sem,seval]
   repeat refine sd0 ?_
   refine hK _ (hN3 (1,c1) _ (by omega) (by simp only;omega) ?_)
   refine (Le_swb _ 25 710 (by decide) (by decide)).trans ?_
   simp only [St.swb,swbσ,swbm,AV.swb,AV.swbAll,swp,jN_swb,row_swb,Nat.reduceEqDiff,if_true,if_false,reduceIte]
   exact Le_wb (by simp only [go_sem,seval,Nat.add_assoc])
  ·obtain ⟨c1,rfl⟩:∃ c1,cap'=c1 + 1:=⟨cap' - 1,by omega⟩
   rw [Nat.add_sub_cancel]
   refine hK _ (hN7 _ (hB6 _ ?_))
   refine Aw_tx hE [0,3,4,5] [17,25,27,700,701,710,711,712,713,714,720,721,722,723,724] fun K hK=>?_
   simp only [go_sem,seval]
   repeat refine sd0 ?_
   refine hK _ (hN3 (1,c1) _ (by omega) (by simp only;omega) ?_)
   refine (Le_swb _ 25 710 (by decide) (by decide)).trans ?_
   simp only [St.swb,swbσ,swbm,AV.swb,AV.swbAll,swp,jN_swb,row_swb,Nat.reduceEqDiff,if_true,if_false,reduceIte]
   refine (Le_swb _ 27 700 (by decide) (by decide)).trans ?_
   simp only [St.swb,swbσ,swbm,AV.swb,AV.swbAll,swp,jN_swb,row_swb,Nat.reduceEqDiff,if_true,if_false,reduceIte]
   exact Le_wb (by simp only [go_sem,seval,Nat.add_assoc])
 ·refine Aw_st hE [0,3,4,5,20] [17,25,27,700,701,710,711,712,713,714,720,721,722,723,724] fun K hK=>?_
  simp only [go_sem,seval]
  refine hK _ (Aw_yes rfl (Aw_skip (hB4 _ ?_)))
  refine Aw_sq fun B6 hB6 hR6 hX6=>?_
  refine Aw_bk fun B7 hN7 hE7 hR7 hX7=>?_
  refine Aw_tx hE [0,3,4,5] [17,25,27,700,701,710,711,712,713,714,720,721,722,723,724] fun K hK=>?_
  simp only [go_sem,seval,List.flatten_cons,List.flatten_nil,List.cons_append,List.nil_append]
  refine ⟨fun h=>?_,fun h cap' hcap'=>?_⟩
  ·obtain ⟨c1,rfl⟩:∃ c1,c=c1 + 1:=⟨c - 1,by omega⟩
   simp only [jN_s,List.set_cons_zero]
   refine hK _ (hN7 _ (hB6 _ ?_))
   refine Aw_tx hE [0,3,4,5] [17,25,27,700,701,710,711,712,713,714,720,721,722,723,724] fun K hK=>?_
   simp only [go_sem,seval]
   repeat refine sd0 ?_
   refine hK _ (hN3 (2,c1) _ (by omega) (by simp only;omega) ?_)
   refine (Le_swb _ 25 711 (by decide) (by decide)).trans ?_
   simp only [St.swb,swbσ,swbm,AV.swb,AV.swbAll,swp,jN_swb,row_swb,Nat.reduceEqDiff,if_true,if_false,reduceIte]
   exact Le_wb (by simp only [go_sem,seval,Nat.add_assoc])
  ·obtain ⟨c1,rfl⟩:∃ c1,cap'=c1 + 2:=⟨cap' - 2,by omega⟩
   rw [Nat.add_sub_cancel]
   refine hK _ (hN7 _ (hB6 _ ?_))
   refine Aw_tx hE [0,3,4,5] [17,25,27,700,701,710,711,712,713,714,720,721,722,723,724] fun K hK=>?_
   simp only [go_sem,seval]
   repeat refine sd0 ?_
   refine hK _ (hN3 (2,c1) _ (by omega) (by simp only;omega) ?_)
   refine (Le_swb _ 25 711 (by decide) (by decide)).trans ?_
   simp only [St.swb,swbσ,swbm,AV.swb,AV.swbAll,swp,jN_swb,row_swb,Nat.reduceEqDiff,if_true,if_false,reduceIte]
   refine (Le_swb _ 27 700 (by decide) (by decide)).trans ?_
   simp only [St.swb,swbσ,swbm,AV.swb,AV.swbAll,swp,jN_swb,row_swb,Nat.reduceEqDiff,if_true,if_false,reduceIte]
   exact Le_wb (by simp only [go_sem,seval,Nat.add_assoc])
set_option maxHeartbeats 16000000 in
theorem relsA3 {E:En} (hE:TbOk E tbRels) {k:Nat} (hk:k + 40≤1099511627776) {Q:Exit→St→Prop} (hQ:∀ (L:List (List Int)) (rn:Nat),(2≤L.length∧L.length≤5)→(∀ w ∈ L,w.length=L.length)→rn≤k + 40→Aw E .ret ⟨111,[(2,wsl L)],[],rn⟩ Q):Aw E (seqB (seqB (seqB (Tryd.f68.body.getD .skip)))) ⟨111,[(0,.rd),(3,iv 3),(4,.xs 17 0 0 0 1)],[(17,[])],k + 1⟩ Q:=by
 refine Aw_sq fun B1 hB1 hR1 hX1=>?_
 refine Aw_st hE [0,3,4,5] [17,25,27,700,701,710,711,712,713,714,720,721,722,723,724] fun K hK=>?_
 simp only [go_sem,seval]
 refine hK _ ?_;clear hK K
 refine Aw_bk fun B2 hN2 hE2 hR2 hX2=>?_
 refine Aw_lp (fun i:Nat × Nat=>⟨111,[(0,.rd),(3,iv 3),(4,.xs 700 0 i.1 (i.2 + i.1) 1),(5,iv (i.1:Int))],(700,vws 3 (fun _=>0) 710 i.1++jN i.2)::bxs 3 (fun _=>0) (fun _=>List.replicate 3 0) 710 i.1,k + 1⟩) (fun i=>i.1≤3) (fun i=>3 - i.1) (0,0) ?_ (by omega) fun i hi B3 hN3 hR3 hX3=>?_
 ·refine (Le_swb _ 17 700 (by decide) (by decide)).trans ?_
  simp only [St.swb,swbσ,swbm,AV.swb,AV.swbAll,swp,jN_swb,row_swb,Nat.reduceEqDiff,if_true,if_false,reduceIte]
  exact Le_wa
 obtain ⟨i,c⟩:=i
 simp only at hi
 refine Aw_sq fun B4 hB4 hR4 hX4=>?_
 rcases (show i=3∨i=0∨i=1∨i=2 by omega) with rfl | rfl | rfl | rfl
 ·refine Aw_st hE [0,3,4,5,20] [17,25,27,700,701,710,711,712,713,714,720,721,722,723,724] fun K hK=>?_
  simp only [go_sem,seval]
  refine hK _ (Aw_no rfl (Aw_exit (hX4 _ _ (hX3 _ _ (hE2 _ (hB1 _ ?_))))))
  refine Aw.leE (LeE_of (show Le _ ⟨111,[(0,.rd),(3,iv 3),(4,.xs 700 0 3 (c + 3) 1)],(700,vws 3 (fun _=>0) 710 3++jN c)::bxs 3 (fun _=>0) (fun _=>List.replicate 3 0) 710 3,k + 1⟩ from Le_wa)) (relsB3 hE hk hQ (fun _=>rfl))
 ·refine Aw_st hE [0,3,4,5,20] [17,25,27,700,701,710,711,712,713,714,720,721,722,723,724] fun K hK=>?_
  simp only [go_sem,seval]
  refine hK _ (Aw_yes rfl (Aw_skip (hB4 _ ?_)))
  refine Aw_sq fun B6 hB6 hR6 hX6=>?_
  refine Aw_bk fun B7 hN7 hE7 hR7 hX7=>?_
  refine Aw_tx hE [0,3,4,5] [17,25,27,700,701,710,711,712,713,714,720,721,722,723,724] fun K hK=>?_
  simp only [go_sem,seval,List.flatten_cons,List.flatten_nil,List.cons_append,List.nil_append]
  refine ⟨fun h=>?_,fun h cap' hcap'=>?_⟩
  ·obtain ⟨c1,rfl⟩:∃ c1,c=c1 + 1:=⟨c - 1,by omega⟩
   simp only [jN_s,List.set_cons_zero]
   refine hK _ (hN7 _ (hB6 _ ?_))
   refine Aw_tx hE [0,3,4,5] [17,25,27,700,701,710,711,712,713,714,720,721,722,723,724] fun K hK=>?_
   simp only [go_sem,seval]
   repeat refine sd0 ?_
   refine hK _ (hN3 (1,c1) _ (by omega) (by simp only;omega) ?_)
   refine (Le_swb _ 25 710 (by decide) (by decide)).trans ?_
   simp only [St.swb,swbσ,swbm,AV.swb,AV.swbAll,swp,jN_swb,row_swb,Nat.reduceEqDiff,if_true,if_false,reduceIte]
   exact Le_wb (by simp only [go_sem,seval,Nat.add_assoc])
  ·obtain ⟨c1,rfl⟩:∃ c1,cap'=c1 + 1:=⟨cap' - 1,by omega⟩
   rw [Nat.add_sub_cancel]
   refine hK _ (hN7 _ (hB6 _ ?_))
   refine Aw_tx hE [0,3,4,5] [17,25,27,700,701,710,711,712,713,714,720,721,722,723,724] fun K hK=>?_
   simp only [go_sem,seval]
   repeat refine sd0 ?_
   refine hK _ (hN3 (1,c1) _ (by omega) (by simp only;omega) ?_)
   refine (Le_swb _ 25 710 (by decide) (by decide)).trans ?_
   simp only [St.swb,swbσ,swbm,AV.swb,AV.swbAll,swp,jN_swb,row_swb,Nat.reduceEqDiff,if_true,if_false,reduceIte]
   refine (Le_swb _ 27 700 (by decide) (by decide)).trans ?_
   simp only [St.swb,swbσ,swbm,AV.swb,AV.swbAll,swp,jN_swb,row_swb,Nat.reduceEqDiff,if_true,if_false,reduceIte]
   exact Le_wb (by simp only [go_sem,seval,Nat.add_assoc])
 ·refine Aw_st hE [0,3,4,5,20] [17,25,27,700,701,710,711,712,713,714,720,721,722,723,724] fun K hK=>?_
  simp only [go_sem,seval]
  refine hK _ (Aw_yes rfl (Aw_skip (hB4 _ ?_)))
  refine Aw_sq fun B6 hB6 hR6 hX6=>?_
  refine Aw_bk fun B7 hN7 hE7 hR7 hX7=>?_
  refine Aw_tx hE [0,3,4,5] [17,25,27,700,701,710,711,712,713,714,720,721,722,723,724] fun K hK=>?_
  simp only [go_sem,seval,List.flatten_cons,List.flatten_nil,List.cons_append,List.nil_append]
  refine ⟨fun h=>?_,fun h cap' hcap'=>?_⟩
  ·obtain ⟨c1,rfl⟩:∃ c1,c=c1 + 1:=⟨c - 1,by omega⟩
   simp only [jN_s,List.set_cons_zero]
   refine hK _ (hN7 _ (hB6 _ ?_))
   refine Aw_tx hE [0,3,4,5] [17,25,27,700,701,710,711,712,713,714,720,721,722,723,724] fun K hK=>?_
   simp only [go_sem,seval]
   repeat refine sd0 ?_
   refine hK _ (hN3 (2,c1) _ (by omega) (by simp only;omega) ?_)
   refine (Le_swb _ 25 711 (by decide) (by decide)).trans ?_
   simp only [St.swb,swbσ,swbm,AV.swb,AV.swbAll,swp,jN_swb,row_swb,Nat.reduceEqDiff,if_true,if_false,reduceIte]
   exact Le_wb (by simp only [go_sem,seval,Nat.add_assoc])
  ·obtain ⟨c1,rfl⟩:∃ c1,cap'=c1 + 2:=⟨cap' - 2,by omega⟩
   rw [Nat.add_sub_cancel]
   refine hK _ (hN7 _ (hB6 _ ?_))
   refine Aw_tx hE [0,3,4,5] [17,25,27,700,701,710,711,712,713,714,720,721,722,723,724] fun K hK=>?_
   simp only [go_sem,seval]
   repeat refine sd0 ?_
   refine hK _ (hN3 (2,c1) _ (by omega) (by simp only;omega) ?_)
   refine (Le_swb _ 25 711 (by decide) (by decide)).trans ?_
   simp only [St.swb,swbσ,swbm,AV.swb,AV.swbAll,swp,jN_swb,row_swb,Nat.reduceEqDiff,if_true,if_false,reduceIte]
   refine (Le_swb _ 27 700 (by decide) (by decide)).trans ?_
   simp only [St.swb,swbσ,swbm,AV.swb,AV.swbAll,swp,jN_swb,row_swb,Nat.reduceEqDiff,if_true,if_false,reduceIte]
   exact Le_wb (by simp only [go_sem,seval,Nat.add_assoc])
 ·refine Aw_st hE [0,3,4,5,20] [17,25,27,700,701,710,711,712,713,714,720,721,722,723,724] fun K hK=>?_
  simp only [go_sem,seval]
  refine hK _ (Aw_yes rfl (Aw_skip (hB4 _ ?_)))
  refine Aw_sq fun B6 hB6 hR6 hX6=>?_
  refine Aw_bk fun B7 hN7 hE7 hR7 hX7=>?_
  refine Aw_tx hE [0,3,4,5] [17,25,27,700,701,710,711,712,713,714,720,721,722,723,724] fun K hK=>?_
  simp only [go_sem,seval,List.flatten_cons,List.flatten_nil,List.cons_append,List.nil_append]
  refine ⟨fun h=>?_,fun h cap' hcap'=>?_⟩
  ·obtain ⟨c1,rfl⟩:∃ c1,c=c1 + 1:=⟨c - 1,by omega⟩
   simp only [jN_s,List.set_cons_zero]
   refine hK _ (hN7 _ (hB6 _ ?_))
   refine Aw_tx hE [0,3,4,5] [17,25,27,700,701,710,711,712,713,714,720,721,722,723,724] fun K hK=>?_
   simp only [go_sem,seval]
   repeat refine sd0 ?_
   refine hK _ (hN3 (3,c1) _ (by omega) (by simp only;omega) ?_)
   refine (Le_swb _ 25 712 (by decide) (by decide)).trans ?_
   simp only [St.swb,swbσ,swbm,AV.swb,AV.swbAll,swp,jN_swb,row_swb,Nat.reduceEqDiff,if_true,if_false,reduceIte]
   exact Le_wb (by simp only [go_sem,seval,Nat.add_assoc])
  ·obtain ⟨c1,rfl⟩:∃ c1,cap'=c1 + 3:=⟨cap' - 3,by omega⟩
   rw [Nat.add_sub_cancel]
   refine hK _ (hN7 _ (hB6 _ ?_))
   refine Aw_tx hE [0,3,4,5] [17,25,27,700,701,710,711,712,713,714,720,721,722,723,724] fun K hK=>?_
   simp only [go_sem,seval]
   repeat refine sd0 ?_
   refine hK _ (hN3 (3,c1) _ (by omega) (by simp only;omega) ?_)
   refine (Le_swb _ 25 712 (by decide) (by decide)).trans ?_
   simp only [St.swb,swbσ,swbm,AV.swb,AV.swbAll,swp,jN_swb,row_swb,Nat.reduceEqDiff,if_true,if_false,reduceIte]
   refine (Le_swb _ 27 700 (by decide) (by decide)).trans ?_
   simp only [St.swb,swbσ,swbm,AV.swb,AV.swbAll,swp,jN_swb,row_swb,Nat.reduceEqDiff,if_true,if_false,reduceIte]
   exact Le_wb (by simp only [go_sem,seval,Nat.add_assoc])
set_option maxHeartbeats 16000000 in
theorem relsA4 {E:En} (hE:TbOk E tbRels) {k:Nat} (hk:k + 40≤1099511627776) {Q:Exit→St→Prop} (hQ:∀ (L:List (List Int)) (rn:Nat),(2≤L.length∧L.length≤5)→(∀ w ∈ L,w.length=L.length)→rn≤k + 40→Aw E .ret ⟨111,[(2,wsl L)],[],rn⟩ Q):Aw E (seqB (seqB (seqB (Tryd.f68.body.getD .skip)))) ⟨111,[(0,.rd),(3,iv 4),(4,.xs 17 0 0 0 1)],[(17,[])],k + 1⟩ Q:=by
 refine Aw_sq fun B1 hB1 hR1 hX1=>?_
 refine Aw_st hE [0,3,4,5] [17,25,27,700,701,710,711,712,713,714,720,721,722,723,724] fun K hK=>?_
 simp only [go_sem,seval]
 refine hK _ ?_;clear hK K
 refine Aw_bk fun B2 hN2 hE2 hR2 hX2=>?_
 refine Aw_lp (fun i:Nat × Nat=>⟨111,[(0,.rd),(3,iv 4),(4,.xs 700 0 i.1 (i.2 + i.1) 1),(5,iv (i.1:Int))],(700,vws 4 (fun _=>0) 710 i.1++jN i.2)::bxs 4 (fun _=>0) (fun _=>List.replicate 4 0) 710 i.1,k + 1⟩) (fun i=>i.1≤4) (fun i=>4 - i.1) (0,0) ?_ (by omega) fun i hi B3 hN3 hR3 hX3=>?_
 ·refine (Le_swb _ 17 700 (by decide) (by decide)).trans ?_
  simp only [St.swb,swbσ,swbm,AV.swb,AV.swbAll,swp,jN_swb,row_swb,Nat.reduceEqDiff,if_true,if_false,reduceIte]
  exact Le_wa
 obtain ⟨i,c⟩:=i
 simp only at hi
 refine Aw_sq fun B4 hB4 hR4 hX4=>?_
 rcases (show i=4∨i=0∨i=1∨i=2∨i=3 by omega) with rfl | rfl | rfl | rfl | rfl
 ·refine Aw_st hE [0,3,4,5,20] [17,25,27,700,701,710,711,712,713,714,720,721,722,723,724] fun K hK=>?_
  simp only [go_sem,seval]
  refine hK _ (Aw_no rfl (Aw_exit (hX4 _ _ (hX3 _ _ (hE2 _ (hB1 _ ?_))))))
  refine Aw.leE (LeE_of (show Le _ ⟨111,[(0,.rd),(3,iv 4),(4,.xs 700 0 4 (c + 4) 1)],(700,vws 4 (fun _=>0) 710 4++jN c)::bxs 4 (fun _=>0) (fun _=>List.replicate 4 0) 710 4,k + 1⟩ from Le_wa)) (relsB4 hE hk hQ (fun _=>rfl))
 ·refine Aw_st hE [0,3,4,5,20] [17,25,27,700,701,710,711,712,713,714,720,721,722,723,724] fun K hK=>?_
  simp only [go_sem,seval]
  refine hK _ (Aw_yes rfl (Aw_skip (hB4 _ ?_)))
  refine Aw_sq fun B6 hB6 hR6 hX6=>?_
  refine Aw_bk fun B7 hN7 hE7 hR7 hX7=>?_
  refine Aw_tx hE [0,3,4,5] [17,25,27,700,701,710,711,712,713,714,720,721,722,723,724] fun K hK=>?_
  simp only [go_sem,seval,List.flatten_cons,List.flatten_nil,List.cons_append,List.nil_append]
  refine ⟨fun h=>?_,fun h cap' hcap'=>?_⟩
  ·obtain ⟨c1,rfl⟩:∃ c1,c=c1 + 1:=⟨c - 1,by omega⟩
   simp only [jN_s,List.set_cons_zero]
   refine hK _ (hN7 _ (hB6 _ ?_))
   refine Aw_tx hE [0,3,4,5] [17,25,27,700,701,710,711,712,713,714,720,721,722,723,724] fun K hK=>?_
   simp only [go_sem,seval]
   repeat refine sd0 ?_
   refine hK _ (hN3 (1,c1) _ (by omega) (by simp only;omega) ?_)
   refine (Le_swb _ 25 710 (by decide) (by decide)).trans ?_
   simp only [St.swb,swbσ,swbm,AV.swb,AV.swbAll,swp,jN_swb,row_swb,Nat.reduceEqDiff,if_true,if_false,reduceIte]
   exact Le_wb (by simp only [go_sem,seval,Nat.add_assoc])
  ·obtain ⟨c1,rfl⟩:∃ c1,cap'=c1 + 1:=⟨cap' - 1,by omega⟩
   rw [Nat.add_sub_cancel]
   refine hK _ (hN7 _ (hB6 _ ?_))
   refine Aw_tx hE [0,3,4,5] [17,25,27,700,701,710,711,712,713,714,720,721,722,723,724] fun K hK=>?_
   simp only [go_sem,seval]
   repeat refine sd0 ?_
   refine hK _ (hN3 (1,c1) _ (by omega) (by simp only;omega) ?_)
   refine (Le_swb _ 25 710 (by decide) (by decide)).trans ?_
   simp only [St.swb,swbσ,swbm,AV.swb,AV.swbAll,swp,jN_swb,row_swb,Nat.reduceEqDiff,if_true,if_false,reduceIte]
   refine (Le_swb _ 27 700 (by decide) (by decide)).trans ?_
   simp only [St.swb,swbσ,swbm,AV.swb,AV.swbAll,swp,jN_swb,row_swb,Nat.reduceEqDiff,if_true,if_false,reduceIte]
   exact Le_wb (by simp only [go_sem,seval,Nat.add_assoc])
 ·refine Aw_st hE [0,3,4,5,20] [17,25,27,700,701,710,711,712,713,714,720,721,722,723,724] fun K hK=>?_
  simp only [go_sem,seval]
  refine hK _ (Aw_yes rfl (Aw_skip (hB4 _ ?_)))
  refine Aw_sq fun B6 hB6 hR6 hX6=>?_
  refine Aw_bk fun B7 hN7 hE7 hR7 hX7=>?_
  refine Aw_tx hE [0,3,4,5] [17,25,27,700,701,710,711,712,713,714,720,721,722,723,724] fun K hK=>?_
  simp only [go_sem,seval,List.flatten_cons,List.flatten_nil,List.cons_append,List.nil_append]
  refine ⟨fun h=>?_,fun h cap' hcap'=>?_⟩
  ·obtain ⟨c1,rfl⟩:∃ c1,c=c1 + 1:=⟨c - 1,by omega⟩
   simp only [jN_s,List.set_cons_zero]
   refine hK _ (hN7 _ (hB6 _ ?_))
   refine Aw_tx hE [0,3,4,5] [17,25,27,700,701,710,711,712,713,714,720,721,722,723,724] fun K hK=>?_
   simp only [go_sem,seval]
   repeat refine sd0 ?_
   refine hK _ (hN3 (2,c1) _ (by omega) (by simp only;omega) ?_)
   refine (Le_swb _ 25 711 (by decide) (by decide)).trans ?_
   simp only [St.swb,swbσ,swbm,AV.swb,AV.swbAll,swp,jN_swb,row_swb,Nat.reduceEqDiff,if_true,if_false,reduceIte]
   exact Le_wb (by simp only [go_sem,seval,Nat.add_assoc])
  ·obtain ⟨c1,rfl⟩:∃ c1,cap'=c1 + 2:=⟨cap' - 2,by omega⟩
   rw [Nat.add_sub_cancel]
   refine hK _ (hN7 _ (hB6 _ ?_))
   refine Aw_tx hE [0,3,4,5] [17,25,27,700,701,710,711,712,713,714,720,721,722,723,724] fun K hK=>?_
   simp only [go_sem,seval]
   repeat refine sd0 ?_
   refine hK _ (hN3 (2,c1) _ (by omega) (by simp only;omega) ?_)
   refine (Le_swb _ 25 711 (by decide) (by decide)).trans ?_
   simp only [St.swb,swbσ,swbm,AV.swb,AV.swbAll,swp,jN_swb,row_swb,Nat.reduceEqDiff,if_true,if_false,reduceIte]
   refine (Le_swb _ 27 700 (by decide) (by decide)).trans ?_
   simp only [St.swb,swbσ,swbm,AV.swb,AV.swbAll,swp,jN_swb,row_swb,Nat.reduceEqDiff,if_true,if_false,reduceIte]
   exact Le_wb (by simp only [go_sem,seval,Nat.add_assoc])
 ·refine Aw_st hE [0,3,4,5,20] [17,25,27,700,701,710,711,712,713,714,720,721,722,723,724] fun K hK=>?_
  simp only [go_sem,seval]
  refine hK _ (Aw_yes rfl (Aw_skip (hB4 _ ?_)))
  refine Aw_sq fun B6 hB6 hR6 hX6=>?_
  refine Aw_bk fun B7 hN7 hE7 hR7 hX7=>?_
  refine Aw_tx hE [0,3,4,5] [17,25,27,700,701,710,711,712,713,714,720,721,722,723,724] fun K hK=>?_
  simp only [go_sem,seval,List.flatten_cons,List.flatten_nil,List.cons_append,List.nil_append]
  refine ⟨fun h=>?_,fun h cap' hcap'=>?_⟩
  ·obtain ⟨c1,rfl⟩:∃ c1,c=c1 + 1:=⟨c - 1,by omega⟩
   simp only [jN_s,List.set_cons_zero]
   refine hK _ (hN7 _ (hB6 _ ?_))
   refine Aw_tx hE [0,3,4,5] [17,25,27,700,701,710,711,712,713,714,720,721,722,723,724] fun K hK=>?_
   simp only [go_sem,seval]
   repeat refine sd0 ?_
   refine hK _ (hN3 (3,c1) _ (by omega) (by simp only;omega) ?_)
   refine (Le_swb _ 25 712 (by decide) (by decide)).trans ?_
   simp only [St.swb,swbσ,swbm,AV.swb,AV.swbAll,swp,jN_swb,row_swb,Nat.reduceEqDiff,if_true,if_false,reduceIte]
   exact Le_wb (by simp only [go_sem,seval,Nat.add_assoc])
  ·obtain ⟨c1,rfl⟩:∃ c1,cap'=c1 + 3:=⟨cap' - 3,by omega⟩
   rw [Nat.add_sub_cancel]
   refine hK _ (hN7 _ (hB6 _ ?_))
   refine Aw_tx hE [0,3,4,5] [17,25,27,700,701,710,711,712,713,714,720,721,722,723,724] fun K hK=>?_
   simp only [go_sem,seval]
   repeat refine sd0 ?_
   refine hK _ (hN3 (3,c1) _ (by omega) (by simp only;omega) ?_)
   refine (Le_swb _ 25 712 (by decide) (by decide)).trans ?_
   simp only [St.swb,swbσ,swbm,AV.swb,AV.swbAll,swp,jN_swb,row_swb,Nat.reduceEqDiff,if_true,if_false,reduceIte]
   refine (Le_swb _ 27 700 (by decide) (by decide)).trans ?_
   simp only [St.swb,swbσ,swbm,AV.swb,AV.swbAll,swp,jN_swb,row_swb,Nat.reduceEqDiff,if_true,if_false,reduceIte]
   exact Le_wb (by simp only [go_sem,seval,Nat.add_assoc])
 ·refine Aw_st hE [0,3,4,5,20] [17,25,27,700,701,710,711,712,713,714,720,721,722,723,724] fun K hK=>?_
  simp only [go_sem,seval]
  refine hK _ (Aw_yes rfl (Aw_skip (hB4 _ ?_)))
  refine Aw_sq fun B6 hB6 hR6 hX6=>?_
  refine Aw_bk fun B7 hN7 hE7 hR7 hX7=>?_
  refine Aw_tx hE [0,3,4,5] [17,25,27,700,701,710,711,712,713,714,720,721,722,723,724] fun K hK=>?_
  simp only [go_sem,seval,List.flatten_cons,List.flatten_nil,List.cons_append,List.nil_append]
  refine ⟨fun h=>?_,fun h cap' hcap'=>?_⟩
  ·obtain ⟨c1,rfl⟩:∃ c1,c=c1 + 1:=⟨c - 1,by omega⟩
   simp only [jN_s,List.set_cons_zero]
   refine hK _ (hN7 _ (hB6 _ ?_))
   refine Aw_tx hE [0,3,4,5] [17,25,27,700,701,710,711,712,713,714,720,721,722,723,724] fun K hK=>?_
   simp only [go_sem,seval]
   repeat refine sd0 ?_
   refine hK _ (hN3 (4,c1) _ (by omega) (by simp only;omega) ?_)
   refine (Le_swb _ 25 713 (by decide) (by decide)).trans ?_
   simp only [St.swb,swbσ,swbm,AV.swb,AV.swbAll,swp,jN_swb,row_swb,Nat.reduceEqDiff,if_true,if_false,reduceIte]
   exact Le_wb (by simp only [go_sem,seval,Nat.add_assoc])
  ·obtain ⟨c1,rfl⟩:∃ c1,cap'=c1 + 4:=⟨cap' - 4,by omega⟩
   rw [Nat.add_sub_cancel]
   refine hK _ (hN7 _ (hB6 _ ?_))
   refine Aw_tx hE [0,3,4,5] [17,25,27,700,701,710,711,712,713,714,720,721,722,723,724] fun K hK=>?_
   simp only [go_sem,seval]
   repeat refine sd0 ?_
   refine hK _ (hN3 (4,c1) _ (by omega) (by simp only;omega) ?_)
   refine (Le_swb _ 25 713 (by decide) (by decide)).trans ?_
   simp only [St.swb,swbσ,swbm,AV.swb,AV.swbAll,swp,jN_swb,row_swb,Nat.reduceEqDiff,if_true,if_false,reduceIte]
   refine (Le_swb _ 27 700 (by decide) (by decide)).trans ?_
   simp only [St.swb,swbσ,swbm,AV.swb,AV.swbAll,swp,jN_swb,row_swb,Nat.reduceEqDiff,if_true,if_false,reduceIte]
   exact Le_wb (by simp only [go_sem,seval,Nat.add_assoc])
set_option maxHeartbeats 16000000 in
theorem relsA5 {E:En} (hE:TbOk E tbRels) {k:Nat} (hk:k + 40≤1099511627776) {Q:Exit→St→Prop} (hQ:∀ (L:List (List Int)) (rn:Nat),(2≤L.length∧L.length≤5)→(∀ w ∈ L,w.length=L.length)→rn≤k + 40→Aw E .ret ⟨111,[(2,wsl L)],[],rn⟩ Q):Aw E (seqB (seqB (seqB (Tryd.f68.body.getD .skip)))) ⟨111,[(0,.rd),(3,iv 5),(4,.xs 17 0 0 0 1)],[(17,[])],k + 1⟩ Q:=by
 refine Aw_sq fun B1 hB1 hR1 hX1=>?_
 refine Aw_st hE [0,3,4,5] [17,25,27,700,701,710,711,712,713,714,720,721,722,723,724] fun K hK=>?_
 simp only [go_sem,seval]
 refine hK _ ?_;clear hK K
 refine Aw_bk fun B2 hN2 hE2 hR2 hX2=>?_
 refine Aw_lp (fun i:Nat × Nat=>⟨111,[(0,.rd),(3,iv 5),(4,.xs 700 0 i.1 (i.2 + i.1) 1),(5,iv (i.1:Int))],(700,vws 5 (fun _=>0) 710 i.1++jN i.2)::bxs 5 (fun _=>0) (fun _=>List.replicate 5 0) 710 i.1,k + 1⟩) (fun i=>i.1≤5) (fun i=>5 - i.1) (0,0) ?_ (by omega) fun i hi B3 hN3 hR3 hX3=>?_
 ·refine (Le_swb _ 17 700 (by decide) (by decide)).trans ?_
  simp only [St.swb,swbσ,swbm,AV.swb,AV.swbAll,swp,jN_swb,row_swb,Nat.reduceEqDiff,if_true,if_false,reduceIte]
  exact Le_wa
 obtain ⟨i,c⟩:=i
 simp only at hi
 refine Aw_sq fun B4 hB4 hR4 hX4=>?_
 rcases (show i=5∨i=0∨i=1∨i=2∨i=3∨i=4 by omega) with rfl | rfl | rfl | rfl | rfl | rfl
 ·refine Aw_st hE [0,3,4,5,20] [17,25,27,700,701,710,711,712,713,714,720,721,722,723,724] fun K hK=>?_
  simp only [go_sem,seval]
  refine hK _ (Aw_no rfl (Aw_exit (hX4 _ _ (hX3 _ _ (hE2 _ (hB1 _ ?_))))))
  refine Aw.leE (LeE_of (show Le _ ⟨111,[(0,.rd),(3,iv 5),(4,.xs 700 0 5 (c + 5) 1)],(700,vws 5 (fun _=>0) 710 5++jN c)::bxs 5 (fun _=>0) (fun _=>List.replicate 5 0) 710 5,k + 1⟩ from Le_wa)) (relsB5 hE hk hQ (fun _=>rfl))
 ·refine Aw_st hE [0,3,4,5,20] [17,25,27,700,701,710,711,712,713,714,720,721,722,723,724] fun K hK=>?_
  simp only [go_sem,seval]
  refine hK _ (Aw_yes rfl (Aw_skip (hB4 _ ?_)))
  refine Aw_sq fun B6 hB6 hR6 hX6=>?_
  refine Aw_bk fun B7 hN7 hE7 hR7 hX7=>?_
  refine Aw_tx hE [0,3,4,5] [17,25,27,700,701,710,711,712,713,714,720,721,722,723,724] fun K hK=>?_
  simp only [go_sem,seval,List.flatten_cons,List.flatten_nil,List.cons_append,List.nil_append]
  refine ⟨fun h=>?_,fun h cap' hcap'=>?_⟩
  ·obtain ⟨c1,rfl⟩:∃ c1,c=c1 + 1:=⟨c - 1,by omega⟩
   simp only [jN_s,List.set_cons_zero]
   refine hK _ (hN7 _ (hB6 _ ?_))
   refine Aw_tx hE [0,3,4,5] [17,25,27,700,701,710,711,712,713,714,720,721,722,723,724] fun K hK=>?_
   simp only [go_sem,seval]
   repeat refine sd0 ?_
   refine hK _ (hN3 (1,c1) _ (by omega) (by simp only;omega) ?_)
   refine (Le_swb _ 25 710 (by decide) (by decide)).trans ?_
   simp only [St.swb,swbσ,swbm,AV.swb,AV.swbAll,swp,jN_swb,row_swb,Nat.reduceEqDiff,if_true,if_false,reduceIte]
   exact Le_wb (by simp only [go_sem,seval,Nat.add_assoc])
  ·obtain ⟨c1,rfl⟩:∃ c1,cap'=c1 + 1:=⟨cap' - 1,by omega⟩
   rw [Nat.add_sub_cancel]
   refine hK _ (hN7 _ (hB6 _ ?_))
   refine Aw_tx hE [0,3,4,5] [17,25,27,700,701,710,711,712,713,714,720,721,722,723,724] fun K hK=>?_
   simp only [go_sem,seval]
   repeat refine sd0 ?_
   refine hK _ (hN3 (1,c1) _ (by omega) (by simp only;omega) ?_)
   refine (Le_swb _ 25 710 (by decide) (by decide)).trans ?_
   simp only [St.swb,swbσ,swbm,AV.swb,AV.swbAll,swp,jN_swb,row_swb,Nat.reduceEqDiff,if_true,if_false,reduceIte]
   refine (Le_swb _ 27 700 (by decide) (by decide)).trans ?_
   simp only [St.swb,swbσ,swbm,AV.swb,AV.swbAll,swp,jN_swb,row_swb,Nat.reduceEqDiff,if_true,if_false,reduceIte]
   exact Le_wb (by simp only [go_sem,seval,Nat.add_assoc])
 ·refine Aw_st hE [0,3,4,5,20] [17,25,27,700,701,710,711,712,713,714,720,721,722,723,724] fun K hK=>?_
  simp only [go_sem,seval]
  refine hK _ (Aw_yes rfl (Aw_skip (hB4 _ ?_)))
  refine Aw_sq fun B6 hB6 hR6 hX6=>?_
  refine Aw_bk fun B7 hN7 hE7 hR7 hX7=>?_
  refine Aw_tx hE [0,3,4,5] [17,25,27,700,701,710,711,712,713,714,720,721,722,723,724] fun K hK=>?_
  simp only [go_sem,seval,List.flatten_cons,List.flatten_nil,List.cons_append,List.nil_append]
  refine ⟨fun h=>?_,fun h cap' hcap'=>?_⟩
  ·obtain ⟨c1,rfl⟩:∃ c1,c=c1 + 1:=⟨c - 1,by omega⟩
   simp only [jN_s,List.set_cons_zero]
   refine hK _ (hN7 _ (hB6 _ ?_))
   refine Aw_tx hE [0,3,4,5] [17,25,27,700,701,710,711,712,713,714,720,721,722,723,724] fun K hK=>?_
   simp only [go_sem,seval]
   repeat refine sd0 ?_
   refine hK _ (hN3 (2,c1) _ (by omega) (by simp only;omega) ?_)
   refine (Le_swb _ 25 711 (by decide) (by decide)).trans ?_
   simp only [St.swb,swbσ,swbm,AV.swb,AV.swbAll,swp,jN_swb,row_swb,Nat.reduceEqDiff,if_true,if_false,reduceIte]
   exact Le_wb (by simp only [go_sem,seval,Nat.add_assoc])
  ·obtain ⟨c1,rfl⟩:∃ c1,cap'=c1 + 2:=⟨cap' - 2,by omega⟩
   rw [Nat.add_sub_cancel]
   refine hK _ (hN7 _ (hB6 _ ?_))
   refine Aw_tx hE [0,3,4,5] [17,25,27,700,701,710,711,712,713,714,720,721,722,723,724] fun K hK=>?_
   simp only [go_sem,seval]
   repeat refine sd0 ?_
   refine hK _ (hN3 (2,c1) _ (by omega) (by simp only;omega) ?_)
   refine (Le_swb _ 25 711 (by decide) (by decide)).trans ?_
   simp only [St.swb,swbσ,swbm,AV.swb,AV.swbAll,swp,jN_swb,row_swb,Nat.reduceEqDiff,if_true,if_false,reduceIte]
   refine (Le_swb _ 27 700 (by decide) (by decide)).trans ?_
   simp only [St.swb,swbσ,swbm,AV.swb,AV.swbAll,swp,jN_swb,row_swb,Nat.reduceEqDiff,if_true,if_false,reduceIte]
   exact Le_wb (by simp only [go_sem,seval,Nat.add_assoc])
 ·refine Aw_st hE [0,3,4,5,20] [17,25,27,700,701,710,711,712,713,714,720,721,722,723,724] fun K hK=>?_
  simp only [go_sem,seval]
  refine hK _ (Aw_yes rfl (Aw_skip (hB4 _ ?_)))
  refine Aw_sq fun B6 hB6 hR6 hX6=>?_
  refine Aw_bk fun B7 hN7 hE7 hR7 hX7=>?_
  refine Aw_tx hE [0,3,4,5] [17,25,27,700,701,710,711,712,713,714,720,721,722,723,724] fun K hK=>?_
  simp only [go_sem,seval,List.flatten_cons,List.flatten_nil,List.cons_append,List.nil_append]
  refine ⟨fun h=>?_,fun h cap' hcap'=>?_⟩
  ·obtain ⟨c1,rfl⟩:∃ c1,c=c1 + 1:=⟨c - 1,by omega⟩
   simp only [jN_s,List.set_cons_zero]
   refine hK _ (hN7 _ (hB6 _ ?_))
   refine Aw_tx hE [0,3,4,5] [17,25,27,700,701,710,711,712,713,714,720,721,722,723,724] fun K hK=>?_
   simp only [go_sem,seval]
   repeat refine sd0 ?_
   refine hK _ (hN3 (3,c1) _ (by omega) (by simp only;omega) ?_)
   refine (Le_swb _ 25 712 (by decide) (by decide)).trans ?_
   simp only [St.swb,swbσ,swbm,AV.swb,AV.swbAll,swp,jN_swb,row_swb,Nat.reduceEqDiff,if_true,if_false,reduceIte]
   exact Le_wb (by simp only [go_sem,seval,Nat.add_assoc])
  ·obtain ⟨c1,rfl⟩:∃ c1,cap'=c1 + 3:=⟨cap' - 3,by omega⟩
   rw [Nat.add_sub_cancel]
   refine hK _ (hN7 _ (hB6 _ ?_))
   refine Aw_tx hE [0,3,4,5] [17,25,27,700,701,710,711,712,713,714,720,721,722,723,724] fun K hK=>?_
   simp only [go_sem,seval]
   repeat refine sd0 ?_
   refine hK _ (hN3 (3,c1) _ (by omega) (by simp only;omega) ?_)
   refine (Le_swb _ 25 712 (by decide) (by decide)).trans ?_
   simp only [St.swb,swbσ,swbm,AV.swb,AV.swbAll,swp,jN_swb,row_swb,Nat.reduceEqDiff,if_true,if_false,reduceIte]
   refine (Le_swb _ 27 700 (by decide) (by decide)).trans ?_
   simp only [St.swb,swbσ,swbm,AV.swb,AV.swbAll,swp,jN_swb,row_swb,Nat.reduceEqDiff,if_true,if_false,reduceIte]
   exact Le_wb (by simp only [go_sem,seval,Nat.add_assoc])
 ·refine Aw_st hE [0,3,4,5,20] [17,25,27,700,701,710,711,712,713,714,720,721,722,723,724] fun K hK=>?_
  simp only [go_sem,seval]
  refine hK _ (Aw_yes rfl (Aw_skip (hB4 _ ?_)))
  refine Aw_sq fun B6 hB6 hR6 hX6=>?_
  refine Aw_bk fun B7 hN7 hE7 hR7 hX7=>?_
  refine Aw_tx hE [0,3,4,5] [17,25,27,700,701,710,711,712,713,714,720,721,722,723,724] fun K hK=>?_
  simp only [go_sem,seval,List.flatten_cons,List.flatten_nil,List.cons_append,List.nil_append]
  refine ⟨fun h=>?_,fun h cap' hcap'=>?_⟩
  ·obtain ⟨c1,rfl⟩:∃ c1,c=c1 + 1:=⟨c - 1,by omega⟩
   simp only [jN_s,List.set_cons_zero]
   refine hK _ (hN7 _ (hB6 _ ?_))
   refine Aw_tx hE [0,3,4,5] [17,25,27,700,701,710,711,712,713,714,720,721,722,723,724] fun K hK=>?_
   simp only [go_sem,seval]
   repeat refine sd0 ?_
   refine hK _ (hN3 (4,c1) _ (by omega) (by simp only;omega) ?_)
   refine (Le_swb _ 25 713 (by decide) (by decide)).trans ?_
   simp only [St.swb,swbσ,swbm,AV.swb,AV.swbAll,swp,jN_swb,row_swb,Nat.reduceEqDiff,if_true,if_false,reduceIte]
   exact Le_wb (by simp only [go_sem,seval,Nat.add_assoc])
  ·obtain ⟨c1,rfl⟩:∃ c1,cap'=c1 + 4:=⟨cap' - 4,by omega⟩
   rw [Nat.add_sub_cancel]
   refine hK _ (hN7 _ (hB6 _ ?_))
   refine Aw_tx hE [0,3,4,5] [17,25,27,700,701,710,711,712,713,714,720,721,722,723,724] fun K hK=>?_
   simp only [go_sem,seval]
   repeat refine sd0 ?_
   refine hK _ (hN3 (4,c1) _ (by omega) (by simp only;omega) ?_)
   refine (Le_swb _ 25 713 (by decide) (by decide)).trans ?_
   simp only [St.swb,swbσ,swbm,AV.swb,AV.swbAll,swp,jN_swb,row_swb,Nat.reduceEqDiff,if_true,if_false,reduceIte]
   refine (Le_swb _ 27 700 (by decide) (by decide)).trans ?_
   simp only [St.swb,swbσ,swbm,AV.swb,AV.swbAll,swp,jN_swb,row_swb,Nat.reduceEqDiff,if_true,if_false,reduceIte]
   exact Le_wb (by simp only [go_sem,seval,Nat.add_assoc])
 ·refine Aw_st hE [0,3,4,5,20] [17,25,27,700,701,710,711,712,713,714,720,721,722,723,724] fun K hK=>?_
  simp only [go_sem,seval]
  refine hK _ (Aw_yes rfl (Aw_skip (hB4 _ ?_)))
  refine Aw_sq fun B6 hB6 hR6 hX6=>?_
  refine Aw_bk fun B7 hN7 hE7 hR7 hX7=>?_
  refine Aw_tx hE [0,3,4,5] [17,25,27,700,701,710,711,712,713,714,720,721,722,723,724] fun K hK=>?_
  simp only [go_sem,seval,List.flatten_cons,List.flatten_nil,List.cons_append,List.nil_append]
  refine ⟨fun h=>?_,fun h cap' hcap'=>?_⟩
  ·obtain ⟨c1,rfl⟩:∃ c1,c=c1 + 1:=⟨c - 1,by omega⟩
   simp only [jN_s,List.set_cons_zero]
   refine hK _ (hN7 _ (hB6 _ ?_))
   refine Aw_tx hE [0,3,4,5] [17,25,27,700,701,710,711,712,713,714,720,721,722,723,724] fun K hK=>?_
   simp only [go_sem,seval]
   repeat refine sd0 ?_
   refine hK _ (hN3 (5,c1) _ (by omega) (by simp only;omega) ?_)
   refine (Le_swb _ 25 714 (by decide) (by decide)).trans ?_
   simp only [St.swb,swbσ,swbm,AV.swb,AV.swbAll,swp,jN_swb,row_swb,Nat.reduceEqDiff,if_true,if_false,reduceIte]
   exact Le_wb (by simp only [go_sem,seval,Nat.add_assoc])
  ·obtain ⟨c1,rfl⟩:∃ c1,cap'=c1 + 5:=⟨cap' - 5,by omega⟩
   rw [Nat.add_sub_cancel]
   refine hK _ (hN7 _ (hB6 _ ?_))
   refine Aw_tx hE [0,3,4,5] [17,25,27,700,701,710,711,712,713,714,720,721,722,723,724] fun K hK=>?_
   simp only [go_sem,seval]
   repeat refine sd0 ?_
   refine hK _ (hN3 (5,c1) _ (by omega) (by simp only;omega) ?_)
   refine (Le_swb _ 25 714 (by decide) (by decide)).trans ?_
   simp only [St.swb,swbσ,swbm,AV.swb,AV.swbAll,swp,jN_swb,row_swb,Nat.reduceEqDiff,if_true,if_false,reduceIte]
   refine (Le_swb _ 27 700 (by decide) (by decide)).trans ?_
   simp only [St.swb,swbσ,swbm,AV.swb,AV.swbAll,swp,jN_swb,row_swb,Nat.reduceEqDiff,if_true,if_false,reduceIte]
   exact Le_wb (by simp only [go_sem,seval,Nat.add_assoc])
set_option maxHeartbeats 4000000 in
theorem l91Rels_ok:Fine Tryd.prog 68 cRelsD:=by
 refine fine_ofX [] gl_nil [] ms_nil [] mm_nil [17,25,26,27,72,79,95,98,99] [] ex_nil (T:=TT) Tryd.func68 rfl Tryd.ntmps68 (by rw [Tryd.results68]) rfl rfl tt (gs_cons pick_ok gs_nil) (ds_cons back_ok ds_nil) ?_
 rintro args rfl
 refine ⟨by simp,fun k hk E hE Q hQ=>?_⟩
 have hk:=hk rfl
 simp only [go_sem] at hk
 have hQ2:∀ (L:List (List Int)) (rn:Nat),(2≤L.length∧L.length≤5)→(∀ w ∈ L,w.length=L.length)→rn≤k + 40→Aw E .ret ⟨111,[(2,wsl L)],[],rn⟩ Q:=by
  intro L rn h1 h2 h3
  refine Aw_ret (hQ _ ?_)
  simp only [go_sem,seval]
  exact ⟨h3,L,h1,h2,rfl⟩
 refine Aw_st hE [0] [17] fun K hK=>?_
 simp only [go_sem,seval]
 refine hK _ ?_;clear hK K
 refine Aw_st hE [0,3] [17] fun K hK=>?_
 simp only [go_sem,seval]
 repeat' (first | (refine And.intro (by first | omega | decide) ?_) | intro)
 rename_i n0 hn1 hn2
 refine hK _ ?_;clear hK K
 refine Aw_st hE [0,3,4] [17] fun K hK=>?_
 simp only [go_sem,seval]
 refine hK _ ?_;clear hK K
 have hn:n0=0∨n0=1∨n0=2∨n0=3:=by omega
 rcases hn with rfl | rfl | rfl | rfl
 ·exact relsA2 hE hk hQ2
 ·exact relsA3 hE hk hQ2
 ·exact relsA4 hE hk hQ2
 ·exact relsA5 hE hk hQ2
def okRl (R:List (List Int)):Prop:=(2≤R.length∧R.length≤5)∧(∀ w ∈ R,w.length=R.length)
theorem okRl_big {R:List (List Int)} (h:okRl R):bigM R:=⟨by have:=h.1;omega,fun w hw=>by have:=h.2 w hw;have:=h.1;omega⟩
theorem relsD_pre:cRelsD.pre [.rd]=True:=eq_true rfl
theorem relsD_post (args:List AV) (K:AV→Prop):(∀ r,cRelsD.post args r→K r)=(∀ R:List (List Int),okRl R→K (wsl R)):=by
 apply propext
 exact ⟨fun h R hR=>h _ ⟨R,hR.1,hR.2,rfl⟩,fun h r ⟨R,h1,h2,e⟩=>e ▸ h R ⟨h1,h2⟩⟩
theorem relsD_ex (args:List AV):(∃ r,cRelsD.post args r)=True:=eq_true ⟨_,[[0,0],[0,0]],⟨by decide,by decide⟩,by decide,rfl⟩
attribute [go_sem] relsD_pre relsD_post relsD_ex
def cDNE:Con:={ pre:=codeArg,post:=fun _ r=>∃ (R:List (List Int)) (x:Int),okRl R∧(1≤x∧x≤100)∧r = .tup [wsl R,iv x] }
theorem cDNE_own:cDNE.own=false:=rfl
theorem cDNE_draws:cDNE.draws=false:=rfl
theorem cDNE_cost:cDNE.cost=0:=rfl
attribute [go_sem] cDNE_own cDNE_draws cDNE_cost
theorem dne_post (args:List AV) (K:AV→Prop):(∀ r,cDNE.post args r→K r)=(∀ (R:List (List Int)) (x:Int),okRl R→1≤x→x≤100→K (.tup [wsl R,iv x])):=by
 apply propext
 exact ⟨fun h R x h1 h2 h3=>h _ ⟨R,x,h1,⟨h2,h3⟩,rfl⟩,fun h r ⟨R,x,h1,⟨h2,h3⟩,e⟩=>e ▸ h R x h1 h2 h3⟩
attribute [go_sem] dne_post
def okW (W:List (List Int)):Prop:=W.length≤5∧∀ w ∈ W,w.length≤5
theorem okW_big {W:List (List Int)} (h:okW W):bigM W:=⟨by have:=h.1;omega,fun w hw=>by have:=h.2 w hw;omega⟩
theorem okW_bw {W:List (List Int)} (h:okW W):bigW W:=⟨by have:=h.1;omega,fun w hw=>by have:=h.2 w hw;omega⟩
theorem okW_net {R:List (List Int)} {x:Int} {W:List (List Int)} (h:netOk R x W=true):okW W:=by
 have h5:=(relsOk_iff.1 (netOk_iff.1 h).1).1.2
 obtain ⟨_,hl,h2⟩:=netOk_in h
 exact ⟨by omega,fun w hw=>(h2 w hw).1⟩
theorem okW_nil:okW []:=⟨by simp,fun w hw=>by cases hw⟩
theorem okW_set {W:List (List Int)} {w:List Int} (i:Nat) (h:okW W) (hw:w.length≤5):okW (W.set i w):=by
 refine ⟨by rw [List.length_set];exact h.1,fun v hv=>?_⟩
 rcases List.mem_or_eq_of_mem_set hv with h1 | h1
 ·exact h.2 v h1
 ·rw [h1];exact hw
theorem wrow_set (W:List (List Int)) (c i:Nat) (w:List Int) (h:i < W.length):(cWs W++jN c).set i (isl w)=cWs (W.set i w)++jN c:=by
 rw [List.set_append_left _ _ (by rw [cWs_len];exact h),cWs_set]
def cNetD:Con:={ pre:=fun args=>args=[.rd],post:=fun _ r=>∃ (R:List (List Int)) (x:Int) (W:List (List Int)),(okRl R∧hI R.length x∧okW W)∧r = .tup [wsl R,iv x,wsl W],cost:=80,draws:=true }
theorem cNetD_own:cNetD.own=false:=rfl
theorem cNetD_draws:cNetD.draws=true:=rfl
theorem cNetD_cost:cNetD.cost=80:=rfl
attribute [go_sem] cNetD_own cNetD_draws cNetD_cost
theorem netD_pre:cNetD.pre [.rd]=True:=by simp [cNetD]
theorem netD_post (args:List AV) (K:AV→Prop):(∀ r,cNetD.post args r→K r)=(∀ (R:List (List Int)) (x:Int) (W:List (List Int)),(okRl R∧hI R.length x∧okW W)→K (.tup [wsl R,iv x,wsl W])):=by
 apply propext
 exact ⟨fun h R x W hp=>h _ ⟨R,x,W,hp,rfl⟩,fun h r ⟨R,x,W,hp,e⟩=>e ▸ h R x W hp⟩
theorem netD_ex (args:List AV):(∃ r,cNetD.post args r)=True:=eq_true ⟨_,[[0,0],[0,0]],1,[],⟨⟨⟨by decide,by decide⟩,by decide⟩,⟨by decide,by decide⟩,okW_nil⟩,rfl⟩
attribute [go_sem] netD_pre netD_post netD_ex
def netI (R:List (List Int)) (x:Int) (W:List (List Int)):Prop:=W=[]∨netOk R x W=true
theorem netI_ok {R:List (List Int)} {x:Int} {W:List (List Int)} (h:netI R x W):okW W:=h.elim (fun e=>e ▸ okW_nil) okW_net
theorem netI_step {R:List (List Int)} {x:Int} {W:List (List Int)} {h:Int} (hn:netOk R x W=true) (hh:hI R.length h):netOk R x (stepC R.length (ofR R) x W h)=true:=by
 obtain ⟨h1,h2,h3⟩:=netOk_iff.1 hn
 have hb:hIb R.length h=true:=hIb_iff.2 hh
 rw [stepC,if_pos hb]
 exact netOk_iff.2 ⟨h1,by rw [stpL_len];exact h2,by rw [toS_stp h2 hh];exact netS_stp (relsOk_iff.1 h1).1.2 h3 hh⟩
theorem netI_none (R:List (List Int)) (x:Int):netI R x (if relsOk R && hIb R.length x then noneL R.length x else []):=by
 split
 ·rename_i h
  rw [Bool.and_eq_true] at h
  have hx:=hIb_iff.1 h.2
  exact .inr (netOk_iff.2 ⟨h.1,noneL_len,by rw [toS_none hx];exact netS_none (relsOk_iff.1 h.1).1.2 hx⟩)
 ·exact .inl rfl
def netSt (R:List (List Int)) (x:Int) (i:List (List Int) × Nat × Int × Nat):St:=⟨70,[(0,.rd),(5,wsl R),(6,iv x),(7,.xs 750 0 i.1.length (i.2.1 + i.1.length) 1),(8,iv i.2.2.1)],[(750,cWs i.1++jN i.2.1)],i.2.2.2⟩
def netSu (R:List (List Int)) (x:Int) (i:List (List Int) × Nat × Nat):St:=⟨70,[(5,wsl R),(6,iv x),(7,.xs 750 0 i.1.length (i.2.1 + i.1.length) 1)],[(750,cWs i.1++jN i.2.1)],i.2.2⟩
set_option maxHeartbeats 4000000 in
theorem l92Net_ok:Fine Tryd.prog 39 cNetD:=by
 refine fine_ofX [] gl_nil [] ms_nil [(69,(cNetNoneM,[],[(900,200)])),(56,(cStepM,[],[(900,200)]))] (mm_cons sNetNoneM_ok (by decide) (mm_cons sStepM_ok (by decide) mm_nil)) [] [] ex_nil (T:=TT) Tryd.func39 rfl Tryd.ntmps39 (by rw [Tryd.results39]) rfl rfl tt (gs_cons l91Rels_ok (gs_cons pick_ok (gs_cons l91Path_ok gs_nil))) (ds_cons sWay_ok ds_nil) ?_
 rintro args rfl
 refine ⟨by simp,fun k hk E hE Q hQ=>?_⟩
 have hk:=hk rfl
 simp only [go_sem] at hk
 refine Aw_st hE [0] [220,240,750] fun K hK=>?_
 simp only [go_sem,seval]
 refine hK _ ?_;clear hK K
 refine Aw_st hE [0,5] [220,240,750] fun K hK=>?_
 simp only [go_sem,seval]
 refine ⟨by omega,fun R hR=>?_⟩
 refine hK _ ?_;clear hK K
 have hR1:=hR.1
 have hbR:=okRl_big hR
 refine Aw_st hE [0,5,6] [220,240,750] fun K hK=>?_
 simp only [go_sem,seval]
 refine ⟨by omega,fun y hy1 hy2=>⟨⟨by omega,by omega⟩,?_⟩⟩
 have hx:hI R.length (1 + y):=⟨by omega,by omega⟩
 generalize (1 + y:Int)=x at hx
 refine hK _ ?_;clear hK K
 refine Aw_st hE [0,5,6,7] [220,240,750] fun K hK=>?_
 simp only [go_sem,seval,hbR,netNoneM_post R x rfl]
 have hI0:=netI_none R x
 generalize (if relsOk R && hIb R.length x then noneL R.length x else [])=W0 at hI0
 refine ⟨by decide,fun c0=>?_⟩
 refine hK _ ?_;clear hK K
 refine Aw_sqJ (fun i:List (List Int) × Nat × Nat=>⟨70,[(0,.rd),(5,wsl R),(6,iv x),(7,.xs 750 0 i.1.length (i.2.1 + i.1.length) 1)],[(750,cWs i.1++jN i.2.1)],i.2.2⟩) (fun i=>okW i.1∧i.2.2≤k + 62) (fun i hi=>?_) fun B1 hB1 hR1' hX1=>?_
 ·obtain ⟨W,c,rn⟩:=i
  obtain ⟨hW,hrn⟩:=hi
  simp only at hW hrn
  have hWl:=hW.1
  refine Aw_sqJ (netSu R x) (fun i=>okW i.1∧i.2.2≤k + 80) (fun i hi=>?_) fun B10 hB10 hR10 hX10=>?_
  ·obtain ⟨W,c,rn⟩:=i
   obtain ⟨hW,hrn⟩:=hi
   simp only at hW hrn
   simp only [netSu]
   refine Aw_frz hE rfl 750 W.length (ls:=cWs W++jN c) (ys:=wD W) rfl (ofAll_wrow rfl) ?_
   simp only [go_sem,seval,↓frz_xsW (d:=750) (n:=W.length) (cap:=c + W.length) (L:=W) rfl]
   refine Aw_st hE [2,3,4] [220,240,750] fun K hK=>?_
   simp only [go_sem,seval]
   refine hK _ (Aw_ret (hQ _ ?_))
   simp only [go_sem,seval]
   exact ⟨by omega,R,x,W,⟨hR,hx,hW⟩,rfl⟩
  refine Aw_st hE [0,5,6,7,50] [220,240,750] fun K hK=>?_
  simp only [go_sem,seval]
  refine ⟨fun hg12=>?_,fun hg12=>?_⟩
  ·simp only [dte] at hg12
   refine ⟨by omega,fun y hy1 hy2=>?_⟩
   refine hK _ (Aw_cond rfl (fun hc13=>?_) (fun hc13=>?_))
   ·refine Aw_st hE [0,5,6,7,9] [220,240,750] fun K hK=>?_
    simp only [go_sem,seval]
    refine ⟨by omega,fun h hh1 hh2=>?_⟩
    refine hK _ ?_;clear hK K
    refine Aw_st hE [5,6,7,9,10] [220,240,750] fun K hK=>?_
    simp only [go_sem,seval]
    refine ⟨by omega,fun p hp=>?_⟩
    refine hK _ ?_;clear hK K
    have hsq:sqR R:=⟨by omega,hR.2⟩
    have hpl:=hp.1
    refine Aw_st hE [5,6,7,9,10,62] [220,240,750] fun K hK=>?_
    simp only [go_sem,seval,hsq]
    repeat refine sd0 ?_
    refine hK _ (Aw_cond rfl (fun hc14=>?_) (fun hc14=>?_))
    ·have hhl:h.toNat < W.length:=by omega
     have hset:=wrow_set W c h.toNat p hhl
     refine Aw_tx hE [5,6,7] [220,240,750] fun K hK=>?_
     simp only [go_sem,seval,hset]
     repeat refine sd0 ?_
     refine hK _ (hB10 (W.set h.toNat p,c,rn + 11) _ ⟨okW_set _ hW (by omega),by simp only;omega⟩ (LeE_of ?_))
     simp only [netSu,List.length_set]
     exact Le_wa
    ·refine Aw_skip (hB10 (W,c,rn + 11) _ ⟨hW,by simp only;omega⟩ (LeE_of ?_))
     simp only [netSu]
     exact Le_wa
   ·refine Aw_skip (hB10 (W,c,rn + 1) _ ⟨hW,by simp only;omega⟩ (LeE_of ?_))
    simp only [netSu]
    exact Le_wa
  ·refine hK _ (Aw_no rfl ?_)
   refine Aw_skip (hB10 (W,c,rn) _ ⟨hW,by simp only;omega⟩ (LeE_of ?_))
   simp only [netSu]
   exact Le_wa
 refine Aw_st hE [0,5,6,7,8] [220,240,750] fun K hK=>?_
 simp only [go_sem,seval]
 refine ⟨by omega,fun n0 hn1 hn2=>?_⟩
 refine hK _ ?_;clear hK K
 refine Aw_bk fun B2 hN2 hE2 hR2 hX2=>?_
 refine Aw_lp (netSt R x) (fun i=>netI R x i.1∧(0≤i.2.2.1∧i.2.2.1 < 20)∧i.2.2.2 + i.2.2.1.toNat≤k + 62) (fun i=>i.2.2.1.toNat) (W0,c0,n0,k + 42) ?_ ⟨hI0,⟨by simp only;omega,by simp only;omega⟩,by simp only;omega⟩ fun i hi B3 hN3 hR3 hX3=>?_
 ·refine (Le_swb _ 220 750 (by decide) (by decide)).trans ?_
  simp only [netSt,St.swb,swbσ,swbm,AV.swb,AV.swbAll,swp,jN_swb,wrow_swb,Nat.reduceEqDiff,if_true,if_false,reduceIte]
  exact Le_wa
 obtain ⟨W,c,n,rn⟩:=i
 obtain ⟨hI,⟨hn1',hn2'⟩,hrn⟩:=hi
 simp only at hI hn1' hn2' hrn
 simp only [netSt]
 have hWl:=(netI_ok hI).1
 refine Aw_sq fun B4 hB4 hR4 hX4=>?_
 refine Aw_st hE [0,5,6,7,8,29] [220,240,750] fun K hK=>?_
 simp only [go_sem,seval]
 refine ⟨fun hg6=>?_,fun hg6=>?_⟩
 ·simp only [dte] at hg6
  refine hK _ (Aw_cond rfl (fun hc7=>?_) (fun hc7=>?_))
  ·simp only [dte] at hc7
   have hnet:netOk R x W=true:=hI.resolve_left (fun e=>by rw [e] at hc7;simp at hc7)
   obtain ⟨hsq,hin⟩:=netOk_in hnet
   refine Aw_skip (hB4 _ ?_)
   refine Aw_sq fun B8 hB8 hR8 hX8=>?_
   refine Aw_bk fun B9 hN9 hE9 hR9 hX9=>?_
   refine Aw_frz hE rfl 750 W.length (ls:=cWs W++jN c) (ys:=wD W) rfl (ofAll_wrow rfl) ?_
   simp only [go_sem,seval,↓frz_xsW (d:=750) (n:=W.length) (cap:=c + W.length) (L:=W) rfl]
   have hsp:=fun h=>stepM_post R x W h rfl
   refine Aw_tx hE [0,5,6,7,8] [220,240,750] fun K hK=>?_
   simp only [go_sem,seval,hsq,hin,hsp]
   refine ⟨by omega,fun y hy1 hy2=>⟨⟨by omega,by omega⟩,by decide,fun c'=>?_⟩⟩
   have hnx:=netI_step (h:=1 + y) hnet ⟨by omega,by omega⟩
   refine hK _ (hN9 _ (hB8 _ ?_))
   refine Aw_tx hE [0,5,6,7,8] [220,240,750] fun K hK=>?_
   simp only [go_sem,seval]
   repeat refine sd0 ?_
   refine hK _ (hN3 (stepC R.length (ofR R) x W (1 + y),c',n - 1,rn + 1) _ ⟨.inr hnx,⟨by simp only;omega,by simp only;omega⟩,by simp only;omega⟩ (by simp only;omega) ?_)
   refine (Le_swb _ 240 750 (by decide) (by decide)).trans ?_
   simp only [netSt,St.swb,swbσ,swbm,AV.swb,AV.swbAll,swp,jN_swb,wrow_swb,Nat.reduceEqDiff,if_true,if_false,reduceIte]
   exact Le_wa
  ·refine Aw_exit (hX4 _ _ (hX3 _ _ (hE2 _ (hB1 (W,c,rn) _ ⟨netI_ok hI,by simp only;omega⟩ (LeE_of ?_)))))
   exact Le_wa
 ·refine hK _ (Aw_no rfl ?_)
  refine Aw_exit (hX4 _ _ (hX3 _ _ (hE2 _ (hB1 (W,c,rn) _ ⟨netI_ok hI,by simp only;omega⟩ (LeE_of ?_)))))
  exact Le_wa
structure NetP (R:List (List Int)) (x:Int) (W:List (List Int)):Prop where
 r:okRl R
 x:hI R.length x
 w:okW W
def cDNP:Con:={ pre:=codeArg,post:=fun _ r=>∃ (R:List (List Int)) (x:Int) (W:List (List Int)) (h:Int),NetP R x W∧(1≤h∧h≤100)∧r = .tup [wsl R,iv x,wsl W,iv h] }
theorem cDNP_own:cDNP.own=false:=rfl
theorem cDNP_draws:cDNP.draws=false:=rfl
theorem cDNP_cost:cDNP.cost=0:=rfl
attribute [go_sem] cDNP_own cDNP_draws cDNP_cost
theorem dnp_pre (bs:List Nat) (h:∀ b ∈ bs,b < 256):cDNP.pre [.sl none (byteRows bs)]:=⟨bs,h,rfl⟩
theorem dnp_post (args:List AV) (K:AV→Prop):(∀ r,cDNP.post args r→K r)=(∀ (R:List (List Int)) (x:Int) (W:List (List Int)) (h:Int),NetP R x W→1≤h→h≤100→K (.tup [wsl R,iv x,wsl W,iv h])):=by
 apply propext
 exact ⟨fun hh R x W h h1 h2 h3=>hh _ ⟨R,x,W,h,h1,⟨h2,h3⟩,rfl⟩,fun hh r ⟨R,x,W,h,h1,⟨h2,h3⟩,e⟩=>e ▸ hh R x W h h1 h2 h3⟩
attribute [go_sem] dnp_post
theorem drawNetPick_ok:Fine Tryd.prog 12 cDNP:=by
 refine fine_draw (T:=TT) (C:=cDNP) Tryd.func12 rfl Tryd.ntmps12 (by rw [Tryd.results12]) rfl rfl tt rfl rfl (G:=[(39,cNetD),(40,cPick)]) (D:=[]) (gs_cons l92Net_ok (gs_cons pick_ok gs_nil)) ds_nil (l1:=[_]) (l2:=[_]) rfl rfl rfl rfl (by decide) open_calls ⟨_,Tryd.func38,rfl,rfl⟩ ?_ ?_
 ·rintro args r ⟨R,x,W,h,_,_,rfl⟩;rfl
 rintro args ⟨bs,hbs,rfl⟩
 refine ⟨by simp,bs,hbs,fun n E hE J hJ=>?_⟩
 refine Aw_tx hE [0] [] fun K hK=>?_
 simp only [go_sem,seval]
 refine hK _ ?_
 simp only [thenA]
 simp only [go_sem,seval]
 refine hJ _ rfl rfl fun E hE Q hQ=>?_
 simp only [go_sem,seval]
 refine Aw_st hE [6,7,8,9] [] fun K hK=>?_
 simp only [go_sem,seval]
 intro R x W hp
 refine hK _ ?_;clear hK K
 have hR1:=hp.1.1
 refine Aw_st hE [2,3,4,5] [] fun K hK=>?_
 simp only [go_sem,seval]
 refine fun z hz1 hz2=>⟨⟨by omega,by omega⟩,fun y hy1 hy2=>?_⟩
 have hd:y.tdiv 23=0∨y.tdiv 23=1:=by
  rw [Int.tdiv_eq_ediv_of_nonneg hy1];omega
 refine ⟨⟨by omega,by omega⟩,⟨by omega,by omega⟩,⟨by omega,by omega⟩,?_⟩
 refine hK _ (Aw_ret (hQ _ ?_))
 simp only [go_sem,seval]
 exact ⟨R,x,W,_,⟨hp.1,hp.2.1,hp.2.2⟩,⟨by omega,by omega⟩,rfl⟩
def cDNY:Con:={ pre:=codeArg,post:=fun _ r=>∃ (R:List (List Int)) (x:Int) (W:List (List Int)) (o:List Int),NetP R x W∧o.length≤50∧r = .tup [wsl R,iv x,wsl W,isl o] }
theorem cDNY_own:cDNY.own=false:=rfl
theorem cDNY_draws:cDNY.draws=false:=rfl
theorem cDNY_cost:cDNY.cost=0:=rfl
attribute [go_sem] cDNY_own cDNY_draws cDNY_cost
theorem dny_pre (bs:List Nat) (h:∀ b ∈ bs,b < 256):cDNY.pre [.sl none (byteRows bs)]:=⟨bs,h,rfl⟩
theorem dny_post (args:List AV) (K:AV→Prop):(∀ r,cDNY.post args r→K r)=(∀ (R:List (List Int)) (x:Int) (W:List (List Int)) (o:List Int),NetP R x W→o.length≤50→K (.tup [wsl R,iv x,wsl W,isl o])):=by
 apply propext
 exact ⟨fun hh R x W h h1 h2=>hh _ ⟨R,x,W,h,h1,h2,rfl⟩,fun hh r ⟨R,x,W,h,h1,h2,e⟩=>e ▸ hh R x W h h1 h2⟩
attribute [go_sem] dny_post
set_option maxHeartbeats 1000000 in
theorem drawNetPlay_ok:Fine Tryd.prog 26 cDNY:=by
 refine fine_draw (T:=TT) (C:=cDNY) Tryd.func26 rfl Tryd.ntmps26 (by rw [Tryd.results26]) rfl rfl tt rfl rfl (G:=[(39,cNetD),(40,cPick)]) (D:=[]) (gs_cons l92Net_ok (gs_cons pick_ok gs_nil)) ds_nil (l1:=[_]) (l2:=[_]) rfl rfl rfl rfl (by decide) open_calls ⟨_,Tryd.func38,rfl,rfl⟩ ?_ ?_
 ·rintro args r ⟨R,x,W,o,_,_,rfl⟩;rfl
 rintro args ⟨bs,hbs,rfl⟩
 refine ⟨by simp,bs,hbs,fun n E hE J hJ=>?_⟩
 refine Aw_tx hE [0] [] fun K hK=>?_
 simp only [go_sem,seval]
 refine hK _ ?_
 simp only [thenA]
 simp only [go_sem,seval]
 refine hJ _ rfl rfl fun E hE Q hQ=>?_
 simp only [go_sem,seval]
 refine Aw_st hE [6,7,8,9] [] fun K hK=>?_
 simp only [go_sem,seval]
 intro R x W hp
 refine hK _ ?_;clear hK K
 have hR1:=hp.1.1
 have hP:NetP R x W:=⟨hp.1,hp.2.1,hp.2.2⟩
 refine Aw_st hE [6,7,8,9,10] [] fun K hK=>?_
 simp only [go_sem,seval]
 refine hK _ ?_;clear hK K
 refine Aw_sq fun B1 hB1 hR1' hX1=>?_
 refine Aw_st hE [6,7,8,9,10,11] [] fun K hK=>?_
 simp only [go_sem,seval]
 intro n0 hn1 hn2
 refine hK _ ?_;clear hK K
 refine Aw_bk fun B2 hN2 hE2 hR2 hX2=>?_
 refine Aw_lp (fun i:List Int × Int × Nat=>⟨45,[(6,.rd),(7,wsl R),(8,iv x),(9,wsl W),(10,.sl (some (20,0,3)) (rows i.1)),(11,iv i.2.1)],[],i.2.2⟩) (fun i=>(0≤i.2.1∧i.2.1 < 40)∧i.2.2 + i.2.1.toNat≤200∧i.1.length + i.2.1.toNat≤40) (fun i=>i.2.1.toNat) ([],n0,81) (Le_wa) ⟨⟨by simp only;omega,by simp only;omega⟩,by simp only;omega,by simp only [List.length_nil];omega⟩ fun i hi B3 hN3 hR3 hX3=>?_
 obtain ⟨o,n1,rn⟩:=i
 obtain ⟨⟨h1,h2⟩,h3,h4⟩:=hi
 simp only at h1 h2 h3 h4
 refine Aw_sq fun B4 hB4 hR4 hX4=>?_
 refine Aw_st hE [6,7,8,9,10,11,24] [] fun K hK=>?_
 simp only [go_sem,seval]
 refine hK _ (Aw_cond rfl (fun hc5=>?_) (fun hc5=>?_))
 ·simp only [dte] at hc5
  refine Aw_skip (hB4 _ ?_)
  refine Aw_sq fun B6 hB6 hR6 hX6=>?_
  refine Aw_bk fun B7 hN7 hE7 hR7 hX7=>?_
  refine Aw_tx hE [6,7,8,9,10,11] [] fun K hK=>?_
  simp only [go_sem,seval,none_row]
  refine ⟨by omega,fun y hy1 hy2=>?_⟩
  repeat refine sd0 ?_
  refine hK _ (hN7 _ (hB6 _ ?_))
  refine Aw_tx hE [6,7,8,9,10,11] [] fun K hK=>?_
  simp only [go_sem,seval]
  repeat refine sd0 ?_
  refine hK _ (hN3 (o++[1 + y],n1 - 1,rn + 1) _ ⟨⟨by simp only;omega,by simp only;omega⟩,by simp only;omega,by simp only [List.length_append,List.length_singleton];omega⟩ (by simp only;omega) (Le_tk 34 20 rfl))
 ·refine Aw_exit (hX4 _ _ (hX3 _ _ (hE2 _ (hB1 _ ?_))))
  refine Aw_sq fun B8 hB8 hR8 hX8=>?_
  refine Aw_st hE [7,8,9,10,37] [] fun K hK=>?_
  simp only [go_sem,seval]
  refine ⟨by omega,fun y hy1 hy2=>?_⟩
  refine hK _ (Aw_cond rfl (fun hc9=>?_) (fun hc9=>?_))
  ·refine Aw_tx hE [7,8,9,10] [] fun K hK=>?_
   simp only [go_sem,seval,none_row]
   repeat refine sd0 ?_
   refine hK _ (hB8 _ ?_)
   refine Aw_st hE [2,3,4,5] [] fun K hK=>?_
   simp only [go_sem,seval]
   refine hK _ (Aw_ret (hQ _ ?_))
   simp only [go_sem,seval]
   exact ⟨R,x,W,o++[0],hP,by rw [List.length_append,List.length_singleton];omega,rfl⟩
  ·refine Aw_skip (hB8 _ ?_)
   refine Aw_st hE [2,3,4,5] [] fun K hK=>?_
   simp only [go_sem,seval]
   refine hK _ (Aw_ret (hQ _ ?_))
   simp only [go_sem,seval]
   exact ⟨R,x,W,o,hP,by omega,rfl⟩
def vwA (b:Nat):Option (List Int × Nat)→AV
 | none=>.nl
 | some (l,e)=>.xs b 0 l.length (e + l.length) 1
def vwM (b:Nat):Option (List Int × Nat)→List (Nat × List AV)
 | none=>[]
 | some (l,e)=>[(b,cI l++jN e)]
def vwL:Option (List Int × Nat)→List Int
 | none=>[]
 | some (l,_)=>l
attribute [go_sem] vwA vwM vwL
theorem row_inj {l l':List Int} {e e':Nat} (h1:l.length=l'.length) (h:cI l++jN e=cI l'++jN e'):l=l'∧e=e':=by
 obtain ⟨h2,h3⟩:=List.append_inj h (by rw [cI_len,cI_len];exact h1)
 refine ⟨cI_inj h2,?_⟩
 have:=congrArg List.length h3
 rwa [jN_len,jN_len] at this
theorem vw_inj {b:Nat}:∀ {i j:Option (List Int × Nat)},vwA b i=vwA b j→vwM b i=vwM b j→i=j
 | none,none,_,_=>rfl
 | none,some _,h,_=>by cases h
 | some _,none,h,_=>by cases h
 | some (l,e),some (l',e'),h1,h2=>by
  simp only [vwA,AV.xs.injEq,true_and,and_true] at h1
  simp only [vwM,List.cons.injEq,Prod.mk.injEq,true_and,and_true] at h2
  obtain ⟨rfl,rfl⟩:=row_inj h1.1 h2
  rfl
def eVw (i:Option (List Int × Nat) × Int):List AV × List (Nat × List AV):=([vwA 1000 i.1,iv i.2],vwM 1000 i.1)
theorem eVw_inj (i j:Option (List Int × Nat) × Int) (h:eVw i=eVw j):i=j:=by
 obtain ⟨o,x⟩:=i
 obtain ⟨o',x'⟩:=j
 obtain ⟨h1,h2⟩:=Prod.mk.inj h
 obtain ⟨h1,h3⟩:=List.cons.inj h1
 obtain rfl:o=o':=vw_inj h1 h2
 have h3:x=x':=by simpa using h3
 rw [h3]
def cIdxV:ConM:=mkM (fun _=>True) eVw (fun i=>(vwL i.1).length≤1000) fun i r m2=>r=iv (idxB (fun x=>decide (i.2=x)) (vwL i.1) 0)∧m2=vwM 1000 i.1
theorem idxV_preN (h:Int):cIdxV.pre [.nl,iv h] []=True:=(mkM_pre eVw_inj (none,h) rfl).trans (eq_true (show 0≤1000 by decide))
theorem idxV_postN (h:Int) (K:AV→List (Nat × List AV)→Prop):(∀ r m2,cIdxV.post [.nl,iv h] [] r m2→K r m2)=K (iv (-1)) []:=(mkM_post eVw_inj (none,h) rfl K).trans (mkM_fn _ _)
theorem idxV_pre (l:List Int) (e:Nat) (h:Int):cIdxV.pre [.xs 1000 0 l.length (e + l.length) 1,iv h] [(1000,cI l++jN e)]=(l.length≤1000):=mkM_pre eVw_inj (some (l,e),h) rfl
theorem idxV_post (l:List Int) (e:Nat) (h:Int) (K:AV→List (Nat × List AV)→Prop):(∀ r m2,cIdxV.post [.xs 1000 0 l.length (e + l.length) 1,iv h] [(1000,cI l++jN e)] r m2→K r m2)=K (iv (idxB (fun x=>decide (h=x)) l 0)) [(1000,cI l++jN e)]:=(mkM_post eVw_inj (some (l,e),h) rfl K).trans (mkM_fn _ _)
attribute [go_sem] idxV_preN idxV_postN idxV_pre idxV_post
set_option maxHeartbeats 4000000 in
theorem idxV_ok:FineM Tryd.prog 104 cIdxV:=by
 refine fineM_of [] ms_nil [] mm_nil [] [] ex_nil (T:=TT) Tryd.func104 rfl Tryd.ntmps104 (by rw [Tryd.results104]) rfl rfl tt gs_nil ds_nil ?_
 rintro args m1 ⟨⟨o,a⟩,e,hl⟩
 obtain ⟨rfl,rfl⟩:=Prod.mk.inj e.symm
 refine ⟨by simp,fun E hE Q hQ=>?_⟩
 simp only at hl
 cases o with
 | none =>
  simp only [vwA,vwM]
  refine Aw_st hE [0,1] [1000] fun K hK=>?_
  simp only [go_sem,seval]
  refine hK _ ?_;clear hK K
  refine Aw_sq fun B1 hB1 hR1 hX1=>?_
  refine Aw_st hE [0,1,7,8] [1000] fun K hK=>?_
  simp only [go_sem,seval]
  refine hK _ ?_;clear hK K
  refine Aw_bk fun B2 hN2 hE2 hR2 hX2=>?_
  refine Aw_unr 1 ?_
  refine Aw_rd fun B3 hN3 hR3 hX3=>?_
  refine Aw_st hE [0,1,7,8,9] [1000] fun K hK=>?_
  simp only [go_sem,seval]
  refine hK _ ?_;clear hK K
  refine Aw_sq fun B4 hB4 hR4 hX4=>?_
  refine Aw_no rfl (Aw_exit (hX4 _ _ (hX3 _ _ (hE2 _ (hB1 _ ?_)))))
  refine Aw_st hE [4] [1000] fun K hK=>?_
  simp only [go_sem,seval]
  refine hK _ (Aw_ret (hQ _ ?_))
  simp only [go_sem,seval]
  exact ⟨(none,a),rfl,rfl,rfl⟩
 | some p =>
  obtain ⟨l,c⟩:=p
  simp only [vwA,vwM]
  simp only [vwL] at hl
  refine Aw_st hE [0,1] [1000] fun K hK=>?_
  simp only [go_sem,seval]
  refine hK _ ?_;clear hK K
  refine Aw_sq fun B1 hB1 hR1 hX1=>?_
  refine Aw_st hE [0,1,7,8] [1000] fun K hK=>?_
  simp only [go_sem,seval]
  refine hK _ ?_;clear hK K
  refine Aw_bk fun B2 hN2 hE2 hR2 hX2=>?_
  refine Aw_lp (fun i:Nat=>⟨19,[(0,.xs 1000 0 l.length (c + l.length) 1),(1,iv a),(7,iv (l.length:Int)),(8,iv (i:Int))],[(1000,cI l++jN c)],0⟩) (fun i=>i≤l.length∧idxB (fun x=>decide (a=x)) l 0=idxB (fun x=>decide (a=x)) (l.drop i) i) (fun i=>l.length - i) 0 (Le_wa) ⟨by omega,rfl⟩ fun i hi B3 hN3 hR3 hX3=>?_
  obtain ⟨hi,hx⟩:=hi
  refine Aw_st hE [0,1,7,8,9] [1000] fun K hK=>?_
  simp only [go_sem,seval]
  refine hK _ ?_;clear hK K
  refine Aw_sq fun B4 hB4 hR4 hX4=>?_
  refine Aw_cond rfl (fun hc5=>?_) (fun hc5=>?_)
  ·simp only [dte] at hc5
   have hil:i < l.length:=by omega
   have hs:=hx.trans (idxB_drop hil)
   have hg:=rowI_drop l c i hil
   rw [List.getD_eq_getElem?_getD,List.getElem?_eq_getElem hil,Option.getD_some] at hg
   generalize l[i]=x at hg hs
   refine Aw_skip (hB4 _ ?_)
   refine Aw_sq fun B6 hB6 hR6 hX6=>?_
   refine Aw_bk fun B7 hN7 hE7 hR7 hX7=>?_
   refine Aw_st hE [0,1,5,7,8] [1000] fun K hK=>?_
   simp only [go_sem,seval]
   refine hK _ ?_;clear hK K
   refine Aw_st hE [0,1,5,7,8,16] [1000] fun K hK=>?_
   simp only [go_sem,seval,hg]
   repeat refine sd0 ?_
   refine hK _ (Aw_cond rfl (fun hc8=>?_) (fun hc8=>?_))
   ·rw [hc8] at hs
    refine Aw_st hE [4] [1000] fun K hK=>?_
    simp only [go_sem,seval]
    refine hK _ (Aw_ret (hR7 _ (hR6 _ (hR3 _ (hR2 _ (hR1 _ (hQ _ ?_)))))))
    simp only [go_sem,seval]
    exact ⟨(some (l,c),a),rfl,by simp only [vwL];rw [hs];rfl,rfl⟩
   ·rw [hc8] at hs
    refine Aw_skip (hN7 _ (hB6 _ ?_))
    refine Aw_tx hE [0,1,7,8] [1000] fun K hK=>?_
    simp only [go_sem,seval]
    repeat refine sd0 ?_
    refine hK _ (hN3 (i + 1) _ ⟨by omega,hs⟩ (by omega) (Le.refl _))
  ·simp only [dfn] at hc5
   rw [List.drop_eq_nil_of_le (by omega)] at hx
   refine Aw_exit (hX4 _ _ (hX3 _ _ (hE2 _ (hB1 _ ?_))))
   refine Aw_st hE [4] [1000] fun K hK=>?_
   simp only [go_sem,seval]
   refine hK _ (Aw_ret (hQ _ ?_))
   simp only [go_sem,seval]
   exact ⟨(some (l,c),a),rfl,by simp only [vwL];rw [hx];rfl,rfl⟩
def cHasV:ConM:=mkM (fun _=>True) eVw (fun i=>(vwL i.1).length≤1000) fun i r m2=>r=bv ((vwL i.1).contains i.2)∧m2=vwM 1000 i.1
theorem hasV_preN (h:Int):cHasV.pre [.nl,iv h] []=True:=(mkM_pre eVw_inj (none,h) rfl).trans (eq_true (show 0≤1000 by decide))
theorem hasV_postN (h:Int) (K:AV→List (Nat × List AV)→Prop):(∀ r m2,cHasV.post [.nl,iv h] [] r m2→K r m2)=K (bv false) []:=(mkM_post eVw_inj (none,h) rfl K).trans (mkM_fn _ _)
theorem hasV_pre (l:List Int) (e:Nat) (h:Int):cHasV.pre [.xs 1000 0 l.length (e + l.length) 1,iv h] [(1000,cI l++jN e)]=(l.length≤1000):=mkM_pre eVw_inj (some (l,e),h) rfl
theorem hasV_post (l:List Int) (e:Nat) (h:Int) (K:AV→List (Nat × List AV)→Prop):(∀ r m2,cHasV.post [.xs 1000 0 l.length (e + l.length) 1,iv h] [(1000,cI l++jN e)] r m2→K r m2)=K (bv (l.contains h)) [(1000,cI l++jN e)]:=(mkM_post eVw_inj (some (l,e),h) rfl K).trans (mkM_fn _ _)
attribute [go_sem] hasV_preN hasV_postN hasV_pre hasV_post
theorem jN_mvn (f:Nat→Option Nat) (c:Nat):AV.mvnAll f (jN c)=jN c:=by rw [mvnAll_eq,jN,List.map_replicate];rfl
theorem jN_stripF (F:Nat→Bool) (c:Nat):AV.stripFAll F (jN c)=jN c:=by rw [stripFAll_eq,jN,List.map_replicate];rfl
theorem row_mvn (f:Nat→Option Nat) (l:List Int) (c:Nat):AV.mvnAll f (cI l++jN c)=cI l++jN c:=by
 rw [mvnAll_eq,List.map_append,cI,jN,List.map_map,List.map_replicate];rfl
theorem row_nt (l:List Int) (c:Nat):AV.ntAll (cI l++jN c)=cI l++jN c:=by
 rw [ntAll_eq,List.map_append,cI,jN,List.map_map,List.map_replicate];rfl
theorem row_stripF (F:Nat→Bool) (l:List Int) (c:Nat):AV.stripFAll F (cI l++jN c)=cI l++jN c:=by
 rw [stripFAll_eq,List.map_append,cI,jN,List.map_map,List.map_replicate];rfl
theorem rhoS_row (m:List (Nat × List AV)) (c:Nat):∀ (l:List Int) (f n:Nat) (ρ:List (Nat × Nat)),rhoS m f n (cI l++jN c) ρ=ρ
 | x::l,0,_,_=>rfl
 | x::l,f + 1,n,ρ=>rhoS_row m c l f n ρ
 | [],f,n,ρ=>by
  show rhoS m f n (jN c) ρ=ρ
  induction c generalizing f with
  | zero=>cases f<;>rfl
  | succ c ih=>cases f with
   | zero=>rfl
   | succ f=>exact ih f
attribute [go_sem] jN_mvn jN_stripF row_mvn row_nt row_stripF rhoS_row
set_option maxHeartbeats 4000000 in
theorem hasV_ok:FineM Tryd.prog 98 cHasV:=by
 refine fineM_of [] ms_nil [(104,(cIdxV,[(1000,1000)],[]))] (mm_cons idxV_ok (by decide) mm_nil) [] [] ex_nil (T:=TT) Tryd.func98 rfl Tryd.ntmps98 (by rw [Tryd.results98]) rfl rfl tt gs_nil ds_nil ?_
 rintro args m1 ⟨⟨o,a⟩,e,hl⟩
 obtain ⟨rfl,rfl⟩:=Prod.mk.inj e.symm
 refine ⟨by simp,fun E hE Q hQ=>?_⟩
 simp only at hl
 cases o with
 | none =>
  simp only [vwA,vwM]
  refine Aw_st hE [0,1] [1000] fun K hK=>?_
  simp only [go_sem,seval]
  refine hK _ ?_;clear hK K
  refine Aw_st hE [4] [1000] fun K hK=>?_
  simp only [go_sem,seval]
  refine ⟨by decide,?_⟩
  refine hK _ (Aw_ret (hQ _ ?_))
  simp only [go_sem,seval]
  exact ⟨(none,a),rfl,rfl,rfl⟩
 | some p =>
  obtain ⟨l,c⟩:=p
  simp only [vwA,vwM]
  simp only [vwL] at hl
  refine Aw_st hE [0,1] [1000] fun K hK=>?_
  simp only [go_sem,seval]
  refine hK _ ?_;clear hK K
  have hix:=idxB_any (f:=fun x=>decide (a=x)) l 0
  refine Aw_st hE [4] [1000] fun K hK=>?_
  simp only [go_sem,seval,hl,hix]
  refine ⟨by decide,?_⟩
  refine hK _ (Aw_ret (hQ _ ?_))
  simp only [go_sem,seval]
  exact ⟨(some (l,c),a),rfl,by simp only [vwL,any_contains],rfl⟩
structure Od where
 n:Int
 t:List (Value × Value)
 o:Option (List Int × Nat)
def Od.M (N:Od) (a b c:Nat):List (Nat × List AV):=(a,[vwA c N.o])::(b,[iv N.n,.dv (.mp N.t)])::vwM c N.o
attribute [go_sem] Od.M
def eOd (i:Od × Int):List AV × List (Nat × List AV):=([iv i.2,.loc 1000 0,.loc 1001 0],i.1.M 1000 1001 1002)
theorem eOd_inj (i j:Od × Int) (h:eOd i=eOd j):i=j:=by
 obtain ⟨⟨n,t,o⟩,x⟩:=i
 obtain ⟨⟨n',t',o'⟩,x'⟩:=j
 obtain ⟨h1,h2⟩:=Prod.mk.inj h
 obtain ⟨h3,h4⟩:=List.cons.inj h2
 obtain ⟨h4,h5⟩:=List.cons.inj h4
 have h3:=(List.cons.inj (Prod.mk.inj h3).2).1
 obtain rfl:o=o':=vw_inj h3 h5
 simp only [List.cons.injEq,true_and,AV.v.injEq,Value.int.injEq,and_true] at h1
 simp only [List.cons.injEq,Prod.mk.injEq,true_and,and_true,AV.v.injEq,Value.int.injEq,AV.dv.injEq,DV.mp.injEq] at h4
 obtain ⟨rfl,rfl⟩:=h4
 rw [h1]
def cRdy:ConM:=mkM (fun _=>True) eOd (fun i=>mpI i.1.t∧0≤i.1.n∧i.1.n≤1000∧(vwL i.1.o).length≤1000) fun i r m2=>r=bv (rdyB i.1.n.toNat (lkF i.1.t) (vwL i.1.o) i.2)∧m2=i.1.M 1000 1001 1002
theorem rdy_preN (n:Int) (t:List (Value × Value)) (h:Int):cRdy.pre [iv h,.loc 1000 0,.loc 1001 0] [(1000,[.nl]),(1001,[iv n,.dv (.mp t)])]=(mpI t∧0≤n∧n≤1000∧0≤1000):=mkM_pre eOd_inj (⟨n,t,none⟩,h) rfl
theorem rdy_postN (n:Int) (t:List (Value × Value)) (h:Int) (K:AV→List (Nat × List AV)→Prop):(∀ r m2,cRdy.post [iv h,.loc 1000 0,.loc 1001 0] [(1000,[.nl]),(1001,[iv n,.dv (.mp t)])] r m2→K r m2)=K (bv (rdyB n.toNat (lkF t) [] h)) [(1000,[.nl]),(1001,[iv n,.dv (.mp t)])]:=(mkM_post eOd_inj (⟨n,t,none⟩,h) rfl K).trans (mkM_fn _ _)
theorem rdy_pre (n:Int) (t:List (Value × Value)) (l:List Int) (e:Nat) (h:Int):cRdy.pre [iv h,.loc 1000 0,.loc 1001 0] [(1000,[.xs 1002 0 l.length (e + l.length) 1]),(1001,[iv n,.dv (.mp t)]),(1002,cI l++jN e)]=(mpI t∧0≤n∧n≤1000∧l.length≤1000):=mkM_pre eOd_inj (⟨n,t,some (l,e)⟩,h) rfl
theorem rdy_post (n:Int) (t:List (Value × Value)) (l:List Int) (e:Nat) (h:Int) (K:AV→List (Nat × List AV)→Prop):(∀ r m2,cRdy.post [iv h,.loc 1000 0,.loc 1001 0] [(1000,[.xs 1002 0 l.length (e + l.length) 1]),(1001,[iv n,.dv (.mp t)]),(1002,cI l++jN e)] r m2→K r m2)=K (bv (rdyB n.toNat (lkF t) l h)) [(1000,[.xs 1002 0 l.length (e + l.length) 1]),(1001,[iv n,.dv (.mp t)]),(1002,cI l++jN e)]:=(mkM_post eOd_inj (⟨n,t,some (l,e)⟩,h) rfl K).trans (mkM_fn _ _)
attribute [go_sem] rdy_preN rdy_postN rdy_pre rdy_post
set_option maxHeartbeats 4000000 in
theorem rdy_ok:FineM Tryd.prog 102 cRdy:=by
 refine fineM_of [] ms_nil [(98,(cHasV,[(1000,1000)],[]))] (mm_cons hasV_ok (by decide) mm_nil) [] [] ex_nil (T:=TT) Tryd.func102 rfl Tryd.ntmps102 (by rw [Tryd.results102]) rfl rfl tt gs_nil (ds_cons ofM_ok ds_nil) ?_
 rintro args m1 ⟨⟨⟨n,t,o⟩,a⟩,e,hmp,hn0,hn,ho⟩
 obtain ⟨rfl,rfl⟩:=Prod.mk.inj e.symm
 refine ⟨by simp,fun E hE Q hQ=>?_⟩
 simp only at hmp hn0 hn ho
 cases o with
 | none =>
  simp only [Od.M,vwA,vwM]
  refine Aw_st hE [0,1,2] [1000,1001,1002] fun K hK=>?_
  simp only [go_sem,seval]
  refine hK _ ?_;clear hK K
  refine Aw_sq fun B1 hB1 hR1 hX1=>?_
  have ho4:([]:List Int).length≤4294967296:=by simp
  have fin:∀ b,rdyB n.toNat (lkF t) ([]:List Int) a=b→cRdy.post [iv a,.loc 1000 0,.loc 1001 0] ((⟨n,t,none⟩:Od).M 1000 1001 1002) (bv b) ((⟨n,t,none⟩:Od).M 1000 1001 1002):=fun b hb=>⟨(⟨n,t,none⟩,a),rfl,by rw [← hb];exact ⟨rfl,rfl⟩⟩
  refine Aw_st hE [0,1,2,8] [1000,1001,1002] fun K hK=>?_
  simp only [go_sem,seval,ho4]
  refine ⟨by decide,?_⟩
  refine hK _ (Aw_cond rfl (fun hc2=>?_) (fun hc2=>?_))
  ·refine Aw_st hE [4] [1000,1001,1002] fun K hK=>?_
   simp only [go_sem,seval]
   refine hK _ (Aw_ret (hR1 _ (hQ _ ?_)))
   simp only [go_sem,seval]
   exact fin _ (rdy_C hc2)
  refine Aw_skip (hB1 _ ?_)
  refine Aw_sq fun B3 hB3 hR3 hX3=>?_
  refine Aw_st hE [0,1,2,5] [1000,1001,1002] fun K hK=>?_
  simp only [go_sem,seval]
  refine hK _ ?_;clear hK K
  refine Aw_bk fun B4 hN4 hE4 hR4 hX4=>?_
  refine Aw_lp (fun i:Nat=>⟨26,[(0,iv a),(1,.loc 1000 0),(2,.loc 1001 0),(5,iv ((i:Int) + 1))],(⟨n,t,none⟩:Od).M 1000 1001 1002,0⟩) (fun i=>(i:Int)≤n∧∀ j,j < i→decide (lkF t a ((j:Int) + 1)=1)=true→([]:List Int).contains ((j:Int) + 1)=true) (fun i=>n.toNat - i) 0 (Le_wa) ⟨by omega,fun j h=>absurd h (by omega)⟩ fun i hi B5 hN5 hR5 hX5=>?_
  obtain ⟨hi,hall⟩:=hi
  refine Aw_sq fun B6 hB6 hR6 hX6=>?_
  refine Aw_st hE [0,1,2,5,12] [1000,1001,1002] fun K hK=>?_
  simp only [go_sem,seval]
  refine hK _ (Aw_cond rfl (fun hc7=>?_) (fun hc7=>?_))
  ·simp only [dte] at hc7
   have hnx:(decide (lkF t a ((i:Int) + 1)=1)=true→([]:List Int).contains ((i:Int) + 1)=true)→((i + 1:Nat):Int)≤n∧∀ j,j < i + 1→decide (lkF t a ((j:Int) + 1)=1)=true→([]:List Int).contains ((j:Int) + 1)=true:=fun h=>⟨by omega,fun j hj=>if e:j < i then hall j e else (by obtain rfl:j=i:=(by omega);exact h)⟩
   refine Aw_skip (hB6 _ ?_)
   refine Aw_sq fun B8 hB8 hR8 hX8=>?_
   refine Aw_bk fun B9 hN9 hE9 hR9 hX9=>?_
   refine Aw_st hE [0,1,2,5,25] [1000,1001,1002] fun K hK=>?_
   simp only [go_sem,seval,hmp,ho4]
   refine ⟨fun hg11=>⟨by decide,?_⟩,fun hg11=>?_⟩
   ·refine hK _ (Aw_cond rfl (fun hc12=>?_) (fun hc12=>?_))
    ·refine Aw_st hE [4] [1000,1001,1002] fun K hK=>?_
     simp only [go_sem,seval]
     refine hK _ (Aw_ret (hR9 _ (hR8 _ (hR5 _ (hR4 _ (hR3 _ (hQ _ ?_)))))))
     simp only [go_sem,seval]
     exact fin _ (rdy_F (j:=i) (by omega) (by simpa using hg11) rfl)
    ·cases hc12
   ·refine hK _ (Aw_no rfl ?_)
    refine Aw_skip (hN9 _ (hB8 _ ?_))
    refine Aw_tx hE [0,1,2,5] [1000,1001,1002] fun K hK=>?_
    simp only [go_sem,seval]
    repeat refine sd0 ?_
    refine hK _ (hN5 (i + 1) _ (hnx fun h=>absurd h (by rw [hg11];decide)) (by omega) (Le.refl _))
  ·simp only [dfn] at hc7
   refine Aw_exit (hX6 _ _ (hX5 _ _ (hE4 _ (hB3 _ ?_))))
   refine Aw_st hE [4] [1000,1001,1002] fun K hK=>?_
   simp only [go_sem,seval]
   refine hK _ (Aw_ret (hQ _ ?_))
   simp only [go_sem,seval]
   exact fin _ (rdy_T hc2 fun j hj=>hall j (by omega))
 | some p =>
  obtain ⟨l,c⟩:=p
  simp only [vwL] at ho
  simp only [Od.M,vwA,vwM]
  refine Aw_st hE [0,1,2] [1000,1001,1002] fun K hK=>?_
  simp only [go_sem,seval]
  refine hK _ ?_;clear hK K
  refine Aw_sq fun B1 hB1 hR1 hX1=>?_
  have ho4:l.length≤1000:=ho
  have fin:∀ b,rdyB n.toNat (lkF t) l a=b→cRdy.post [iv a,.loc 1000 0,.loc 1001 0] ((⟨n,t,some (l,c)⟩:Od).M 1000 1001 1002) (bv b) ((⟨n,t,some (l,c)⟩:Od).M 1000 1001 1002):=fun b hb=>⟨(⟨n,t,some (l,c)⟩,a),rfl,by rw [← hb];exact ⟨rfl,rfl⟩⟩
  refine Aw_st hE [0,1,2,8] [1000,1001,1002] fun K hK=>?_
  simp only [go_sem,seval,ho4]
  refine ⟨by decide,?_⟩
  refine hK _ (Aw_cond rfl (fun hc2=>?_) (fun hc2=>?_))
  ·refine Aw_st hE [4] [1000,1001,1002] fun K hK=>?_
   simp only [go_sem,seval]
   refine hK _ (Aw_ret (hR1 _ (hQ _ ?_)))
   simp only [go_sem,seval]
   exact fin _ (rdy_C hc2)
  refine Aw_skip (hB1 _ ?_)
  refine Aw_sq fun B3 hB3 hR3 hX3=>?_
  refine Aw_st hE [0,1,2,5] [1000,1001,1002] fun K hK=>?_
  simp only [go_sem,seval]
  refine hK _ ?_;clear hK K
  refine Aw_bk fun B4 hN4 hE4 hR4 hX4=>?_
  refine Aw_lp (fun i:Nat=>⟨26,[(0,iv a),(1,.loc 1000 0),(2,.loc 1001 0),(5,iv ((i:Int) + 1))],(⟨n,t,some (l,c)⟩:Od).M 1000 1001 1002,0⟩) (fun i=>(i:Int)≤n∧∀ j,j < i→decide (lkF t a ((j:Int) + 1)=1)=true→l.contains ((j:Int) + 1)=true) (fun i=>n.toNat - i) 0 (Le_wa) ⟨by omega,fun j h=>absurd h (by omega)⟩ fun i hi B5 hN5 hR5 hX5=>?_
  obtain ⟨hi,hall⟩:=hi
  refine Aw_sq fun B6 hB6 hR6 hX6=>?_
  refine Aw_st hE [0,1,2,5,12] [1000,1001,1002] fun K hK=>?_
  simp only [go_sem,seval]
  refine hK _ (Aw_cond rfl (fun hc7=>?_) (fun hc7=>?_))
  ·simp only [dte] at hc7
   have hnx:(decide (lkF t a ((i:Int) + 1)=1)=true→l.contains ((i:Int) + 1)=true)→((i + 1:Nat):Int)≤n∧∀ j,j < i + 1→decide (lkF t a ((j:Int) + 1)=1)=true→l.contains ((j:Int) + 1)=true:=fun h=>⟨by omega,fun j hj=>if e:j < i then hall j e else (by obtain rfl:j=i:=(by omega);exact h)⟩
   refine Aw_skip (hB6 _ ?_)
   refine Aw_sq fun B8 hB8 hR8 hX8=>?_
   refine Aw_bk fun B9 hN9 hE9 hR9 hX9=>?_
   refine Aw_st hE [0,1,2,5,25] [1000,1001,1002] fun K hK=>?_
   simp only [go_sem,seval,hmp,ho4]
   refine ⟨fun hg11=>⟨by decide,?_⟩,fun hg11=>?_⟩
   ·refine hK _ (Aw_cond rfl (fun hc12=>?_) (fun hc12=>?_))
    ·simp only [Bool.not_eq_true'] at hc12
     refine Aw_st hE [4] [1000,1001,1002] fun K hK=>?_
     simp only [go_sem,seval]
     refine hK _ (Aw_ret (hR9 _ (hR8 _ (hR5 _ (hR4 _ (hR3 _ (hQ _ ?_)))))))
     simp only [go_sem,seval]
     exact fin _ (rdy_F (j:=i) (by omega) (by simpa using hg11) hc12)
    ·simp only [Bool.not_eq_false'] at hc12
     refine Aw_skip (hN9 _ (hB8 _ ?_))
     refine Aw_tx hE [0,1,2,5] [1000,1001,1002] fun K hK=>?_
     simp only [go_sem,seval]
     repeat refine sd0 ?_
     refine hK _ (hN5 (i + 1) _ (hnx fun _=>hc12) (by omega) (Le.refl _))
   ·refine hK _ (Aw_no rfl ?_)
    refine Aw_skip (hN9 _ (hB8 _ ?_))
    refine Aw_tx hE [0,1,2,5] [1000,1001,1002] fun K hK=>?_
    simp only [go_sem,seval]
    repeat refine sd0 ?_
    refine hK _ (hN5 (i + 1) _ (hnx fun h=>absurd h (by rw [hg11];decide)) (by omega) (Le.refl _))
  ·simp only [dfn] at hc7
   refine Aw_exit (hX6 _ _ (hX5 _ _ (hE4 _ (hB3 _ ?_))))
   refine Aw_st hE [4] [1000,1001,1002] fun K hK=>?_
   simp only [go_sem,seval]
   refine hK _ (Aw_ret (hQ _ ?_))
   simp only [go_sem,seval]
   exact fin _ (rdy_T hc2 fun j hj=>hall j (by omega))
theorem find_none {p:Int→Bool}:∀ {N:Nat},(∀ j,j < N→p ((j:Int) + 1)=false)→(hs N).find? p=none
 | 0,_=>rfl
 | N + 1,h=>by
  rw [hs_snoc,List.find?_append,find_none (N:=N) fun j hj=>h j (by omega)]
  simp [h N (by omega)]
theorem find_hs {p:Int→Bool} {i:Nat} (h:∀ j,j < i→p ((j:Int) + 1)=false) (hp:p ((i:Int) + 1)=true):∀ {N:Nat},i < N→(hs N).find? p=some ((i:Int) + 1)
 | 0,hi=>absurd hi (by omega)
 | N + 1,hi=>by
  rw [hs_snoc,List.find?_append]
  by_cases e:i < N
  ·rw [find_hs h hp e];rfl
  ·obtain rfl:i=N:=by omega
   rw [find_none h]
   simp [hp]
def gOrd:List AV→Option (Prop × AV)
 | [.agg [.v (.int .i64 n),.dv (.mp t)]]=>some (mpI t∧0≤n∧n≤1000,match ordF n.toNat (lkF t) n.toNat [] with
  | some l=>.tup [isl l,bv true]
  | none=>.tup [isl [],bv false])
 | _=>none
def dOrd:DFn:={ g:=gOrd }
attribute [go_sem] gOrd dOrd
theorem ord_next {N:Nat} {of:Rel} {out:List Int} {h:Int} (hl:out.length < N) (hf:(hs N).find? (rdyB N of out)=some h):ordF N of (N - out.length) out=ordF N of (N - (out++[h]).length) (out++[h]):=by
 obtain ⟨q,hq⟩:∃ q,N - out.length=q + 1:=⟨N - out.length - 1,by omega⟩
 rw [hq,ordF,hf]
 show ordF N of q (out++[h])=_
 rw [show N - (out++[h]).length=q by simp only [List.length_append,List.length_singleton];omega]
theorem ord_stop {N:Nat} {of:Rel} {out:List Int} (hl:out.length < N) (hf:(hs N).find? (rdyB N of out)=none):ordF N of (N - out.length) out=none:=by
 obtain ⟨q,hq⟩:∃ q,N - out.length=q + 1:=⟨N - out.length - 1,by omega⟩
 rw [hq,ordF,hf]
set_option maxHeartbeats 4000000 in
theorem order_ok:Fine Tryd.prog 92 dOrd.con:=by
 refine fine_detX [] gl_nil [] ms_nil [(102,(cRdy,[(1000,1000)],[]))] (mm_cons rdy_ok (by decide) mm_nil) [7,32] [] ex_nil (T:=TT) Tryd.func92 rfl Tryd.ntmps92 (by rw [Tryd.results92]) rfl rfl tt gs_nil ds_nil ?_
 intro args c r h hc
 simp only [dOrd,gOrd] at h
 split at h
 rotate_left
 ·cases h
 rename_i n t
 obtain ⟨rfl,rfl⟩:=Prod.mk.inj (Option.some.inj h)
 refine ⟨by simp,fun k E hE Q hQ=>?_⟩
 obtain ⟨hmp,hn0,hn⟩:=hc
 refine Aw_st hE [1] [1,4,32,750] fun K hK=>?_
 simp only [go_sem,seval]
 refine hK _ ?_;clear hK K
 refine Aw_st hE [1,4] [1,4,32,750] fun K hK=>?_
 simp only [go_sem,seval]
 refine hK _ ?_;clear hK K
 refine Aw_st hE [1,4,5] [1,4,32,750] fun K hK=>?_
 simp only [go_sem,seval]
 refine hK _ ?_;clear hK K
 refine Aw_sq fun B1 hB1 hR1 hX1=>?_
 refine Aw_bk fun B2 hN2 hE2 hR2 hX2=>?_
 refine Aw_lp (fun o:Option (List Int × Nat)=>⟨34,[(1,.loc 1 0),(4,.loc 4 0),(5,.cl 102 false [.loc 4 0,.loc 1 0])],(1,[iv n,.dv (.mp t)])::(4,[vwA 750 o])::vwM 750 o,k⟩) (fun o=>(vwL o).length≤n.toNat∧ordF n.toNat (lkF t) n.toNat []=ordF n.toNat (lkF t) (n.toNat - (vwL o).length) (vwL o)) (fun o=>n.toNat - (vwL o).length) none (Le_wa) ⟨Nat.zero_le _,rfl⟩ fun o ho B3 hN3 hR3 hX3=>?_
 obtain ⟨hlen,heq⟩:=ho
 refine Aw_sq fun B4 hB4 hR4 hX4=>?_
 cases o with
 | none =>
  simp only [vwL] at hlen heq
  refine Aw_st hE [1,4,5,12] [1,4,32,750] fun K hK=>?_
  simp only [go_sem,seval]
  refine hK _ (Aw_cond rfl (fun hc5=>?_) (fun hc5=>?_))
  rotate_left
  ·simp only [dfn] at hc5
   have hN:n.toNat=0:=by omega
   have hord:ordF n.toNat (lkF t) n.toNat []=some []:=by rw [hN];rfl
   rw [hord] at hQ
   refine Aw_exit (hX4 _ _ (hX3 _ _ (hE2 _ (hB1 _ ?_))))
   refine Aw_st hE [2,3] [1,4,32,750] fun K hK=>?_
   simp only [go_sem,seval]
   refine hK _ (Aw_ret (hQ _ ?_))
   simp only [go_sem,seval]
   all_goals rfl
  simp only [dte] at hc5
  refine Aw_skip (hB4 _ ?_)
  refine Aw_bk fun B6 hN6 hE6 hR6 hX6=>?_
  refine Aw_st hE [1,4,5,6] [1,4,32,750] fun K hK=>?_
  simp only [go_sem,seval]
  refine hK _ ?_;clear hK K
  refine Aw_sq fun B7 hB7 hR7 hX7=>?_
  refine Aw_bk fun B8 hN8 hE8 hR8 hX8=>?_
  refine Aw_lp (fun i:Nat=>⟨34,[(1,.loc 1 0),(4,.loc 4 0),(5,.cl 102 false [.loc 4 0,.loc 1 0]),(6,iv ((i:Int) + 1))],(1,[iv n,.dv (.mp t)])::(4,[vwA 750 (none)])::vwM 750 (none),k⟩) (fun i=>(i:Int)≤n∧∀ j,j < i→rdyB n.toNat (lkF t) ([]:List Int) ((j:Int) + 1)=false) (fun i=>n.toNat - i) 0 (Le_wa) ⟨by omega,fun j h=>absurd h (by omega)⟩ fun i hi B9 hN9 hR9 hX9=>?_
  obtain ⟨hi,hno⟩:=hi
  have hl3:0≤1000:=by omega
  refine Aw_sq fun B10 hB10 hR10 hX10=>?_
  refine Aw_st hE [1,4,5,6,22] [1,4,32,750] fun K hK=>?_
  simp only [go_sem,seval,hmp,hn0,hn]
  refine ⟨fun hg=>⟨by decide,?_⟩,fun hg=>?_⟩
  ·simp only [dte] at hg
   refine hK _ (Aw_cond rfl (fun hc13=>?_) (fun hc13=>?_))
   ·simp only [Bool.not_eq_true'] at hc13
    refine Aw_skip (hB10 _ ?_)
    refine Aw_bk fun B14 hN14 hE14 hR14 hX14=>?_
    refine Aw_tx hE [1,4,5,6] [1,4,32,750] fun K hK=>?_
    simp only [go_sem,seval]
    repeat refine sd0 ?_
    refine hK _ (hN14 _ (hN9 (i + 1) _ ⟨by omega,fun j hj=>if e:j < i then hno j e else (by obtain rfl:j=i:=(by omega);exact hc13)⟩ (by omega) (Le.refl _)))
   ·simp only [Bool.not_eq_false'] at hc13
    have hfd:=find_hs (p:=rdyB n.toNat (lkF t) ([]:List Int)) hno hc13 (N:=n.toNat) (by omega)
    refine Aw_exit (hX10 _ _ (hX9 _ _ (hE8 _ (hB7 _ ?_))))
    refine Aw_sq fun B15 hB15 hR15 hX15=>?_
    refine Aw_st hE [1,4,5,6,28] [1,4,32,750] fun K hK=>?_
    simp only [go_sem,seval]
    refine hK _ (Aw_cond rfl (fun hc16=>absurd (of_decide_eq_true hc16) (by omega)) (fun hc16=>?_))
    refine Aw_skip (hB15 _ ?_)
    refine Aw_tx hE [1,4,5] [1,4,32,750] fun K hK=>?_
    simp only [go_sem,seval]
    have hnx:=ord_next (out:=([]:List Int)) (by simp only [List.length_nil];omega) hfd
    intro cap' hcap'
    obtain ⟨c',rfl⟩:∃ c',cap'=c' + 1:=⟨cap' - 1,by omega⟩
    rw [Nat.add_sub_cancel]
    refine hK _ (hN6 _ (hN3 (some ([(i:Int) + 1],c')) _ ⟨by simp only [vwL,List.length_singleton];omega,heq.trans hnx⟩ (by simp only [vwL,List.length_singleton,List.length_nil];omega) ?_))
    refine (Le_swb _ 32 750 (by decide) (by decide)).trans ?_
    simp only [St.swb,swbσ,swbm,AV.swb,AV.swbAll,swp,jN_swb,row_swb,Nat.reduceEqDiff,if_true,if_false,reduceIte]
    exact Le_wa
  ·simp only [dfn] at hg
   have hfd:=find_none (p:=rdyB n.toNat (lkF t) ([]:List Int)) (N:=n.toNat) fun j hj=>hno j (by omega)
   have hord:ordF n.toNat (lkF t) n.toNat []=none:=heq.trans (ord_stop (out:=([]:List Int)) (by first | omega | (simp only [List.length_nil];omega)) hfd)
   rw [hord] at hQ
   refine hK _ (Aw_no rfl ?_)
   refine Aw_exit (hX10 _ _ (hX9 _ _ (hE8 _ (hB7 _ ?_))))
   refine Aw_sq fun B17 hB17 hR17 hX17=>?_
   refine Aw_st hE [1,4,5,6,28] [1,4,32,750] fun K hK=>?_
   simp only [go_sem,seval]
   refine hK _ (Aw_cond rfl (fun hc18=>?_) (fun hc18=>absurd (of_decide_eq_false hc18) (by omega)))
   refine Aw_st hE [2,3] [1,4,32,750] fun K hK=>?_
   simp only [go_sem,seval]
   refine hK _ (Aw_ret (hR17 _ (hR6 _ (hR3 _ (hR2 _ (hR1 _ (hQ _ ?_)))))))
   simp only [go_sem,seval]
   all_goals rfl
 | some p =>
  obtain ⟨l,c⟩:=p
  simp only [vwL] at hlen heq
  refine Aw_st hE [1,4,5,12] [1,4,32,750] fun K hK=>?_
  simp only [go_sem,seval]
  refine hK _ (Aw_cond rfl (fun hc5=>?_) (fun hc5=>?_))
  rotate_left
  ·simp only [dfn] at hc5
   have hN:n.toNat - l.length=0:=by omega
   have hord:ordF n.toNat (lkF t) n.toNat []=some l:=by rw [heq,hN];rfl
   rw [hord] at hQ
   refine Aw_exit (hX4 _ _ (hX3 _ _ (hE2 _ (hB1 _ ?_))))
   refine Aw_st hE [2,3] [1,4,32,750] fun K hK=>?_
   simp only [go_sem,seval]
   refine hK _ ?_
   refine Aw_frz hE rfl 750 l.length (ls:=cI l++jN c) (ys:=iD l) rfl (ofAll_iD rfl) ?_
   simp only [go_sem,seval,↓frz_xs (d:=750) (cap:=c + l.length) (l:=l) rfl]
   refine Aw_ret (hQ _ ?_)
   simp only [go_sem,seval]
   all_goals rfl
  simp only [dte] at hc5
  refine Aw_skip (hB4 _ ?_)
  refine Aw_bk fun B6 hN6 hE6 hR6 hX6=>?_
  refine Aw_st hE [1,4,5,6] [1,4,32,750] fun K hK=>?_
  simp only [go_sem,seval]
  refine hK _ ?_;clear hK K
  refine Aw_sq fun B7 hB7 hR7 hX7=>?_
  refine Aw_bk fun B8 hN8 hE8 hR8 hX8=>?_
  refine Aw_lp (fun i:Nat=>⟨34,[(1,.loc 1 0),(4,.loc 4 0),(5,.cl 102 false [.loc 4 0,.loc 1 0]),(6,iv ((i:Int) + 1))],(1,[iv n,.dv (.mp t)])::(4,[vwA 750 (some (l,c))])::vwM 750 (some (l,c)),k⟩) (fun i=>(i:Int)≤n∧∀ j,j < i→rdyB n.toNat (lkF t) l ((j:Int) + 1)=false) (fun i=>n.toNat - i) 0 (Le_wa) ⟨by omega,fun j h=>absurd h (by omega)⟩ fun i hi B9 hN9 hR9 hX9=>?_
  obtain ⟨hi,hno⟩:=hi
  have hl3:l.length≤1000:=by omega
  refine Aw_sq fun B10 hB10 hR10 hX10=>?_
  refine Aw_st hE [1,4,5,6,22] [1,4,32,750] fun K hK=>?_
  simp only [go_sem,seval,hmp,hn0,hn,hl3]
  refine ⟨fun hg=>⟨by decide,?_⟩,fun hg=>?_⟩
  ·simp only [dte] at hg
   refine hK _ (Aw_cond rfl (fun hc13=>?_) (fun hc13=>?_))
   ·simp only [Bool.not_eq_true'] at hc13
    refine Aw_skip (hB10 _ ?_)
    refine Aw_bk fun B14 hN14 hE14 hR14 hX14=>?_
    refine Aw_tx hE [1,4,5,6] [1,4,32,750] fun K hK=>?_
    simp only [go_sem,seval]
    repeat refine sd0 ?_
    refine hK _ (hN14 _ (hN9 (i + 1) _ ⟨by omega,fun j hj=>if e:j < i then hno j e else (by obtain rfl:j=i:=(by omega);exact hc13)⟩ (by omega) (Le.refl _)))
   ·simp only [Bool.not_eq_false'] at hc13
    have hfd:=find_hs (p:=rdyB n.toNat (lkF t) l) hno hc13 (N:=n.toNat) (by omega)
    refine Aw_exit (hX10 _ _ (hX9 _ _ (hE8 _ (hB7 _ ?_))))
    refine Aw_sq fun B15 hB15 hR15 hX15=>?_
    refine Aw_st hE [1,4,5,6,28] [1,4,32,750] fun K hK=>?_
    simp only [go_sem,seval]
    refine hK _ (Aw_cond rfl (fun hc16=>absurd (of_decide_eq_true hc16) (by omega)) (fun hc16=>?_))
    refine Aw_skip (hB15 _ ?_)
    refine Aw_tx hE [1,4,5] [1,4,32,750] fun K hK=>?_
    simp only [go_sem,seval]
    have hnx:=ord_next (out:=l) (by omega) hfd
    have hl1:(l++[(i:Int) + 1]).length=l.length + 1:=by simp
    refine ⟨⟨by omega,by omega⟩,fun h=>?_,fun h cap' hcap'=>?_⟩
    ·obtain ⟨e',rfl⟩:∃ e',c=e' + 1:=⟨c - 1,by omega⟩
     rw [row_put]
     have hec:e' + 1 + l.length=e' + (l.length + 1):=by omega
     refine hK _ (hN6 _ (hN3 (some (l++[(i:Int) + 1],e')) _ ⟨by simp only [vwL,hl1];omega,heq.trans hnx⟩ (by simp only [vwL,hl1];omega) ?_))
     simp only [vwA,vwM,hl1,hec]
     exact Le_wa
    ·obtain ⟨e',rfl⟩:∃ e',cap'=e' + (l.length + 1):=⟨cap' - (l.length + 1),by omega⟩
     rw [Nat.add_sub_cancel,List.append_assoc,List.singleton_append,row_snoc]
     refine hK _ (hN6 _ (hN3 (some (l++[(i:Int) + 1],e')) _ ⟨by simp only [vwL,hl1];omega,heq.trans hnx⟩ (by simp only [vwL,hl1];omega) ?_))
     simp only [vwA,vwM,hl1]
     refine (Le_swb _ 32 750 (by decide) (by decide)).trans ?_
     simp only [St.swb,swbσ,swbm,AV.swb,AV.swbAll,swp,jN_swb,row_swb,Nat.reduceEqDiff,if_true,if_false,reduceIte]
     exact Le_wa
  ·simp only [dfn] at hg
   have hfd:=find_none (p:=rdyB n.toNat (lkF t) l) (N:=n.toNat) fun j hj=>hno j (by omega)
   have hord:ordF n.toNat (lkF t) n.toNat []=none:=heq.trans (ord_stop (out:=l) (by first | omega | (simp only [List.length_nil];omega)) hfd)
   rw [hord] at hQ
   refine hK _ (Aw_no rfl ?_)
   refine Aw_exit (hX10 _ _ (hX9 _ _ (hE8 _ (hB7 _ ?_))))
   refine Aw_sq fun B17 hB17 hR17 hX17=>?_
   refine Aw_st hE [1,4,5,6,28] [1,4,32,750] fun K hK=>?_
   simp only [go_sem,seval]
   refine hK _ (Aw_cond rfl (fun hc18=>?_) (fun hc18=>absurd (of_decide_eq_false hc18) (by omega)))
   refine Aw_st hE [2,3] [1,4,32,750] fun K hK=>?_
   simp only [go_sem,seval]
   refine hK _ (Aw_ret (hR17 _ (hR6 _ (hR3 _ (hR2 _ (hR1 _ (hQ _ ?_)))))))
   simp only [go_sem,seval]
   all_goals rfl
def ordR (R:List (List Int)):Option (List Int):=if relsOk R then ordF R.length (ofR R) R.length [] else none
def gRelsOrder:List AV→Option (Prop × AV)
 | [.sl _ els]=>(match waysL els with
  | some R=>some (bigM R,.tup [isl ((ordR R).getD []),bv (ordR R).isSome])
  | none=>none)
 | _=>none
def dRelsOrder:DFn:={ g:=gRelsOrder }
def gRelsFree:List AV→Option (Prop × AV)
 | [.sl _ els]=>(match waysL els with
  | some R=>some (bigM R,bv (ordR R).isSome)
  | none=>none)
 | _=>none
def dRelsFree:DFn:={ g:=gRelsFree }
attribute [go_sem] gRelsOrder dRelsOrder gRelsFree dRelsFree
theorem relsOrder_ok:Fine Tryd.prog 63 dRelsOrder.con:=by
 refine fine_det (T:=TT) Tryd.func63 rfl Tryd.ntmps63 (by rw [Tryd.results63]) rfl rfl tt (gs_cons readRels_ok gs_nil) (ds_cons order_ok ds_nil) ?_
 intro args c r h hc
 simp only [dRelsOrder,gRelsOrder] at h
 split at h
 rotate_left
 ·cases h
 split at h
 rotate_left
 ·cases h
 rename_i tt els _ R hiw
 obtain rfl:=waysL_eq hiw
 obtain ⟨rfl,rfl⟩:=Prod.mk.inj (Option.some.inj h)
 refine ⟨by simp,fun k E hE Q hQ=>?_⟩
 refine Aw_st hE [0] [4] fun K hK=>?_
 simp only [go_sem,seval]
 refine hK _ ?_;clear hK K
 refine Aw_st hE [4,5] [4] fun K hK=>?_
 simp only [go_sem,seval,hc]
 refine ⟨fun hno=>?_,fun hok t hmp hlk=>?_⟩
 ·have ho:ordR R=none:=by unfold ordR;rw [hno];rfl
  refine hK _ ?_;clear hK K
  refine Aw_sq fun B1 hB1 hR1 hX1=>?_
  refine Aw_st hE [4,12] [4] fun K hK=>?_
  simp only [go_sem,seval]
  refine hK _ (Aw_yes rfl ?_)
  refine Aw_st hE [2,3] [4] fun K hK=>?_
  simp only [go_sem,seval]
  refine hK _ (Aw_ret (hR1 _ (hQ _ ?_)))
  simp only [go_sem,seval,ho]
  all_goals rfl
 ·have ho:ordR R=ordF R.length (ofR R) R.length []:=by unfold ordR;rw [if_pos hok]
  have hn5:=(relsOk_iff.1 hok).1.2
  have h1:(0:Int)≤R.length:=by omega
  have h2:(R.length:Int)≤1000:=by omega
  refine hK _ ?_;clear hK K
  refine Aw_sq fun B1 hB1 hR1 hX1=>?_
  refine Aw_st hE [4,12] [4] fun K hK=>?_
  simp only [go_sem,seval]
  refine hK _ (Aw_no rfl (Aw_skip (hB1 _ ?_)))
  rw [ho] at hQ
  cases hord:ordF R.length (ofR R) R.length [] with
  | none =>
   rw [hord] at hQ
   refine Aw_st hE [2,3] [4] fun K hK=>?_
   simp only [go_sem,seval,hmp,h1,h2,hlk,Int.toNat_natCast,hord]
   refine hK _ (Aw_ret (hQ _ ?_))
   simp only [go_sem,seval]
   all_goals rfl
  | some l =>
   rw [hord] at hQ
   refine Aw_st hE [2,3] [4] fun K hK=>?_
   simp only [go_sem,seval,hmp,h1,h2,hlk,Int.toNat_natCast,hord]
   refine hK _ (Aw_ret (hQ _ ?_))
   simp only [go_sem,seval]
   all_goals rfl
theorem relsFree_ok:Fine Tryd.prog 33 dRelsFree.con:=by
 refine fine_det (T:=TT) Tryd.func33 rfl Tryd.ntmps33 (by rw [Tryd.results33]) rfl rfl tt (gs_nil) (ds_cons relsOrder_ok ds_nil) ?_
 intro args c r h hc
 simp only [dRelsFree,gRelsFree] at h
 split at h
 rotate_left
 ·cases h
 split at h
 rotate_left
 ·cases h
 rename_i tt els _ R hiw
 obtain rfl:=waysL_eq hiw
 obtain ⟨rfl,rfl⟩:=Prod.mk.inj (Option.some.inj h)
 refine ⟨by simp,fun k E hE Q hQ=>?_⟩
 refine Aw_st hE [0] [] fun K hK=>?_
 simp only [go_sem,seval]
 repeat refine sd0 ?_
 refine hK _ ?_;clear hK K
 refine Aw_st hE [4] [] fun K hK=>?_
 simp only [go_sem,seval,hc]
 repeat refine sd0 ?_
 refine hK _ ?_;clear hK K
 refine Aw_st hE [2] [] fun K hK=>?_
 simp only [go_sem,seval]
 repeat refine sd0 ?_
 refine hK _ (Aw_ret (hQ _ ?_))
 simp only [go_sem,seval]
def endR (R:List (List Int)) (x:Int):List (List Int):=if relsOk R && hIb R.length x then endL R.length (ofR R) x else []
theorem endR_big {R:List (List Int)} {x:Int}:bigM (endR R x)∧(endR R x).length≤5:=by
 unfold endR
 split
 ·rename_i h
  rw [Bool.and_eq_true] at h
  have hn5:=(relsOk_iff.1 h.1).1.2
  have hx:=hIb_iff.1 h.2
  have hl:=(endL_S (of:=ofR R) hx).2
  have hv:=end_net (of:=ofR R) hn5 hx
  refine ⟨⟨by omega,fun w hw=>?_⟩,by omega⟩
  obtain ⟨i,hi,rfl⟩:=List.getElem_of_mem hw
  have:=hv.2 ((i:Int) + 1) ⟨by omega,by omega⟩
  rw [toS_succ,List.getD_eq_getElem?_getD,List.getElem?_eq_getElem hi,Option.getD_some] at this
  by_cases e:(endL R.length (ofR R) x)[i]=[]
  ·rw [e];simp
  ·have:=pathOk_len ((wayOk_iff e).1 this).2.2.1;omega
 ·exact ⟨⟨by simp,fun w hw=>by cases hw⟩,by simp⟩
theorem endR_bw {R:List (List Int)} {x:Int}:bigW (endR R x):=by
 obtain ⟨⟨h1,h2⟩,h3⟩:=endR_big (R:=R) (x:=x)
 exact ⟨by omega,fun w hw=>by have:=h2 w hw;omega⟩
structure FreeR (R:List (List Int)) (x:Int):Prop where
 ok:relsOk R=true
 home:hI R.length x
 n5:R.length≤5
 H:RelH R.length (ofR R)
 rk:∃ rk,Rk R.length (ofR R) rk
 eq:endR R x=endL R.length (ofR R) x
 len:(endR R x).length=R.length
theorem endR_def (R:List (List Int)) (x:Int):(if (relsOk R && hIb R.length x)=true then endL R.length (ofR R) x else [])=endR R x:=rfl
attribute [go_sem] endR_def
section
variable {R:List (List Int)} {x:Int}
theorem FreeR.net (F:FreeR R x):netS R.length (ofR R) x (toS (endR R x)):=by rw [F.eq];exact end_net F.n5 F.home
theorem FreeR.still (F:FreeR R x):stillS R.length (ofR R) x (toS (endR R x)):=by
 obtain ⟨rk,K⟩:=F.rk
 rw [F.eq];exact end_still F.H K F.home
theorem FreeR.hi (_:FreeR R x) {i:Nat} (hi:i < R.length):hI R.length ((i:Int) + 1):=⟨by omega,by omega⟩
end
def pickR (R:List (List Int)) (x:Int) (W:List (List Int)) (h:Int):List Int:=if netOk R x W && hIb R.length h then pickN R.length (ofR R) x (toS W) h else []
theorem pickR_def (R:List (List Int)) (x:Int) (W:List (List Int)) (h:Int):(if (netOk R x W && hIb R.length h)=true then pickN R.length (ofR R) x (toS W) h else [])=pickR R x W h:=rfl
def stepR (R:List (List Int)) (x:Int) (W:List (List Int)) (h:Int):List (List Int):=if netOk R x W && hIb R.length h then stpL R.length (ofR R) x W h else []
theorem stepR_def (R:List (List Int)) (x:Int) (W:List (List Int)) (h:Int):(if (netOk R x W && hIb R.length h)=true then stpL R.length (ofR R) x W h else [])=stepR R x W h:=rfl
def playR (R:List (List Int)) (x:Int) (W:List (List Int)) (o:List Int):List (List Int):=if playOk R x W o then runL R.length (ofR R) x W o else []
theorem playR_def (R:List (List Int)) (x:Int) (W:List (List Int)) (o:List Int):(if playOk R x W o=true then runL R.length (ofR R) x W o else [])=playR R x W o:=rfl
attribute [go_sem] pickR_def stepR_def playR_def
section
variable {R:List (List Int)} {x:Int} {W:List (List Int)} {h:Int}
theorem net5 (hn:netOk R x W=true):R.length≤5:=(relsOk_iff.1 (netOk_iff.1 hn).1).1.2
theorem net_s (hn:netOk R x W=true):netS R.length (ofR R) x (toS W):=(netOk_iff.1 hn).2.2
theorem net_l (hn:netOk R x W=true):W.length=R.length:=(netOk_iff.1 hn).2.1
theorem net_h (hn:netOk R x W=true):hI R.length x:=(net_s hn).1
theorem pickR_eq (hn:netOk R x W=true) (hh:hI R.length h):pickR R x W h=pickN R.length (ofR R) x (toS W) h:=by
 unfold pickR;rw [hn,hIb_iff.2 hh];rfl
theorem pickR_len:(pickR R x W h).length≤5:=by
 unfold pickR
 split
 ·rename_i e
  rw [Bool.and_eq_true] at e
  have hh:=hIb_iff.1 e.2
  have hv:=wayPick_ok (net5 e.1) (net_s e.1) hh
  by_cases he:pickN R.length (ofR R) x (toS W) h=[]
  ·rw [he];simp
  ·have:=pathOk_len ((wayOk_iff he).1 hv).2.2.1
   omega
 ·simp
theorem stepR_eq (hn:netOk R x W=true) (hh:hI R.length h):stepR R x W h=stpL R.length (ofR R) x W h:=by
 unfold stepR;rw [hn,hIb_iff.2 hh];rfl
theorem stp_net (hn:netOk R x W=true) (hh:hI R.length h):netOk R x (stpL R.length (ofR R) x W h)=true:=by
 have:=netI_step hn hh
 rwa [stepC,if_pos (hIb_iff.2 hh)] at this
theorem stepR_ok:okW (stepR R x W h):=by
 unfold stepR
 split
 ·rename_i e
  rw [Bool.and_eq_true] at e
  exact okW_net (stp_net e.1 (hIb_iff.1 e.2))
 ·exact okW_nil
theorem run_net {o:List Int} (hn:netOk R x W=true) (ho:∀ y ∈ o,hI R.length y):netOk R x (runL R.length (ofR R) x W o)=true:=by
 obtain ⟨h1,h2,h3⟩:=netOk_iff.1 hn
 obtain ⟨e1,e2⟩:=toS_run (of:=ofR R) (home:=x) o h2 ho
 exact netOk_iff.2 ⟨h1,e2,by rw [e1];exact netS_run (net5 hn) o h3 ho⟩
theorem play_iff {o:List Int}:playOk R x W o=true↔netOk R x W=true∧o.length≤200∧∀ y ∈ o,hI R.length y:=by
 simp only [playOk,Bool.and_eq_true,dte,List.all_eq_true,hIb_iff,and_assoc]
theorem playR_eq {o:List Int} (hp:playOk R x W o=true):playR R x W o=runL R.length (ofR R) x W o:=by
 unfold playR;rw [if_pos hp]
theorem playR_net {o:List Int} (hp:playOk R x W o=true):netOk R x (playR R x W o)=true:=by
 rw [playR_eq hp]
 obtain ⟨h1,_,h3⟩:=play_iff.1 hp
 exact run_net h1 h3
theorem playR_ok {o:List Int}:okW (playR R x W o):=by
 cases hp:playOk R x W o with
 | true=>exact okW_net (playR_net hp)
 | false=>unfold playR;rw [hp];exact okW_nil
theorem pickR_home (hn:netOk R x W=true):pickR R x W x=[x]:=by
 rw [pickR_eq hn (net_h hn)];exact pick_home
end
section
variable {R:List (List Int)} {x:Int} {W:List (List Int)} {h:Int}
theorem tell_eq {w:List Int} {b:Int} (h1:w≠[]) (h2:w.contains h=false):tells (ofR R) w b h=mayB (ofR R) b (nxt w) h:=by
 have e:w.isEmpty=false:=by simpa using h1
 unfold tells mayB upW
 rw [e,h2]
 simp only [Bool.not_false,Bool.true_and,Bool.or_assoc]
theorem tell_own (hn:netOk R x W=true) {w:List Int} (hh:hI R.length h):tells (ofR R) w h h=false:=by
 have:=(relsOk_H (netOk_iff.1 hn).1).irr h hh
 unfold tells
 rw [this];simp
theorem tell_nil {b:Int}:tells (ofR R) [] b h=false:=rfl
theorem tell_in {w:List Int} {b:Int} (h2:w.contains h=true):tells (ofR R) w b h=false:=by unfold tells;rw [h2];simp
theorem net_in (hn:netOk R x W=true) {j:Nat} (hj:j < R.length):∀ y ∈ W.getD j [],hI R.length y:=by
 obtain ⟨_,h2⟩:=netOk_in hn
 exact (h2.2 _ (getD_memL W j (by rw [h2.1];exact hj))).2
theorem nxt_rng (hn:netOk R x W=true) {j:Nat} (hj:j < R.length):(decide (nxt (W.getD j [])=0) || hIb R.length (nxt (W.getD j [])))=true:=by
 by_cases e:1 < (W.getD j []).length
 ·have:=net_in hn hj _ (getD_mem (W.getD j []) 1 e)
  rw [show nxt (W.getD j [])=(W.getD j []).getD 1 0 from rfl,hIb_iff.2 this,Bool.or_true]
 ·rw [show nxt (W.getD j [])=0 by unfold nxt;rw [List.getD_eq_getElem?_getD,List.getElem?_eq_none (by omega)];rfl];rfl
theorem told_kind (hn:netOk R x W=true) {j:Nat} (hj:j < R.length) (hh:hI R.length h) (ht:tells (ofR R) (W.getD j []) ((j:Int) + 1) h=true) :
  ∃ r,(r=1∨r=2∨r=3)∧ofR R h ((j:Int) + 1)=r∧cnd (ofR R) (toS W) h r ((j:Int) + 1)=true:=by
 have H:=relsOk_H (netOk_iff.1 hn).1
 have hb:hI R.length ((j:Int) + 1):=⟨by omega,by omega⟩
 have h0:=(tells_ne ht).2.2
 have hm:=H.mir h ((j:Int) + 1) hh hb
 refine ⟨ofR R h ((j:Int) + 1),?_,rfl,?_⟩
 ·rcases H.rng h ((j:Int) + 1) hh hb with e | e | e | e
  ·rw [e] at hm;exact absurd hm h0
  ·exact .inl e
  ·exact .inr (.inl e)
  ·exact .inr (.inr e)
 ·unfold cnd
  rw [toS_succ,ht]
  simp
theorem pickR_way (hn:netOk R x W=true) (hh:hI R.length h) {j:Nat} (hl:1 < (pickR R x W h).length) (hj:(pickR R x W h).getD 1 0=(j:Int) + 1):(pickR R x W h).drop 1=W.getD j []:=by
 rw [pickR_eq hn hh] at hl hj ⊢
 by_cases e:h=x
 ·subst e;rw [pick_home] at hl;simp at hl
 rcases pick_cases (n:=R.length) (of:=ofR R) (home:=x) (W:=toS W) e with ⟨e1,_⟩ | ⟨rel,b,hr,hb,hc,e1,_⟩
 ·rw [e1] at hl;simp at hl
 ·have hne:=(tells_ne (cnd_of hc).2).1
  have hx:=nxt_cons (h:=h) (netS_hds (net_s hn)) hb hne
  rw [e1] at hj ⊢
  have:b=(j:Int) + 1:=by rw [← hx];exact hj
  rw [this,toS_succ]
  rfl
def someT (R W:List (List Int)) (h:Int):Nat→Bool
 | 0=>false
 | j + 1=>someT R W h j || tells (ofR R) (W.getD j []) ((j:Int) + 1) h
theorem someT_iff:∀ n:Nat,someT R W h n=true↔∃ j,j < n∧tells (ofR R) (W.getD j []) ((j:Int) + 1) h=true
 | 0=>by simp [someT]
 | n + 1=>by
  rw [someT,Bool.or_eq_true,someT_iff n]
  constructor
  ·rintro (⟨j,hj,ht⟩ | ht)
   ·exact ⟨j,by omega,ht⟩
   ·exact ⟨n,by omega,ht⟩
  ·rintro ⟨j,hj,ht⟩
   by_cases e:j=n
   ·subst e;exact .inr ht
   ·exact .inl ⟨j,by omega,ht⟩
theorem pickR_some (hn:netOk R x W=true) (hh:hI R.length h) (hne:h≠x):(pickR R x W h≠[])↔someT R W h R.length=true:=by
 rw [pickR_eq hn hh,someT_iff]
 rcases pick_cases (n:=R.length) (of:=ofR R) (home:=x) (W:=toS W) hne with ⟨e1,c1,c2,c3⟩ | ⟨rel,b,hr,hb,hc,e1,_⟩
 ·constructor
  ·intro h;exact absurd e1 h
  ·rintro ⟨j,hj,ht⟩
   obtain ⟨r,hr,_,hc⟩:=told_kind hn hj hh ht
   have hm:=cands_mem (n:=R.length) (of:=ofR R) (W:=toS W) (h:=h) ⟨by omega,by omega⟩ hc
   rcases hr with rfl | rfl | rfl
   ·rw [c1] at hm;cases hm
   ·rw [c2] at hm;cases hm
   ·rw [c3] at hm;cases hm
 ·constructor
  ·intro _
   obtain ⟨b1,b2⟩:=hb
   obtain ⟨m,rfl⟩:∃ m:Nat,b=(m:Int) + 1:=⟨(b - 1).toNat,by omega⟩
   refine ⟨m,by omega,?_⟩
   have:=(cnd_of hc).2
   rwa [toS_succ] at this
  ·intro _ h;rw [e1] at h;cases h
theorem pickR_own (hn:netOk R x W=true) (hh:hI R.length h) (hne:pickR R x W h≠[]):(pickR R x W h).getD 0 0=h∧pathOk (pickR R x W h)=true:=by
 rw [pickR_eq hn hh] at hne ⊢
 have hv:=(wayOk_iff hne).1 (wayPick_ok (net5 hn) (net_s hn) hh)
 refine ⟨?_,hv.2.2.1⟩
 have:=hv.2.2.2.1
 rw [List.getD_eq_getElem?_getD,← List.head?_eq_getElem?,this];rfl
theorem pickR_best (hn:netOk R x W=true) (hh:hI R.length h) (hne:h≠x) (hp:pickR R x W h≠[]) :
  2≤(pickR R x W h).length∧ofR R h ((pickR R x W h).getD 1 0)≠0∧∀ j,j < R.length→tells (ofR R) (W.getD j []) ((j:Int) + 1) h=true→
   ¬ ofR R h ((j:Int) + 1) < ofR R h ((pickR R x W h).getD 1 0)∧(ofR R h ((j:Int) + 1)=ofR R h ((pickR R x W h).getD 1 0)→¬ pCmp (h::W.getD j []) (pickR R x W h) < 0):=by
 rw [pickR_eq hn hh] at hp ⊢
 rcases pick_cases (n:=R.length) (of:=ofR R) (home:=x) (W:=toS W) hne with ⟨e1,_⟩ | ⟨rel,b,hr,hb,hc,e1,_,hl,hm⟩
 ·exact absurd e1 hp
 have hne2:=(tells_ne (cnd_of hc).2).1
 have hx:(h::toS W b).getD 1 0=b:=nxt_cons (h:=h) (netS_hds (net_s hn)) hb hne2
 have hrel:=(cnd_of hc).1
 rw [e1,hx,hrel]
 refine ⟨?_,by omega,fun j hj ht=>?_⟩
 ·cases e:toS W b with
  | nil=>exact absurd e hne2
  | cons y l=>simp
 obtain ⟨r,hr2,er,hc2⟩:=told_kind hn hj hh ht
 have hmem:=cands_mem (n:=R.length) (of:=ofR R) (W:=toS W) (h:=h) ⟨by omega,by omega⟩ hc2
 rw [er]
 refine ⟨fun hlt=>?_,fun e=>?_⟩
 ·rw [hl r (by omega) hlt] at hmem;cases hmem
 ·subst e
  rw [pCmp_cons]
  have:=hm _ hmem
  rwa [toS_succ] at this
end
end Go.Proofs.W
end
section
namespace Go.Proofs.W
open Go Go.Eng
def rdH (n s r i:Nat):Nat:=(if (r + s) % 2=1 then n - 1 - (i + r * s) % n else (i + r * s) % n) + 1
def rdP (n s r i:Nat):List Int:=(List.range i).map fun q=>(rdH n s r q:Int)
def lyR (n k s:Nat):List Int:=((List.range k).map fun r=>rdP n s r n).flatten
theorem rdP_succ (n s r i:Nat):rdP n s r (i + 1)=rdP n s r i++[(rdH n s r i:Int)]:=by
 unfold rdP;rw [List.range_succ,List.map_append];rfl
theorem rdP_len (n s r i:Nat):(rdP n s r i).length=i:=by unfold rdP;rw [List.length_map,List.length_range]
theorem lyR_succ (n k s:Nat):lyR n (k + 1) s=lyR n k s++rdP n s k n:=by
 unfold lyR;rw [List.range_succ,List.map_append,List.flatten_append];simp
theorem lyR_len (n s:Nat):∀ k,(lyR n k s).length=k * n
 | 0=>by simp [lyR]
 | k + 1=>by rw [lyR_succ,List.length_append,lyR_len n s k,rdP_len,Nat.succ_mul]
theorem rdH_rng {n:Nat} (hn:0 < n) (s r i:Nat):1≤rdH n s r i∧rdH n s r i≤n:=by
 have:=Nat.mod_lt (i + r * s) hn
 unfold rdH
 split<;>omega
theorem mod_hit {n:Nat} (t m:Nat) (hm:m < n):∃ i,i < n∧(i + t) % n=m:=by
 have hn:0 < n:=by omega
 have ht:=Nat.mod_lt t hn
 refine ⟨(m + (n - t % n)) % n,Nat.mod_lt _ hn,?_⟩
 rw [Nat.mod_add_mod]
 have e:m + (n - t % n) + t=m + n * (t / n + 1):=by
  have:=Nat.div_add_mod t n
  rw [Nat.mul_add,Nat.mul_one]
  omega
 rw [e,Nat.add_mul_mod_self_left,Nat.mod_eq_of_lt hm]
theorem rd_full {n:Nat} (hn:0 < n) (s r:Nat):full n (rdP n s r n):=by
 refine ⟨fun x hx=>?_,fun h hh=>?_⟩
 ·obtain ⟨i,_,rfl⟩:=List.mem_map.1 hx
  have:=rdH_rng hn s r i
  exact ⟨by omega,by omega⟩
 ·obtain ⟨h1,h2⟩:=hh
  obtain ⟨m,rfl⟩:∃ m:Nat,h=(m:Int) + 1:=⟨(h - 1).toNat,by omega⟩
  by_cases e:(r + s) % 2=1
  ·obtain ⟨i,hi,he⟩:=mod_hit (n:=n) (r * s) (n - 1 - m) (by omega)
   refine List.mem_map.2 ⟨i,List.mem_range.2 hi,?_⟩
   unfold rdH
   rw [if_pos e,he]
   omega
  ·obtain ⟨i,hi,he⟩:=mod_hit (n:=n) (r * s) m (by omega)
   refine List.mem_map.2 ⟨i,List.mem_range.2 hi,?_⟩
   unfold rdH
   rw [if_neg e,he]
   omega
theorem lyR_hI {n:Nat} (hn:0 < n) (k s:Nat):∀ x ∈ lyR n k s,hI n x:=fun x hx=>by
 obtain ⟨l,hl,hx⟩:=List.mem_flatten.1 hx
 obtain ⟨r,_,rfl⟩:=List.mem_map.1 hl
 exact (rd_full hn s r).1 x hx
theorem lyR_end {n:Nat} {of:Rel} {home:Int} {rk:Int→Nat} (H:RelH n of) (K:Rk n of rk) {L:List (List Int)} (hl:L.length=n) (hv:hds n (toS L)) (hh:hI n home) {k:Nat} (s:Nat) (hk:2 * n + 1≤k) :
  runL n of home L (lyR n k s)=endL n of home:=by
 have hn:0 < n:=by have:=hh.1;have:=hh.2;omega
 unfold lyR
 exact rounds_end H K hl hv hh (fun l hl=>by obtain ⟨r,_,rfl⟩:=List.mem_map.1 hl;exact rd_full hn s r) (by rw [List.length_map,List.length_range];exact hk)
theorem tmod_c (a n:Nat):((a:Int)).tmod (n:Int)=((a % n:Nat):Int):=(Int.ofNat_tmod a n).symm
end Go.Proofs.W
end
section
namespace Go.Proofs.W
open Go Go.Eng Go.RowKit
set_option maxRecDepth 100000
def gRnd:List AV→Option (Prop × AV)
 | [.v (.int .i64 n),.v (.int .i64 q),.v (.int .i64 s)]=>some ((1≤n∧n≤1000)∧(0≤q∧q≤1000)∧0≤s∧s≤1000,isl (lyR n.toNat q.toNat s.toNat))
 | _=>none
def dRnd:DFn:={ g:=gRnd }
attribute [go_sem] gRnd dRnd
theorem lyR_z (n s:Nat):lyR n 0 s=[]:=rfl
theorem rdP_z (n s r:Nat):rdP n s r 0=[]:=rfl
set_option maxHeartbeats 1000000 in
theorem lyRounds_ok:Fine Tryd.prog 32 dRnd.con:=by
 refine fine_det (T:=TT) Tryd.func32 rfl Tryd.ntmps32 (by rw [Tryd.results32]) rfl rfl tt (gs_nil) (ds_nil) ?_
 intro args c r h hc
 simp only [dRnd,gRnd] at h
 split at h
 rotate_left
 ·cases h
 obtain ⟨rfl,rfl⟩:=Prod.mk.inj (Option.some.inj h)
 refine ⟨by simp,fun k E hE Q hQ=>?_⟩
 rename_i n q s
 obtain ⟨⟨hn1,hn2⟩,⟨hq1,hq2⟩,hs1,hs2⟩:=hc
 obtain ⟨N,rfl⟩:∃ N:Nat,n=(N:Int):=⟨n.toNat,by omega⟩
 obtain ⟨Q1,rfl⟩:∃ N:Nat,q=(N:Int):=⟨q.toNat,by omega⟩
 obtain ⟨S,rfl⟩:∃ N:Nat,s=(N:Int):=⟨s.toNat,by omega⟩
 simp only [Int.toNat_natCast] at hQ
 refine Aw_st hE [0,1,2] [] fun K hK=>?_
 simp only [go_sem,seval]
 repeat refine sd0 ?_
 refine hK _ ?_;clear hK K
 refine Aw_st hE [0,1,2,7] [] fun K hK=>?_
 simp only [go_sem,seval]
 repeat refine sd0 ?_
 refine hK _ ?_;clear hK K
 refine Aw_sq fun B1 hB1 hR1 hX1=>?_
 refine Aw_st hE [0,1,2,7,8] [] fun K hK=>?_
 simp only [go_sem,seval]
 repeat refine sd0 ?_
 refine hK _ ?_;clear hK K
 refine Aw_bk fun B2 hN2 hE2 hR2 hX2=>?_
 refine Aw_lp (fun i:Nat=>⟨44,[(0,iv (N:Int)),(1,iv (Q1:Int)),(2,iv (S:Int)),(7,.sl (some (11,0,3)) (rows (lyR N i S))),(8,iv (i:Int))],[],k⟩) (fun i:Nat=>i≤Q1) (fun i:Nat=>Q1 - i) (0) (Le_wb (by simp only [go_sem,seval,lyR_z,rows_nil])) (by omega) fun i hi B3 hN3 hR3 hX3=>?_
 obtain ⟨r,rfl⟩:∃ r,r=i:=⟨_,rfl⟩
 have hr:=hi
 refine Aw_sq fun B4 hB4 hR4 hX4=>?_
 refine Aw_st hE [0,1,2,7,8,14] [] fun K hK=>?_
 simp only [go_sem,seval]
 repeat refine sd0 ?_
 refine hK _ (Aw_cond rfl (fun hc5=>?_) (fun hc5=>?_))
 ·simp only [dte] at hc5
  have hrk:r < Q1:=by omega
  have hrs:r * S≤1000 * 1000:=Nat.mul_le_mul (by omega) (by omega)
  have hrn:r * N≤1000 * 1000:=Nat.mul_le_mul (by omega) (by omega)
  refine Aw_skip (hB4 _ ?_)
  refine Aw_sq fun B6 hB6 hR6 hX6=>?_
  refine Aw_bk fun B7 hN7 hE7 hR7 hX7=>?_
  refine Aw_st hE [0,1,2,7,8,9] [] fun K hK=>?_
  simp only [go_sem,seval]
  repeat refine sd0 ?_
  refine hK _ ?_;clear hK K
  refine Aw_bk fun B8 hN8 hE8 hR8 hX8=>?_
  refine Aw_lp (fun i:Nat=>⟨44,[(0,iv (N:Int)),(1,iv (Q1:Int)),(2,iv (S:Int)),(7,.sl (some (11,0,3)) (rows (lyR N r S++rdP N S r i))),(8,iv (r:Int)),(9,iv (i:Int))],[],k⟩) (fun i:Nat=>i≤N) (fun i:Nat=>N - i) (0) (Le_wb (by simp only [go_sem,seval,rdP_z,List.append_nil])) (by omega) fun i hi B9 hN9 hR9 hX9=>?_
  refine Aw_sq fun B10 hB10 hR10 hX10=>?_
  refine Aw_st hE [0,1,2,7,8,9,19] [] fun K hK=>?_
  simp only [go_sem,seval]
  repeat refine sd0 ?_
  refine hK _ (Aw_cond rfl (fun hc11=>?_) (fun hc11=>?_))
  ·simp only [dte] at hc11
   have e1:(r:Int) * (S:Int)=((r * S:Nat):Int):=(Int.natCast_mul r S).symm
   have e2:(i:Int) + ((r * S:Nat):Int)=((i + r * S:Nat):Int):=by omega
   have e3:=tmod_c (i + r * S) N
   have e4:(r:Int) + (S:Int)=((r + S:Nat):Int):=by omega
   have e5:((r + S:Nat):Int).tmod 2=(((r + S) % 2:Nat):Int):=tmod_c (r + S) 2
   have hlen:(lyR N r S++rdP N S r i).length≤4294967295:=by rw [List.length_append,lyR_len,rdP_len];omega
   have hml:(i + r * S) % N < N:=Nat.mod_lt _ (by omega)
   have hst:lyR N r S++rdP N S r i++[(rdH N S r i:Int)]=lyR N r S++rdP N S r (i + 1):=by rw [rdP_succ,List.append_assoc]
   refine Aw_skip (hB10 _ ?_)
   refine Aw_sq fun B12 hB12 hR12 hX12=>?_
   refine Aw_bk fun B13 hN13 hE13 hR13 hX13=>?_
   refine Aw_st hE [0,1,2,7,8,9,10] [] fun K hK=>?_
   simp only [go_sem,seval,e1,e2,e3]
   repeat refine sd0 ?_
   refine hK _ ?_;clear hK K
   refine Aw_sq fun B14 hB14 hR14 hX14=>?_
   refine Aw_st hE [0,1,2,7,8,9,10,33] [] fun K hK=>?_
   simp only [go_sem,seval,e4,e5]
   repeat refine sd0 ?_
   refine hK _ (Aw_cond rfl (fun hc15=>?_) (fun hc15=>?_))
   ·simp only [dte] at hc15
    have he:(N:Int) - 1 - (((i + r * S) % N:Nat):Int) + 1=(rdH N S r i:Int):=by unfold rdH;rw [if_pos (by omega)];omega
    refine Aw_tx hE [0,1,2,7,8,9,10] [] fun K hK=>?_
    simp only [go_sem,seval]
    repeat refine sd0 ?_
    refine hK _ (hB14 _ ?_)
    refine Aw_tx hE [0,1,2,7,8,9] [] fun K hK=>?_
    simp only [go_sem,seval,he,none_row,hst,hlen]
    repeat refine sd0 ?_
    refine hK _ (hN13 _ (hB12 _ ?_))
    refine Aw_tx hE [0,1,2,7,8,9] [] fun K hK=>?_
    simp only [go_sem,seval]
    repeat refine sd0 ?_
    refine hK _ (hN9 (i + 1) _ (by omega) (by omega) (Le_tk 42 11 rfl))
   ·simp only [dfn] at hc15
    have he:(((i + r * S) % N:Nat):Int) + 1=(rdH N S r i:Int):=by unfold rdH;rw [if_neg (by omega)];omega
    refine Aw_skip (hB14 _ ?_)
    refine Aw_tx hE [0,1,2,7,8,9] [] fun K hK=>?_
    simp only [go_sem,seval,he,none_row,hst,hlen]
    repeat refine sd0 ?_
    refine hK _ (hN13 _ (hB12 _ ?_))
    refine Aw_tx hE [0,1,2,7,8,9] [] fun K hK=>?_
    simp only [go_sem,seval]
    repeat refine sd0 ?_
    refine hK _ (hN9 (i + 1) _ (by omega) (by omega) (Le_tk 42 11 rfl))
  ·simp only [dfn] at hc11
   obtain rfl:i=N:=by omega
   rw [← lyR_succ]
   refine Aw_exit (hX10 _ _ (hX9 _ _ (hE8 _ (hN7 _ (hB6 _ ?_)))))
   refine Aw_tx hE [0,1,2,7,8] [] fun K hK=>?_
   simp only [go_sem,seval]
   repeat refine sd0 ?_
   refine hK _ (hN3 (r + 1) _ (by omega) (by omega) (Le_wb (by simp only [go_sem,seval,Int.natCast_add,Int.natCast_one])))
 ·simp only [dfn] at hc5
  obtain rfl:r=Q1:=by omega
  refine Aw_exit (hX4 _ _ (hX3 _ _ (hE2 _ (hB1 _ ?_))))
  refine Aw_st hE [6] [] fun K hK=>?_
  simp only [go_sem,seval]
  repeat refine sd0 ?_
  refine hK _ (Aw_ret (hQ _ ?_))
  simp only [go_sem,seval]
theorem drawNetStep_ok:Fine Tryd.prog 22 cDNP:=by
 refine fine_of (T:=TT) Tryd.func22 rfl Tryd.ntmps22 (by rw [Tryd.results22]) rfl rfl tt (gs_cons drawNetPick_ok gs_nil) ds_nil ?_
 rintro args ⟨bs,hbs,rfl⟩
 refine ⟨by simp,fun k hk E hE Q hQ=>?_⟩
 refine Aw_st hE [0] [] fun K hK=>?_
 simp only [go_sem,seval]
 refine hK _ ?_;clear hK K
 refine Aw_st hE [2,3,4,5] [] fun K hK=>?_
 simp only [go_sem,seval]
 refine ⟨dnp_pre bs hbs,fun R x W h hP hh1 hh2=>?_⟩
 refine hK _ (Aw_ret (hQ _ ?_))
 simp only [go_sem,seval]
 exact ⟨R,x,W,h,hP,⟨hh1,hh2⟩,rfl⟩
def cDNS:Con:={ pre:=codeArg,post:=fun _ r=>∃ (R:List (List Int)) (x:Int) (W:List (List Int)),NetP R x W∧r = .tup [wsl R,iv x,wsl W] }
theorem cDNS_own:cDNS.own=false:=rfl
theorem cDNS_draws:cDNS.draws=false:=rfl
theorem cDNS_cost:cDNS.cost=0:=rfl
attribute [go_sem] cDNS_own cDNS_draws cDNS_cost
theorem dns_pre (bs:List Nat) (h:∀ b ∈ bs,b < 256):cDNS.pre [.sl none (byteRows bs)]:=⟨bs,h,rfl⟩
theorem dns_post (args:List AV) (K:AV→Prop):(∀ r,cDNS.post args r→K r)=(∀ (R:List (List Int)) (x:Int) (W:List (List Int)),NetP R x W→K (.tup [wsl R,iv x,wsl W])):=by
 apply propext
 exact ⟨fun hh R x W h1=>hh _ ⟨R,x,W,h1,rfl⟩,fun hh r ⟨R,x,W,h1,e⟩=>e ▸ hh R x W h1⟩
attribute [go_sem] dns_post
theorem endR_okW {R:List (List Int)} {x:Int}:okW (endR R x):=by
 unfold endR
 split
 ·rename_i h
  rw [Bool.and_eq_true] at h
  have hx:=hIb_iff.1 h.2
  exact okW_net (netOk_iff.2 ⟨h.1,(endL_S hx).2,end_net (relsOk_iff.1 h.1).1.2 hx⟩)
 ·exact okW_nil
theorem drawNetStill_ok:Fine Tryd.prog 29 cDNS:=by
 refine fine_draw (T:=TT) (C:=cDNS) Tryd.func29 rfl Tryd.ntmps29 (by rw [Tryd.results29]) rfl rfl tt rfl rfl (G:=[(39,cNetD),(40,cPick)]) (D:=[(60,dNetEnd)]) (gs_cons l92Net_ok (gs_cons pick_ok gs_nil)) (ds_cons sNetEnd_ok ds_nil) (l1:=[_]) (l2:=[_]) rfl rfl rfl rfl (by decide) open_calls ⟨_,Tryd.func38,rfl,rfl⟩ ?_ ?_
 ·rintro args r ⟨R,x,W,_,rfl⟩;rfl
 rintro args ⟨bs,hbs,rfl⟩
 refine ⟨by simp,bs,hbs,fun n E hE J hJ=>?_⟩
 refine Aw_tx hE [0] [] fun K hK=>?_
 simp only [go_sem,seval]
 refine hK _ ?_
 simp only [thenA]
 simp only [go_sem,seval]
 refine hJ _ rfl rfl fun E hE Q hQ=>?_
 simp only [go_sem,seval]
 refine Aw_st hE [5,6,7,8] [] fun K hK=>?_
 simp only [go_sem,seval]
 intro R x W hp
 refine hK _ ?_;clear hK K
 have hbR:=okRl_big hp.1
 have hP:NetP R x W:=⟨hp.1,hp.2.1,hp.2.2⟩
 refine Aw_sq fun B1 hB1 hR1 hX1=>?_
 refine Aw_st hE [6,7,8,19] [] fun K hK=>?_
 simp only [go_sem,seval]
 intro y hy1 hy2
 refine hK _ (Aw_cond rfl (fun hc2=>?_) (fun hc2=>?_))
 ·refine Aw_st hE [2,3,4] [] fun K hK=>?_
  simp only [go_sem,seval,hbR]
  refine hK _ (Aw_ret (hR1 _ (hQ _ ?_)))
  simp only [go_sem,seval]
  exact ⟨R,x,endR R x,⟨hp.1,hp.2.1,endR_okW⟩,rfl⟩
 ·refine Aw_skip (hB1 _ ?_)
  refine Aw_st hE [2,3,4] [] fun K hK=>?_
  simp only [go_sem,seval]
  refine hK _ (Aw_ret (hQ _ ?_))
  simp only [go_sem,seval]
  exact ⟨R,x,W,hP,rfl⟩
end Go.Proofs.W
end
