/- YtgfclgpljhiicaaDoorWd: part of the proof that laws hold, for every input that the row speaks of (no condition of ours). -/
import Derived.Test.YtgfclgpljhiicaaDoorWc
import Derived.Test.YtgfclgpljhiicaaDoorWa
import Derived.Test.YtgfclgpljhiicaaDoorWb
import Derived.Test.YtgfclgpljhiicaaDoorEc
set_option linter.unusedVariables false
set_option linter.unusedSimpArgs false
section
namespace Go.Proofs.W
open Go Go.Eng Go.RowKit
set_option maxRecDepth 100000
theorem relsA2 {E:En} (hE:TbOk E tbRels) {k:Nat} (hk:k + 40≤1099511627776) {Q:Exit→St→Prop} (hQ:∀ (L:List (List Int)) (rn:Nat),(2≤L.length∧L.length≤5)→(∀ w ∈ L,w.length=L.length)→rn≤k + 40→Aw E .ret ⟨111,[(2,wsl L)],[],rn⟩ Q):Aw E (seqB (seqB (seqB (Tryd.f30.body.getD .skip)))) ⟨111,[(0,.rd),(3,iv 2),(4,.xs 17 0 0 0 1)],[(17,[])],k + 1⟩ Q:=by
 refine Aw_sq fun B1 hB1 hR1 hX1=>?_
 refine Aw_st hE [0,3,4,5] [17,25,27,700,701,710,711,712,713,714,720,721,722,723,724] fun K hK=>?_
 simp only [go_sem,seval]
 refine hK _ ?_;clear hK K
 refine Aw_bk fun B2 hN2 hE2 hR2 hX2=>?_
 refine Aw_lp (fun i:Nat × Nat=>⟨111,[(0,.rd),(3,iv 2),(4,.xs 700 0 i.1 (i.2 + i.1) 1),(5,iv (i.1:Int))],(700,vws 2 (fun _=>0) 710 i.1++jN i.2)::bxs 2 (fun _=>0) (fun _=>List.replicate 2 0) 710 i.1,k + 1⟩) (fun i=>i.1≤2) (fun i=>2 - i.1) (0,0) ?_ (by omega) fun i hi B3 hN3 hR3 hX3=>?_
 ·refine (Le_swb _ 17 700 (by decide) (by decide)).trans ?_
  simp only [St.swb,swbσ,swbm,AV.swb,AV.swbAll,swp,jN_swb,row_swb,Nat.reduceEqDiff,if_true,if_false,reduceIte]
  exact Le_wa
 obtain ⟨i,c⟩:=i
 simp only at hi
 refine Aw_sq fun B4 hB4 hR4 hX4=>?_
 rcases (show i=2∨i=0∨i=1 by omega) with rfl | rfl | rfl
 ·refine Aw_st hE [0,3,4,5,20] [17,25,27,700,701,710,711,712,713,714,720,721,722,723,724] fun K hK=>?_
  simp only [go_sem,seval]
  refine hK _ (Aw_no rfl (Aw_exit (hX4 _ _ (hX3 _ _ (hE2 _ (hB1 _ ?_))))))
  refine Aw.leE (LeE_of (show Le _ ⟨111,[(0,.rd),(3,iv 2),(4,.xs 700 0 2 (c + 2) 1)],(700,vws 2 (fun _=>0) 710 2++jN c)::bxs 2 (fun _=>0) (fun _=>List.replicate 2 0) 710 2,k + 1⟩ from Le_wa)) (relsB2 hE hk hQ (fun _=>rfl))
 ·refine Aw_st hE [0,3,4,5,20] [17,25,27,700,701,710,711,712,713,714,720,721,722,723,724] fun K hK=>?_
  simp only [go_sem,seval]
  refine hK _ (Aw_yes rfl (Aw_skip (hB4 _ ?_)))
  refine Aw_sq fun B6 hB6 hR6 hX6=>?_
  refine Aw_bk fun B7 hN7 hE7 hR7 hX7=>?_
  refine Aw_tx hE [0,3,4,5] [17,25,27,700,701,710,711,712,713,714,720,721,722,723,724] fun K hK=>?_
  simp only [go_sem,seval,List.flatten_cons,List.flatten_nil,List.cons_append,List.nil_append]
  refine ⟨fun h=>?_,fun h cap' hcap'=>?_⟩
  ·obtain ⟨c1,rfl⟩:∃ c1,c=c1 + 1:=⟨c - 1,by omega⟩
   simp only [jN_s,List.set_cons_zero]
   refine hK _ (hN7 _ (hB6 _ ?_))
   refine Aw_tx hE [0,3,4,5] [17,25,27,700,701,710,711,712,713,714,720,721,722,723,724] fun K hK=>?_
   simp only [go_sem,seval]
   repeat refine sd0 ?_
   refine hK _ (hN3 (1,c1) _ (by omega) (by simp only;omega) ?_)
   refine (Le_swb _ 25 710 (by decide) (by decide)).trans ?_
   simp only [St.swb,swbσ,swbm,AV.swb,AV.swbAll,swp,jN_swb,row_swb,Nat.reduceEqDiff,if_true,if_false,reduceIte]
   exact Le_wb (by simp only [go_sem,seval,Nat.add_assoc])
  ·obtain ⟨c1,rfl⟩:∃ c1,cap'=c1 + 1:=⟨cap' - 1,by omega⟩
   rw [Nat.add_sub_cancel]
   refine hK _ (hN7 _ (hB6 _ ?_))
   refine Aw_tx hE [0,3,4,5] [17,25,27,700,701,710,711,712,713,714,720,721,722,723,724] fun K hK=>?_
   simp only [go_sem,seval]
   repeat refine sd0 ?_
   refine hK _ (hN3 (1,c1) _ (by omega) (by simp only;omega) ?_)
   refine (Le_swb _ 25 710 (by decide) (by decide)).trans ?_
   simp only [St.swb,swbσ,swbm,AV.swb,AV.swbAll,swp,jN_swb,row_swb,Nat.reduceEqDiff,if_true,if_false,reduceIte]
   refine (Le_swb _ 27 700 (by decide) (by decide)).trans ?_
   simp only [St.swb,swbσ,swbm,AV.swb,AV.swbAll,swp,jN_swb,row_swb,Nat.reduceEqDiff,if_true,if_false,reduceIte]
   exact Le_wb (by simp only [go_sem,seval,Nat.add_assoc])
 ·refine Aw_st hE [0,3,4,5,20] [17,25,27,700,701,710,711,712,713,714,720,721,722,723,724] fun K hK=>?_
  simp only [go_sem,seval]
  refine hK _ (Aw_yes rfl (Aw_skip (hB4 _ ?_)))
  refine Aw_sq fun B6 hB6 hR6 hX6=>?_
  refine Aw_bk fun B7 hN7 hE7 hR7 hX7=>?_
  refine Aw_tx hE [0,3,4,5] [17,25,27,700,701,710,711,712,713,714,720,721,722,723,724] fun K hK=>?_
  simp only [go_sem,seval,List.flatten_cons,List.flatten_nil,List.cons_append,List.nil_append]
  refine ⟨fun h=>?_,fun h cap' hcap'=>?_⟩
  ·obtain ⟨c1,rfl⟩:∃ c1,c=c1 + 1:=⟨c - 1,by omega⟩
   simp only [jN_s,List.set_cons_zero]
   refine hK _ (hN7 _ (hB6 _ ?_))
   refine Aw_tx hE [0,3,4,5] [17,25,27,700,701,710,711,712,713,714,720,721,722,723,724] fun K hK=>?_
   simp only [go_sem,seval]
   repeat refine sd0 ?_
   refine hK _ (hN3 (2,c1) _ (by omega) (by simp only;omega) ?_)
   refine (Le_swb _ 25 711 (by decide) (by decide)).trans ?_
   simp only [St.swb,swbσ,swbm,AV.swb,AV.swbAll,swp,jN_swb,row_swb,Nat.reduceEqDiff,if_true,if_false,reduceIte]
   exact Le_wb (by simp only [go_sem,seval,Nat.add_assoc])
  ·obtain ⟨c1,rfl⟩:∃ c1,cap'=c1 + 2:=⟨cap' - 2,by omega⟩
   rw [Nat.add_sub_cancel]
   refine hK _ (hN7 _ (hB6 _ ?_))
   refine Aw_tx hE [0,3,4,5] [17,25,27,700,701,710,711,712,713,714,720,721,722,723,724] fun K hK=>?_
   simp only [go_sem,seval]
   repeat refine sd0 ?_
   refine hK _ (hN3 (2,c1) _ (by omega) (by simp only;omega) ?_)
   refine (Le_swb _ 25 711 (by decide) (by decide)).trans ?_
   simp only [St.swb,swbσ,swbm,AV.swb,AV.swbAll,swp,jN_swb,row_swb,Nat.reduceEqDiff,if_true,if_false,reduceIte]
   refine (Le_swb _ 27 700 (by decide) (by decide)).trans ?_
   simp only [St.swb,swbσ,swbm,AV.swb,AV.swbAll,swp,jN_swb,row_swb,Nat.reduceEqDiff,if_true,if_false,reduceIte]
   exact Le_wb (by simp only [go_sem,seval,Nat.add_assoc])
set_option maxHeartbeats 16000000 in
theorem relsA3 {E:En} (hE:TbOk E tbRels) {k:Nat} (hk:k + 40≤1099511627776) {Q:Exit→St→Prop} (hQ:∀ (L:List (List Int)) (rn:Nat),(2≤L.length∧L.length≤5)→(∀ w ∈ L,w.length=L.length)→rn≤k + 40→Aw E .ret ⟨111,[(2,wsl L)],[],rn⟩ Q):Aw E (seqB (seqB (seqB (Tryd.f30.body.getD .skip)))) ⟨111,[(0,.rd),(3,iv 3),(4,.xs 17 0 0 0 1)],[(17,[])],k + 1⟩ Q:=by
 refine Aw_sq fun B1 hB1 hR1 hX1=>?_
 refine Aw_st hE [0,3,4,5] [17,25,27,700,701,710,711,712,713,714,720,721,722,723,724] fun K hK=>?_
 simp only [go_sem,seval]
 refine hK _ ?_;clear hK K
 refine Aw_bk fun B2 hN2 hE2 hR2 hX2=>?_
 refine Aw_lp (fun i:Nat × Nat=>⟨111,[(0,.rd),(3,iv 3),(4,.xs 700 0 i.1 (i.2 + i.1) 1),(5,iv (i.1:Int))],(700,vws 3 (fun _=>0) 710 i.1++jN i.2)::bxs 3 (fun _=>0) (fun _=>List.replicate 3 0) 710 i.1,k + 1⟩) (fun i=>i.1≤3) (fun i=>3 - i.1) (0,0) ?_ (by omega) fun i hi B3 hN3 hR3 hX3=>?_
 ·refine (Le_swb _ 17 700 (by decide) (by decide)).trans ?_
  simp only [St.swb,swbσ,swbm,AV.swb,AV.swbAll,swp,jN_swb,row_swb,Nat.reduceEqDiff,if_true,if_false,reduceIte]
  exact Le_wa
 obtain ⟨i,c⟩:=i
 simp only at hi
 refine Aw_sq fun B4 hB4 hR4 hX4=>?_
 rcases (show i=3∨i=0∨i=1∨i=2 by omega) with rfl | rfl | rfl | rfl
 ·refine Aw_st hE [0,3,4,5,20] [17,25,27,700,701,710,711,712,713,714,720,721,722,723,724] fun K hK=>?_
  simp only [go_sem,seval]
  refine hK _ (Aw_no rfl (Aw_exit (hX4 _ _ (hX3 _ _ (hE2 _ (hB1 _ ?_))))))
  refine Aw.leE (LeE_of (show Le _ ⟨111,[(0,.rd),(3,iv 3),(4,.xs 700 0 3 (c + 3) 1)],(700,vws 3 (fun _=>0) 710 3++jN c)::bxs 3 (fun _=>0) (fun _=>List.replicate 3 0) 710 3,k + 1⟩ from Le_wa)) (relsB3 hE hk hQ (fun _=>rfl))
 ·refine Aw_st hE [0,3,4,5,20] [17,25,27,700,701,710,711,712,713,714,720,721,722,723,724] fun K hK=>?_
  simp only [go_sem,seval]
  refine hK _ (Aw_yes rfl (Aw_skip (hB4 _ ?_)))
  refine Aw_sq fun B6 hB6 hR6 hX6=>?_
  refine Aw_bk fun B7 hN7 hE7 hR7 hX7=>?_
  refine Aw_tx hE [0,3,4,5] [17,25,27,700,701,710,711,712,713,714,720,721,722,723,724] fun K hK=>?_
  simp only [go_sem,seval,List.flatten_cons,List.flatten_nil,List.cons_append,List.nil_append]
  refine ⟨fun h=>?_,fun h cap' hcap'=>?_⟩
  ·obtain ⟨c1,rfl⟩:∃ c1,c=c1 + 1:=⟨c - 1,by omega⟩
   simp only [jN_s,List.set_cons_zero]
   refine hK _ (hN7 _ (hB6 _ ?_))
   refine Aw_tx hE [0,3,4,5] [17,25,27,700,701,710,711,712,713,714,720,721,722,723,724] fun K hK=>?_
   simp only [go_sem,seval]
   repeat refine sd0 ?_
   refine hK _ (hN3 (1,c1) _ (by omega) (by simp only;omega) ?_)
   refine (Le_swb _ 25 710 (by decide) (by decide)).trans ?_
   simp only [St.swb,swbσ,swbm,AV.swb,AV.swbAll,swp,jN_swb,row_swb,Nat.reduceEqDiff,if_true,if_false,reduceIte]
   exact Le_wb (by simp only [go_sem,seval,Nat.add_assoc])
  ·obtain ⟨c1,rfl⟩:∃ c1,cap'=c1 + 1:=⟨cap' - 1,by omega⟩
   rw [Nat.add_sub_cancel]
   refine hK _ (hN7 _ (hB6 _ ?_))
   refine Aw_tx hE [0,3,4,5] [17,25,27,700,701,710,711,712,713,714,720,721,722,723,724] fun K hK=>?_
   simp only [go_sem,seval]
   repeat refine sd0 ?_
   refine hK _ (hN3 (1,c1) _ (by omega) (by simp only;omega) ?_)
   refine (Le_swb _ 25 710 (by decide) (by decide)).trans ?_
   simp only [St.swb,swbσ,swbm,AV.swb,AV.swbAll,swp,jN_swb,row_swb,Nat.reduceEqDiff,if_true,if_false,reduceIte]
   refine (Le_swb _ 27 700 (by decide) (by decide)).trans ?_
   simp only [St.swb,swbσ,swbm,AV.swb,AV.swbAll,swp,jN_swb,row_swb,Nat.reduceEqDiff,if_true,if_false,reduceIte]
   exact Le_wb (by simp only [go_sem,seval,Nat.add_assoc])
 ·refine Aw_st hE [0,3,4,5,20] [17,25,27,700,701,710,711,712,713,714,720,721,722,723,724] fun K hK=>?_
  simp only [go_sem,seval]
  refine hK _ (Aw_yes rfl (Aw_skip (hB4 _ ?_)))
  refine Aw_sq fun B6 hB6 hR6 hX6=>?_
  refine Aw_bk fun B7 hN7 hE7 hR7 hX7=>?_
  refine Aw_tx hE [0,3,4,5] [17,25,27,700,701,710,711,712,713,714,720,721,722,723,724] fun K hK=>?_
  simp only [go_sem,seval,List.flatten_cons,List.flatten_nil,List.cons_append,List.nil_append]
  refine ⟨fun h=>?_,fun h cap' hcap'=>?_⟩
  ·obtain ⟨c1,rfl⟩:∃ c1,c=c1 + 1:=⟨c - 1,by omega⟩
   simp only [jN_s,List.set_cons_zero]
   refine hK _ (hN7 _ (hB6 _ ?_))
   refine Aw_tx hE [0,3,4,5] [17,25,27,700,701,710,711,712,713,714,720,721,722,723,724] fun K hK=>?_
   simp only [go_sem,seval]
   repeat refine sd0 ?_
   refine hK _ (hN3 (2,c1) _ (by omega) (by simp only;omega) ?_)
   refine (Le_swb _ 25 711 (by decide) (by decide)).trans ?_
   simp only [St.swb,swbσ,swbm,AV.swb,AV.swbAll,swp,jN_swb,row_swb,Nat.reduceEqDiff,if_true,if_false,reduceIte]
   exact Le_wb (by simp only [go_sem,seval,Nat.add_assoc])
  ·obtain ⟨c1,rfl⟩:∃ c1,cap'=c1 + 2:=⟨cap' - 2,by omega⟩
   rw [Nat.add_sub_cancel]
   refine hK _ (hN7 _ (hB6 _ ?_))
   refine Aw_tx hE [0,3,4,5] [17,25,27,700,701,710,711,712,713,714,720,721,722,723,724] fun K hK=>?_
   simp only [go_sem,seval]
   repeat refine sd0 ?_
   refine hK _ (hN3 (2,c1) _ (by omega) (by simp only;omega) ?_)
   refine (Le_swb _ 25 711 (by decide) (by decide)).trans ?_
   simp only [St.swb,swbσ,swbm,AV.swb,AV.swbAll,swp,jN_swb,row_swb,Nat.reduceEqDiff,if_true,if_false,reduceIte]
   refine (Le_swb _ 27 700 (by decide) (by decide)).trans ?_
   simp only [St.swb,swbσ,swbm,AV.swb,AV.swbAll,swp,jN_swb,row_swb,Nat.reduceEqDiff,if_true,if_false,reduceIte]
   exact Le_wb (by simp only [go_sem,seval,Nat.add_assoc])
 ·refine Aw_st hE [0,3,4,5,20] [17,25,27,700,701,710,711,712,713,714,720,721,722,723,724] fun K hK=>?_
  simp only [go_sem,seval]
  refine hK _ (Aw_yes rfl (Aw_skip (hB4 _ ?_)))
  refine Aw_sq fun B6 hB6 hR6 hX6=>?_
  refine Aw_bk fun B7 hN7 hE7 hR7 hX7=>?_
  refine Aw_tx hE [0,3,4,5] [17,25,27,700,701,710,711,712,713,714,720,721,722,723,724] fun K hK=>?_
  simp only [go_sem,seval,List.flatten_cons,List.flatten_nil,List.cons_append,List.nil_append]
  refine ⟨fun h=>?_,fun h cap' hcap'=>?_⟩
  ·obtain ⟨c1,rfl⟩:∃ c1,c=c1 + 1:=⟨c - 1,by omega⟩
   simp only [jN_s,List.set_cons_zero]
   refine hK _ (hN7 _ (hB6 _ ?_))
   refine Aw_tx hE [0,3,4,5] [17,25,27,700,701,710,711,712,713,714,720,721,722,723,724] fun K hK=>?_
   simp only [go_sem,seval]
   repeat refine sd0 ?_
   refine hK _ (hN3 (3,c1) _ (by omega) (by simp only;omega) ?_)
   refine (Le_swb _ 25 712 (by decide) (by decide)).trans ?_
   simp only [St.swb,swbσ,swbm,AV.swb,AV.swbAll,swp,jN_swb,row_swb,Nat.reduceEqDiff,if_true,if_false,reduceIte]
   exact Le_wb (by simp only [go_sem,seval,Nat.add_assoc])
  ·obtain ⟨c1,rfl⟩:∃ c1,cap'=c1 + 3:=⟨cap' - 3,by omega⟩
   rw [Nat.add_sub_cancel]
   refine hK _ (hN7 _ (hB6 _ ?_))
   refine Aw_tx hE [0,3,4,5] [17,25,27,700,701,710,711,712,713,714,720,721,722,723,724] fun K hK=>?_
   simp only [go_sem,seval]
   repeat refine sd0 ?_
   refine hK _ (hN3 (3,c1) _ (by omega) (by simp only;omega) ?_)
   refine (Le_swb _ 25 712 (by decide) (by decide)).trans ?_
   simp only [St.swb,swbσ,swbm,AV.swb,AV.swbAll,swp,jN_swb,row_swb,Nat.reduceEqDiff,if_true,if_false,reduceIte]
   refine (Le_swb _ 27 700 (by decide) (by decide)).trans ?_
   simp only [St.swb,swbσ,swbm,AV.swb,AV.swbAll,swp,jN_swb,row_swb,Nat.reduceEqDiff,if_true,if_false,reduceIte]
   exact Le_wb (by simp only [go_sem,seval,Nat.add_assoc])
set_option maxHeartbeats 16000000 in
theorem relsA4 {E:En} (hE:TbOk E tbRels) {k:Nat} (hk:k + 40≤1099511627776) {Q:Exit→St→Prop} (hQ:∀ (L:List (List Int)) (rn:Nat),(2≤L.length∧L.length≤5)→(∀ w ∈ L,w.length=L.length)→rn≤k + 40→Aw E .ret ⟨111,[(2,wsl L)],[],rn⟩ Q):Aw E (seqB (seqB (seqB (Tryd.f30.body.getD .skip)))) ⟨111,[(0,.rd),(3,iv 4),(4,.xs 17 0 0 0 1)],[(17,[])],k + 1⟩ Q:=by
 refine Aw_sq fun B1 hB1 hR1 hX1=>?_
 refine Aw_st hE [0,3,4,5] [17,25,27,700,701,710,711,712,713,714,720,721,722,723,724] fun K hK=>?_
 simp only [go_sem,seval]
 refine hK _ ?_;clear hK K
 refine Aw_bk fun B2 hN2 hE2 hR2 hX2=>?_
 refine Aw_lp (fun i:Nat × Nat=>⟨111,[(0,.rd),(3,iv 4),(4,.xs 700 0 i.1 (i.2 + i.1) 1),(5,iv (i.1:Int))],(700,vws 4 (fun _=>0) 710 i.1++jN i.2)::bxs 4 (fun _=>0) (fun _=>List.replicate 4 0) 710 i.1,k + 1⟩) (fun i=>i.1≤4) (fun i=>4 - i.1) (0,0) ?_ (by omega) fun i hi B3 hN3 hR3 hX3=>?_
 ·refine (Le_swb _ 17 700 (by decide) (by decide)).trans ?_
  simp only [St.swb,swbσ,swbm,AV.swb,AV.swbAll,swp,jN_swb,row_swb,Nat.reduceEqDiff,if_true,if_false,reduceIte]
  exact Le_wa
 obtain ⟨i,c⟩:=i
 simp only at hi
 refine Aw_sq fun B4 hB4 hR4 hX4=>?_
 rcases (show i=4∨i=0∨i=1∨i=2∨i=3 by omega) with rfl | rfl | rfl | rfl | rfl
 ·refine Aw_st hE [0,3,4,5,20] [17,25,27,700,701,710,711,712,713,714,720,721,722,723,724] fun K hK=>?_
  simp only [go_sem,seval]
  refine hK _ (Aw_no rfl (Aw_exit (hX4 _ _ (hX3 _ _ (hE2 _ (hB1 _ ?_))))))
  refine Aw.leE (LeE_of (show Le _ ⟨111,[(0,.rd),(3,iv 4),(4,.xs 700 0 4 (c + 4) 1)],(700,vws 4 (fun _=>0) 710 4++jN c)::bxs 4 (fun _=>0) (fun _=>List.replicate 4 0) 710 4,k + 1⟩ from Le_wa)) (relsB4 hE hk hQ (fun _=>rfl))
 ·refine Aw_st hE [0,3,4,5,20] [17,25,27,700,701,710,711,712,713,714,720,721,722,723,724] fun K hK=>?_
  simp only [go_sem,seval]
  refine hK _ (Aw_yes rfl (Aw_skip (hB4 _ ?_)))
  refine Aw_sq fun B6 hB6 hR6 hX6=>?_
  refine Aw_bk fun B7 hN7 hE7 hR7 hX7=>?_
  refine Aw_tx hE [0,3,4,5] [17,25,27,700,701,710,711,712,713,714,720,721,722,723,724] fun K hK=>?_
  simp only [go_sem,seval,List.flatten_cons,List.flatten_nil,List.cons_append,List.nil_append]
  refine ⟨fun h=>?_,fun h cap' hcap'=>?_⟩
  ·obtain ⟨c1,rfl⟩:∃ c1,c=c1 + 1:=⟨c - 1,by omega⟩
   simp only [jN_s,List.set_cons_zero]
   refine hK _ (hN7 _ (hB6 _ ?_))
   refine Aw_tx hE [0,3,4,5] [17,25,27,700,701,710,711,712,713,714,720,721,722,723,724] fun K hK=>?_
   simp only [go_sem,seval]
   repeat refine sd0 ?_
   refine hK _ (hN3 (1,c1) _ (by omega) (by simp only;omega) ?_)
   refine (Le_swb _ 25 710 (by decide) (by decide)).trans ?_
   simp only [St.swb,swbσ,swbm,AV.swb,AV.swbAll,swp,jN_swb,row_swb,Nat.reduceEqDiff,if_true,if_false,reduceIte]
   exact Le_wb (by simp only [go_sem,seval,Nat.add_assoc])
  ·obtain ⟨c1,rfl⟩:∃ c1,cap'=c1 + 1:=⟨cap' - 1,by omega⟩
   rw [Nat.add_sub_cancel]
   refine hK _ (hN7 _ (hB6 _ ?_))
   refine Aw_tx hE [0,3,4,5] [17,25,27,700,701,710,711,712,713,714,720,721,722,723,724] fun K hK=>?_
   simp only [go_sem,seval]
   repeat refine sd0 ?_
   refine hK _ (hN3 (1,c1) _ (by omega) (by simp only;omega) ?_)
   refine (Le_swb _ 25 710 (by decide) (by decide)).trans ?_
   simp only [St.swb,swbσ,swbm,AV.swb,AV.swbAll,swp,jN_swb,row_swb,Nat.reduceEqDiff,if_true,if_false,reduceIte]
   refine (Le_swb _ 27 700 (by decide) (by decide)).trans ?_
   simp only [St.swb,swbσ,swbm,AV.swb,AV.swbAll,swp,jN_swb,row_swb,Nat.reduceEqDiff,if_true,if_false,reduceIte]
   exact Le_wb (by simp only [go_sem,seval,Nat.add_assoc])
 ·refine Aw_st hE [0,3,4,5,20] [17,25,27,700,701,710,711,712,713,714,720,721,722,723,724] fun K hK=>?_
  simp only [go_sem,seval]
  refine hK _ (Aw_yes rfl (Aw_skip (hB4 _ ?_)))
  refine Aw_sq fun B6 hB6 hR6 hX6=>?_
  refine Aw_bk fun B7 hN7 hE7 hR7 hX7=>?_
  refine Aw_tx hE [0,3,4,5] [17,25,27,700,701,710,711,712,713,714,720,721,722,723,724] fun K hK=>?_
  simp only [go_sem,seval,List.flatten_cons,List.flatten_nil,List.cons_append,List.nil_append]
  refine ⟨fun h=>?_,fun h cap' hcap'=>?_⟩
  ·obtain ⟨c1,rfl⟩:∃ c1,c=c1 + 1:=⟨c - 1,by omega⟩
   simp only [jN_s,List.set_cons_zero]
   refine hK _ (hN7 _ (hB6 _ ?_))
   refine Aw_tx hE [0,3,4,5] [17,25,27,700,701,710,711,712,713,714,720,721,722,723,724] fun K hK=>?_
   simp only [go_sem,seval]
   repeat refine sd0 ?_
   refine hK _ (hN3 (2,c1) _ (by omega) (by simp only;omega) ?_)
   refine (Le_swb _ 25 711 (by decide) (by decide)).trans ?_
   simp only [St.swb,swbσ,swbm,AV.swb,AV.swbAll,swp,jN_swb,row_swb,Nat.reduceEqDiff,if_true,if_false,reduceIte]
   exact Le_wb (by simp only [go_sem,seval,Nat.add_assoc])
  ·obtain ⟨c1,rfl⟩:∃ c1,cap'=c1 + 2:=⟨cap' - 2,by omega⟩
   rw [Nat.add_sub_cancel]
   refine hK _ (hN7 _ (hB6 _ ?_))
   refine Aw_tx hE [0,3,4,5] [17,25,27,700,701,710,711,712,713,714,720,721,722,723,724] fun K hK=>?_
   simp only [go_sem,seval]
   repeat refine sd0 ?_
   refine hK _ (hN3 (2,c1) _ (by omega) (by simp only;omega) ?_)
   refine (Le_swb _ 25 711 (by decide) (by decide)).trans ?_
   simp only [St.swb,swbσ,swbm,AV.swb,AV.swbAll,swp,jN_swb,row_swb,Nat.reduceEqDiff,if_true,if_false,reduceIte]
   refine (Le_swb _ 27 700 (by decide) (by decide)).trans ?_
   simp only [St.swb,swbσ,swbm,AV.swb,AV.swbAll,swp,jN_swb,row_swb,Nat.reduceEqDiff,if_true,if_false,reduceIte]
   exact Le_wb (by simp only [go_sem,seval,Nat.add_assoc])
 ·refine Aw_st hE [0,3,4,5,20] [17,25,27,700,701,710,711,712,713,714,720,721,722,723,724] fun K hK=>?_
  simp only [go_sem,seval]
  refine hK _ (Aw_yes rfl (Aw_skip (hB4 _ ?_)))
  refine Aw_sq fun B6 hB6 hR6 hX6=>?_
  refine Aw_bk fun B7 hN7 hE7 hR7 hX7=>?_
  refine Aw_tx hE [0,3,4,5] [17,25,27,700,701,710,711,712,713,714,720,721,722,723,724] fun K hK=>?_
  simp only [go_sem,seval,List.flatten_cons,List.flatten_nil,List.cons_append,List.nil_append]
  refine ⟨fun h=>?_,fun h cap' hcap'=>?_⟩
  ·obtain ⟨c1,rfl⟩:∃ c1,c=c1 + 1:=⟨c - 1,by omega⟩
   simp only [jN_s,List.set_cons_zero]
   refine hK _ (hN7 _ (hB6 _ ?_))
   refine Aw_tx hE [0,3,4,5] [17,25,27,700,701,710,711,712,713,714,720,721,722,723,724] fun K hK=>?_
   simp only [go_sem,seval]
   repeat refine sd0 ?_
   refine hK _ (hN3 (3,c1) _ (by omega) (by simp only;omega) ?_)
   refine (Le_swb _ 25 712 (by decide) (by decide)).trans ?_
   simp only [St.swb,swbσ,swbm,AV.swb,AV.swbAll,swp,jN_swb,row_swb,Nat.reduceEqDiff,if_true,if_false,reduceIte]
   exact Le_wb (by simp only [go_sem,seval,Nat.add_assoc])
  ·obtain ⟨c1,rfl⟩:∃ c1,cap'=c1 + 3:=⟨cap' - 3,by omega⟩
   rw [Nat.add_sub_cancel]
   refine hK _ (hN7 _ (hB6 _ ?_))
   refine Aw_tx hE [0,3,4,5] [17,25,27,700,701,710,711,712,713,714,720,721,722,723,724] fun K hK=>?_
   simp only [go_sem,seval]
   repeat refine sd0 ?_
   refine hK _ (hN3 (3,c1) _ (by omega) (by simp only;omega) ?_)
   refine (Le_swb _ 25 712 (by decide) (by decide)).trans ?_
   simp only [St.swb,swbσ,swbm,AV.swb,AV.swbAll,swp,jN_swb,row_swb,Nat.reduceEqDiff,if_true,if_false,reduceIte]
   refine (Le_swb _ 27 700 (by decide) (by decide)).trans ?_
   simp only [St.swb,swbσ,swbm,AV.swb,AV.swbAll,swp,jN_swb,row_swb,Nat.reduceEqDiff,if_true,if_false,reduceIte]
   exact Le_wb (by simp only [go_sem,seval,Nat.add_assoc])
 ·refine Aw_st hE [0,3,4,5,20] [17,25,27,700,701,710,711,712,713,714,720,721,722,723,724] fun K hK=>?_
  simp only [go_sem,seval]
  refine hK _ (Aw_yes rfl (Aw_skip (hB4 _ ?_)))
  refine Aw_sq fun B6 hB6 hR6 hX6=>?_
  refine Aw_bk fun B7 hN7 hE7 hR7 hX7=>?_
  refine Aw_tx hE [0,3,4,5] [17,25,27,700,701,710,711,712,713,714,720,721,722,723,724] fun K hK=>?_
  simp only [go_sem,seval,List.flatten_cons,List.flatten_nil,List.cons_append,List.nil_append]
  refine ⟨fun h=>?_,fun h cap' hcap'=>?_⟩
  ·obtain ⟨c1,rfl⟩:∃ c1,c=c1 + 1:=⟨c - 1,by omega⟩
   simp only [jN_s,List.set_cons_zero]
   refine hK _ (hN7 _ (hB6 _ ?_))
   refine Aw_tx hE [0,3,4,5] [17,25,27,700,701,710,711,712,713,714,720,721,722,723,724] fun K hK=>?_
   simp only [go_sem,seval]
   repeat refine sd0 ?_
   refine hK _ (hN3 (4,c1) _ (by omega) (by simp only;omega) ?_)
   refine (Le_swb _ 25 713 (by decide) (by decide)).trans ?_
   simp only [St.swb,swbσ,swbm,AV.swb,AV.swbAll,swp,jN_swb,row_swb,Nat.reduceEqDiff,if_true,if_false,reduceIte]
   exact Le_wb (by simp only [go_sem,seval,Nat.add_assoc])
  ·obtain ⟨c1,rfl⟩:∃ c1,cap'=c1 + 4:=⟨cap' - 4,by omega⟩
   rw [Nat.add_sub_cancel]
   refine hK _ (hN7 _ (hB6 _ ?_))
   refine Aw_tx hE [0,3,4,5] [17,25,27,700,701,710,711,712,713,714,720,721,722,723,724] fun K hK=>?_
   simp only [go_sem,seval]
   repeat refine sd0 ?_
   refine hK _ (hN3 (4,c1) _ (by omega) (by simp only;omega) ?_)
   refine (Le_swb _ 25 713 (by decide) (by decide)).trans ?_
   simp only [St.swb,swbσ,swbm,AV.swb,AV.swbAll,swp,jN_swb,row_swb,Nat.reduceEqDiff,if_true,if_false,reduceIte]
   refine (Le_swb _ 27 700 (by decide) (by decide)).trans ?_
   simp only [St.swb,swbσ,swbm,AV.swb,AV.swbAll,swp,jN_swb,row_swb,Nat.reduceEqDiff,if_true,if_false,reduceIte]
   exact Le_wb (by simp only [go_sem,seval,Nat.add_assoc])
set_option maxHeartbeats 16000000 in
theorem relsA5 {E:En} (hE:TbOk E tbRels) {k:Nat} (hk:k + 40≤1099511627776) {Q:Exit→St→Prop} (hQ:∀ (L:List (List Int)) (rn:Nat),(2≤L.length∧L.length≤5)→(∀ w ∈ L,w.length=L.length)→rn≤k + 40→Aw E .ret ⟨111,[(2,wsl L)],[],rn⟩ Q):Aw E (seqB (seqB (seqB (Tryd.f30.body.getD .skip)))) ⟨111,[(0,.rd),(3,iv 5),(4,.xs 17 0 0 0 1)],[(17,[])],k + 1⟩ Q:=by
 refine Aw_sq fun B1 hB1 hR1 hX1=>?_
 refine Aw_st hE [0,3,4,5] [17,25,27,700,701,710,711,712,713,714,720,721,722,723,724] fun K hK=>?_
 simp only [go_sem,seval]
 refine hK _ ?_;clear hK K
 refine Aw_bk fun B2 hN2 hE2 hR2 hX2=>?_
 refine Aw_lp (fun i:Nat × Nat=>⟨111,[(0,.rd),(3,iv 5),(4,.xs 700 0 i.1 (i.2 + i.1) 1),(5,iv (i.1:Int))],(700,vws 5 (fun _=>0) 710 i.1++jN i.2)::bxs 5 (fun _=>0) (fun _=>List.replicate 5 0) 710 i.1,k + 1⟩) (fun i=>i.1≤5) (fun i=>5 - i.1) (0,0) ?_ (by omega) fun i hi B3 hN3 hR3 hX3=>?_
 ·refine (Le_swb _ 17 700 (by decide) (by decide)).trans ?_
  simp only [St.swb,swbσ,swbm,AV.swb,AV.swbAll,swp,jN_swb,row_swb,Nat.reduceEqDiff,if_true,if_false,reduceIte]
  exact Le_wa
 obtain ⟨i,c⟩:=i
 simp only at hi
 refine Aw_sq fun B4 hB4 hR4 hX4=>?_
 rcases (show i=5∨i=0∨i=1∨i=2∨i=3∨i=4 by omega) with rfl | rfl | rfl | rfl | rfl | rfl
 ·refine Aw_st hE [0,3,4,5,20] [17,25,27,700,701,710,711,712,713,714,720,721,722,723,724] fun K hK=>?_
  simp only [go_sem,seval]
  refine hK _ (Aw_no rfl (Aw_exit (hX4 _ _ (hX3 _ _ (hE2 _ (hB1 _ ?_))))))
  refine Aw.leE (LeE_of (show Le _ ⟨111,[(0,.rd),(3,iv 5),(4,.xs 700 0 5 (c + 5) 1)],(700,vws 5 (fun _=>0) 710 5++jN c)::bxs 5 (fun _=>0) (fun _=>List.replicate 5 0) 710 5,k + 1⟩ from Le_wa)) (relsB5 hE hk hQ (fun _=>rfl))
 ·refine Aw_st hE [0,3,4,5,20] [17,25,27,700,701,710,711,712,713,714,720,721,722,723,724] fun K hK=>?_
  simp only [go_sem,seval]
  refine hK _ (Aw_yes rfl (Aw_skip (hB4 _ ?_)))
  refine Aw_sq fun B6 hB6 hR6 hX6=>?_
  refine Aw_bk fun B7 hN7 hE7 hR7 hX7=>?_
  refine Aw_tx hE [0,3,4,5] [17,25,27,700,701,710,711,712,713,714,720,721,722,723,724] fun K hK=>?_
  simp only [go_sem,seval,List.flatten_cons,List.flatten_nil,List.cons_append,List.nil_append]
  refine ⟨fun h=>?_,fun h cap' hcap'=>?_⟩
  ·obtain ⟨c1,rfl⟩:∃ c1,c=c1 + 1:=⟨c - 1,by omega⟩
   simp only [jN_s,List.set_cons_zero]
   refine hK _ (hN7 _ (hB6 _ ?_))
   refine Aw_tx hE [0,3,4,5] [17,25,27,700,701,710,711,712,713,714,720,721,722,723,724] fun K hK=>?_
   simp only [go_sem,seval]
   repeat refine sd0 ?_
   refine hK _ (hN3 (1,c1) _ (by omega) (by simp only;omega) ?_)
   refine (Le_swb _ 25 710 (by decide) (by decide)).trans ?_
   simp only [St.swb,swbσ,swbm,AV.swb,AV.swbAll,swp,jN_swb,row_swb,Nat.reduceEqDiff,if_true,if_false,reduceIte]
   exact Le_wb (by simp only [go_sem,seval,Nat.add_assoc])
  ·obtain ⟨c1,rfl⟩:∃ c1,cap'=c1 + 1:=⟨cap' - 1,by omega⟩
   rw [Nat.add_sub_cancel]
   refine hK _ (hN7 _ (hB6 _ ?_))
   refine Aw_tx hE [0,3,4,5] [17,25,27,700,701,710,711,712,713,714,720,721,722,723,724] fun K hK=>?_
   simp only [go_sem,seval]
   repeat refine sd0 ?_
   refine hK _ (hN3 (1,c1) _ (by omega) (by simp only;omega) ?_)
   refine (Le_swb _ 25 710 (by decide) (by decide)).trans ?_
   simp only [St.swb,swbσ,swbm,AV.swb,AV.swbAll,swp,jN_swb,row_swb,Nat.reduceEqDiff,if_true,if_false,reduceIte]
   refine (Le_swb _ 27 700 (by decide) (by decide)).trans ?_
   simp only [St.swb,swbσ,swbm,AV.swb,AV.swbAll,swp,jN_swb,row_swb,Nat.reduceEqDiff,if_true,if_false,reduceIte]
   exact Le_wb (by simp only [go_sem,seval,Nat.add_assoc])
 ·refine Aw_st hE [0,3,4,5,20] [17,25,27,700,701,710,711,712,713,714,720,721,722,723,724] fun K hK=>?_
  simp only [go_sem,seval]
  refine hK _ (Aw_yes rfl (Aw_skip (hB4 _ ?_)))
  refine Aw_sq fun B6 hB6 hR6 hX6=>?_
  refine Aw_bk fun B7 hN7 hE7 hR7 hX7=>?_
  refine Aw_tx hE [0,3,4,5] [17,25,27,700,701,710,711,712,713,714,720,721,722,723,724] fun K hK=>?_
  simp only [go_sem,seval,List.flatten_cons,List.flatten_nil,List.cons_append,List.nil_append]
  refine ⟨fun h=>?_,fun h cap' hcap'=>?_⟩
  ·obtain ⟨c1,rfl⟩:∃ c1,c=c1 + 1:=⟨c - 1,by omega⟩
   simp only [jN_s,List.set_cons_zero]
   refine hK _ (hN7 _ (hB6 _ ?_))
   refine Aw_tx hE [0,3,4,5] [17,25,27,700,701,710,711,712,713,714,720,721,722,723,724] fun K hK=>?_
   simp only [go_sem,seval]
   repeat refine sd0 ?_
   refine hK _ (hN3 (2,c1) _ (by omega) (by simp only;omega) ?_)
   refine (Le_swb _ 25 711 (by decide) (by decide)).trans ?_
   simp only [St.swb,swbσ,swbm,AV.swb,AV.swbAll,swp,jN_swb,row_swb,Nat.reduceEqDiff,if_true,if_false,reduceIte]
   exact Le_wb (by simp only [go_sem,seval,Nat.add_assoc])
  ·obtain ⟨c1,rfl⟩:∃ c1,cap'=c1 + 2:=⟨cap' - 2,by omega⟩
   rw [Nat.add_sub_cancel]
   refine hK _ (hN7 _ (hB6 _ ?_))
   refine Aw_tx hE [0,3,4,5] [17,25,27,700,701,710,711,712,713,714,720,721,722,723,724] fun K hK=>?_
   simp only [go_sem,seval]
   repeat refine sd0 ?_
   refine hK _ (hN3 (2,c1) _ (by omega) (by simp only;omega) ?_)
   refine (Le_swb _ 25 711 (by decide) (by decide)).trans ?_
   simp only [St.swb,swbσ,swbm,AV.swb,AV.swbAll,swp,jN_swb,row_swb,Nat.reduceEqDiff,if_true,if_false,reduceIte]
   refine (Le_swb _ 27 700 (by decide) (by decide)).trans ?_
   simp only [St.swb,swbσ,swbm,AV.swb,AV.swbAll,swp,jN_swb,row_swb,Nat.reduceEqDiff,if_true,if_false,reduceIte]
   exact Le_wb (by simp only [go_sem,seval,Nat.add_assoc])
 ·refine Aw_st hE [0,3,4,5,20] [17,25,27,700,701,710,711,712,713,714,720,721,722,723,724] fun K hK=>?_
  simp only [go_sem,seval]
  refine hK _ (Aw_yes rfl (Aw_skip (hB4 _ ?_)))
  refine Aw_sq fun B6 hB6 hR6 hX6=>?_
  refine Aw_bk fun B7 hN7 hE7 hR7 hX7=>?_
  refine Aw_tx hE [0,3,4,5] [17,25,27,700,701,710,711,712,713,714,720,721,722,723,724] fun K hK=>?_
  simp only [go_sem,seval,List.flatten_cons,List.flatten_nil,List.cons_append,List.nil_append]
  refine ⟨fun h=>?_,fun h cap' hcap'=>?_⟩
  ·obtain ⟨c1,rfl⟩:∃ c1,c=c1 + 1:=⟨c - 1,by omega⟩
   simp only [jN_s,List.set_cons_zero]
   refine hK _ (hN7 _ (hB6 _ ?_))
   refine Aw_tx hE [0,3,4,5] [17,25,27,700,701,710,711,712,713,714,720,721,722,723,724] fun K hK=>?_
   simp only [go_sem,seval]
   repeat refine sd0 ?_
   refine hK _ (hN3 (3,c1) _ (by omega) (by simp only;omega) ?_)
   refine (Le_swb _ 25 712 (by decide) (by decide)).trans ?_
   simp only [St.swb,swbσ,swbm,AV.swb,AV.swbAll,swp,jN_swb,row_swb,Nat.reduceEqDiff,if_true,if_false,reduceIte]
   exact Le_wb (by simp only [go_sem,seval,Nat.add_assoc])
  ·obtain ⟨c1,rfl⟩:∃ c1,cap'=c1 + 3:=⟨cap' - 3,by omega⟩
   rw [Nat.add_sub_cancel]
   refine hK _ (hN7 _ (hB6 _ ?_))
   refine Aw_tx hE [0,3,4,5] [17,25,27,700,701,710,711,712,713,714,720,721,722,723,724] fun K hK=>?_
   simp only [go_sem,seval]
   repeat refine sd0 ?_
   refine hK _ (hN3 (3,c1) _ (by omega) (by simp only;omega) ?_)
   refine (Le_swb _ 25 712 (by decide) (by decide)).trans ?_
   simp only [St.swb,swbσ,swbm,AV.swb,AV.swbAll,swp,jN_swb,row_swb,Nat.reduceEqDiff,if_true,if_false,reduceIte]
   refine (Le_swb _ 27 700 (by decide) (by decide)).trans ?_
   simp only [St.swb,swbσ,swbm,AV.swb,AV.swbAll,swp,jN_swb,row_swb,Nat.reduceEqDiff,if_true,if_false,reduceIte]
   exact Le_wb (by simp only [go_sem,seval,Nat.add_assoc])
 ·refine Aw_st hE [0,3,4,5,20] [17,25,27,700,701,710,711,712,713,714,720,721,722,723,724] fun K hK=>?_
  simp only [go_sem,seval]
  refine hK _ (Aw_yes rfl (Aw_skip (hB4 _ ?_)))
  refine Aw_sq fun B6 hB6 hR6 hX6=>?_
  refine Aw_bk fun B7 hN7 hE7 hR7 hX7=>?_
  refine Aw_tx hE [0,3,4,5] [17,25,27,700,701,710,711,712,713,714,720,721,722,723,724] fun K hK=>?_
  simp only [go_sem,seval,List.flatten_cons,List.flatten_nil,List.cons_append,List.nil_append]
  refine ⟨fun h=>?_,fun h cap' hcap'=>?_⟩
  ·obtain ⟨c1,rfl⟩:∃ c1,c=c1 + 1:=⟨c - 1,by omega⟩
   simp only [jN_s,List.set_cons_zero]
   refine hK _ (hN7 _ (hB6 _ ?_))
   refine Aw_tx hE [0,3,4,5] [17,25,27,700,701,710,711,712,713,714,720,721,722,723,724] fun K hK=>?_
   simp only [go_sem,seval]
   repeat refine sd0 ?_
   refine hK _ (hN3 (4,c1) _ (by omega) (by simp only;omega) ?_)
   refine (Le_swb _ 25 713 (by decide) (by decide)).trans ?_
   simp only [St.swb,swbσ,swbm,AV.swb,AV.swbAll,swp,jN_swb,row_swb,Nat.reduceEqDiff,if_true,if_false,reduceIte]
   exact Le_wb (by simp only [go_sem,seval,Nat.add_assoc])
  ·obtain ⟨c1,rfl⟩:∃ c1,cap'=c1 + 4:=⟨cap' - 4,by omega⟩
   rw [Nat.add_sub_cancel]
   refine hK _ (hN7 _ (hB6 _ ?_))
   refine Aw_tx hE [0,3,4,5] [17,25,27,700,701,710,711,712,713,714,720,721,722,723,724] fun K hK=>?_
   simp only [go_sem,seval]
   repeat refine sd0 ?_
   refine hK _ (hN3 (4,c1) _ (by omega) (by simp only;omega) ?_)
   refine (Le_swb _ 25 713 (by decide) (by decide)).trans ?_
   simp only [St.swb,swbσ,swbm,AV.swb,AV.swbAll,swp,jN_swb,row_swb,Nat.reduceEqDiff,if_true,if_false,reduceIte]
   refine (Le_swb _ 27 700 (by decide) (by decide)).trans ?_
   simp only [St.swb,swbσ,swbm,AV.swb,AV.swbAll,swp,jN_swb,row_swb,Nat.reduceEqDiff,if_true,if_false,reduceIte]
   exact Le_wb (by simp only [go_sem,seval,Nat.add_assoc])
 ·refine Aw_st hE [0,3,4,5,20] [17,25,27,700,701,710,711,712,713,714,720,721,722,723,724] fun K hK=>?_
  simp only [go_sem,seval]
  refine hK _ (Aw_yes rfl (Aw_skip (hB4 _ ?_)))
  refine Aw_sq fun B6 hB6 hR6 hX6=>?_
  refine Aw_bk fun B7 hN7 hE7 hR7 hX7=>?_
  refine Aw_tx hE [0,3,4,5] [17,25,27,700,701,710,711,712,713,714,720,721,722,723,724] fun K hK=>?_
  simp only [go_sem,seval,List.flatten_cons,List.flatten_nil,List.cons_append,List.nil_append]
  refine ⟨fun h=>?_,fun h cap' hcap'=>?_⟩
  ·obtain ⟨c1,rfl⟩:∃ c1,c=c1 + 1:=⟨c - 1,by omega⟩
   simp only [jN_s,List.set_cons_zero]
   refine hK _ (hN7 _ (hB6 _ ?_))
   refine Aw_tx hE [0,3,4,5] [17,25,27,700,701,710,711,712,713,714,720,721,722,723,724] fun K hK=>?_
   simp only [go_sem,seval]
   repeat refine sd0 ?_
   refine hK _ (hN3 (5,c1) _ (by omega) (by simp only;omega) ?_)
   refine (Le_swb _ 25 714 (by decide) (by decide)).trans ?_
   simp only [St.swb,swbσ,swbm,AV.swb,AV.swbAll,swp,jN_swb,row_swb,Nat.reduceEqDiff,if_true,if_false,reduceIte]
   exact Le_wb (by simp only [go_sem,seval,Nat.add_assoc])
  ·obtain ⟨c1,rfl⟩:∃ c1,cap'=c1 + 5:=⟨cap' - 5,by omega⟩
   rw [Nat.add_sub_cancel]
   refine hK _ (hN7 _ (hB6 _ ?_))
   refine Aw_tx hE [0,3,4,5] [17,25,27,700,701,710,711,712,713,714,720,721,722,723,724] fun K hK=>?_
   simp only [go_sem,seval]
   repeat refine sd0 ?_
   refine hK _ (hN3 (5,c1) _ (by omega) (by simp only;omega) ?_)
   refine (Le_swb _ 25 714 (by decide) (by decide)).trans ?_
   simp only [St.swb,swbσ,swbm,AV.swb,AV.swbAll,swp,jN_swb,row_swb,Nat.reduceEqDiff,if_true,if_false,reduceIte]
   refine (Le_swb _ 27 700 (by decide) (by decide)).trans ?_
   simp only [St.swb,swbσ,swbm,AV.swb,AV.swbAll,swp,jN_swb,row_swb,Nat.reduceEqDiff,if_true,if_false,reduceIte]
   exact Le_wb (by simp only [go_sem,seval,Nat.add_assoc])
set_option maxHeartbeats 4000000 in
theorem l91Rels_ok:Fine Tryd.prog 30 cRelsD:=by
 refine fine_ofX [] gl_nil [] ms_nil [] mm_nil [17,25,26,27,72,79,95,98,99] [] ex_nil (T:=TT) Tryd.func30 rfl Tryd.ntmps30 (by rw [Tryd.results30]) rfl rfl tt (gs_cons pick_ok gs_nil) (ds_cons back_ok ds_nil) ?_
 rintro args rfl
 refine ⟨by simp,fun k hk E hE Q hQ=>?_⟩
 have hk:=hk rfl
 simp only [go_sem] at hk
 have hQ2:∀ (L:List (List Int)) (rn:Nat),(2≤L.length∧L.length≤5)→(∀ w ∈ L,w.length=L.length)→rn≤k + 40→Aw E .ret ⟨111,[(2,wsl L)],[],rn⟩ Q:=by
  intro L rn h1 h2 h3
  refine Aw_ret (hQ _ ?_)
  simp only [go_sem,seval]
  exact ⟨h3,L,h1,h2,rfl⟩
 refine Aw_st hE [0] [17] fun K hK=>?_
 simp only [go_sem,seval]
 refine hK _ ?_;clear hK K
 refine Aw_st hE [0,3] [17] fun K hK=>?_
 simp only [go_sem,seval]
 repeat' (first | (refine And.intro (by first | omega | decide) ?_) | intro)
 rename_i n0 hn1 hn2
 refine hK _ ?_;clear hK K
 refine Aw_st hE [0,3,4] [17] fun K hK=>?_
 simp only [go_sem,seval]
 refine hK _ ?_;clear hK K
 have hn:n0=0∨n0=1∨n0=2∨n0=3:=by omega
 rcases hn with rfl | rfl | rfl | rfl
 ·exact relsA2 hE hk hQ2
 ·exact relsA3 hE hk hQ2
 ·exact relsA4 hE hk hQ2
 ·exact relsA5 hE hk hQ2
def okRl (R:List (List Int)):Prop:=(2≤R.length∧R.length≤5)∧(∀ w ∈ R,w.length=R.length)
theorem okRl_big {R:List (List Int)} (h:okRl R):bigM R:=⟨by have:=h.1;omega,fun w hw=>by have:=h.2 w hw;have:=h.1;omega⟩
theorem relsD_pre:cRelsD.pre [.rd]=True:=eq_true rfl
theorem relsD_post (args:List AV) (K:AV→Prop):(∀ r,cRelsD.post args r→K r)=(∀ R:List (List Int),okRl R→K (wsl R)):=by
 apply propext
 exact ⟨fun h R hR=>h _ ⟨R,hR.1,hR.2,rfl⟩,fun h r ⟨R,h1,h2,e⟩=>e ▸ h R ⟨h1,h2⟩⟩
theorem relsD_ex (args:List AV):(∃ r,cRelsD.post args r)=True:=eq_true ⟨_,[[0,0],[0,0]],⟨by decide,by decide⟩,by decide,rfl⟩
attribute [go_sem] relsD_pre relsD_post relsD_ex
def cDNE:Con:={ pre:=codeArg,post:=fun _ r=>∃ (R:List (List Int)) (x:Int),okRl R∧(1≤x∧x≤100)∧r = .tup [wsl R,iv x] }
theorem cDNE_own:cDNE.own=false:=rfl
theorem cDNE_draws:cDNE.draws=false:=rfl
theorem cDNE_cost:cDNE.cost=0:=rfl
attribute [go_sem] cDNE_own cDNE_draws cDNE_cost
theorem dne_pre (bs:List Nat) (h:∀ b ∈ bs,b < 256):cDNE.pre [.sl none (byteRows bs)]:=⟨bs,h,rfl⟩
theorem dne_post (args:List AV) (K:AV→Prop):(∀ r,cDNE.post args r→K r)=(∀ (R:List (List Int)) (x:Int),okRl R→1≤x→x≤100→K (.tup [wsl R,iv x])):=by
 apply propext
 exact ⟨fun h R x h1 h2 h3=>h _ ⟨R,x,h1,⟨h2,h3⟩,rfl⟩,fun h r ⟨R,x,h1,⟨h2,h3⟩,e⟩=>e ▸ h R x h1 h2 h3⟩
attribute [go_sem] dne_post
theorem drawNetEnd_ok:Fine Tryd.prog 12 cDNE:=by
 refine fine_draw (T:=TT) (C:=cDNE) Tryd.func12 rfl Tryd.ntmps12 (by rw [Tryd.results12]) rfl rfl tt rfl rfl (G:=[(30,cRelsD),(31,cPick)]) (D:=[]) (gs_cons l91Rels_ok (gs_cons pick_ok gs_nil)) ds_nil (l1:=[_]) (l2:=[_]) rfl rfl rfl rfl (by decide) open_calls ⟨_,Tryd.func29,rfl,rfl⟩ ?_ ?_
 ·rintro args r ⟨R,x,_,_,rfl⟩;rfl
 rintro args ⟨bs,hbs,rfl⟩
 refine ⟨by simp,bs,hbs,fun n E hE J hJ=>?_⟩
 refine Aw_tx hE [0] [] fun K hK=>?_
 simp only [go_sem,seval]
 refine hK _ ?_
 simp only [thenA]
 simp only [go_sem,seval]
 refine hJ _ rfl rfl fun E hE Q hQ=>?_
 simp only [go_sem,seval]
 refine Aw_st hE [4,5] [] fun K hK=>?_
 simp only [go_sem,seval]
 intro R hR
 refine hK _ ?_;clear hK K
 refine Aw_st hE [2,3] [] fun K hK=>?_
 simp only [go_sem,seval]
 intro x hx1 hx2
 refine ⟨⟨by omega,by have:=hR.1;omega⟩,fun y hy1 hy2=>?_⟩
 have hd:y.tdiv 23=0∨y.tdiv 23=1:=by
  rw [Int.tdiv_eq_ediv_of_nonneg hy1];omega
 have hR1:=hR.1
 refine ⟨⟨by omega,by omega⟩,⟨by omega,by omega⟩,⟨by omega,by omega⟩,?_⟩
 refine hK _ (Aw_ret (hQ _ ?_))
 simp only [go_sem,seval]
 exact ⟨R,_,hR,⟨by omega,by omega⟩,rfl⟩
def endR (R:List (List Int)) (x:Int):List (List Int):=if relsOk R && hIb R.length x then endL R.length (ofR R) x else []
theorem endR_big {R:List (List Int)} {x:Int}:bigM (endR R x)∧(endR R x).length≤5:=by
 unfold endR
 split
 ·rename_i h
  rw [Bool.and_eq_true] at h
  have hn5:=(relsOk_iff.1 h.1).1.2
  have hx:=hIb_iff.1 h.2
  have hl:=(endL_S (of:=ofR R) hx).2
  have hv:=end_net (of:=ofR R) hn5 hx
  refine ⟨⟨by omega,fun w hw=>?_⟩,by omega⟩
  obtain ⟨i,hi,rfl⟩:=List.getElem_of_mem hw
  have:=hv.2 ((i:Int) + 1) ⟨by omega,by omega⟩
  rw [toS_succ,List.getD_eq_getElem?_getD,List.getElem?_eq_getElem hi,Option.getD_some] at this
  by_cases e:(endL R.length (ofR R) x)[i]=[]
  ·rw [e];simp
  ·have:=pathOk_len ((wayOk_iff e).1 this).2.2.1;omega
 ·exact ⟨⟨by simp,fun w hw=>by cases hw⟩,by simp⟩
theorem endR_bw {R:List (List Int)} {x:Int}:bigW (endR R x):=by
 obtain ⟨⟨h1,h2⟩,h3⟩:=endR_big (R:=R) (x:=x)
 exact ⟨by omega,fun w hw=>by have:=h2 w hw;omega⟩
structure FreeR (R:List (List Int)) (x:Int):Prop where
 ok:relsOk R=true
 home:hI R.length x
 n5:R.length≤5
 H:RelH R.length (ofR R)
 rk:∃ rk,Rk R.length (ofR R) rk
 eq:endR R x=endL R.length (ofR R) x
 len:(endR R x).length=R.length
theorem freeR {R:List (List Int)} {x:Int} (h:(endR R x).length≠0):relsOk R=true∧hI R.length x∧endR R x=endL R.length (ofR R) x:=by
 unfold endR at h ⊢
 cases hb:(relsOk R && hIb R.length x) with
 | false=>rw [hb] at h;exact absurd rfl h
 | true =>
  rw [Bool.and_eq_true] at hb
  exact ⟨hb.1,hIb_iff.1 hb.2,rfl⟩
theorem freeR_of {R:List (List Int)} {x:Int} (h:(endR R x).length≠0) (hf:(ordR R).isSome=true):FreeR R x:=by
 obtain ⟨h1,h2,h3⟩:=freeR h
 unfold ordR at hf
 rw [if_pos h1] at hf
 obtain ⟨l,hl⟩:=Option.isSome_iff_exists.1 hf
 exact ⟨h1,h2,(relsOk_iff.1 h1).1.2,relsOk_H h1,⟨_,ord_rk hl⟩,h3,by rw [h3];exact (endL_S h2).2⟩
theorem endStill_plain {R:List (List Int)} {x:Int} (F:FreeR R x):netOk R x (endR R x)=true∧stillB R.length (ofR R) x (endR R x)=true:=by
 obtain ⟨rk,K⟩:=F.rk
 rw [F.eq]
 exact ⟨netOk_iff.2 ⟨F.ok,(endL_S F.home).2,end_net F.n5 F.home⟩,stillB_iff.2 (end_still F.H K F.home)⟩
theorem endR_def (R:List (List Int)) (x:Int):(if (relsOk R && hIb R.length x)=true then endL R.length (ofR R) x else [])=endR R x:=rfl
attribute [go_sem] endR_def
section
variable {R:List (List Int)} {x:Int}
theorem FreeR.net (F:FreeR R x):netS R.length (ofR R) x (toS (endR R x)):=by rw [F.eq];exact end_net F.n5 F.home
theorem FreeR.still (F:FreeR R x):stillS R.length (ofR R) x (toS (endR R x)):=by
 obtain ⟨rk,K⟩:=F.rk
 rw [F.eq];exact end_still F.H K F.home
theorem FreeR.hi (_:FreeR R x) {i:Nat} (hi:i < R.length):hI R.length ((i:Int) + 1):=⟨by omega,by omega⟩
theorem toS_at {W:List (List Int)} {y:Int} (h:1≤y):toS W y=W.getD (y - 1).toNat []:=if_pos h
theorem FreeR.alongI (F:FreeR R x) {i:Nat} (hi:i < R.length) (hl:1 < ((endR R x).getD i []).length) :
  (1≤((endR R x).getD i []).getD 1 0∧((endR R x).getD i []).getD 1 0≤R.length)∧((endR R x).getD i []).drop 1=(endR R x).getD (((endR R x).getD i []).getD 1 0 - 1).toNat []:=by
 have h:=along F.net F.still (F.hi hi) (by rw [toS_succ];exact hl)
 rw [toS_succ] at h
 have h1:hI R.length (((endR R x).getD i []).getD 1 0):=h.1
 refine ⟨h1,?_⟩
 rw [h.2]
 exact toS_at h1.1
theorem FreeR.home_i (F:FreeR R x) {i:Nat} (e:(i:Int) + 1=x):(endR R x).getD i []=[x]:=by
 have:=netS_home F.net
 rw [← e,toS_succ] at this
 rw [← e];exact this
theorem FreeR.len2 (F:FreeR R x) {i:Nat} (hi:i < R.length) (hne:(i:Int) + 1≠x) (hw:(endR R x).getD i []≠[]):2≤((endR R x).getD i []).length:=by
 have:=netS_len F.net (F.hi hi) hne (by rw [toS_succ];exact hw)
 rwa [toS_succ] at this
theorem FreeR.upWI (F:FreeR R x) {i:Nat} (hi:i < R.length) (hw:(endR R x).getD i []≠[]) :
  upW (ofR R) ((i:Int) + 1) ((endR R x).getD i [])=(decide ((i:Int) + 1=x) || decide (ofR R ((i:Int) + 1) (((endR R x).getD i []).getD 1 0)=1)):=by
 by_cases e:(i:Int) + 1=x
 ·rw [F.home_i e,decide_eq_true e];rfl
 ·have h2:=F.len2 hi e hw
  have h1:=(F.alongI hi (by omega)).1
  rw [decide_eq_false e,Bool.false_or]
  unfold Go.Proofs.W.upW nxt
  rw [show (((endR R x).getD i []).getD 1 0 == 0)=false from beq_false_of_ne (by omega),Bool.false_or]
  rfl
end
def cutL (R:List (List Int)) (i j:Nat):List (List Int):=(List.range R.length).map fun q=>upd (upd (fun p=>R.getD p []) i j 0) j i 0 q
section
variable {R:List (List Int)} {i j:Nat}
theorem cutL_len:(cutL R i j).length=R.length:=by simp [cutL]
theorem cutL_get {p:Nat} (hp:p < R.length):(cutL R i j).getD p []=upd (upd (fun p=>R.getD p []) i j 0) j i 0 p:=by
 unfold cutL
 rw [List.getD_eq_getElem?_getD,List.getElem?_map,List.getElem?_range hp];rfl
theorem set_getD (l:List Int) (i p:Nat) (v:Int) (h:i < l.length):(l.set i v).getD p 0=if p=i then v else l.getD p 0:=by
 rw [List.getD_eq_getElem?_getD,List.getD_eq_getElem?_getD]
 by_cases e:p=i
 ·subst e;rw [List.getElem?_set_self h,if_pos rfl];rfl
 ·rw [List.getElem?_set_ne (by omega),if_neg e]
theorem cutL_at (hsq:∀ p,p < R.length→(R.getD p []).length=R.length) (hi:i < R.length) (hj:j < R.length) (hne:i≠j) {p q:Nat} (hp:p < R.length) :
  ((cutL R i j).getD p []).getD q 0=if (p=i∧q=j)∨(p=j∧q=i) then 0 else (R.getD p []).getD q 0:=by
 rw [cutL_get hp]
 unfold upd
 by_cases e1:p=j
 ·subst e1
  rw [if_pos rfl,if_neg (fun e=>hne e.symm),set_getD _ _ _ _ (by rw [hsq p hp];exact hi)]
  by_cases e2:q=i
  ·subst e2;rw [if_pos rfl,if_pos (.inr ⟨rfl,rfl⟩)]
  ·rw [if_neg e2,if_neg (by omega)]
 ·rw [if_neg e1]
  by_cases e2:p=i
  ·subst e2
   rw [if_pos rfl,set_getD _ _ _ _ (by rw [hsq p hp];exact hj)]
   by_cases e3:q=j
   ·subst e3;rw [if_pos rfl,if_pos (.inl ⟨rfl,rfl⟩)]
   ·rw [if_neg e3,if_neg (by omega)]
  ·rw [if_neg e2,if_neg (by omega)]
theorem cutL_row (hsq:∀ p,p < R.length→(R.getD p []).length=R.length) {p:Nat} (hp:p < R.length):((cutL R i j).getD p []).length=R.length:=by
 rw [cutL_get hp]
 unfold upd
 by_cases e1:p=j
 ·subst e1
  rw [if_pos rfl,List.length_set]
  by_cases e2:p=i
  ·subst e2;rw [if_pos rfl,List.length_set];exact hsq p hp
  ·rw [if_neg e2];exact hsq p hp
 ·rw [if_neg e1]
  by_cases e2:p=i
  ·subst e2;rw [if_pos rfl,List.length_set];exact hsq p hp
  ·rw [if_neg e2];exact hsq p hp
end
theorem ofR_at (R:List (List Int)) {a b:Int} (ha:1≤a) (hb:1≤b):ofR R a b=(R.getD (a - 1).toNat []).getD (b - 1).toNat 0:=if_pos ⟨ha,hb⟩
section
variable {R:List (List Int)} {x:Int} {a b:Int}
theorem sq_of (h:relsOk R=true):∀ p,p < R.length→(R.getD p []).length=R.length:=fun p hp=>(relsOk_iff.1 h).2.1 _ (getD_memL R p hp)
theorem relCut_of (h:relsOk R=true) (ha:hI R.length a) (hb:hI R.length b) (hne:a≠b) {p q:Int} (hp:hI R.length p) (hq:hI R.length q) :
  ofR (cutL R (a - 1).toNat (b - 1).toNat) p q=if (p=a∧q=b)∨(p=b∧q=a) then 0 else ofR R p q:=by
 obtain ⟨a1,a2⟩:=ha;obtain ⟨b1,b2⟩:=hb;obtain ⟨p1,p2⟩:=hp;obtain ⟨q1,q2⟩:=hq
 rw [ofR_at _ p1 q1,ofR_at _ p1 q1,cutL_at (sq_of h) (by omega) (by omega) (by omega) (by omega)]
 by_cases e:(p=a∧q=b)∨(p=b∧q=a)
 ·rw [if_pos e,if_pos (by omega)]
 ·rw [if_neg e,if_neg (by omega)]
theorem relCut_ok (h:relsOk R=true) (ha:hI R.length a) (hb:hI R.length b) (hne:a≠b):relsOk (cutL R (a - 1).toNat (b - 1).toNat)=true:=by
 obtain ⟨h1,h2,h3⟩:=relsOk_iff.1 h
 refine relsOk_iff.2 ⟨by rw [cutL_len];exact h1,fun r hr=>?_,fun p q hp hq=>?_⟩
 ·obtain ⟨i,hi,rfl⟩:=List.getElem_of_mem hr
  rw [cutL_len] at hi ⊢
  have:=cutL_row (i:=(a - 1).toNat) (j:=(b - 1).toNat) (sq_of h) hi
  rwa [List.getD_eq_getElem?_getD,List.getElem?_eq_getElem (by rw [cutL_len];exact hi),Option.getD_some] at this
 ·rw [cutL_len] at hp hq
  obtain ⟨g1,g2,g3⟩:=h3 p q hp hq
  rw [relCut_of h ha hb hne hp hq,relCut_of h ha hb hne hq hp]
  by_cases e:(p=a∧q=b)∨(p=b∧q=a)
  ·rw [if_pos e,if_pos (by omega)];exact ⟨by omega,rfl,fun _=>rfl⟩
  ·rw [if_neg e,if_neg (by omega)];exact ⟨g1,g2,g3⟩
theorem relCut_free (F:FreeR R x) (ha:hI R.length a) (hb:hI R.length b) (hp:ofR R a b=2):FreeR (cutL R (a - 1).toNat (b - 1).toNat) x∧
  ∀ i,i < R.length→1 < ((endR R x).getD i []).length→ofR R ((i:Int) + 1) (((endR R x).getD i []).getD 1 0)=1→(endR (cutL R (a - 1).toNat (b - 1).toNat) x).getD i []=(endR R x).getD i []:=by
 have hne:a≠b:=fun e=>by
  have:=F.H.irr a ha
  rw [← e] at hp
  omega
 have hp2:ofR R b a=2:=by rw [F.H.mir a b ha hb,hp];rfl
 have hk:=relCut_ok F.ok ha hb hne
 have hL:(cutL R (a - 1).toNat (b - 1).toNat).length=R.length:=cutL_len
 have hc:∀ p q,hI R.length p→hI R.length q→(ofR R p q == 1)=(ofR (cutL R (a - 1).toNat (b - 1).toNat) p q == 1):=fun p q h1 h2=>by
  rw [relCut_of F.ok ha hb hne h1 h2]
  by_cases e:(p=a∧q=b)∨(p=b∧q=a)
  ·rw [if_pos e]
   rcases e with ⟨rfl,rfl⟩ | ⟨rfl,rfl⟩
   ·rw [hp];rfl
   ·rw [hp2];rfl
  ·rw [if_neg e]
 obtain ⟨rk,K⟩:=F.rk
 have K':Rk R.length (ofR (cutL R (a - 1).toNat (b - 1).toNat)) rk:=⟨K.lt,fun p q h1 h2 e=>K.dn p q h1 h2 (by
  have:=hc p q h1 h2
  rw [e] at this
  simpa using this)⟩
 have he:endR (cutL R (a - 1).toNat (b - 1).toNat) x=endL R.length (ofR (cutL R (a - 1).toNat (b - 1).toNat)) x:=by
  unfold endR
  rw [hk,hL,hIb_iff.2 F.home];rfl
 have H':=relsOk_H hk
 rw [hL] at H'
 refine ⟨⟨hk,by rw [hL];exact F.home,by rw [hL];exact F.n5,by rw [hL];exact H',⟨rk,by rw [hL];exact K'⟩,by rw [hL];exact he,by rw [he,hL];exact (endL_S F.home).2⟩,fun i hi hl hr=>?_⟩
 have hu:upW (ofR R) ((i:Int) + 1) ((endR R x).getD i [])=true:=by
  rw [F.upWI hi (fun e=>by rw [e] at hl;simp at hl),decide_eq_true hr,Bool.or_true]
 have:=cut_same (home:=x) (h:=(i:Int) + 1) F.H H' K K' hc F.home ⟨by omega,by omega⟩ (by rw [← F.eq,toS_succ];intro e;rw [e] at hl;simp at hl) (by rw [← F.eq,toS_succ];exact hu)
 rw [← he,← F.eq,toS_succ,toS_succ] at this
 exact this
end
end Go.Proofs.W
end
section
namespace Go.Proofs.W
open Go Go.Eng
def rdH (n s r i:Nat):Nat:=(if (r + s) % 2=1 then n - 1 - (i + r * s) % n else (i + r * s) % n) + 1
def rdP (n s r i:Nat):List Int:=(List.range i).map fun q=>(rdH n s r q:Int)
def lyR (n k s:Nat):List Int:=((List.range k).map fun r=>rdP n s r n).flatten
theorem tmod_c (a n:Nat):((a:Int)).tmod (n:Int)=((a % n:Nat):Int):=(Int.ofNat_tmod a n).symm
end Go.Proofs.W
end
section
namespace Go.Proofs.W
open Go Go.Eng Go.RowKit
set_option maxRecDepth 100000
def gRnd:List AV→Option (Prop × AV)
 | [.v (.int .i64 n),.v (.int .i64 q),.v (.int .i64 s)]=>some ((1≤n∧n≤1000)∧(0≤q∧q≤1000)∧0≤s∧s≤1000,isl (lyR n.toNat q.toNat s.toNat))
 | _=>none
def dRnd:DFn:={ g:=gRnd }
attribute [go_sem] gRnd dRnd
def tbCut (pb:Addr):Tb:={ T:=TT,G:=[(12,cDNE)],D:=[(13,dNetEndI pb),(17,dNetStillI pb),(15,dNetEnd),(14,dLyW),(16,dRelsFree),(19,dLyI),(20,dRelOf)],draws:=false,gl:=[],M:=[],MM:=[],X:=[70,78,83,84,85],EX:=[] }
attribute [go_sem] tbCut
set_option maxHeartbeats 16000000 in
theorem cutA2 {E:En} {pb:Addr} (hE:TbOk E (tbCut pb)) {k:Nat} {Q:Exit→St→Prop} {R Ew:List (List Int)} {x a b:Int} (hn:R.length=2) (hsq:∀ p,p < 2→(R.getD p []).length=2) (ha1:1≤a) (ha2:a≤2) (hb1:1≤b) (hb2:b≤2) (hab:a≠b) (hQ:Aw E (seqB (seqB (seqB (seqB (seqB (seqB (seqB (seqB (seqB (seqB (seqB (seqB (Tryd.f9.body.getD .skip))))))))))))) ⟨142,[(5,wsl R),(6,iv x),(7,wsl Ew),(10,wsl (cutL R (a - 1).toNat (b - 1).toNat))],[],k⟩ Q):Aw E (seqB (seqB (seqB (seqB (seqB (seqB (seqB (seqB (seqB (Tryd.f9.body.getD .skip)))))))))) ⟨142,[(5,wsl R),(6,iv x),(7,wsl Ew),(8,iv a),(9,iv b),(10,.xs 70 0 0 0 1)],[(70,[])],k⟩ Q:=by
 have hl0:=hsq 0 (by omega)
 have hg0:=wrows_get R 0 (by omega)
 have ht0:(cI (R.getD 0 [])).take 2=cI (R.getD 0 []):=List.take_of_length_le (by rw [cI_len,hl0];exact Nat.le_refl _)
 have hf0:=allLeaf_cI (R.getD 0 [])
 have hl1:=hsq 1 (by omega)
 have hg1:=wrows_get R 1 (by omega)
 have ht1:(cI (R.getD 1 [])).take 2=cI (R.getD 1 []):=List.take_of_length_le (by rw [cI_len,hl1];exact Nat.le_refl _)
 have hf1:=allLeaf_cI (R.getD 1 [])
 have hla:((R.length:Nat):Int)=2:=by omega
 refine Aw_sq fun B12 hB12 hR12 hX12=>?_
 refine Aw_st hE [5,6,7,8,9,10,11] [70,78,83,84,85,700,710,711,712,713,714] fun K hK=>?_
 simp only [go_sem,seval]
 refine hK _ ?_;clear hK K
 refine Aw_bk fun B13 hN13 hE13 hR13 hX13=>?_
 refine Aw_lp (fun i:Nat × Nat × (Nat→Nat)=>⟨142,[(5,wsl R),(6,iv x),(7,wsl Ew),(8,iv a),(9,iv b),(10,.xs 700 0 i.1 (i.2.1 + i.1) 1),(11,iv (i.1:Int))],(700,vws 2 i.2.2 710 i.1++jN i.2.1)::bxs 2 i.2.2 (fun p=>R.getD p []) 710 i.1,k⟩) (fun i=>i.1≤2) (fun i=>2 - i.1) (0,0,fun _=>0) ?_ (by simp) fun i hi B14 hN14 hR14 hX14=>?_
 ·refine (Le_swb _ 70 700 (by decide) (by decide)).trans ?_
  simp only [St.swb,swbσ,swbm,AV.swb,AV.swbAll,swp,jN_swb,row_swb,Nat.reduceEqDiff,if_true,if_false,reduceIte]
  exact Le_wa
 obtain ⟨i,c,d⟩:=i
 simp only at hi
 refine Aw_sq fun B15 hB15 hR15 hX15=>?_
 rcases (show i=2∨i=0∨i=1 by omega) with rfl | rfl | rfl
 ·refine Aw_st hE [5,6,7,8,9,10,11,74] [70,78,83,84,85,700,710,711,712,713,714] fun K hK=>?_
  simp only [go_sem,seval,hla]
  refine hK _ (Aw_no rfl (Aw_exit (hX15 _ _ (hX14 _ _ (hE13 _ (hB12 _ ?_))))))
  have fin:∀ q:Nat→List Int,(∀ p,p < 2→(q p).length=2)→q=upd (upd (fun p=>R.getD p []) (a - 1).toNat (b - 1).toNat 0) (b - 1).toNat (a - 1).toNat 0→Aw E (seqB (seqB (seqB (seqB (seqB (seqB (seqB (seqB (seqB (seqB (seqB (seqB (Tryd.f9.body.getD .skip))))))))))))) ⟨142,[(5,wsl R),(6,iv x),(7,wsl Ew),(10,.xs 700 0 2 (c + 2) 1)],(700,vws 2 d 710 2++jN c)::bxs 2 d q 710 2,k⟩ Q:=by
   intro q hq he
   have hq0:=hq 0 (by omega)
   have hq1:=hq 1 (by omega)
   refine Aw_frz hE rfl 710 2 (ls:=cI (q 0)++jN (d 0)) (ys:=iD (q 0)) rfl (ofAll_iD hq0) ?_
   simp only [go_sem,seval,↓frz_xs (d:=710) (cap:=d 0 + 2) hq0]
   refine Aw_frz hE rfl 711 2 (ls:=cI (q 1)++jN (d 1)) (ys:=iD (q 1)) rfl (ofAll_iD hq1) ?_
   simp only [go_sem,seval,↓frz_xs (d:=711) (cap:=d 1 + 2) hq1]
   refine Aw_frz hE rfl 700 2 (ls:=cWs [q 0,q 1]++jN c) (ys:=wD [q 0,q 1]) rfl (by rw [List.take_left' (by rfl)];exact ofAll_cWs _) ?_
   simp only [go_sem,seval,↓frz_xsW (d:=700) (n:=2) (cap:=c + 2) (L:=[q 0,q 1]) rfl]
   have hc:cutL R (a - 1).toNat (b - 1).toNat=[q 0,q 1]:=by rw [he];unfold cutL;rw [hn];rfl
   rw [hc] at hQ
   exact Aw.leE (LeE_of (show Le _ ⟨142,[(5,wsl R),(6,iv x),(7,wsl Ew),(10,wsl [q 0,q 1])],[],_⟩ from Le_wa)) hQ
  rcases (show a=1∨a=2 by omega) with rfl | rfl
  ·have hs1:=fun v=>cI_set (R.getD 0 []) (d 0) (b - 1).toNat v (by omega)
   refine Aw_st hE [5,6,7,8,9,10] [70,78,83,84,85,700,710,711,712,713,714] fun K hK=>?_
   simp only [go_sem,seval,hs1]
   repeat refine sd0 ?_
   refine hK _ ?_;clear hK K
   obtain rfl:b=2:=by omega
   ·have hs2:=fun v=>cI_set (R.getD 1 []) (d 1) 0 v (by omega)
    refine Aw_st hE [5,6,7,10] [70,78,83,84,85,700,710,711,712,713,714] fun K hK=>?_
    simp only [go_sem,seval,hs2]
    repeat refine sd0 ?_
    refine hK _ ?_
    refine Aw.leE (LeE_of ?_) (fin (upd (upd (fun p=>R.getD p []) 0 1 0) 1 0 0) (fun p hp=>?_) rfl)
    ·exact Le_wc (by simp only [go_sem,seval,upd]) (by simp only [go_sem,seval,upd])
    ·rcases (show p=0∨p=1 by omega) with rfl | rfl
     all_goals (simp only [upd,Nat.reduceEqDiff,if_true,if_false,reduceIte,List.length_set];first | exact hl0 | exact hl1)
  ·have hs1:=fun v=>cI_set (R.getD 1 []) (d 1) (b - 1).toNat v (by omega)
   refine Aw_st hE [5,6,7,8,9,10] [70,78,83,84,85,700,710,711,712,713,714] fun K hK=>?_
   simp only [go_sem,seval,hs1]
   repeat refine sd0 ?_
   refine hK _ ?_;clear hK K
   obtain rfl:b=1:=by omega
   ·have hs2:=fun v=>cI_set (R.getD 0 []) (d 0) 1 v (by omega)
    refine Aw_st hE [5,6,7,10] [70,78,83,84,85,700,710,711,712,713,714] fun K hK=>?_
    simp only [go_sem,seval,hs2]
    repeat refine sd0 ?_
    refine hK _ ?_
    refine Aw.leE (LeE_of ?_) (fin (upd (upd (fun p=>R.getD p []) 1 0 0) 0 1 0) (fun p hp=>?_) rfl)
    ·exact Le_wc (by simp only [go_sem,seval,upd]) (by simp only [go_sem,seval,upd])
    ·rcases (show p=0∨p=1 by omega) with rfl | rfl
     all_goals (simp only [upd,Nat.reduceEqDiff,if_true,if_false,reduceIte,List.length_set];first | exact hl0 | exact hl1)
 ·refine Aw_st hE [5,6,7,8,9,10,11,74] [70,78,83,84,85,700,710,711,712,713,714] fun K hK=>?_
  simp only [go_sem,seval,hla]
  refine hK _ (Aw_yes rfl (Aw_skip (hB15 _ ?_)))
  refine Aw_sq fun B17 hB17 hR17 hX17=>?_
  refine Aw_bk fun B18 hN18 hE18 hR18 hX18=>?_
  refine Aw_tx hE [5,6,7,8,9,10,11] [70,78,83,84,85,700,710,711,712,713,714] fun K hK=>?_
  simp only [go_sem,seval,hg0,hl0,ht0,hf0,List.flatten_cons,List.flatten_nil,List.cons_append,List.nil_append]
  refine ⟨rows_row _,fun cap1 hcap1=>?_⟩
  obtain ⟨e1,rfl⟩:∃ e1,cap1=e1 + 2:=⟨cap1 - 2,by omega⟩
  simp only [Nat.add_sub_cancel]
  refine ⟨fun h=>?_,fun h cap' hcap'=>?_⟩
  ·obtain ⟨c1,rfl⟩:∃ c1,c=c1 + 1:=⟨c - 1,by omega⟩
   simp only [jN_s,List.set_cons_zero]
   refine hK _ (hN18 _ (hB17 _ ?_))
   refine Aw_tx hE [5,6,7,8,9,10,11] [70,78,83,84,85,700,710,711,712,713,714] fun K hK=>?_
   simp only [go_sem,seval]
   repeat refine sd0 ?_
   refine hK _ (hN14 (1,c1,put d 0 e1) _ (by omega) (by simp only;omega) ?_)
   refine (Le_swb _ 83 710 (by decide) (by decide)).trans ?_
   simp only [St.swb,swbσ,swbm,AV.swb,AV.swbAll,swp,jN_swb,row_swb,Nat.reduceEqDiff,if_true,if_false,reduceIte]
   exact Le_wc (by simp only [go_sem,seval,put,Nat.add_assoc]) (by simp only [go_sem,seval,put])
  ·obtain ⟨c1,rfl⟩:∃ c1,cap'=c1 + 1:=⟨cap' - 1,by omega⟩
   rw [Nat.add_sub_cancel]
   refine hK _ (hN18 _ (hB17 _ ?_))
   refine Aw_tx hE [5,6,7,8,9,10,11] [70,78,83,84,85,700,710,711,712,713,714] fun K hK=>?_
   simp only [go_sem,seval]
   repeat refine sd0 ?_
   refine hK _ (hN14 (1,c1,put d 0 e1) _ (by omega) (by simp only;omega) ?_)
   refine (Le_swb _ 83 710 (by decide) (by decide)).trans ?_
   simp only [St.swb,swbσ,swbm,AV.swb,AV.swbAll,swp,jN_swb,row_swb,Nat.reduceEqDiff,if_true,if_false,reduceIte]
   refine (Le_swb _ 85 700 (by decide) (by decide)).trans ?_
   simp only [St.swb,swbσ,swbm,AV.swb,AV.swbAll,swp,jN_swb,row_swb,Nat.reduceEqDiff,if_true,if_false,reduceIte]
   exact Le_wc (by simp only [go_sem,seval,put,Nat.add_assoc]) (by simp only [go_sem,seval,put])
 ·refine Aw_st hE [5,6,7,8,9,10,11,74] [70,78,83,84,85,700,710,711,712,713,714] fun K hK=>?_
  simp only [go_sem,seval,hla]
  refine hK _ (Aw_yes rfl (Aw_skip (hB15 _ ?_)))
  refine Aw_sq fun B17 hB17 hR17 hX17=>?_
  refine Aw_bk fun B18 hN18 hE18 hR18 hX18=>?_
  refine Aw_tx hE [5,6,7,8,9,10,11] [70,78,83,84,85,700,710,711,712,713,714] fun K hK=>?_
  simp only [go_sem,seval,hg1,hl1,ht1,hf1,List.flatten_cons,List.flatten_nil,List.cons_append,List.nil_append]
  refine ⟨rows_row _,fun cap1 hcap1=>?_⟩
  obtain ⟨e1,rfl⟩:∃ e1,cap1=e1 + 2:=⟨cap1 - 2,by omega⟩
  simp only [Nat.add_sub_cancel]
  refine ⟨fun h=>?_,fun h cap' hcap'=>?_⟩
  ·obtain ⟨c1,rfl⟩:∃ c1,c=c1 + 1:=⟨c - 1,by omega⟩
   simp only [jN_s,List.set_cons_zero]
   refine hK _ (hN18 _ (hB17 _ ?_))
   refine Aw_tx hE [5,6,7,8,9,10,11] [70,78,83,84,85,700,710,711,712,713,714] fun K hK=>?_
   simp only [go_sem,seval]
   repeat refine sd0 ?_
   refine hK _ (hN14 (2,c1,put d 1 e1) _ (by omega) (by simp only;omega) ?_)
   refine (Le_swb _ 83 711 (by decide) (by decide)).trans ?_
   simp only [St.swb,swbσ,swbm,AV.swb,AV.swbAll,swp,jN_swb,row_swb,Nat.reduceEqDiff,if_true,if_false,reduceIte]
   exact Le_wc (by simp only [go_sem,seval,put,Nat.add_assoc]) (by simp only [go_sem,seval,put])
  ·obtain ⟨c1,rfl⟩:∃ c1,cap'=c1 + 2:=⟨cap' - 2,by omega⟩
   rw [Nat.add_sub_cancel]
   refine hK _ (hN18 _ (hB17 _ ?_))
   refine Aw_tx hE [5,6,7,8,9,10,11] [70,78,83,84,85,700,710,711,712,713,714] fun K hK=>?_
   simp only [go_sem,seval]
   repeat refine sd0 ?_
   refine hK _ (hN14 (2,c1,put d 1 e1) _ (by omega) (by simp only;omega) ?_)
   refine (Le_swb _ 83 711 (by decide) (by decide)).trans ?_
   simp only [St.swb,swbσ,swbm,AV.swb,AV.swbAll,swp,jN_swb,row_swb,Nat.reduceEqDiff,if_true,if_false,reduceIte]
   refine (Le_swb _ 85 700 (by decide) (by decide)).trans ?_
   simp only [St.swb,swbσ,swbm,AV.swb,AV.swbAll,swp,jN_swb,row_swb,Nat.reduceEqDiff,if_true,if_false,reduceIte]
   exact Le_wc (by simp only [go_sem,seval,put,Nat.add_assoc]) (by simp only [go_sem,seval,put])
set_option maxHeartbeats 16000000 in
theorem cutA3 {E:En} {pb:Addr} (hE:TbOk E (tbCut pb)) {k:Nat} {Q:Exit→St→Prop} {R Ew:List (List Int)} {x a b:Int} (hn:R.length=3) (hsq:∀ p,p < 3→(R.getD p []).length=3) (ha1:1≤a) (ha2:a≤3) (hb1:1≤b) (hb2:b≤3) (hab:a≠b) (hQ:Aw E (seqB (seqB (seqB (seqB (seqB (seqB (seqB (seqB (seqB (seqB (seqB (seqB (Tryd.f9.body.getD .skip))))))))))))) ⟨142,[(5,wsl R),(6,iv x),(7,wsl Ew),(10,wsl (cutL R (a - 1).toNat (b - 1).toNat))],[],k⟩ Q):Aw E (seqB (seqB (seqB (seqB (seqB (seqB (seqB (seqB (seqB (Tryd.f9.body.getD .skip)))))))))) ⟨142,[(5,wsl R),(6,iv x),(7,wsl Ew),(8,iv a),(9,iv b),(10,.xs 70 0 0 0 1)],[(70,[])],k⟩ Q:=by
 have hl0:=hsq 0 (by omega)
 have hg0:=wrows_get R 0 (by omega)
 have ht0:(cI (R.getD 0 [])).take 3=cI (R.getD 0 []):=List.take_of_length_le (by rw [cI_len,hl0];exact Nat.le_refl _)
 have hf0:=allLeaf_cI (R.getD 0 [])
 have hl1:=hsq 1 (by omega)
 have hg1:=wrows_get R 1 (by omega)
 have ht1:(cI (R.getD 1 [])).take 3=cI (R.getD 1 []):=List.take_of_length_le (by rw [cI_len,hl1];exact Nat.le_refl _)
 have hf1:=allLeaf_cI (R.getD 1 [])
 have hl2:=hsq 2 (by omega)
 have hg2:=wrows_get R 2 (by omega)
 have ht2:(cI (R.getD 2 [])).take 3=cI (R.getD 2 []):=List.take_of_length_le (by rw [cI_len,hl2];exact Nat.le_refl _)
 have hf2:=allLeaf_cI (R.getD 2 [])
 have hla:((R.length:Nat):Int)=3:=by omega
 refine Aw_sq fun B12 hB12 hR12 hX12=>?_
 refine Aw_st hE [5,6,7,8,9,10,11] [70,78,83,84,85,700,710,711,712,713,714] fun K hK=>?_
 simp only [go_sem,seval]
 refine hK _ ?_;clear hK K
 refine Aw_bk fun B13 hN13 hE13 hR13 hX13=>?_
 refine Aw_lp (fun i:Nat × Nat × (Nat→Nat)=>⟨142,[(5,wsl R),(6,iv x),(7,wsl Ew),(8,iv a),(9,iv b),(10,.xs 700 0 i.1 (i.2.1 + i.1) 1),(11,iv (i.1:Int))],(700,vws 3 i.2.2 710 i.1++jN i.2.1)::bxs 3 i.2.2 (fun p=>R.getD p []) 710 i.1,k⟩) (fun i=>i.1≤3) (fun i=>3 - i.1) (0,0,fun _=>0) ?_ (by simp) fun i hi B14 hN14 hR14 hX14=>?_
 ·refine (Le_swb _ 70 700 (by decide) (by decide)).trans ?_
  simp only [St.swb,swbσ,swbm,AV.swb,AV.swbAll,swp,jN_swb,row_swb,Nat.reduceEqDiff,if_true,if_false,reduceIte]
  exact Le_wa
 obtain ⟨i,c,d⟩:=i
 simp only at hi
 refine Aw_sq fun B15 hB15 hR15 hX15=>?_
 rcases (show i=3∨i=0∨i=1∨i=2 by omega) with rfl | rfl | rfl | rfl
 ·refine Aw_st hE [5,6,7,8,9,10,11,74] [70,78,83,84,85,700,710,711,712,713,714] fun K hK=>?_
  simp only [go_sem,seval,hla]
  refine hK _ (Aw_no rfl (Aw_exit (hX15 _ _ (hX14 _ _ (hE13 _ (hB12 _ ?_))))))
  have fin:∀ q:Nat→List Int,(∀ p,p < 3→(q p).length=3)→q=upd (upd (fun p=>R.getD p []) (a - 1).toNat (b - 1).toNat 0) (b - 1).toNat (a - 1).toNat 0→Aw E (seqB (seqB (seqB (seqB (seqB (seqB (seqB (seqB (seqB (seqB (seqB (seqB (Tryd.f9.body.getD .skip))))))))))))) ⟨142,[(5,wsl R),(6,iv x),(7,wsl Ew),(10,.xs 700 0 3 (c + 3) 1)],(700,vws 3 d 710 3++jN c)::bxs 3 d q 710 3,k⟩ Q:=by
   intro q hq he
   have hq0:=hq 0 (by omega)
   have hq1:=hq 1 (by omega)
   have hq2:=hq 2 (by omega)
   refine Aw_frz hE rfl 710 3 (ls:=cI (q 0)++jN (d 0)) (ys:=iD (q 0)) rfl (ofAll_iD hq0) ?_
   simp only [go_sem,seval,↓frz_xs (d:=710) (cap:=d 0 + 3) hq0]
   refine Aw_frz hE rfl 711 3 (ls:=cI (q 1)++jN (d 1)) (ys:=iD (q 1)) rfl (ofAll_iD hq1) ?_
   simp only [go_sem,seval,↓frz_xs (d:=711) (cap:=d 1 + 3) hq1]
   refine Aw_frz hE rfl 712 3 (ls:=cI (q 2)++jN (d 2)) (ys:=iD (q 2)) rfl (ofAll_iD hq2) ?_
   simp only [go_sem,seval,↓frz_xs (d:=712) (cap:=d 2 + 3) hq2]
   refine Aw_frz hE rfl 700 3 (ls:=cWs [q 0,q 1,q 2]++jN c) (ys:=wD [q 0,q 1,q 2]) rfl (by rw [List.take_left' (by rfl)];exact ofAll_cWs _) ?_
   simp only [go_sem,seval,↓frz_xsW (d:=700) (n:=3) (cap:=c + 3) (L:=[q 0,q 1,q 2]) rfl]
   have hc:cutL R (a - 1).toNat (b - 1).toNat=[q 0,q 1,q 2]:=by rw [he];unfold cutL;rw [hn];rfl
   rw [hc] at hQ
   exact Aw.leE (LeE_of (show Le _ ⟨142,[(5,wsl R),(6,iv x),(7,wsl Ew),(10,wsl [q 0,q 1,q 2])],[],_⟩ from Le_wa)) hQ
  rcases (show a=1∨a=2∨a=3 by omega) with rfl | rfl | rfl
  ·have hs1:=fun v=>cI_set (R.getD 0 []) (d 0) (b - 1).toNat v (by omega)
   refine Aw_st hE [5,6,7,8,9,10] [70,78,83,84,85,700,710,711,712,713,714] fun K hK=>?_
   simp only [go_sem,seval,hs1]
   repeat refine sd0 ?_
   refine hK _ ?_;clear hK K
   rcases (show b=2∨b=3 by omega) with rfl | rfl
   ·have hs2:=fun v=>cI_set (R.getD 1 []) (d 1) 0 v (by omega)
    refine Aw_st hE [5,6,7,10] [70,78,83,84,85,700,710,711,712,713,714] fun K hK=>?_
    simp only [go_sem,seval,hs2]
    repeat refine sd0 ?_
    refine hK _ ?_
    refine Aw.leE (LeE_of ?_) (fin (upd (upd (fun p=>R.getD p []) 0 1 0) 1 0 0) (fun p hp=>?_) rfl)
    ·exact Le_wc (by simp only [go_sem,seval,upd]) (by simp only [go_sem,seval,upd])
    ·rcases (show p=0∨p=1∨p=2 by omega) with rfl | rfl | rfl
     all_goals (simp only [upd,Nat.reduceEqDiff,if_true,if_false,reduceIte,List.length_set];first | exact hl0 | exact hl1 | exact hl2)
   ·have hs2:=fun v=>cI_set (R.getD 2 []) (d 2) 0 v (by omega)
    refine Aw_st hE [5,6,7,10] [70,78,83,84,85,700,710,711,712,713,714] fun K hK=>?_
    simp only [go_sem,seval,hs2]
    repeat refine sd0 ?_
    refine hK _ ?_
    refine Aw.leE (LeE_of ?_) (fin (upd (upd (fun p=>R.getD p []) 0 2 0) 2 0 0) (fun p hp=>?_) rfl)
    ·exact Le_wc (by simp only [go_sem,seval,upd]) (by simp only [go_sem,seval,upd])
    ·rcases (show p=0∨p=1∨p=2 by omega) with rfl | rfl | rfl
     all_goals (simp only [upd,Nat.reduceEqDiff,if_true,if_false,reduceIte,List.length_set];first | exact hl0 | exact hl1 | exact hl2)
  ·have hs1:=fun v=>cI_set (R.getD 1 []) (d 1) (b - 1).toNat v (by omega)
   refine Aw_st hE [5,6,7,8,9,10] [70,78,83,84,85,700,710,711,712,713,714] fun K hK=>?_
   simp only [go_sem,seval,hs1]
   repeat refine sd0 ?_
   refine hK _ ?_;clear hK K
   rcases (show b=1∨b=3 by omega) with rfl | rfl
   ·have hs2:=fun v=>cI_set (R.getD 0 []) (d 0) 1 v (by omega)
    refine Aw_st hE [5,6,7,10] [70,78,83,84,85,700,710,711,712,713,714] fun K hK=>?_
    simp only [go_sem,seval,hs2]
    repeat refine sd0 ?_
    refine hK _ ?_
    refine Aw.leE (LeE_of ?_) (fin (upd (upd (fun p=>R.getD p []) 1 0 0) 0 1 0) (fun p hp=>?_) rfl)
    ·exact Le_wc (by simp only [go_sem,seval,upd]) (by simp only [go_sem,seval,upd])
    ·rcases (show p=0∨p=1∨p=2 by omega) with rfl | rfl | rfl
     all_goals (simp only [upd,Nat.reduceEqDiff,if_true,if_false,reduceIte,List.length_set];first | exact hl0 | exact hl1 | exact hl2)
   ·have hs2:=fun v=>cI_set (R.getD 2 []) (d 2) 1 v (by omega)
    refine Aw_st hE [5,6,7,10] [70,78,83,84,85,700,710,711,712,713,714] fun K hK=>?_
    simp only [go_sem,seval,hs2]
    repeat refine sd0 ?_
    refine hK _ ?_
    refine Aw.leE (LeE_of ?_) (fin (upd (upd (fun p=>R.getD p []) 1 2 0) 2 1 0) (fun p hp=>?_) rfl)
    ·exact Le_wc (by simp only [go_sem,seval,upd]) (by simp only [go_sem,seval,upd])
    ·rcases (show p=0∨p=1∨p=2 by omega) with rfl | rfl | rfl
     all_goals (simp only [upd,Nat.reduceEqDiff,if_true,if_false,reduceIte,List.length_set];first | exact hl0 | exact hl1 | exact hl2)
  ·have hs1:=fun v=>cI_set (R.getD 2 []) (d 2) (b - 1).toNat v (by omega)
   refine Aw_st hE [5,6,7,8,9,10] [70,78,83,84,85,700,710,711,712,713,714] fun K hK=>?_
   simp only [go_sem,seval,hs1]
   repeat refine sd0 ?_
   refine hK _ ?_;clear hK K
   rcases (show b=1∨b=2 by omega) with rfl | rfl
   ·have hs2:=fun v=>cI_set (R.getD 0 []) (d 0) 2 v (by omega)
    refine Aw_st hE [5,6,7,10] [70,78,83,84,85,700,710,711,712,713,714] fun K hK=>?_
    simp only [go_sem,seval,hs2]
    repeat refine sd0 ?_
    refine hK _ ?_
    refine Aw.leE (LeE_of ?_) (fin (upd (upd (fun p=>R.getD p []) 2 0 0) 0 2 0) (fun p hp=>?_) rfl)
    ·exact Le_wc (by simp only [go_sem,seval,upd]) (by simp only [go_sem,seval,upd])
    ·rcases (show p=0∨p=1∨p=2 by omega) with rfl | rfl | rfl
     all_goals (simp only [upd,Nat.reduceEqDiff,if_true,if_false,reduceIte,List.length_set];first | exact hl0 | exact hl1 | exact hl2)
   ·have hs2:=fun v=>cI_set (R.getD 1 []) (d 1) 2 v (by omega)
    refine Aw_st hE [5,6,7,10] [70,78,83,84,85,700,710,711,712,713,714] fun K hK=>?_
    simp only [go_sem,seval,hs2]
    repeat refine sd0 ?_
    refine hK _ ?_
    refine Aw.leE (LeE_of ?_) (fin (upd (upd (fun p=>R.getD p []) 2 1 0) 1 2 0) (fun p hp=>?_) rfl)
    ·exact Le_wc (by simp only [go_sem,seval,upd]) (by simp only [go_sem,seval,upd])
    ·rcases (show p=0∨p=1∨p=2 by omega) with rfl | rfl | rfl
     all_goals (simp only [upd,Nat.reduceEqDiff,if_true,if_false,reduceIte,List.length_set];first | exact hl0 | exact hl1 | exact hl2)
 ·refine Aw_st hE [5,6,7,8,9,10,11,74] [70,78,83,84,85,700,710,711,712,713,714] fun K hK=>?_
  simp only [go_sem,seval,hla]
  refine hK _ (Aw_yes rfl (Aw_skip (hB15 _ ?_)))
  refine Aw_sq fun B17 hB17 hR17 hX17=>?_
  refine Aw_bk fun B18 hN18 hE18 hR18 hX18=>?_
  refine Aw_tx hE [5,6,7,8,9,10,11] [70,78,83,84,85,700,710,711,712,713,714] fun K hK=>?_
  simp only [go_sem,seval,hg0,hl0,ht0,hf0,List.flatten_cons,List.flatten_nil,List.cons_append,List.nil_append]
  refine ⟨rows_row _,fun cap1 hcap1=>?_⟩
  obtain ⟨e1,rfl⟩:∃ e1,cap1=e1 + 3:=⟨cap1 - 3,by omega⟩
  simp only [Nat.add_sub_cancel]
  refine ⟨fun h=>?_,fun h cap' hcap'=>?_⟩
  ·obtain ⟨c1,rfl⟩:∃ c1,c=c1 + 1:=⟨c - 1,by omega⟩
   simp only [jN_s,List.set_cons_zero]
   refine hK _ (hN18 _ (hB17 _ ?_))
   refine Aw_tx hE [5,6,7,8,9,10,11] [70,78,83,84,85,700,710,711,712,713,714] fun K hK=>?_
   simp only [go_sem,seval]
   repeat refine sd0 ?_
   refine hK _ (hN14 (1,c1,put d 0 e1) _ (by omega) (by simp only;omega) ?_)
   refine (Le_swb _ 83 710 (by decide) (by decide)).trans ?_
   simp only [St.swb,swbσ,swbm,AV.swb,AV.swbAll,swp,jN_swb,row_swb,Nat.reduceEqDiff,if_true,if_false,reduceIte]
   exact Le_wc (by simp only [go_sem,seval,put,Nat.add_assoc]) (by simp only [go_sem,seval,put])
  ·obtain ⟨c1,rfl⟩:∃ c1,cap'=c1 + 1:=⟨cap' - 1,by omega⟩
   rw [Nat.add_sub_cancel]
   refine hK _ (hN18 _ (hB17 _ ?_))
   refine Aw_tx hE [5,6,7,8,9,10,11] [70,78,83,84,85,700,710,711,712,713,714] fun K hK=>?_
   simp only [go_sem,seval]
   repeat refine sd0 ?_
   refine hK _ (hN14 (1,c1,put d 0 e1) _ (by omega) (by simp only;omega) ?_)
   refine (Le_swb _ 83 710 (by decide) (by decide)).trans ?_
   simp only [St.swb,swbσ,swbm,AV.swb,AV.swbAll,swp,jN_swb,row_swb,Nat.reduceEqDiff,if_true,if_false,reduceIte]
   refine (Le_swb _ 85 700 (by decide) (by decide)).trans ?_
   simp only [St.swb,swbσ,swbm,AV.swb,AV.swbAll,swp,jN_swb,row_swb,Nat.reduceEqDiff,if_true,if_false,reduceIte]
   exact Le_wc (by simp only [go_sem,seval,put,Nat.add_assoc]) (by simp only [go_sem,seval,put])
 ·refine Aw_st hE [5,6,7,8,9,10,11,74] [70,78,83,84,85,700,710,711,712,713,714] fun K hK=>?_
  simp only [go_sem,seval,hla]
  refine hK _ (Aw_yes rfl (Aw_skip (hB15 _ ?_)))
  refine Aw_sq fun B17 hB17 hR17 hX17=>?_
  refine Aw_bk fun B18 hN18 hE18 hR18 hX18=>?_
  refine Aw_tx hE [5,6,7,8,9,10,11] [70,78,83,84,85,700,710,711,712,713,714] fun K hK=>?_
  simp only [go_sem,seval,hg1,hl1,ht1,hf1,List.flatten_cons,List.flatten_nil,List.cons_append,List.nil_append]
  refine ⟨rows_row _,fun cap1 hcap1=>?_⟩
  obtain ⟨e1,rfl⟩:∃ e1,cap1=e1 + 3:=⟨cap1 - 3,by omega⟩
  simp only [Nat.add_sub_cancel]
  refine ⟨fun h=>?_,fun h cap' hcap'=>?_⟩
  ·obtain ⟨c1,rfl⟩:∃ c1,c=c1 + 1:=⟨c - 1,by omega⟩
   simp only [jN_s,List.set_cons_zero]
   refine hK _ (hN18 _ (hB17 _ ?_))
   refine Aw_tx hE [5,6,7,8,9,10,11] [70,78,83,84,85,700,710,711,712,713,714] fun K hK=>?_
   simp only [go_sem,seval]
   repeat refine sd0 ?_
   refine hK _ (hN14 (2,c1,put d 1 e1) _ (by omega) (by simp only;omega) ?_)
   refine (Le_swb _ 83 711 (by decide) (by decide)).trans ?_
   simp only [St.swb,swbσ,swbm,AV.swb,AV.swbAll,swp,jN_swb,row_swb,Nat.reduceEqDiff,if_true,if_false,reduceIte]
   exact Le_wc (by simp only [go_sem,seval,put,Nat.add_assoc]) (by simp only [go_sem,seval,put])
  ·obtain ⟨c1,rfl⟩:∃ c1,cap'=c1 + 2:=⟨cap' - 2,by omega⟩
   rw [Nat.add_sub_cancel]
   refine hK _ (hN18 _ (hB17 _ ?_))
   refine Aw_tx hE [5,6,7,8,9,10,11] [70,78,83,84,85,700,710,711,712,713,714] fun K hK=>?_
   simp only [go_sem,seval]
   repeat refine sd0 ?_
   refine hK _ (hN14 (2,c1,put d 1 e1) _ (by omega) (by simp only;omega) ?_)
   refine (Le_swb _ 83 711 (by decide) (by decide)).trans ?_
   simp only [St.swb,swbσ,swbm,AV.swb,AV.swbAll,swp,jN_swb,row_swb,Nat.reduceEqDiff,if_true,if_false,reduceIte]
   refine (Le_swb _ 85 700 (by decide) (by decide)).trans ?_
   simp only [St.swb,swbσ,swbm,AV.swb,AV.swbAll,swp,jN_swb,row_swb,Nat.reduceEqDiff,if_true,if_false,reduceIte]
   exact Le_wc (by simp only [go_sem,seval,put,Nat.add_assoc]) (by simp only [go_sem,seval,put])
 ·refine Aw_st hE [5,6,7,8,9,10,11,74] [70,78,83,84,85,700,710,711,712,713,714] fun K hK=>?_
  simp only [go_sem,seval,hla]
  refine hK _ (Aw_yes rfl (Aw_skip (hB15 _ ?_)))
  refine Aw_sq fun B17 hB17 hR17 hX17=>?_
  refine Aw_bk fun B18 hN18 hE18 hR18 hX18=>?_
  refine Aw_tx hE [5,6,7,8,9,10,11] [70,78,83,84,85,700,710,711,712,713,714] fun K hK=>?_
  simp only [go_sem,seval,hg2,hl2,ht2,hf2,List.flatten_cons,List.flatten_nil,List.cons_append,List.nil_append]
  refine ⟨rows_row _,fun cap1 hcap1=>?_⟩
  obtain ⟨e1,rfl⟩:∃ e1,cap1=e1 + 3:=⟨cap1 - 3,by omega⟩
  simp only [Nat.add_sub_cancel]
  refine ⟨fun h=>?_,fun h cap' hcap'=>?_⟩
  ·obtain ⟨c1,rfl⟩:∃ c1,c=c1 + 1:=⟨c - 1,by omega⟩
   simp only [jN_s,List.set_cons_zero]
   refine hK _ (hN18 _ (hB17 _ ?_))
   refine Aw_tx hE [5,6,7,8,9,10,11] [70,78,83,84,85,700,710,711,712,713,714] fun K hK=>?_
   simp only [go_sem,seval]
   repeat refine sd0 ?_
   refine hK _ (hN14 (3,c1,put d 2 e1) _ (by omega) (by simp only;omega) ?_)
   refine (Le_swb _ 83 712 (by decide) (by decide)).trans ?_
   simp only [St.swb,swbσ,swbm,AV.swb,AV.swbAll,swp,jN_swb,row_swb,Nat.reduceEqDiff,if_true,if_false,reduceIte]
   exact Le_wc (by simp only [go_sem,seval,put,Nat.add_assoc]) (by simp only [go_sem,seval,put])
  ·obtain ⟨c1,rfl⟩:∃ c1,cap'=c1 + 3:=⟨cap' - 3,by omega⟩
   rw [Nat.add_sub_cancel]
   refine hK _ (hN18 _ (hB17 _ ?_))
   refine Aw_tx hE [5,6,7,8,9,10,11] [70,78,83,84,85,700,710,711,712,713,714] fun K hK=>?_
   simp only [go_sem,seval]
   repeat refine sd0 ?_
   refine hK _ (hN14 (3,c1,put d 2 e1) _ (by omega) (by simp only;omega) ?_)
   refine (Le_swb _ 83 712 (by decide) (by decide)).trans ?_
   simp only [St.swb,swbσ,swbm,AV.swb,AV.swbAll,swp,jN_swb,row_swb,Nat.reduceEqDiff,if_true,if_false,reduceIte]
   refine (Le_swb _ 85 700 (by decide) (by decide)).trans ?_
   simp only [St.swb,swbσ,swbm,AV.swb,AV.swbAll,swp,jN_swb,row_swb,Nat.reduceEqDiff,if_true,if_false,reduceIte]
   exact Le_wc (by simp only [go_sem,seval,put,Nat.add_assoc]) (by simp only [go_sem,seval,put])
set_option maxHeartbeats 16000000 in
theorem cutA4 {E:En} {pb:Addr} (hE:TbOk E (tbCut pb)) {k:Nat} {Q:Exit→St→Prop} {R Ew:List (List Int)} {x a b:Int} (hn:R.length=4) (hsq:∀ p,p < 4→(R.getD p []).length=4) (ha1:1≤a) (ha2:a≤4) (hb1:1≤b) (hb2:b≤4) (hab:a≠b) (hQ:Aw E (seqB (seqB (seqB (seqB (seqB (seqB (seqB (seqB (seqB (seqB (seqB (seqB (Tryd.f9.body.getD .skip))))))))))))) ⟨142,[(5,wsl R),(6,iv x),(7,wsl Ew),(10,wsl (cutL R (a - 1).toNat (b - 1).toNat))],[],k⟩ Q):Aw E (seqB (seqB (seqB (seqB (seqB (seqB (seqB (seqB (seqB (Tryd.f9.body.getD .skip)))))))))) ⟨142,[(5,wsl R),(6,iv x),(7,wsl Ew),(8,iv a),(9,iv b),(10,.xs 70 0 0 0 1)],[(70,[])],k⟩ Q:=by
 have hl0:=hsq 0 (by omega)
 have hg0:=wrows_get R 0 (by omega)
 have ht0:(cI (R.getD 0 [])).take 4=cI (R.getD 0 []):=List.take_of_length_le (by rw [cI_len,hl0];exact Nat.le_refl _)
 have hf0:=allLeaf_cI (R.getD 0 [])
 have hl1:=hsq 1 (by omega)
 have hg1:=wrows_get R 1 (by omega)
 have ht1:(cI (R.getD 1 [])).take 4=cI (R.getD 1 []):=List.take_of_length_le (by rw [cI_len,hl1];exact Nat.le_refl _)
 have hf1:=allLeaf_cI (R.getD 1 [])
 have hl2:=hsq 2 (by omega)
 have hg2:=wrows_get R 2 (by omega)
 have ht2:(cI (R.getD 2 [])).take 4=cI (R.getD 2 []):=List.take_of_length_le (by rw [cI_len,hl2];exact Nat.le_refl _)
 have hf2:=allLeaf_cI (R.getD 2 [])
 have hl3:=hsq 3 (by omega)
 have hg3:=wrows_get R 3 (by omega)
 have ht3:(cI (R.getD 3 [])).take 4=cI (R.getD 3 []):=List.take_of_length_le (by rw [cI_len,hl3];exact Nat.le_refl _)
 have hf3:=allLeaf_cI (R.getD 3 [])
 have hla:((R.length:Nat):Int)=4:=by omega
 refine Aw_sq fun B12 hB12 hR12 hX12=>?_
 refine Aw_st hE [5,6,7,8,9,10,11] [70,78,83,84,85,700,710,711,712,713,714] fun K hK=>?_
 simp only [go_sem,seval]
 refine hK _ ?_;clear hK K
 refine Aw_bk fun B13 hN13 hE13 hR13 hX13=>?_
 refine Aw_lp (fun i:Nat × Nat × (Nat→Nat)=>⟨142,[(5,wsl R),(6,iv x),(7,wsl Ew),(8,iv a),(9,iv b),(10,.xs 700 0 i.1 (i.2.1 + i.1) 1),(11,iv (i.1:Int))],(700,vws 4 i.2.2 710 i.1++jN i.2.1)::bxs 4 i.2.2 (fun p=>R.getD p []) 710 i.1,k⟩) (fun i=>i.1≤4) (fun i=>4 - i.1) (0,0,fun _=>0) ?_ (by simp) fun i hi B14 hN14 hR14 hX14=>?_
 ·refine (Le_swb _ 70 700 (by decide) (by decide)).trans ?_
  simp only [St.swb,swbσ,swbm,AV.swb,AV.swbAll,swp,jN_swb,row_swb,Nat.reduceEqDiff,if_true,if_false,reduceIte]
  exact Le_wa
 obtain ⟨i,c,d⟩:=i
 simp only at hi
 refine Aw_sq fun B15 hB15 hR15 hX15=>?_
 rcases (show i=4∨i=0∨i=1∨i=2∨i=3 by omega) with rfl | rfl | rfl | rfl | rfl
 ·refine Aw_st hE [5,6,7,8,9,10,11,74] [70,78,83,84,85,700,710,711,712,713,714] fun K hK=>?_
  simp only [go_sem,seval,hla]
  refine hK _ (Aw_no rfl (Aw_exit (hX15 _ _ (hX14 _ _ (hE13 _ (hB12 _ ?_))))))
  have fin:∀ q:Nat→List Int,(∀ p,p < 4→(q p).length=4)→q=upd (upd (fun p=>R.getD p []) (a - 1).toNat (b - 1).toNat 0) (b - 1).toNat (a - 1).toNat 0→Aw E (seqB (seqB (seqB (seqB (seqB (seqB (seqB (seqB (seqB (seqB (seqB (seqB (Tryd.f9.body.getD .skip))))))))))))) ⟨142,[(5,wsl R),(6,iv x),(7,wsl Ew),(10,.xs 700 0 4 (c + 4) 1)],(700,vws 4 d 710 4++jN c)::bxs 4 d q 710 4,k⟩ Q:=by
   intro q hq he
   have hq0:=hq 0 (by omega)
   have hq1:=hq 1 (by omega)
   have hq2:=hq 2 (by omega)
   have hq3:=hq 3 (by omega)
   refine Aw_frz hE rfl 710 4 (ls:=cI (q 0)++jN (d 0)) (ys:=iD (q 0)) rfl (ofAll_iD hq0) ?_
   simp only [go_sem,seval,↓frz_xs (d:=710) (cap:=d 0 + 4) hq0]
   refine Aw_frz hE rfl 711 4 (ls:=cI (q 1)++jN (d 1)) (ys:=iD (q 1)) rfl (ofAll_iD hq1) ?_
   simp only [go_sem,seval,↓frz_xs (d:=711) (cap:=d 1 + 4) hq1]
   refine Aw_frz hE rfl 712 4 (ls:=cI (q 2)++jN (d 2)) (ys:=iD (q 2)) rfl (ofAll_iD hq2) ?_
   simp only [go_sem,seval,↓frz_xs (d:=712) (cap:=d 2 + 4) hq2]
   refine Aw_frz hE rfl 713 4 (ls:=cI (q 3)++jN (d 3)) (ys:=iD (q 3)) rfl (ofAll_iD hq3) ?_
   simp only [go_sem,seval,↓frz_xs (d:=713) (cap:=d 3 + 4) hq3]
   refine Aw_frz hE rfl 700 4 (ls:=cWs [q 0,q 1,q 2,q 3]++jN c) (ys:=wD [q 0,q 1,q 2,q 3]) rfl (by rw [List.take_left' (by rfl)];exact ofAll_cWs _) ?_
   simp only [go_sem,seval,↓frz_xsW (d:=700) (n:=4) (cap:=c + 4) (L:=[q 0,q 1,q 2,q 3]) rfl]
   have hc:cutL R (a - 1).toNat (b - 1).toNat=[q 0,q 1,q 2,q 3]:=by rw [he];unfold cutL;rw [hn];rfl
   rw [hc] at hQ
   exact Aw.leE (LeE_of (show Le _ ⟨142,[(5,wsl R),(6,iv x),(7,wsl Ew),(10,wsl [q 0,q 1,q 2,q 3])],[],_⟩ from Le_wa)) hQ
  rcases (show a=1∨a=2∨a=3∨a=4 by omega) with rfl | rfl | rfl | rfl
  ·have hs1:=fun v=>cI_set (R.getD 0 []) (d 0) (b - 1).toNat v (by omega)
   refine Aw_st hE [5,6,7,8,9,10] [70,78,83,84,85,700,710,711,712,713,714] fun K hK=>?_
   simp only [go_sem,seval,hs1]
   repeat refine sd0 ?_
   refine hK _ ?_;clear hK K
   rcases (show b=2∨b=3∨b=4 by omega) with rfl | rfl | rfl
   ·have hs2:=fun v=>cI_set (R.getD 1 []) (d 1) 0 v (by omega)
    refine Aw_st hE [5,6,7,10] [70,78,83,84,85,700,710,711,712,713,714] fun K hK=>?_
    simp only [go_sem,seval,hs2]
    repeat refine sd0 ?_
    refine hK _ ?_
    refine Aw.leE (LeE_of ?_) (fin (upd (upd (fun p=>R.getD p []) 0 1 0) 1 0 0) (fun p hp=>?_) rfl)
    ·exact Le_wc (by simp only [go_sem,seval,upd]) (by simp only [go_sem,seval,upd])
    ·rcases (show p=0∨p=1∨p=2∨p=3 by omega) with rfl | rfl | rfl | rfl
     all_goals (simp only [upd,Nat.reduceEqDiff,if_true,if_false,reduceIte,List.length_set];first | exact hl0 | exact hl1 | exact hl2 | exact hl3)
   ·have hs2:=fun v=>cI_set (R.getD 2 []) (d 2) 0 v (by omega)
    refine Aw_st hE [5,6,7,10] [70,78,83,84,85,700,710,711,712,713,714] fun K hK=>?_
    simp only [go_sem,seval,hs2]
    repeat refine sd0 ?_
    refine hK _ ?_
    refine Aw.leE (LeE_of ?_) (fin (upd (upd (fun p=>R.getD p []) 0 2 0) 2 0 0) (fun p hp=>?_) rfl)
    ·exact Le_wc (by simp only [go_sem,seval,upd]) (by simp only [go_sem,seval,upd])
    ·rcases (show p=0∨p=1∨p=2∨p=3 by omega) with rfl | rfl | rfl | rfl
     all_goals (simp only [upd,Nat.reduceEqDiff,if_true,if_false,reduceIte,List.length_set];first | exact hl0 | exact hl1 | exact hl2 | exact hl3)
   ·have hs2:=fun v=>cI_set (R.getD 3 []) (d 3) 0 v (by omega)
    refine Aw_st hE [5,6,7,10] [70,78,83,84,85,700,710,711,712,713,714] fun K hK=>?_
    simp only [go_sem,seval,hs2]
    repeat refine sd0 ?_
    refine hK _ ?_
    refine Aw.leE (LeE_of ?_) (fin (upd (upd (fun p=>R.getD p []) 0 3 0) 3 0 0) (fun p hp=>?_) rfl)
    ·exact Le_wc (by simp only [go_sem,seval,upd]) (by simp only [go_sem,seval,upd])
    ·rcases (show p=0∨p=1∨p=2∨p=3 by omega) with rfl | rfl | rfl | rfl
     all_goals (simp only [upd,Nat.reduceEqDiff,if_true,if_false,reduceIte,List.length_set];first | exact hl0 | exact hl1 | exact hl2 | exact hl3)
  ·have hs1:=fun v=>cI_set (R.getD 1 []) (d 1) (b - 1).toNat v (by omega)
   refine Aw_st hE [5,6,7,8,9,10] [70,78,83,84,85,700,710,711,712,713,714] fun K hK=>?_
   simp only [go_sem,seval,hs1]
   repeat refine sd0 ?_
   refine hK _ ?_;clear hK K
   rcases (show b=1∨b=3∨b=4 by omega) with rfl | rfl | rfl
   ·have hs2:=fun v=>cI_set (R.getD 0 []) (d 0) 1 v (by omega)
    refine Aw_st hE [5,6,7,10] [70,78,83,84,85,700,710,711,712,713,714] fun K hK=>?_
    simp only [go_sem,seval,hs2]
    repeat refine sd0 ?_
    refine hK _ ?_
    refine Aw.leE (LeE_of ?_) (fin (upd (upd (fun p=>R.getD p []) 1 0 0) 0 1 0) (fun p hp=>?_) rfl)
    ·exact Le_wc (by simp only [go_sem,seval,upd]) (by simp only [go_sem,seval,upd])
    ·rcases (show p=0∨p=1∨p=2∨p=3 by omega) with rfl | rfl | rfl | rfl
     all_goals (simp only [upd,Nat.reduceEqDiff,if_true,if_false,reduceIte,List.length_set];first | exact hl0 | exact hl1 | exact hl2 | exact hl3)
   ·have hs2:=fun v=>cI_set (R.getD 2 []) (d 2) 1 v (by omega)
    refine Aw_st hE [5,6,7,10] [70,78,83,84,85,700,710,711,712,713,714] fun K hK=>?_
    simp only [go_sem,seval,hs2]
    repeat refine sd0 ?_
    refine hK _ ?_
    refine Aw.leE (LeE_of ?_) (fin (upd (upd (fun p=>R.getD p []) 1 2 0) 2 1 0) (fun p hp=>?_) rfl)
    ·exact Le_wc (by simp only [go_sem,seval,upd]) (by simp only [go_sem,seval,upd])
    ·rcases (show p=0∨p=1∨p=2∨p=3 by omega) with rfl | rfl | rfl | rfl
     all_goals (simp only [upd,Nat.reduceEqDiff,if_true,if_false,reduceIte,List.length_set];first | exact hl0 | exact hl1 | exact hl2 | exact hl3)
   ·have hs2:=fun v=>cI_set (R.getD 3 []) (d 3) 1 v (by omega)
    refine Aw_st hE [5,6,7,10] [70,78,83,84,85,700,710,711,712,713,714] fun K hK=>?_
    simp only [go_sem,seval,hs2]
    repeat refine sd0 ?_
    refine hK _ ?_
    refine Aw.leE (LeE_of ?_) (fin (upd (upd (fun p=>R.getD p []) 1 3 0) 3 1 0) (fun p hp=>?_) rfl)
    ·exact Le_wc (by simp only [go_sem,seval,upd]) (by simp only [go_sem,seval,upd])
    ·rcases (show p=0∨p=1∨p=2∨p=3 by omega) with rfl | rfl | rfl | rfl
     all_goals (simp only [upd,Nat.reduceEqDiff,if_true,if_false,reduceIte,List.length_set];first | exact hl0 | exact hl1 | exact hl2 | exact hl3)
  ·have hs1:=fun v=>cI_set (R.getD 2 []) (d 2) (b - 1).toNat v (by omega)
   refine Aw_st hE [5,6,7,8,9,10] [70,78,83,84,85,700,710,711,712,713,714] fun K hK=>?_
   simp only [go_sem,seval,hs1]
   repeat refine sd0 ?_
   refine hK _ ?_;clear hK K
   rcases (show b=1∨b=2∨b=4 by omega) with rfl | rfl | rfl
   ·have hs2:=fun v=>cI_set (R.getD 0 []) (d 0) 2 v (by omega)
    refine Aw_st hE [5,6,7,10] [70,78,83,84,85,700,710,711,712,713,714] fun K hK=>?_
    simp only [go_sem,seval,hs2]
    repeat refine sd0 ?_
    refine hK _ ?_
    refine Aw.leE (LeE_of ?_) (fin (upd (upd (fun p=>R.getD p []) 2 0 0) 0 2 0) (fun p hp=>?_) rfl)
    ·exact Le_wc (by simp only [go_sem,seval,upd]) (by simp only [go_sem,seval,upd])
    ·rcases (show p=0∨p=1∨p=2∨p=3 by omega) with rfl | rfl | rfl | rfl
     all_goals (simp only [upd,Nat.reduceEqDiff,if_true,if_false,reduceIte,List.length_set];first | exact hl0 | exact hl1 | exact hl2 | exact hl3)
   ·have hs2:=fun v=>cI_set (R.getD 1 []) (d 1) 2 v (by omega)
    refine Aw_st hE [5,6,7,10] [70,78,83,84,85,700,710,711,712,713,714] fun K hK=>?_
    simp only [go_sem,seval,hs2]
    repeat refine sd0 ?_
    refine hK _ ?_
    refine Aw.leE (LeE_of ?_) (fin (upd (upd (fun p=>R.getD p []) 2 1 0) 1 2 0) (fun p hp=>?_) rfl)
    ·exact Le_wc (by simp only [go_sem,seval,upd]) (by simp only [go_sem,seval,upd])
    ·rcases (show p=0∨p=1∨p=2∨p=3 by omega) with rfl | rfl | rfl | rfl
     all_goals (simp only [upd,Nat.reduceEqDiff,if_true,if_false,reduceIte,List.length_set];first | exact hl0 | exact hl1 | exact hl2 | exact hl3)
   ·have hs2:=fun v=>cI_set (R.getD 3 []) (d 3) 2 v (by omega)
    refine Aw_st hE [5,6,7,10] [70,78,83,84,85,700,710,711,712,713,714] fun K hK=>?_
    simp only [go_sem,seval,hs2]
    repeat refine sd0 ?_
    refine hK _ ?_
    refine Aw.leE (LeE_of ?_) (fin (upd (upd (fun p=>R.getD p []) 2 3 0) 3 2 0) (fun p hp=>?_) rfl)
    ·exact Le_wc (by simp only [go_sem,seval,upd]) (by simp only [go_sem,seval,upd])
    ·rcases (show p=0∨p=1∨p=2∨p=3 by omega) with rfl | rfl | rfl | rfl
     all_goals (simp only [upd,Nat.reduceEqDiff,if_true,if_false,reduceIte,List.length_set];first | exact hl0 | exact hl1 | exact hl2 | exact hl3)
  ·have hs1:=fun v=>cI_set (R.getD 3 []) (d 3) (b - 1).toNat v (by omega)
   refine Aw_st hE [5,6,7,8,9,10] [70,78,83,84,85,700,710,711,712,713,714] fun K hK=>?_
   simp only [go_sem,seval,hs1]
   repeat refine sd0 ?_
   refine hK _ ?_;clear hK K
   rcases (show b=1∨b=2∨b=3 by omega) with rfl | rfl | rfl
   ·have hs2:=fun v=>cI_set (R.getD 0 []) (d 0) 3 v (by omega)
    refine Aw_st hE [5,6,7,10] [70,78,83,84,85,700,710,711,712,713,714] fun K hK=>?_
    simp only [go_sem,seval,hs2]
    repeat refine sd0 ?_
    refine hK _ ?_
    refine Aw.leE (LeE_of ?_) (fin (upd (upd (fun p=>R.getD p []) 3 0 0) 0 3 0) (fun p hp=>?_) rfl)
    ·exact Le_wc (by simp only [go_sem,seval,upd]) (by simp only [go_sem,seval,upd])
    ·rcases (show p=0∨p=1∨p=2∨p=3 by omega) with rfl | rfl | rfl | rfl
     all_goals (simp only [upd,Nat.reduceEqDiff,if_true,if_false,reduceIte,List.length_set];first | exact hl0 | exact hl1 | exact hl2 | exact hl3)
   ·have hs2:=fun v=>cI_set (R.getD 1 []) (d 1) 3 v (by omega)
    refine Aw_st hE [5,6,7,10] [70,78,83,84,85,700,710,711,712,713,714] fun K hK=>?_
    simp only [go_sem,seval,hs2]
    repeat refine sd0 ?_
    refine hK _ ?_
    refine Aw.leE (LeE_of ?_) (fin (upd (upd (fun p=>R.getD p []) 3 1 0) 1 3 0) (fun p hp=>?_) rfl)
    ·exact Le_wc (by simp only [go_sem,seval,upd]) (by simp only [go_sem,seval,upd])
    ·rcases (show p=0∨p=1∨p=2∨p=3 by omega) with rfl | rfl | rfl | rfl
     all_goals (simp only [upd,Nat.reduceEqDiff,if_true,if_false,reduceIte,List.length_set];first | exact hl0 | exact hl1 | exact hl2 | exact hl3)
   ·have hs2:=fun v=>cI_set (R.getD 2 []) (d 2) 3 v (by omega)
    refine Aw_st hE [5,6,7,10] [70,78,83,84,85,700,710,711,712,713,714] fun K hK=>?_
    simp only [go_sem,seval,hs2]
    repeat refine sd0 ?_
    refine hK _ ?_
    refine Aw.leE (LeE_of ?_) (fin (upd (upd (fun p=>R.getD p []) 3 2 0) 2 3 0) (fun p hp=>?_) rfl)
    ·exact Le_wc (by simp only [go_sem,seval,upd]) (by simp only [go_sem,seval,upd])
    ·rcases (show p=0∨p=1∨p=2∨p=3 by omega) with rfl | rfl | rfl | rfl
     all_goals (simp only [upd,Nat.reduceEqDiff,if_true,if_false,reduceIte,List.length_set];first | exact hl0 | exact hl1 | exact hl2 | exact hl3)
 ·refine Aw_st hE [5,6,7,8,9,10,11,74] [70,78,83,84,85,700,710,711,712,713,714] fun K hK=>?_
  simp only [go_sem,seval,hla]
  refine hK _ (Aw_yes rfl (Aw_skip (hB15 _ ?_)))
  refine Aw_sq fun B17 hB17 hR17 hX17=>?_
  refine Aw_bk fun B18 hN18 hE18 hR18 hX18=>?_
  refine Aw_tx hE [5,6,7,8,9,10,11] [70,78,83,84,85,700,710,711,712,713,714] fun K hK=>?_
  simp only [go_sem,seval,hg0,hl0,ht0,hf0,List.flatten_cons,List.flatten_nil,List.cons_append,List.nil_append]
  refine ⟨rows_row _,fun cap1 hcap1=>?_⟩
  obtain ⟨e1,rfl⟩:∃ e1,cap1=e1 + 4:=⟨cap1 - 4,by omega⟩
  simp only [Nat.add_sub_cancel]
  refine ⟨fun h=>?_,fun h cap' hcap'=>?_⟩
  ·obtain ⟨c1,rfl⟩:∃ c1,c=c1 + 1:=⟨c - 1,by omega⟩
   simp only [jN_s,List.set_cons_zero]
   refine hK _ (hN18 _ (hB17 _ ?_))
   refine Aw_tx hE [5,6,7,8,9,10,11] [70,78,83,84,85,700,710,711,712,713,714] fun K hK=>?_
   simp only [go_sem,seval]
   repeat refine sd0 ?_
   refine hK _ (hN14 (1,c1,put d 0 e1) _ (by omega) (by simp only;omega) ?_)
   refine (Le_swb _ 83 710 (by decide) (by decide)).trans ?_
   simp only [St.swb,swbσ,swbm,AV.swb,AV.swbAll,swp,jN_swb,row_swb,Nat.reduceEqDiff,if_true,if_false,reduceIte]
   exact Le_wc (by simp only [go_sem,seval,put,Nat.add_assoc]) (by simp only [go_sem,seval,put])
  ·obtain ⟨c1,rfl⟩:∃ c1,cap'=c1 + 1:=⟨cap' - 1,by omega⟩
   rw [Nat.add_sub_cancel]
   refine hK _ (hN18 _ (hB17 _ ?_))
   refine Aw_tx hE [5,6,7,8,9,10,11] [70,78,83,84,85,700,710,711,712,713,714] fun K hK=>?_
   simp only [go_sem,seval]
   repeat refine sd0 ?_
   refine hK _ (hN14 (1,c1,put d 0 e1) _ (by omega) (by simp only;omega) ?_)
   refine (Le_swb _ 83 710 (by decide) (by decide)).trans ?_
   simp only [St.swb,swbσ,swbm,AV.swb,AV.swbAll,swp,jN_swb,row_swb,Nat.reduceEqDiff,if_true,if_false,reduceIte]
   refine (Le_swb _ 85 700 (by decide) (by decide)).trans ?_
   simp only [St.swb,swbσ,swbm,AV.swb,AV.swbAll,swp,jN_swb,row_swb,Nat.reduceEqDiff,if_true,if_false,reduceIte]
   exact Le_wc (by simp only [go_sem,seval,put,Nat.add_assoc]) (by simp only [go_sem,seval,put])
 ·refine Aw_st hE [5,6,7,8,9,10,11,74] [70,78,83,84,85,700,710,711,712,713,714] fun K hK=>?_
  simp only [go_sem,seval,hla]
  refine hK _ (Aw_yes rfl (Aw_skip (hB15 _ ?_)))
  refine Aw_sq fun B17 hB17 hR17 hX17=>?_
  refine Aw_bk fun B18 hN18 hE18 hR18 hX18=>?_
  refine Aw_tx hE [5,6,7,8,9,10,11] [70,78,83,84,85,700,710,711,712,713,714] fun K hK=>?_
  simp only [go_sem,seval,hg1,hl1,ht1,hf1,List.flatten_cons,List.flatten_nil,List.cons_append,List.nil_append]
  refine ⟨rows_row _,fun cap1 hcap1=>?_⟩
  obtain ⟨e1,rfl⟩:∃ e1,cap1=e1 + 4:=⟨cap1 - 4,by omega⟩
  simp only [Nat.add_sub_cancel]
  refine ⟨fun h=>?_,fun h cap' hcap'=>?_⟩
  ·obtain ⟨c1,rfl⟩:∃ c1,c=c1 + 1:=⟨c - 1,by omega⟩
   simp only [jN_s,List.set_cons_zero]
   refine hK _ (hN18 _ (hB17 _ ?_))
   refine Aw_tx hE [5,6,7,8,9,10,11] [70,78,83,84,85,700,710,711,712,713,714] fun K hK=>?_
   simp only [go_sem,seval]
   repeat refine sd0 ?_
   refine hK _ (hN14 (2,c1,put d 1 e1) _ (by omega) (by simp only;omega) ?_)
   refine (Le_swb _ 83 711 (by decide) (by decide)).trans ?_
   simp only [St.swb,swbσ,swbm,AV.swb,AV.swbAll,swp,jN_swb,row_swb,Nat.reduceEqDiff,if_true,if_false,reduceIte]
   exact Le_wc (by simp only [go_sem,seval,put,Nat.add_assoc]) (by simp only [go_sem,seval,put])
  ·obtain ⟨c1,rfl⟩:∃ c1,cap'=c1 + 2:=⟨cap' - 2,by omega⟩
   rw [Nat.add_sub_cancel]
   refine hK _ (hN18 _ (hB17 _ ?_))
   refine Aw_tx hE [5,6,7,8,9,10,11] [70,78,83,84,85,700,710,711,712,713,714] fun K hK=>?_
   simp only [go_sem,seval]
   repeat refine sd0 ?_
   refine hK _ (hN14 (2,c1,put d 1 e1) _ (by omega) (by simp only;omega) ?_)
   refine (Le_swb _ 83 711 (by decide) (by decide)).trans ?_
   simp only [St.swb,swbσ,swbm,AV.swb,AV.swbAll,swp,jN_swb,row_swb,Nat.reduceEqDiff,if_true,if_false,reduceIte]
   refine (Le_swb _ 85 700 (by decide) (by decide)).trans ?_
   simp only [St.swb,swbσ,swbm,AV.swb,AV.swbAll,swp,jN_swb,row_swb,Nat.reduceEqDiff,if_true,if_false,reduceIte]
   exact Le_wc (by simp only [go_sem,seval,put,Nat.add_assoc]) (by simp only [go_sem,seval,put])
 ·refine Aw_st hE [5,6,7,8,9,10,11,74] [70,78,83,84,85,700,710,711,712,713,714] fun K hK=>?_
  simp only [go_sem,seval,hla]
  refine hK _ (Aw_yes rfl (Aw_skip (hB15 _ ?_)))
  refine Aw_sq fun B17 hB17 hR17 hX17=>?_
  refine Aw_bk fun B18 hN18 hE18 hR18 hX18=>?_
  refine Aw_tx hE [5,6,7,8,9,10,11] [70,78,83,84,85,700,710,711,712,713,714] fun K hK=>?_
  simp only [go_sem,seval,hg2,hl2,ht2,hf2,List.flatten_cons,List.flatten_nil,List.cons_append,List.nil_append]
  refine ⟨rows_row _,fun cap1 hcap1=>?_⟩
  obtain ⟨e1,rfl⟩:∃ e1,cap1=e1 + 4:=⟨cap1 - 4,by omega⟩
  simp only [Nat.add_sub_cancel]
  refine ⟨fun h=>?_,fun h cap' hcap'=>?_⟩
  ·obtain ⟨c1,rfl⟩:∃ c1,c=c1 + 1:=⟨c - 1,by omega⟩
   simp only [jN_s,List.set_cons_zero]
   refine hK _ (hN18 _ (hB17 _ ?_))
   refine Aw_tx hE [5,6,7,8,9,10,11] [70,78,83,84,85,700,710,711,712,713,714] fun K hK=>?_
   simp only [go_sem,seval]
   repeat refine sd0 ?_
   refine hK _ (hN14 (3,c1,put d 2 e1) _ (by omega) (by simp only;omega) ?_)
   refine (Le_swb _ 83 712 (by decide) (by decide)).trans ?_
   simp only [St.swb,swbσ,swbm,AV.swb,AV.swbAll,swp,jN_swb,row_swb,Nat.reduceEqDiff,if_true,if_false,reduceIte]
   exact Le_wc (by simp only [go_sem,seval,put,Nat.add_assoc]) (by simp only [go_sem,seval,put])
  ·obtain ⟨c1,rfl⟩:∃ c1,cap'=c1 + 3:=⟨cap' - 3,by omega⟩
   rw [Nat.add_sub_cancel]
   refine hK _ (hN18 _ (hB17 _ ?_))
   refine Aw_tx hE [5,6,7,8,9,10,11] [70,78,83,84,85,700,710,711,712,713,714] fun K hK=>?_
   simp only [go_sem,seval]
   repeat refine sd0 ?_
   refine hK _ (hN14 (3,c1,put d 2 e1) _ (by omega) (by simp only;omega) ?_)
   refine (Le_swb _ 83 712 (by decide) (by decide)).trans ?_
   simp only [St.swb,swbσ,swbm,AV.swb,AV.swbAll,swp,jN_swb,row_swb,Nat.reduceEqDiff,if_true,if_false,reduceIte]
   refine (Le_swb _ 85 700 (by decide) (by decide)).trans ?_
   simp only [St.swb,swbσ,swbm,AV.swb,AV.swbAll,swp,jN_swb,row_swb,Nat.reduceEqDiff,if_true,if_false,reduceIte]
   exact Le_wc (by simp only [go_sem,seval,put,Nat.add_assoc]) (by simp only [go_sem,seval,put])
 ·refine Aw_st hE [5,6,7,8,9,10,11,74] [70,78,83,84,85,700,710,711,712,713,714] fun K hK=>?_
  simp only [go_sem,seval,hla]
  refine hK _ (Aw_yes rfl (Aw_skip (hB15 _ ?_)))
  refine Aw_sq fun B17 hB17 hR17 hX17=>?_
  refine Aw_bk fun B18 hN18 hE18 hR18 hX18=>?_
  refine Aw_tx hE [5,6,7,8,9,10,11] [70,78,83,84,85,700,710,711,712,713,714] fun K hK=>?_
  simp only [go_sem,seval,hg3,hl3,ht3,hf3,List.flatten_cons,List.flatten_nil,List.cons_append,List.nil_append]
  refine ⟨rows_row _,fun cap1 hcap1=>?_⟩
  obtain ⟨e1,rfl⟩:∃ e1,cap1=e1 + 4:=⟨cap1 - 4,by omega⟩
  simp only [Nat.add_sub_cancel]
  refine ⟨fun h=>?_,fun h cap' hcap'=>?_⟩
  ·obtain ⟨c1,rfl⟩:∃ c1,c=c1 + 1:=⟨c - 1,by omega⟩
   simp only [jN_s,List.set_cons_zero]
   refine hK _ (hN18 _ (hB17 _ ?_))
   refine Aw_tx hE [5,6,7,8,9,10,11] [70,78,83,84,85,700,710,711,712,713,714] fun K hK=>?_
   simp only [go_sem,seval]
   repeat refine sd0 ?_
   refine hK _ (hN14 (4,c1,put d 3 e1) _ (by omega) (by simp only;omega) ?_)
   refine (Le_swb _ 83 713 (by decide) (by decide)).trans ?_
   simp only [St.swb,swbσ,swbm,AV.swb,AV.swbAll,swp,jN_swb,row_swb,Nat.reduceEqDiff,if_true,if_false,reduceIte]
   exact Le_wc (by simp only [go_sem,seval,put,Nat.add_assoc]) (by simp only [go_sem,seval,put])
  ·obtain ⟨c1,rfl⟩:∃ c1,cap'=c1 + 4:=⟨cap' - 4,by omega⟩
   rw [Nat.add_sub_cancel]
   refine hK _ (hN18 _ (hB17 _ ?_))
   refine Aw_tx hE [5,6,7,8,9,10,11] [70,78,83,84,85,700,710,711,712,713,714] fun K hK=>?_
   simp only [go_sem,seval]
   repeat refine sd0 ?_
   refine hK _ (hN14 (4,c1,put d 3 e1) _ (by omega) (by simp only;omega) ?_)
   refine (Le_swb _ 83 713 (by decide) (by decide)).trans ?_
   simp only [St.swb,swbσ,swbm,AV.swb,AV.swbAll,swp,jN_swb,row_swb,Nat.reduceEqDiff,if_true,if_false,reduceIte]
   refine (Le_swb _ 85 700 (by decide) (by decide)).trans ?_
   simp only [St.swb,swbσ,swbm,AV.swb,AV.swbAll,swp,jN_swb,row_swb,Nat.reduceEqDiff,if_true,if_false,reduceIte]
   exact Le_wc (by simp only [go_sem,seval,put,Nat.add_assoc]) (by simp only [go_sem,seval,put])
set_option maxHeartbeats 16000000 in
theorem cutA5 {E:En} {pb:Addr} (hE:TbOk E (tbCut pb)) {k:Nat} {Q:Exit→St→Prop} {R Ew:List (List Int)} {x a b:Int} (hn:R.length=5) (hsq:∀ p,p < 5→(R.getD p []).length=5) (ha1:1≤a) (ha2:a≤5) (hb1:1≤b) (hb2:b≤5) (hab:a≠b) (hQ:Aw E (seqB (seqB (seqB (seqB (seqB (seqB (seqB (seqB (seqB (seqB (seqB (seqB (Tryd.f9.body.getD .skip))))))))))))) ⟨142,[(5,wsl R),(6,iv x),(7,wsl Ew),(10,wsl (cutL R (a - 1).toNat (b - 1).toNat))],[],k⟩ Q):Aw E (seqB (seqB (seqB (seqB (seqB (seqB (seqB (seqB (seqB (Tryd.f9.body.getD .skip)))))))))) ⟨142,[(5,wsl R),(6,iv x),(7,wsl Ew),(8,iv a),(9,iv b),(10,.xs 70 0 0 0 1)],[(70,[])],k⟩ Q:=by
 have hl0:=hsq 0 (by omega)
 have hg0:=wrows_get R 0 (by omega)
 have ht0:(cI (R.getD 0 [])).take 5=cI (R.getD 0 []):=List.take_of_length_le (by rw [cI_len,hl0];exact Nat.le_refl _)
 have hf0:=allLeaf_cI (R.getD 0 [])
 have hl1:=hsq 1 (by omega)
 have hg1:=wrows_get R 1 (by omega)
 have ht1:(cI (R.getD 1 [])).take 5=cI (R.getD 1 []):=List.take_of_length_le (by rw [cI_len,hl1];exact Nat.le_refl _)
 have hf1:=allLeaf_cI (R.getD 1 [])
 have hl2:=hsq 2 (by omega)
 have hg2:=wrows_get R 2 (by omega)
 have ht2:(cI (R.getD 2 [])).take 5=cI (R.getD 2 []):=List.take_of_length_le (by rw [cI_len,hl2];exact Nat.le_refl _)
 have hf2:=allLeaf_cI (R.getD 2 [])
 have hl3:=hsq 3 (by omega)
 have hg3:=wrows_get R 3 (by omega)
 have ht3:(cI (R.getD 3 [])).take 5=cI (R.getD 3 []):=List.take_of_length_le (by rw [cI_len,hl3];exact Nat.le_refl _)
 have hf3:=allLeaf_cI (R.getD 3 [])
 have hl4:=hsq 4 (by omega)
 have hg4:=wrows_get R 4 (by omega)
 have ht4:(cI (R.getD 4 [])).take 5=cI (R.getD 4 []):=List.take_of_length_le (by rw [cI_len,hl4];exact Nat.le_refl _)
 have hf4:=allLeaf_cI (R.getD 4 [])
 have hla:((R.length:Nat):Int)=5:=by omega
 refine Aw_sq fun B12 hB12 hR12 hX12=>?_
 refine Aw_st hE [5,6,7,8,9,10,11] [70,78,83,84,85,700,710,711,712,713,714] fun K hK=>?_
 simp only [go_sem,seval]
 refine hK _ ?_;clear hK K
 refine Aw_bk fun B13 hN13 hE13 hR13 hX13=>?_
 refine Aw_lp (fun i:Nat × Nat × (Nat→Nat)=>⟨142,[(5,wsl R),(6,iv x),(7,wsl Ew),(8,iv a),(9,iv b),(10,.xs 700 0 i.1 (i.2.1 + i.1) 1),(11,iv (i.1:Int))],(700,vws 5 i.2.2 710 i.1++jN i.2.1)::bxs 5 i.2.2 (fun p=>R.getD p []) 710 i.1,k⟩) (fun i=>i.1≤5) (fun i=>5 - i.1) (0,0,fun _=>0) ?_ (by simp) fun i hi B14 hN14 hR14 hX14=>?_
 ·refine (Le_swb _ 70 700 (by decide) (by decide)).trans ?_
  simp only [St.swb,swbσ,swbm,AV.swb,AV.swbAll,swp,jN_swb,row_swb,Nat.reduceEqDiff,if_true,if_false,reduceIte]
  exact Le_wa
 obtain ⟨i,c,d⟩:=i
 simp only at hi
 refine Aw_sq fun B15 hB15 hR15 hX15=>?_
 rcases (show i=5∨i=0∨i=1∨i=2∨i=3∨i=4 by omega) with rfl | rfl | rfl | rfl | rfl | rfl
 ·refine Aw_st hE [5,6,7,8,9,10,11,74] [70,78,83,84,85,700,710,711,712,713,714] fun K hK=>?_
  simp only [go_sem,seval,hla]
  refine hK _ (Aw_no rfl (Aw_exit (hX15 _ _ (hX14 _ _ (hE13 _ (hB12 _ ?_))))))
  have fin:∀ q:Nat→List Int,(∀ p,p < 5→(q p).length=5)→q=upd (upd (fun p=>R.getD p []) (a - 1).toNat (b - 1).toNat 0) (b - 1).toNat (a - 1).toNat 0→Aw E (seqB (seqB (seqB (seqB (seqB (seqB (seqB (seqB (seqB (seqB (seqB (seqB (Tryd.f9.body.getD .skip))))))))))))) ⟨142,[(5,wsl R),(6,iv x),(7,wsl Ew),(10,.xs 700 0 5 (c + 5) 1)],(700,vws 5 d 710 5++jN c)::bxs 5 d q 710 5,k⟩ Q:=by
   intro q hq he
   have hq0:=hq 0 (by omega)
   have hq1:=hq 1 (by omega)
   have hq2:=hq 2 (by omega)
   have hq3:=hq 3 (by omega)
   have hq4:=hq 4 (by omega)
   refine Aw_frz hE rfl 710 5 (ls:=cI (q 0)++jN (d 0)) (ys:=iD (q 0)) rfl (ofAll_iD hq0) ?_
   simp only [go_sem,seval,↓frz_xs (d:=710) (cap:=d 0 + 5) hq0]
   refine Aw_frz hE rfl 711 5 (ls:=cI (q 1)++jN (d 1)) (ys:=iD (q 1)) rfl (ofAll_iD hq1) ?_
   simp only [go_sem,seval,↓frz_xs (d:=711) (cap:=d 1 + 5) hq1]
   refine Aw_frz hE rfl 712 5 (ls:=cI (q 2)++jN (d 2)) (ys:=iD (q 2)) rfl (ofAll_iD hq2) ?_
   simp only [go_sem,seval,↓frz_xs (d:=712) (cap:=d 2 + 5) hq2]
   refine Aw_frz hE rfl 713 5 (ls:=cI (q 3)++jN (d 3)) (ys:=iD (q 3)) rfl (ofAll_iD hq3) ?_
   simp only [go_sem,seval,↓frz_xs (d:=713) (cap:=d 3 + 5) hq3]
   refine Aw_frz hE rfl 714 5 (ls:=cI (q 4)++jN (d 4)) (ys:=iD (q 4)) rfl (ofAll_iD hq4) ?_
   simp only [go_sem,seval,↓frz_xs (d:=714) (cap:=d 4 + 5) hq4]
   refine Aw_frz hE rfl 700 5 (ls:=cWs [q 0,q 1,q 2,q 3,q 4]++jN c) (ys:=wD [q 0,q 1,q 2,q 3,q 4]) rfl (by rw [List.take_left' (by rfl)];exact ofAll_cWs _) ?_
   simp only [go_sem,seval,↓frz_xsW (d:=700) (n:=5) (cap:=c + 5) (L:=[q 0,q 1,q 2,q 3,q 4]) rfl]
   have hc:cutL R (a - 1).toNat (b - 1).toNat=[q 0,q 1,q 2,q 3,q 4]:=by rw [he];unfold cutL;rw [hn];rfl
   rw [hc] at hQ
   exact Aw.leE (LeE_of (show Le _ ⟨142,[(5,wsl R),(6,iv x),(7,wsl Ew),(10,wsl [q 0,q 1,q 2,q 3,q 4])],[],_⟩ from Le_wa)) hQ
  rcases (show a=1∨a=2∨a=3∨a=4∨a=5 by omega) with rfl | rfl | rfl | rfl | rfl
  ·have hs1:=fun v=>cI_set (R.getD 0 []) (d 0) (b - 1).toNat v (by omega)
   refine Aw_st hE [5,6,7,8,9,10] [70,78,83,84,85,700,710,711,712,713,714] fun K hK=>?_
   simp only [go_sem,seval,hs1]
   repeat refine sd0 ?_
   refine hK _ ?_;clear hK K
   rcases (show b=2∨b=3∨b=4∨b=5 by omega) with rfl | rfl | rfl | rfl
   ·have hs2:=fun v=>cI_set (R.getD 1 []) (d 1) 0 v (by omega)
    refine Aw_st hE [5,6,7,10] [70,78,83,84,85,700,710,711,712,713,714] fun K hK=>?_
    simp only [go_sem,seval,hs2]
    repeat refine sd0 ?_
    refine hK _ ?_
    refine Aw.leE (LeE_of ?_) (fin (upd (upd (fun p=>R.getD p []) 0 1 0) 1 0 0) (fun p hp=>?_) rfl)
    ·exact Le_wc (by simp only [go_sem,seval,upd]) (by simp only [go_sem,seval,upd])
    ·rcases (show p=0∨p=1∨p=2∨p=3∨p=4 by omega) with rfl | rfl | rfl | rfl | rfl
     all_goals (simp only [upd,Nat.reduceEqDiff,if_true,if_false,reduceIte,List.length_set];first | exact hl0 | exact hl1 | exact hl2 | exact hl3 | exact hl4)
   ·have hs2:=fun v=>cI_set (R.getD 2 []) (d 2) 0 v (by omega)
    refine Aw_st hE [5,6,7,10] [70,78,83,84,85,700,710,711,712,713,714] fun K hK=>?_
    simp only [go_sem,seval,hs2]
    repeat refine sd0 ?_
    refine hK _ ?_
    refine Aw.leE (LeE_of ?_) (fin (upd (upd (fun p=>R.getD p []) 0 2 0) 2 0 0) (fun p hp=>?_) rfl)
    ·exact Le_wc (by simp only [go_sem,seval,upd]) (by simp only [go_sem,seval,upd])
    ·rcases (show p=0∨p=1∨p=2∨p=3∨p=4 by omega) with rfl | rfl | rfl | rfl | rfl
     all_goals (simp only [upd,Nat.reduceEqDiff,if_true,if_false,reduceIte,List.length_set];first | exact hl0 | exact hl1 | exact hl2 | exact hl3 | exact hl4)
   ·have hs2:=fun v=>cI_set (R.getD 3 []) (d 3) 0 v (by omega)
    refine Aw_st hE [5,6,7,10] [70,78,83,84,85,700,710,711,712,713,714] fun K hK=>?_
    simp only [go_sem,seval,hs2]
    repeat refine sd0 ?_
    refine hK _ ?_
    refine Aw.leE (LeE_of ?_) (fin (upd (upd (fun p=>R.getD p []) 0 3 0) 3 0 0) (fun p hp=>?_) rfl)
    ·exact Le_wc (by simp only [go_sem,seval,upd]) (by simp only [go_sem,seval,upd])
    ·rcases (show p=0∨p=1∨p=2∨p=3∨p=4 by omega) with rfl | rfl | rfl | rfl | rfl
     all_goals (simp only [upd,Nat.reduceEqDiff,if_true,if_false,reduceIte,List.length_set];first | exact hl0 | exact hl1 | exact hl2 | exact hl3 | exact hl4)
   ·have hs2:=fun v=>cI_set (R.getD 4 []) (d 4) 0 v (by omega)
    refine Aw_st hE [5,6,7,10] [70,78,83,84,85,700,710,711,712,713,714] fun K hK=>?_
    simp only [go_sem,seval,hs2]
    repeat refine sd0 ?_
    refine hK _ ?_
    refine Aw.leE (LeE_of ?_) (fin (upd (upd (fun p=>R.getD p []) 0 4 0) 4 0 0) (fun p hp=>?_) rfl)
    ·exact Le_wc (by simp only [go_sem,seval,upd]) (by simp only [go_sem,seval,upd])
    ·rcases (show p=0∨p=1∨p=2∨p=3∨p=4 by omega) with rfl | rfl | rfl | rfl | rfl
     all_goals (simp only [upd,Nat.reduceEqDiff,if_true,if_false,reduceIte,List.length_set];first | exact hl0 | exact hl1 | exact hl2 | exact hl3 | exact hl4)
  ·have hs1:=fun v=>cI_set (R.getD 1 []) (d 1) (b - 1).toNat v (by omega)
   refine Aw_st hE [5,6,7,8,9,10] [70,78,83,84,85,700,710,711,712,713,714] fun K hK=>?_
   simp only [go_sem,seval,hs1]
   repeat refine sd0 ?_
   refine hK _ ?_;clear hK K
   rcases (show b=1∨b=3∨b=4∨b=5 by omega) with rfl | rfl | rfl | rfl
   ·have hs2:=fun v=>cI_set (R.getD 0 []) (d 0) 1 v (by omega)
    refine Aw_st hE [5,6,7,10] [70,78,83,84,85,700,710,711,712,713,714] fun K hK=>?_
    simp only [go_sem,seval,hs2]
    repeat refine sd0 ?_
    refine hK _ ?_
    refine Aw.leE (LeE_of ?_) (fin (upd (upd (fun p=>R.getD p []) 1 0 0) 0 1 0) (fun p hp=>?_) rfl)
    ·exact Le_wc (by simp only [go_sem,seval,upd]) (by simp only [go_sem,seval,upd])
    ·rcases (show p=0∨p=1∨p=2∨p=3∨p=4 by omega) with rfl | rfl | rfl | rfl | rfl
     all_goals (simp only [upd,Nat.reduceEqDiff,if_true,if_false,reduceIte,List.length_set];first | exact hl0 | exact hl1 | exact hl2 | exact hl3 | exact hl4)
   ·have hs2:=fun v=>cI_set (R.getD 2 []) (d 2) 1 v (by omega)
    refine Aw_st hE [5,6,7,10] [70,78,83,84,85,700,710,711,712,713,714] fun K hK=>?_
    simp only [go_sem,seval,hs2]
    repeat refine sd0 ?_
    refine hK _ ?_
    refine Aw.leE (LeE_of ?_) (fin (upd (upd (fun p=>R.getD p []) 1 2 0) 2 1 0) (fun p hp=>?_) rfl)
    ·exact Le_wc (by simp only [go_sem,seval,upd]) (by simp only [go_sem,seval,upd])
    ·rcases (show p=0∨p=1∨p=2∨p=3∨p=4 by omega) with rfl | rfl | rfl | rfl | rfl
     all_goals (simp only [upd,Nat.reduceEqDiff,if_true,if_false,reduceIte,List.length_set];first | exact hl0 | exact hl1 | exact hl2 | exact hl3 | exact hl4)
   ·have hs2:=fun v=>cI_set (R.getD 3 []) (d 3) 1 v (by omega)
    refine Aw_st hE [5,6,7,10] [70,78,83,84,85,700,710,711,712,713,714] fun K hK=>?_
    simp only [go_sem,seval,hs2]
    repeat refine sd0 ?_
    refine hK _ ?_
    refine Aw.leE (LeE_of ?_) (fin (upd (upd (fun p=>R.getD p []) 1 3 0) 3 1 0) (fun p hp=>?_) rfl)
    ·exact Le_wc (by simp only [go_sem,seval,upd]) (by simp only [go_sem,seval,upd])
    ·rcases (show p=0∨p=1∨p=2∨p=3∨p=4 by omega) with rfl | rfl | rfl | rfl | rfl
     all_goals (simp only [upd,Nat.reduceEqDiff,if_true,if_false,reduceIte,List.length_set];first | exact hl0 | exact hl1 | exact hl2 | exact hl3 | exact hl4)
   ·have hs2:=fun v=>cI_set (R.getD 4 []) (d 4) 1 v (by omega)
    refine Aw_st hE [5,6,7,10] [70,78,83,84,85,700,710,711,712,713,714] fun K hK=>?_
    simp only [go_sem,seval,hs2]
    repeat refine sd0 ?_
    refine hK _ ?_
    refine Aw.leE (LeE_of ?_) (fin (upd (upd (fun p=>R.getD p []) 1 4 0) 4 1 0) (fun p hp=>?_) rfl)
    ·exact Le_wc (by simp only [go_sem,seval,upd]) (by simp only [go_sem,seval,upd])
    ·rcases (show p=0∨p=1∨p=2∨p=3∨p=4 by omega) with rfl | rfl | rfl | rfl | rfl
     all_goals (simp only [upd,Nat.reduceEqDiff,if_true,if_false,reduceIte,List.length_set];first | exact hl0 | exact hl1 | exact hl2 | exact hl3 | exact hl4)
  ·have hs1:=fun v=>cI_set (R.getD 2 []) (d 2) (b - 1).toNat v (by omega)
   refine Aw_st hE [5,6,7,8,9,10] [70,78,83,84,85,700,710,711,712,713,714] fun K hK=>?_
   simp only [go_sem,seval,hs1]
   repeat refine sd0 ?_
   refine hK _ ?_;clear hK K
   rcases (show b=1∨b=2∨b=4∨b=5 by omega) with rfl | rfl | rfl | rfl
   ·have hs2:=fun v=>cI_set (R.getD 0 []) (d 0) 2 v (by omega)
    refine Aw_st hE [5,6,7,10] [70,78,83,84,85,700,710,711,712,713,714] fun K hK=>?_
    simp only [go_sem,seval,hs2]
    repeat refine sd0 ?_
    refine hK _ ?_
    refine Aw.leE (LeE_of ?_) (fin (upd (upd (fun p=>R.getD p []) 2 0 0) 0 2 0) (fun p hp=>?_) rfl)
    ·exact Le_wc (by simp only [go_sem,seval,upd]) (by simp only [go_sem,seval,upd])
    ·rcases (show p=0∨p=1∨p=2∨p=3∨p=4 by omega) with rfl | rfl | rfl | rfl | rfl
     all_goals (simp only [upd,Nat.reduceEqDiff,if_true,if_false,reduceIte,List.length_set];first | exact hl0 | exact hl1 | exact hl2 | exact hl3 | exact hl4)
   ·have hs2:=fun v=>cI_set (R.getD 1 []) (d 1) 2 v (by omega)
    refine Aw_st hE [5,6,7,10] [70,78,83,84,85,700,710,711,712,713,714] fun K hK=>?_
    simp only [go_sem,seval,hs2]
    repeat refine sd0 ?_
    refine hK _ ?_
    refine Aw.leE (LeE_of ?_) (fin (upd (upd (fun p=>R.getD p []) 2 1 0) 1 2 0) (fun p hp=>?_) rfl)
    ·exact Le_wc (by simp only [go_sem,seval,upd]) (by simp only [go_sem,seval,upd])
    ·rcases (show p=0∨p=1∨p=2∨p=3∨p=4 by omega) with rfl | rfl | rfl | rfl | rfl
     all_goals (simp only [upd,Nat.reduceEqDiff,if_true,if_false,reduceIte,List.length_set];first | exact hl0 | exact hl1 | exact hl2 | exact hl3 | exact hl4)
   ·have hs2:=fun v=>cI_set (R.getD 3 []) (d 3) 2 v (by omega)
    refine Aw_st hE [5,6,7,10] [70,78,83,84,85,700,710,711,712,713,714] fun K hK=>?_
    simp only [go_sem,seval,hs2]
    repeat refine sd0 ?_
    refine hK _ ?_
    refine Aw.leE (LeE_of ?_) (fin (upd (upd (fun p=>R.getD p []) 2 3 0) 3 2 0) (fun p hp=>?_) rfl)
    ·exact Le_wc (by simp only [go_sem,seval,upd]) (by simp only [go_sem,seval,upd])
    ·rcases (show p=0∨p=1∨p=2∨p=3∨p=4 by omega) with rfl | rfl | rfl | rfl | rfl
     all_goals (simp only [upd,Nat.reduceEqDiff,if_true,if_false,reduceIte,List.length_set];first | exact hl0 | exact hl1 | exact hl2 | exact hl3 | exact hl4)
   ·have hs2:=fun v=>cI_set (R.getD 4 []) (d 4) 2 v (by omega)
    refine Aw_st hE [5,6,7,10] [70,78,83,84,85,700,710,711,712,713,714] fun K hK=>?_
    simp only [go_sem,seval,hs2]
    repeat refine sd0 ?_
    refine hK _ ?_
    refine Aw.leE (LeE_of ?_) (fin (upd (upd (fun p=>R.getD p []) 2 4 0) 4 2 0) (fun p hp=>?_) rfl)
    ·exact Le_wc (by simp only [go_sem,seval,upd]) (by simp only [go_sem,seval,upd])
    ·rcases (show p=0∨p=1∨p=2∨p=3∨p=4 by omega) with rfl | rfl | rfl | rfl | rfl
     all_goals (simp only [upd,Nat.reduceEqDiff,if_true,if_false,reduceIte,List.length_set];first | exact hl0 | exact hl1 | exact hl2 | exact hl3 | exact hl4)
  ·have hs1:=fun v=>cI_set (R.getD 3 []) (d 3) (b - 1).toNat v (by omega)
   refine Aw_st hE [5,6,7,8,9,10] [70,78,83,84,85,700,710,711,712,713,714] fun K hK=>?_
   simp only [go_sem,seval,hs1]
   repeat refine sd0 ?_
   refine hK _ ?_;clear hK K
   rcases (show b=1∨b=2∨b=3∨b=5 by omega) with rfl | rfl | rfl | rfl
   ·have hs2:=fun v=>cI_set (R.getD 0 []) (d 0) 3 v (by omega)
    refine Aw_st hE [5,6,7,10] [70,78,83,84,85,700,710,711,712,713,714] fun K hK=>?_
    simp only [go_sem,seval,hs2]
    repeat refine sd0 ?_
    refine hK _ ?_
    refine Aw.leE (LeE_of ?_) (fin (upd (upd (fun p=>R.getD p []) 3 0 0) 0 3 0) (fun p hp=>?_) rfl)
    ·exact Le_wc (by simp only [go_sem,seval,upd]) (by simp only [go_sem,seval,upd])
    ·rcases (show p=0∨p=1∨p=2∨p=3∨p=4 by omega) with rfl | rfl | rfl | rfl | rfl
     all_goals (simp only [upd,Nat.reduceEqDiff,if_true,if_false,reduceIte,List.length_set];first | exact hl0 | exact hl1 | exact hl2 | exact hl3 | exact hl4)
   ·have hs2:=fun v=>cI_set (R.getD 1 []) (d 1) 3 v (by omega)
    refine Aw_st hE [5,6,7,10] [70,78,83,84,85,700,710,711,712,713,714] fun K hK=>?_
    simp only [go_sem,seval,hs2]
    repeat refine sd0 ?_
    refine hK _ ?_
    refine Aw.leE (LeE_of ?_) (fin (upd (upd (fun p=>R.getD p []) 3 1 0) 1 3 0) (fun p hp=>?_) rfl)
    ·exact Le_wc (by simp only [go_sem,seval,upd]) (by simp only [go_sem,seval,upd])
    ·rcases (show p=0∨p=1∨p=2∨p=3∨p=4 by omega) with rfl | rfl | rfl | rfl | rfl
     all_goals (simp only [upd,Nat.reduceEqDiff,if_true,if_false,reduceIte,List.length_set];first | exact hl0 | exact hl1 | exact hl2 | exact hl3 | exact hl4)
   ·have hs2:=fun v=>cI_set (R.getD 2 []) (d 2) 3 v (by omega)
    refine Aw_st hE [5,6,7,10] [70,78,83,84,85,700,710,711,712,713,714] fun K hK=>?_
    simp only [go_sem,seval,hs2]
    repeat refine sd0 ?_
    refine hK _ ?_
    refine Aw.leE (LeE_of ?_) (fin (upd (upd (fun p=>R.getD p []) 3 2 0) 2 3 0) (fun p hp=>?_) rfl)
    ·exact Le_wc (by simp only [go_sem,seval,upd]) (by simp only [go_sem,seval,upd])
    ·rcases (show p=0∨p=1∨p=2∨p=3∨p=4 by omega) with rfl | rfl | rfl | rfl | rfl
     all_goals (simp only [upd,Nat.reduceEqDiff,if_true,if_false,reduceIte,List.length_set];first | exact hl0 | exact hl1 | exact hl2 | exact hl3 | exact hl4)
   ·have hs2:=fun v=>cI_set (R.getD 4 []) (d 4) 3 v (by omega)
    refine Aw_st hE [5,6,7,10] [70,78,83,84,85,700,710,711,712,713,714] fun K hK=>?_
    simp only [go_sem,seval,hs2]
    repeat refine sd0 ?_
    refine hK _ ?_
    refine Aw.leE (LeE_of ?_) (fin (upd (upd (fun p=>R.getD p []) 3 4 0) 4 3 0) (fun p hp=>?_) rfl)
    ·exact Le_wc (by simp only [go_sem,seval,upd]) (by simp only [go_sem,seval,upd])
    ·rcases (show p=0∨p=1∨p=2∨p=3∨p=4 by omega) with rfl | rfl | rfl | rfl | rfl
     all_goals (simp only [upd,Nat.reduceEqDiff,if_true,if_false,reduceIte,List.length_set];first | exact hl0 | exact hl1 | exact hl2 | exact hl3 | exact hl4)
  ·have hs1:=fun v=>cI_set (R.getD 4 []) (d 4) (b - 1).toNat v (by omega)
   refine Aw_st hE [5,6,7,8,9,10] [70,78,83,84,85,700,710,711,712,713,714] fun K hK=>?_
   simp only [go_sem,seval,hs1]
   repeat refine sd0 ?_
   refine hK _ ?_;clear hK K
   rcases (show b=1∨b=2∨b=3∨b=4 by omega) with rfl | rfl | rfl | rfl
   ·have hs2:=fun v=>cI_set (R.getD 0 []) (d 0) 4 v (by omega)
    refine Aw_st hE [5,6,7,10] [70,78,83,84,85,700,710,711,712,713,714] fun K hK=>?_
    simp only [go_sem,seval,hs2]
    repeat refine sd0 ?_
    refine hK _ ?_
    refine Aw.leE (LeE_of ?_) (fin (upd (upd (fun p=>R.getD p []) 4 0 0) 0 4 0) (fun p hp=>?_) rfl)
    ·exact Le_wc (by simp only [go_sem,seval,upd]) (by simp only [go_sem,seval,upd])
    ·rcases (show p=0∨p=1∨p=2∨p=3∨p=4 by omega) with rfl | rfl | rfl | rfl | rfl
     all_goals (simp only [upd,Nat.reduceEqDiff,if_true,if_false,reduceIte,List.length_set];first | exact hl0 | exact hl1 | exact hl2 | exact hl3 | exact hl4)
   ·have hs2:=fun v=>cI_set (R.getD 1 []) (d 1) 4 v (by omega)
    refine Aw_st hE [5,6,7,10] [70,78,83,84,85,700,710,711,712,713,714] fun K hK=>?_
    simp only [go_sem,seval,hs2]
    repeat refine sd0 ?_
    refine hK _ ?_
    refine Aw.leE (LeE_of ?_) (fin (upd (upd (fun p=>R.getD p []) 4 1 0) 1 4 0) (fun p hp=>?_) rfl)
    ·exact Le_wc (by simp only [go_sem,seval,upd]) (by simp only [go_sem,seval,upd])
    ·rcases (show p=0∨p=1∨p=2∨p=3∨p=4 by omega) with rfl | rfl | rfl | rfl | rfl
     all_goals (simp only [upd,Nat.reduceEqDiff,if_true,if_false,reduceIte,List.length_set];first | exact hl0 | exact hl1 | exact hl2 | exact hl3 | exact hl4)
   ·have hs2:=fun v=>cI_set (R.getD 2 []) (d 2) 4 v (by omega)
    refine Aw_st hE [5,6,7,10] [70,78,83,84,85,700,710,711,712,713,714] fun K hK=>?_
    simp only [go_sem,seval,hs2]
    repeat refine sd0 ?_
    refine hK _ ?_
    refine Aw.leE (LeE_of ?_) (fin (upd (upd (fun p=>R.getD p []) 4 2 0) 2 4 0) (fun p hp=>?_) rfl)
    ·exact Le_wc (by simp only [go_sem,seval,upd]) (by simp only [go_sem,seval,upd])
    ·rcases (show p=0∨p=1∨p=2∨p=3∨p=4 by omega) with rfl | rfl | rfl | rfl | rfl
     all_goals (simp only [upd,Nat.reduceEqDiff,if_true,if_false,reduceIte,List.length_set];first | exact hl0 | exact hl1 | exact hl2 | exact hl3 | exact hl4)
   ·have hs2:=fun v=>cI_set (R.getD 3 []) (d 3) 4 v (by omega)
    refine Aw_st hE [5,6,7,10] [70,78,83,84,85,700,710,711,712,713,714] fun K hK=>?_
    simp only [go_sem,seval,hs2]
    repeat refine sd0 ?_
    refine hK _ ?_
    refine Aw.leE (LeE_of ?_) (fin (upd (upd (fun p=>R.getD p []) 4 3 0) 3 4 0) (fun p hp=>?_) rfl)
    ·exact Le_wc (by simp only [go_sem,seval,upd]) (by simp only [go_sem,seval,upd])
    ·rcases (show p=0∨p=1∨p=2∨p=3∨p=4 by omega) with rfl | rfl | rfl | rfl | rfl
     all_goals (simp only [upd,Nat.reduceEqDiff,if_true,if_false,reduceIte,List.length_set];first | exact hl0 | exact hl1 | exact hl2 | exact hl3 | exact hl4)
 ·refine Aw_st hE [5,6,7,8,9,10,11,74] [70,78,83,84,85,700,710,711,712,713,714] fun K hK=>?_
  simp only [go_sem,seval,hla]
  refine hK _ (Aw_yes rfl (Aw_skip (hB15 _ ?_)))
  refine Aw_sq fun B17 hB17 hR17 hX17=>?_
  refine Aw_bk fun B18 hN18 hE18 hR18 hX18=>?_
  refine Aw_tx hE [5,6,7,8,9,10,11] [70,78,83,84,85,700,710,711,712,713,714] fun K hK=>?_
  simp only [go_sem,seval,hg0,hl0,ht0,hf0,List.flatten_cons,List.flatten_nil,List.cons_append,List.nil_append]
  refine ⟨rows_row _,fun cap1 hcap1=>?_⟩
  obtain ⟨e1,rfl⟩:∃ e1,cap1=e1 + 5:=⟨cap1 - 5,by omega⟩
  simp only [Nat.add_sub_cancel]
  refine ⟨fun h=>?_,fun h cap' hcap'=>?_⟩
  ·obtain ⟨c1,rfl⟩:∃ c1,c=c1 + 1:=⟨c - 1,by omega⟩
   simp only [jN_s,List.set_cons_zero]
   refine hK _ (hN18 _ (hB17 _ ?_))
   refine Aw_tx hE [5,6,7,8,9,10,11] [70,78,83,84,85,700,710,711,712,713,714] fun K hK=>?_
   simp only [go_sem,seval]
   repeat refine sd0 ?_
   refine hK _ (hN14 (1,c1,put d 0 e1) _ (by omega) (by simp only;omega) ?_)
   refine (Le_swb _ 83 710 (by decide) (by decide)).trans ?_
   simp only [St.swb,swbσ,swbm,AV.swb,AV.swbAll,swp,jN_swb,row_swb,Nat.reduceEqDiff,if_true,if_false,reduceIte]
   exact Le_wc (by simp only [go_sem,seval,put,Nat.add_assoc]) (by simp only [go_sem,seval,put])
  ·obtain ⟨c1,rfl⟩:∃ c1,cap'=c1 + 1:=⟨cap' - 1,by omega⟩
   rw [Nat.add_sub_cancel]
   refine hK _ (hN18 _ (hB17 _ ?_))
   refine Aw_tx hE [5,6,7,8,9,10,11] [70,78,83,84,85,700,710,711,712,713,714] fun K hK=>?_
   simp only [go_sem,seval]
   repeat refine sd0 ?_
   refine hK _ (hN14 (1,c1,put d 0 e1) _ (by omega) (by simp only;omega) ?_)
   refine (Le_swb _ 83 710 (by decide) (by decide)).trans ?_
   simp only [St.swb,swbσ,swbm,AV.swb,AV.swbAll,swp,jN_swb,row_swb,Nat.reduceEqDiff,if_true,if_false,reduceIte]
   refine (Le_swb _ 85 700 (by decide) (by decide)).trans ?_
   simp only [St.swb,swbσ,swbm,AV.swb,AV.swbAll,swp,jN_swb,row_swb,Nat.reduceEqDiff,if_true,if_false,reduceIte]
   exact Le_wc (by simp only [go_sem,seval,put,Nat.add_assoc]) (by simp only [go_sem,seval,put])
 ·refine Aw_st hE [5,6,7,8,9,10,11,74] [70,78,83,84,85,700,710,711,712,713,714] fun K hK=>?_
  simp only [go_sem,seval,hla]
  refine hK _ (Aw_yes rfl (Aw_skip (hB15 _ ?_)))
  refine Aw_sq fun B17 hB17 hR17 hX17=>?_
  refine Aw_bk fun B18 hN18 hE18 hR18 hX18=>?_
  refine Aw_tx hE [5,6,7,8,9,10,11] [70,78,83,84,85,700,710,711,712,713,714] fun K hK=>?_
  simp only [go_sem,seval,hg1,hl1,ht1,hf1,List.flatten_cons,List.flatten_nil,List.cons_append,List.nil_append]
  refine ⟨rows_row _,fun cap1 hcap1=>?_⟩
  obtain ⟨e1,rfl⟩:∃ e1,cap1=e1 + 5:=⟨cap1 - 5,by omega⟩
  simp only [Nat.add_sub_cancel]
  refine ⟨fun h=>?_,fun h cap' hcap'=>?_⟩
  ·obtain ⟨c1,rfl⟩:∃ c1,c=c1 + 1:=⟨c - 1,by omega⟩
   simp only [jN_s,List.set_cons_zero]
   refine hK _ (hN18 _ (hB17 _ ?_))
   refine Aw_tx hE [5,6,7,8,9,10,11] [70,78,83,84,85,700,710,711,712,713,714] fun K hK=>?_
   simp only [go_sem,seval]
   repeat refine sd0 ?_
   refine hK _ (hN14 (2,c1,put d 1 e1) _ (by omega) (by simp only;omega) ?_)
   refine (Le_swb _ 83 711 (by decide) (by decide)).trans ?_
   simp only [St.swb,swbσ,swbm,AV.swb,AV.swbAll,swp,jN_swb,row_swb,Nat.reduceEqDiff,if_true,if_false,reduceIte]
   exact Le_wc (by simp only [go_sem,seval,put,Nat.add_assoc]) (by simp only [go_sem,seval,put])
  ·obtain ⟨c1,rfl⟩:∃ c1,cap'=c1 + 2:=⟨cap' - 2,by omega⟩
   rw [Nat.add_sub_cancel]
   refine hK _ (hN18 _ (hB17 _ ?_))
   refine Aw_tx hE [5,6,7,8,9,10,11] [70,78,83,84,85,700,710,711,712,713,714] fun K hK=>?_
   simp only [go_sem,seval]
   repeat refine sd0 ?_
   refine hK _ (hN14 (2,c1,put d 1 e1) _ (by omega) (by simp only;omega) ?_)
   refine (Le_swb _ 83 711 (by decide) (by decide)).trans ?_
   simp only [St.swb,swbσ,swbm,AV.swb,AV.swbAll,swp,jN_swb,row_swb,Nat.reduceEqDiff,if_true,if_false,reduceIte]
   refine (Le_swb _ 85 700 (by decide) (by decide)).trans ?_
   simp only [St.swb,swbσ,swbm,AV.swb,AV.swbAll,swp,jN_swb,row_swb,Nat.reduceEqDiff,if_true,if_false,reduceIte]
   exact Le_wc (by simp only [go_sem,seval,put,Nat.add_assoc]) (by simp only [go_sem,seval,put])
 ·refine Aw_st hE [5,6,7,8,9,10,11,74] [70,78,83,84,85,700,710,711,712,713,714] fun K hK=>?_
  simp only [go_sem,seval,hla]
  refine hK _ (Aw_yes rfl (Aw_skip (hB15 _ ?_)))
  refine Aw_sq fun B17 hB17 hR17 hX17=>?_
  refine Aw_bk fun B18 hN18 hE18 hR18 hX18=>?_
  refine Aw_tx hE [5,6,7,8,9,10,11] [70,78,83,84,85,700,710,711,712,713,714] fun K hK=>?_
  simp only [go_sem,seval,hg2,hl2,ht2,hf2,List.flatten_cons,List.flatten_nil,List.cons_append,List.nil_append]
  refine ⟨rows_row _,fun cap1 hcap1=>?_⟩
  obtain ⟨e1,rfl⟩:∃ e1,cap1=e1 + 5:=⟨cap1 - 5,by omega⟩
  simp only [Nat.add_sub_cancel]
  refine ⟨fun h=>?_,fun h cap' hcap'=>?_⟩
  ·obtain ⟨c1,rfl⟩:∃ c1,c=c1 + 1:=⟨c - 1,by omega⟩
   simp only [jN_s,List.set_cons_zero]
   refine hK _ (hN18 _ (hB17 _ ?_))
   refine Aw_tx hE [5,6,7,8,9,10,11] [70,78,83,84,85,700,710,711,712,713,714] fun K hK=>?_
   simp only [go_sem,seval]
   repeat refine sd0 ?_
   refine hK _ (hN14 (3,c1,put d 2 e1) _ (by omega) (by simp only;omega) ?_)
   refine (Le_swb _ 83 712 (by decide) (by decide)).trans ?_
   simp only [St.swb,swbσ,swbm,AV.swb,AV.swbAll,swp,jN_swb,row_swb,Nat.reduceEqDiff,if_true,if_false,reduceIte]
   exact Le_wc (by simp only [go_sem,seval,put,Nat.add_assoc]) (by simp only [go_sem,seval,put])
  ·obtain ⟨c1,rfl⟩:∃ c1,cap'=c1 + 3:=⟨cap' - 3,by omega⟩
   rw [Nat.add_sub_cancel]
   refine hK _ (hN18 _ (hB17 _ ?_))
   refine Aw_tx hE [5,6,7,8,9,10,11] [70,78,83,84,85,700,710,711,712,713,714] fun K hK=>?_
   simp only [go_sem,seval]
   repeat refine sd0 ?_
   refine hK _ (hN14 (3,c1,put d 2 e1) _ (by omega) (by simp only;omega) ?_)
   refine (Le_swb _ 83 712 (by decide) (by decide)).trans ?_
   simp only [St.swb,swbσ,swbm,AV.swb,AV.swbAll,swp,jN_swb,row_swb,Nat.reduceEqDiff,if_true,if_false,reduceIte]
   refine (Le_swb _ 85 700 (by decide) (by decide)).trans ?_
   simp only [St.swb,swbσ,swbm,AV.swb,AV.swbAll,swp,jN_swb,row_swb,Nat.reduceEqDiff,if_true,if_false,reduceIte]
   exact Le_wc (by simp only [go_sem,seval,put,Nat.add_assoc]) (by simp only [go_sem,seval,put])
 ·refine Aw_st hE [5,6,7,8,9,10,11,74] [70,78,83,84,85,700,710,711,712,713,714] fun K hK=>?_
  simp only [go_sem,seval,hla]
  refine hK _ (Aw_yes rfl (Aw_skip (hB15 _ ?_)))
  refine Aw_sq fun B17 hB17 hR17 hX17=>?_
  refine Aw_bk fun B18 hN18 hE18 hR18 hX18=>?_
  refine Aw_tx hE [5,6,7,8,9,10,11] [70,78,83,84,85,700,710,711,712,713,714] fun K hK=>?_
  simp only [go_sem,seval,hg3,hl3,ht3,hf3,List.flatten_cons,List.flatten_nil,List.cons_append,List.nil_append]
  refine ⟨rows_row _,fun cap1 hcap1=>?_⟩
  obtain ⟨e1,rfl⟩:∃ e1,cap1=e1 + 5:=⟨cap1 - 5,by omega⟩
  simp only [Nat.add_sub_cancel]
  refine ⟨fun h=>?_,fun h cap' hcap'=>?_⟩
  ·obtain ⟨c1,rfl⟩:∃ c1,c=c1 + 1:=⟨c - 1,by omega⟩
   simp only [jN_s,List.set_cons_zero]
   refine hK _ (hN18 _ (hB17 _ ?_))
   refine Aw_tx hE [5,6,7,8,9,10,11] [70,78,83,84,85,700,710,711,712,713,714] fun K hK=>?_
   simp only [go_sem,seval]
   repeat refine sd0 ?_
   refine hK _ (hN14 (4,c1,put d 3 e1) _ (by omega) (by simp only;omega) ?_)
   refine (Le_swb _ 83 713 (by decide) (by decide)).trans ?_
   simp only [St.swb,swbσ,swbm,AV.swb,AV.swbAll,swp,jN_swb,row_swb,Nat.reduceEqDiff,if_true,if_false,reduceIte]
   exact Le_wc (by simp only [go_sem,seval,put,Nat.add_assoc]) (by simp only [go_sem,seval,put])
  ·obtain ⟨c1,rfl⟩:∃ c1,cap'=c1 + 4:=⟨cap' - 4,by omega⟩
   rw [Nat.add_sub_cancel]
   refine hK _ (hN18 _ (hB17 _ ?_))
   refine Aw_tx hE [5,6,7,8,9,10,11] [70,78,83,84,85,700,710,711,712,713,714] fun K hK=>?_
   simp only [go_sem,seval]
   repeat refine sd0 ?_
   refine hK _ (hN14 (4,c1,put d 3 e1) _ (by omega) (by simp only;omega) ?_)
   refine (Le_swb _ 83 713 (by decide) (by decide)).trans ?_
   simp only [St.swb,swbσ,swbm,AV.swb,AV.swbAll,swp,jN_swb,row_swb,Nat.reduceEqDiff,if_true,if_false,reduceIte]
   refine (Le_swb _ 85 700 (by decide) (by decide)).trans ?_
   simp only [St.swb,swbσ,swbm,AV.swb,AV.swbAll,swp,jN_swb,row_swb,Nat.reduceEqDiff,if_true,if_false,reduceIte]
   exact Le_wc (by simp only [go_sem,seval,put,Nat.add_assoc]) (by simp only [go_sem,seval,put])
 ·refine Aw_st hE [5,6,7,8,9,10,11,74] [70,78,83,84,85,700,710,711,712,713,714] fun K hK=>?_
  simp only [go_sem,seval,hla]
  refine hK _ (Aw_yes rfl (Aw_skip (hB15 _ ?_)))
  refine Aw_sq fun B17 hB17 hR17 hX17=>?_
  refine Aw_bk fun B18 hN18 hE18 hR18 hX18=>?_
  refine Aw_tx hE [5,6,7,8,9,10,11] [70,78,83,84,85,700,710,711,712,713,714] fun K hK=>?_
  simp only [go_sem,seval,hg4,hl4,ht4,hf4,List.flatten_cons,List.flatten_nil,List.cons_append,List.nil_append]
  refine ⟨rows_row _,fun cap1 hcap1=>?_⟩
  obtain ⟨e1,rfl⟩:∃ e1,cap1=e1 + 5:=⟨cap1 - 5,by omega⟩
  simp only [Nat.add_sub_cancel]
  refine ⟨fun h=>?_,fun h cap' hcap'=>?_⟩
  ·obtain ⟨c1,rfl⟩:∃ c1,c=c1 + 1:=⟨c - 1,by omega⟩
   simp only [jN_s,List.set_cons_zero]
   refine hK _ (hN18 _ (hB17 _ ?_))
   refine Aw_tx hE [5,6,7,8,9,10,11] [70,78,83,84,85,700,710,711,712,713,714] fun K hK=>?_
   simp only [go_sem,seval]
   repeat refine sd0 ?_
   refine hK _ (hN14 (5,c1,put d 4 e1) _ (by omega) (by simp only;omega) ?_)
   refine (Le_swb _ 83 714 (by decide) (by decide)).trans ?_
   simp only [St.swb,swbσ,swbm,AV.swb,AV.swbAll,swp,jN_swb,row_swb,Nat.reduceEqDiff,if_true,if_false,reduceIte]
   exact Le_wc (by simp only [go_sem,seval,put,Nat.add_assoc]) (by simp only [go_sem,seval,put])
  ·obtain ⟨c1,rfl⟩:∃ c1,cap'=c1 + 5:=⟨cap' - 5,by omega⟩
   rw [Nat.add_sub_cancel]
   refine hK _ (hN18 _ (hB17 _ ?_))
   refine Aw_tx hE [5,6,7,8,9,10,11] [70,78,83,84,85,700,710,711,712,713,714] fun K hK=>?_
   simp only [go_sem,seval]
   repeat refine sd0 ?_
   refine hK _ (hN14 (5,c1,put d 4 e1) _ (by omega) (by simp only;omega) ?_)
   refine (Le_swb _ 83 714 (by decide) (by decide)).trans ?_
   simp only [St.swb,swbσ,swbm,AV.swb,AV.swbAll,swp,jN_swb,row_swb,Nat.reduceEqDiff,if_true,if_false,reduceIte]
   refine (Le_swb _ 85 700 (by decide) (by decide)).trans ?_
   simp only [St.swb,swbσ,swbm,AV.swb,AV.swbAll,swp,jN_swb,row_swb,Nat.reduceEqDiff,if_true,if_false,reduceIte]
   exact Le_wc (by simp only [go_sem,seval,put,Nat.add_assoc]) (by simp only [go_sem,seval,put])
theorem fnCutPeer_ok (pb:Addr):Fine Tryd.prog 9 (cLawP2 pb):=by
 refine fine_ofX [] gl_nil [] ms_nil [] mm_nil [70,78,83,84,85] [] ex_nil (T:=TT) Tryd.func9 rfl Tryd.ntmps9 (by rw [Tryd.results9]) rfl rfl tt (gs_cons drawNetEnd_ok gs_nil) (ds_cons (iNetEnd_ok pb) (ds_cons (iNetStill_ok pb) (ds_cons sNetEnd_ok (ds_cons lyWays_ok (ds_cons relsFree_ok (ds_cons lyInts_ok (ds_cons relOf_ok ds_nil))))) (wp_inh pb)) (wp_inh pb)) ?_
 rintro args ⟨bs,b2,hbs,hbs2,rfl⟩
 refine ⟨by simp,fun k hk E hE Q hQ=>?_⟩
 refine Aw_st hE [0,1] [70] fun K hK=>?_
 simp only [go_sem,seval]
 refine hK _ ?_;clear hK K
 refine Aw_sq fun B1 hB1 hR1 hX1=>?_
 refine Aw_st hE [0,1,22] [70] fun K hK=>?_
 simp only [go_sem,seval]
 refine ⟨fun hg3=>?_,fun hg3=>?_⟩
 ·repeat refine sd0 ?_
  refine hK _ (Aw_yes rfl ?_)
  refine Aw_st hE [4] [70] fun K hK=>?_
  simp only [go_sem,seval]
  refine hK _ (Aw_ret (hR1 _ (hQ _ ?_)))
  simp only [go_sem,seval]
 repeat refine sd0 ?_
 refine hK _ (Aw_cond rfl (fun hc4=>?_) (fun hc4=>?_))
 ·refine Aw_st hE [4] [70] fun K hK=>?_
  simp only [go_sem,seval]
  refine hK _ (Aw_ret (hR1 _ (hQ _ ?_)))
  simp only [go_sem,seval]
 refine Aw_skip (hB1 _ ?_)
 refine Aw_st hE [1,5,6] [70] fun K hK=>?_
 simp only [go_sem,seval]
 refine ⟨dne_pre bs hbs,fun R x hR hx1 hx2=>?_⟩
 have hbR:=okRl_big hR
 have hbE:=endR_bw (R:=R) (x:=x)
 have hbF:=(endR_big (R:=R) (x:=x)).1
 refine hK _ ?_;clear hK K
 refine Aw_st hE [1,5,6,7] [70] fun K hK=>?_
 simp only [go_sem,seval,hbR]
 repeat refine sd0 ?_
 refine hK _ ?_;clear hK K
 refine Aw_sq fun B3 hB3 hR3 hX3=>?_
 by_cases hn:(endR R x).length=0
 ·have hz:decide (((endR R x).length:Int)=0)=true:=decide_eq_true (by omega)
  refine Aw_st hE [1,5,6,7,46] [70] fun K hK=>?_
  simp only [go_sem,seval,hbR,hbE,hz,decide_true,Bool.not_true,Bool.not_false]
  refine hK _ (Aw_yes rfl ?_)
  refine Aw_st hE [4] [70] fun K hK=>?_
  simp only [go_sem,seval,hbR,hbE,decide_true]
  repeat (refine And.intro (by first | omega | assumption | (and_intros<;>first | omega | assumption | decide) | fail) ?_)
  refine hK _ (Aw_ret (hR3 _ (hQ _ ?_)))
  simp only [go_sem,seval]
 have hz:decide (((endR R x).length:Int)=0)=false:=decide_eq_false (by omega)
 cases hf:(ordR R).isSome with
 | false =>
  refine Aw_st hE [1,5,6,7,46] [70] fun K hK=>?_
  simp only [go_sem,seval,hbR,hbE,hz,hf,decide_true,Bool.not_true,Bool.not_false]
  refine hK _ (Aw_yes rfl ?_)
  refine Aw_st hE [4] [70] fun K hK=>?_
  simp only [go_sem,seval,hbR,hbE,decide_true]
  repeat (refine And.intro (by first | omega | assumption | (and_intros<;>first | omega | assumption | decide) | fail) ?_)
  refine hK _ (Aw_ret (hR3 _ (hQ _ ?_)))
  simp only [go_sem,seval]
 | true =>
  have F:=freeR_of hn hf
  have hok:=F.ok
  have hlen:=F.len
  have hn5:=F.n5
  have hhome:=F.home
  refine Aw_st hE [1,5,6,7,46] [70] fun K hK=>?_
  simp only [go_sem,seval,hbR,hbE,hz,hf,decide_true,Bool.not_true,Bool.not_false]
  refine hK _ (Aw_no rfl (Aw_skip (hB3 _ ?_)))
  have hn1:1≤R.length:=by have:=hhome.1;have:=hhome.2;omega
  have bl:(byteRows b2).length=b2.length:=byteRows_len b2
  have hl2:b2.length≤1048576:=by simp only [dfn] at hc4;omega
  have m1:(b2.length:Int).tmod (R.length:Int)=((b2.length % R.length:Nat):Int):=tmod_c _ _
  have q1:(b2.length:Int).tdiv 5=((b2.length / 5:Nat):Int):=(Int.ofNat_tdiv b2.length 5).symm
  have m2:((b2.length / 5:Nat):Int).tmod (R.length:Int)=((b2.length / 5 % R.length:Nat):Int):=tmod_c _ _
  have z1:=Nat.mod_lt b2.length (show 0 < R.length by omega)
  have z2:=Nat.mod_lt (b2.length / 5) (show 0 < R.length by omega)
  refine Aw_st hE [1,5,6,7,8] [70] fun K hK=>?_
  simp only [go_sem,seval,bl,m1]
  repeat refine sd0 ?_
  refine hK _ ?_;clear hK K
  refine Aw_st hE [5,6,7,8,9] [70] fun K hK=>?_
  simp only [go_sem,seval,bl,q1,m2]
  repeat refine sd0 ?_
  refine hK _ ?_;clear hK K
  obtain ⟨a,ha⟩:∃ a:Int,a=1 + ((b2.length % R.length:Nat):Int):=⟨_,rfl⟩
  obtain ⟨b,hb⟩:∃ b:Int,b=1 + ((b2.length / 5 % R.length:Nat):Int):=⟨_,rfl⟩
  rw [← ha,← hb]
  have hai:hI R.length a:=⟨by omega,by omega⟩
  have hbi:hI R.length b:=⟨by omega,by omega⟩
  refine Aw_sq fun B10 hB10 hR10 hX10=>?_
  by_cases hr:ofR R a b=2
  rotate_left
  ·have d2:decide (ofR R a b=2)=false:=decide_eq_false hr
   refine Aw_st hE [5,6,7,8,9,69] [70] fun K hK=>?_
   simp only [go_sem,seval,hbR,hok,d2,Bool.not_false]
   refine hK _ (Aw_yes rfl ?_)
   refine Aw_st hE [4] [70] fun K hK=>?_
   simp only [go_sem,seval]
   refine hK _ (Aw_ret (hR10 _ (hQ _ ?_)))
   simp only [go_sem,seval]
  have d2:decide (ofR R a b=2)=true:=decide_eq_true hr
  have hab:a≠b:=fun e=>by
   have:=F.H.irr a hai
   rw [← e] at hr
   omega
  refine Aw_st hE [5,6,7,8,9,69] [70] fun K hK=>?_
  simp only [go_sem,seval,hbR,hok,d2,Bool.not_true]
  refine hK _ (Aw_no rfl (Aw_skip (hB10 _ ?_)))
  refine Aw_st hE [5,6,7,8,9,10] [70] fun K hK=>?_
  simp only [go_sem,seval]
  refine hK _ ?_;clear hK K
  obtain ⟨F',hsame⟩:=relCut_free F hai hbi hr
  have hok':=F'.ok
  have hL:(cutL R (a - 1).toNat (b - 1).toNat).length=R.length:=cutL_len
  have hbL:bigM (cutL R (a - 1).toNat (b - 1).toNat):=⟨by omega,fun w hw=>by have:=(relsOk_iff.1 hok').2.1 w hw;omega⟩
  have hbF':=(endR_big (R:=cutL R (a - 1).toNat (b - 1).toNat) (x:=x)).1
  obtain ⟨e1,e2⟩:=endStill_plain F'
  have hlen':=F'.len
  have key:Aw E (seqB (seqB (seqB (seqB (seqB (seqB (seqB (seqB (seqB (seqB (seqB (seqB (Tryd.f9.body.getD .skip))))))))))))) ⟨142,[(5,wsl R),(6,iv x),(7,wsl (endR R x)),(10,wsl (cutL R (a - 1).toNat (b - 1).toNat))],[],k⟩ Q:=by
   generalize cutL R (a - 1).toNat (b - 1).toNat=L at F' hsame hok' hL hbL hbF' e1 e2 hlen'
   refine Aw_st hE [5,6,7,10,12] [70] fun K hK=>?_
   simp only [go_sem,seval,hbL]
   refine hK _ ?_;clear hK K
   refine Aw_sq fun B19 hB19 hR19 hX19=>?_
   refine Aw_st hE [5,6,7,10,12,13] [70] fun K hK=>?_
   simp only [go_sem,seval]
   refine hK _ ?_;clear hK K
   refine Aw_bk fun B20 hN20 hE20 hR20 hX20=>?_
   refine Aw_lp (fun i:Nat=>⟨142,[(5,wsl R),(6,iv x),(7,wsl (endR R x)),(10,wsl L),(12,wsl (endR L x)),(13,iv ((i:Int) + 1))],[],k⟩) (fun i=>i≤R.length) (fun i=>R.length - i) 0 (Le_wa) (by omega) fun i hi B21 hN21 hR21 hX21=>?_
   refine Aw_sq fun B22 hB22 hR22 hX22=>?_
   refine Aw_st hE [5,6,7,10,12,13,108] [70] fun K hK=>?_
   simp only [go_sem,seval]
   refine hK _ (Aw_cond rfl (fun hc23=>?_) (fun hc23=>?_))
   ·simp only [dte] at hc23
    have hil:i < R.length:=by omega
    have hg:=wrows_get (endR R x) i (by omega)
    have hi1:((i:Int) + 1 - 1).toNat=i:=by omega
    have hwl:((endR R x).getD i []).length≤4294967296:=by have:=hbF.2 _ (getD_memL (endR R x) i (by omega));omega
    refine Aw_skip (hB22 _ ?_)
    refine Aw_sq fun B24 hB24 hR24 hX24=>?_
    refine Aw_bk fun B25 hN25 hE25 hR25 hX25=>?_
    refine Aw_st hE [5,6,7,10,12,13,14] [70] fun K hK=>?_
    simp only [go_sem,seval,hi1,hg]
    repeat refine sd0 ?_
    refine hK _ ?_;clear hK K
    by_cases hl:1 < ((endR R x).getD i []).length
    ·have dl:decide ((1:Int) < (((endR R x).getD i []).length:Int))=true:=decide_eq_true (by omega)
     have hr1:=rows_get ((endR R x).getD i []) 1 hl
     by_cases er:ofR R ((i:Int) + 1) (((endR R x).getD i []).getD 1 0)=1
     ·have dr:decide (ofR R ((i:Int) + 1) (((endR R x).getD i []).getD 1 0)=1)=true:=decide_eq_true er
      have hg2:=wrows_get (endR L x) i (by omega)
      rw [hsame i hil hl er] at hg2
      refine Aw_st hE [5,6,7,10,12,13,137] [70] fun K hK=>?_
      simp only [go_sem,seval,dl,hr1,hbR,hok,dr,hi1,hg2,hwl,decide_true,Bool.not_true]
      repeat refine sd0 ?_
      refine hK _ (Aw_no rfl ?_)
      refine Aw_skip (hN25 _ (hB24 _ ?_))
      refine Aw_tx hE [5,6,7,10,12,13] [70] fun K hK=>?_
      simp only [go_sem,seval]
      repeat refine sd0 ?_
      refine hK _ (hN21 (i + 1) _ (by omega) (by omega) (Le_wb (by simp only [go_sem,seval,Int.natCast_add,Int.natCast_one])))
     ·have dr:decide (ofR R ((i:Int) + 1) (((endR R x).getD i []).getD 1 0)=1)=false:=decide_eq_false er
      refine Aw_st hE [5,6,7,10,12,13,137] [70] fun K hK=>?_
      simp only [go_sem,seval,dl,hr1,hbR,hok,dr]
      repeat refine sd0 ?_
      refine hK _ (Aw_no rfl ?_)
      refine Aw_skip (hN25 _ (hB24 _ ?_))
      refine Aw_tx hE [5,6,7,10,12,13] [70] fun K hK=>?_
      simp only [go_sem,seval]
      repeat refine sd0 ?_
      refine hK _ (hN21 (i + 1) _ (by omega) (by omega) (Le_wb (by simp only [go_sem,seval,Int.natCast_add,Int.natCast_one])))
    ·have dl:decide ((1:Int) < (((endR R x).getD i []).length:Int))=false:=decide_eq_false (by omega)
     refine Aw_st hE [5,6,7,10,12,13,137] [70] fun K hK=>?_
     simp only [go_sem,seval,dl]
     repeat refine sd0 ?_
     refine hK _ (Aw_no rfl ?_)
     refine Aw_skip (hN25 _ (hB24 _ ?_))
     refine Aw_tx hE [5,6,7,10,12,13] [70] fun K hK=>?_
     simp only [go_sem,seval]
     repeat refine sd0 ?_
     refine hK _ (hN21 (i + 1) _ (by omega) (by omega) (Le_wb (by simp only [go_sem,seval,Int.natCast_add,Int.natCast_one])))
   ·refine Aw_exit (hX22 _ _ (hX21 _ _ (hE20 _ (hB19 _ ?_))))
    refine Aw_st hE [4] [70] fun K hK=>?_
    simp only [go_sem,seval,hbL,hbF',e1,e2,Bool.and_self]
    repeat (refine And.intro (by first | omega | assumption | (and_intros<;>first | omega | assumption | decide) | fail) ?_)
    refine hK _ (Aw_ret (hQ _ ?_))
    simp only [go_sem,seval]
  have hn2:2≤R.length:=by have:=hai.1;have:=hai.2;have:=hbi.1;have:=hbi.2;omega
  have hsq:=sq_of hok
  obtain ⟨a1,a2⟩:=hai
  obtain ⟨b1,b2⟩:=hbi
  rcases (show R.length=2∨R.length=3∨R.length=4∨R.length=5 by omega) with hn | hn | hn | hn
  ·exact cutA2 hE hn (by rw [hn] at hsq;exact hsq) a1 (by omega) b1 (by omega) hab key
  ·exact cutA3 hE hn (by rw [hn] at hsq;exact hsq) a1 (by omega) b1 (by omega) hab key
  ·exact cutA4 hE hn (by rw [hn] at hsq;exact hsq) a1 (by omega) b1 (by omega) hab key
  ·exact cutA5 hE hn (by rw [hn] at hsq;exact hsq) a1 (by omega) b1 (by omega) hab key
end Go.Proofs.W
end
