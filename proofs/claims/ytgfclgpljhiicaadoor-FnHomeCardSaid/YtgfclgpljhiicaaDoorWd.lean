/- YtgfclgpljhiicaaDoorWd: part of the proof that laws hold, for every input that the row speaks of (no condition of ours). -/
import Derived.Test.YtgfclgpljhiicaaDoorWc
import Derived.Test.YtgfclgpljhiicaaDoorWa
import Derived.Test.YtgfclgpljhiicaaDoorWb
import Derived.Test.YtgfclgpljhiicaaDoorEc
set_option linter.unusedVariables false
set_option linter.unusedSimpArgs false
section
namespace Go.Proofs.W
open Go Go.Eng Go.RowKit
set_option maxRecDepth 100000
theorem relsA2 {E:En} (hE:TbOk E tbRels) {k:Nat} (hk:k + 40≤1099511627776) {Q:Exit→St→Prop} (hQ:∀ (L:List (List Int)) (rn:Nat),(2≤L.length∧L.length≤5)→(∀ w ∈ L,w.length=L.length)→rn≤k + 40→Aw E .ret ⟨111,[(2,wsl L)],[],rn⟩ Q):Aw E (seqB (seqB (seqB (Tryd.f30.body.getD .skip)))) ⟨111,[(0,.rd),(3,iv 2),(4,.xs 17 0 0 0 1)],[(17,[])],k + 1⟩ Q:=by
 refine Aw_sq fun B1 hB1 hR1 hX1=>?_
 refine Aw_st hE [0,3,4,5] [17,25,27,700,701,710,711,712,713,714,720,721,722,723,724] fun K hK=>?_
 simp only [go_sem,seval]
 refine hK _ ?_;clear hK K
 refine Aw_bk fun B2 hN2 hE2 hR2 hX2=>?_
 refine Aw_lp (fun i:Nat × Nat=>⟨111,[(0,.rd),(3,iv 2),(4,.xs 700 0 i.1 (i.2 + i.1) 1),(5,iv (i.1:Int))],(700,vws 2 (fun _=>0) 710 i.1++jN i.2)::bxs 2 (fun _=>0) (fun _=>List.replicate 2 0) 710 i.1,k + 1⟩) (fun i=>i.1≤2) (fun i=>2 - i.1) (0,0) ?_ (by omega) fun i hi B3 hN3 hR3 hX3=>?_
 ·refine (Le_swb _ 17 700 (by decide) (by decide)).trans ?_
  simp only [St.swb,swbσ,swbm,AV.swb,AV.swbAll,swp,jN_swb,row_swb,Nat.reduceEqDiff,if_true,if_false,reduceIte]
  exact Le_wa
 obtain ⟨i,c⟩:=i
 simp only at hi
 refine Aw_sq fun B4 hB4 hR4 hX4=>?_
 rcases (show i=2∨i=0∨i=1 by omega) with rfl | rfl | rfl
 ·refine Aw_st hE [0,3,4,5,20] [17,25,27,700,701,710,711,712,713,714,720,721,722,723,724] fun K hK=>?_
  simp only [go_sem,seval]
  refine hK _ (Aw_no rfl (Aw_exit (hX4 _ _ (hX3 _ _ (hE2 _ (hB1 _ ?_))))))
  refine Aw.leE (LeE_of (show Le _ ⟨111,[(0,.rd),(3,iv 2),(4,.xs 700 0 2 (c + 2) 1)],(700,vws 2 (fun _=>0) 710 2++jN c)::bxs 2 (fun _=>0) (fun _=>List.replicate 2 0) 710 2,k + 1⟩ from Le_wa)) (relsB2 hE hk hQ (fun _=>rfl))
 ·refine Aw_st hE [0,3,4,5,20] [17,25,27,700,701,710,711,712,713,714,720,721,722,723,724] fun K hK=>?_
  simp only [go_sem,seval]
  refine hK _ (Aw_yes rfl (Aw_skip (hB4 _ ?_)))
  refine Aw_sq fun B6 hB6 hR6 hX6=>?_
  refine Aw_bk fun B7 hN7 hE7 hR7 hX7=>?_
  refine Aw_tx hE [0,3,4,5] [17,25,27,700,701,710,711,712,713,714,720,721,722,723,724] fun K hK=>?_
  simp only [go_sem,seval,List.flatten_cons,List.flatten_nil,List.cons_append,List.nil_append]
  refine ⟨fun h=>?_,fun h cap' hcap'=>?_⟩
  ·obtain ⟨c1,rfl⟩:∃ c1,c=c1 + 1:=⟨c - 1,by omega⟩
   simp only [jN_s,List.set_cons_zero]
   refine hK _ (hN7 _ (hB6 _ ?_))
   refine Aw_tx hE [0,3,4,5] [17,25,27,700,701,710,711,712,713,714,720,721,722,723,724] fun K hK=>?_
   simp only [go_sem,seval]
   repeat refine sd0 ?_
   refine hK _ (hN3 (1,c1) _ (by omega) (by simp only;omega) ?_)
   refine (Le_swb _ 25 710 (by decide) (by decide)).trans ?_
   simp only [St.swb,swbσ,swbm,AV.swb,AV.swbAll,swp,jN_swb,row_swb,Nat.reduceEqDiff,if_true,if_false,reduceIte]
   exact Le_wb (by simp only [go_sem,seval,Nat.add_assoc])
  ·obtain ⟨c1,rfl⟩:∃ c1,cap'=c1 + 1:=⟨cap' - 1,by omega⟩
   rw [Nat.add_sub_cancel]
   refine hK _ (hN7 _ (hB6 _ ?_))
   refine Aw_tx hE [0,3,4,5] [17,25,27,700,701,710,711,712,713,714,720,721,722,723,724] fun K hK=>?_
   simp only [go_sem,seval]
   repeat refine sd0 ?_
   refine hK _ (hN3 (1,c1) _ (by omega) (by simp only;omega) ?_)
   refine (Le_swb _ 25 710 (by decide) (by decide)).trans ?_
   simp only [St.swb,swbσ,swbm,AV.swb,AV.swbAll,swp,jN_swb,row_swb,Nat.reduceEqDiff,if_true,if_false,reduceIte]
   refine (Le_swb _ 27 700 (by decide) (by decide)).trans ?_
   simp only [St.swb,swbσ,swbm,AV.swb,AV.swbAll,swp,jN_swb,row_swb,Nat.reduceEqDiff,if_true,if_false,reduceIte]
   exact Le_wb (by simp only [go_sem,seval,Nat.add_assoc])
 ·refine Aw_st hE [0,3,4,5,20] [17,25,27,700,701,710,711,712,713,714,720,721,722,723,724] fun K hK=>?_
  simp only [go_sem,seval]
  refine hK _ (Aw_yes rfl (Aw_skip (hB4 _ ?_)))
  refine Aw_sq fun B6 hB6 hR6 hX6=>?_
  refine Aw_bk fun B7 hN7 hE7 hR7 hX7=>?_
  refine Aw_tx hE [0,3,4,5] [17,25,27,700,701,710,711,712,713,714,720,721,722,723,724] fun K hK=>?_
  simp only [go_sem,seval,List.flatten_cons,List.flatten_nil,List.cons_append,List.nil_append]
  refine ⟨fun h=>?_,fun h cap' hcap'=>?_⟩
  ·obtain ⟨c1,rfl⟩:∃ c1,c=c1 + 1:=⟨c - 1,by omega⟩
   simp only [jN_s,List.set_cons_zero]
   refine hK _ (hN7 _ (hB6 _ ?_))
   refine Aw_tx hE [0,3,4,5] [17,25,27,700,701,710,711,712,713,714,720,721,722,723,724] fun K hK=>?_
   simp only [go_sem,seval]
   repeat refine sd0 ?_
   refine hK _ (hN3 (2,c1) _ (by omega) (by simp only;omega) ?_)
   refine (Le_swb _ 25 711 (by decide) (by decide)).trans ?_
   simp only [St.swb,swbσ,swbm,AV.swb,AV.swbAll,swp,jN_swb,row_swb,Nat.reduceEqDiff,if_true,if_false,reduceIte]
   exact Le_wb (by simp only [go_sem,seval,Nat.add_assoc])
  ·obtain ⟨c1,rfl⟩:∃ c1,cap'=c1 + 2:=⟨cap' - 2,by omega⟩
   rw [Nat.add_sub_cancel]
   refine hK _ (hN7 _ (hB6 _ ?_))
   refine Aw_tx hE [0,3,4,5] [17,25,27,700,701,710,711,712,713,714,720,721,722,723,724] fun K hK=>?_
   simp only [go_sem,seval]
   repeat refine sd0 ?_
   refine hK _ (hN3 (2,c1) _ (by omega) (by simp only;omega) ?_)
   refine (Le_swb _ 25 711 (by decide) (by decide)).trans ?_
   simp only [St.swb,swbσ,swbm,AV.swb,AV.swbAll,swp,jN_swb,row_swb,Nat.reduceEqDiff,if_true,if_false,reduceIte]
   refine (Le_swb _ 27 700 (by decide) (by decide)).trans ?_
   simp only [St.swb,swbσ,swbm,AV.swb,AV.swbAll,swp,jN_swb,row_swb,Nat.reduceEqDiff,if_true,if_false,reduceIte]
   exact Le_wb (by simp only [go_sem,seval,Nat.add_assoc])
set_option maxHeartbeats 16000000 in
theorem relsA3 {E:En} (hE:TbOk E tbRels) {k:Nat} (hk:k + 40≤1099511627776) {Q:Exit→St→Prop} (hQ:∀ (L:List (List Int)) (rn:Nat),(2≤L.length∧L.length≤5)→(∀ w ∈ L,w.length=L.length)→rn≤k + 40→Aw E .ret ⟨111,[(2,wsl L)],[],rn⟩ Q):Aw E (seqB (seqB (seqB (Tryd.f30.body.getD .skip)))) ⟨111,[(0,.rd),(3,iv 3),(4,.xs 17 0 0 0 1)],[(17,[])],k + 1⟩ Q:=by
 refine Aw_sq fun B1 hB1 hR1 hX1=>?_
 refine Aw_st hE [0,3,4,5] [17,25,27,700,701,710,711,712,713,714,720,721,722,723,724] fun K hK=>?_
 simp only [go_sem,seval]
 refine hK _ ?_;clear hK K
 refine Aw_bk fun B2 hN2 hE2 hR2 hX2=>?_
 refine Aw_lp (fun i:Nat × Nat=>⟨111,[(0,.rd),(3,iv 3),(4,.xs 700 0 i.1 (i.2 + i.1) 1),(5,iv (i.1:Int))],(700,vws 3 (fun _=>0) 710 i.1++jN i.2)::bxs 3 (fun _=>0) (fun _=>List.replicate 3 0) 710 i.1,k + 1⟩) (fun i=>i.1≤3) (fun i=>3 - i.1) (0,0) ?_ (by omega) fun i hi B3 hN3 hR3 hX3=>?_
 ·refine (Le_swb _ 17 700 (by decide) (by decide)).trans ?_
  simp only [St.swb,swbσ,swbm,AV.swb,AV.swbAll,swp,jN_swb,row_swb,Nat.reduceEqDiff,if_true,if_false,reduceIte]
  exact Le_wa
 obtain ⟨i,c⟩:=i
 simp only at hi
 refine Aw_sq fun B4 hB4 hR4 hX4=>?_
 rcases (show i=3∨i=0∨i=1∨i=2 by omega) with rfl | rfl | rfl | rfl
 ·refine Aw_st hE [0,3,4,5,20] [17,25,27,700,701,710,711,712,713,714,720,721,722,723,724] fun K hK=>?_
  simp only [go_sem,seval]
  refine hK _ (Aw_no rfl (Aw_exit (hX4 _ _ (hX3 _ _ (hE2 _ (hB1 _ ?_))))))
  refine Aw.leE (LeE_of (show Le _ ⟨111,[(0,.rd),(3,iv 3),(4,.xs 700 0 3 (c + 3) 1)],(700,vws 3 (fun _=>0) 710 3++jN c)::bxs 3 (fun _=>0) (fun _=>List.replicate 3 0) 710 3,k + 1⟩ from Le_wa)) (relsB3 hE hk hQ (fun _=>rfl))
 ·refine Aw_st hE [0,3,4,5,20] [17,25,27,700,701,710,711,712,713,714,720,721,722,723,724] fun K hK=>?_
  simp only [go_sem,seval]
  refine hK _ (Aw_yes rfl (Aw_skip (hB4 _ ?_)))
  refine Aw_sq fun B6 hB6 hR6 hX6=>?_
  refine Aw_bk fun B7 hN7 hE7 hR7 hX7=>?_
  refine Aw_tx hE [0,3,4,5] [17,25,27,700,701,710,711,712,713,714,720,721,722,723,724] fun K hK=>?_
  simp only [go_sem,seval,List.flatten_cons,List.flatten_nil,List.cons_append,List.nil_append]
  refine ⟨fun h=>?_,fun h cap' hcap'=>?_⟩
  ·obtain ⟨c1,rfl⟩:∃ c1,c=c1 + 1:=⟨c - 1,by omega⟩
   simp only [jN_s,List.set_cons_zero]
   refine hK _ (hN7 _ (hB6 _ ?_))
   refine Aw_tx hE [0,3,4,5] [17,25,27,700,701,710,711,712,713,714,720,721,722,723,724] fun K hK=>?_
   simp only [go_sem,seval]
   repeat refine sd0 ?_
   refine hK _ (hN3 (1,c1) _ (by omega) (by simp only;omega) ?_)
   refine (Le_swb _ 25 710 (by decide) (by decide)).trans ?_
   simp only [St.swb,swbσ,swbm,AV.swb,AV.swbAll,swp,jN_swb,row_swb,Nat.reduceEqDiff,if_true,if_false,reduceIte]
   exact Le_wb (by simp only [go_sem,seval,Nat.add_assoc])
  ·obtain ⟨c1,rfl⟩:∃ c1,cap'=c1 + 1:=⟨cap' - 1,by omega⟩
   rw [Nat.add_sub_cancel]
   refine hK _ (hN7 _ (hB6 _ ?_))
   refine Aw_tx hE [0,3,4,5] [17,25,27,700,701,710,711,712,713,714,720,721,722,723,724] fun K hK=>?_
   simp only [go_sem,seval]
   repeat refine sd0 ?_
   refine hK _ (hN3 (1,c1) _ (by omega) (by simp only;omega) ?_)
   refine (Le_swb _ 25 710 (by decide) (by decide)).trans ?_
   simp only [St.swb,swbσ,swbm,AV.swb,AV.swbAll,swp,jN_swb,row_swb,Nat.reduceEqDiff,if_true,if_false,reduceIte]
   refine (Le_swb _ 27 700 (by decide) (by decide)).trans ?_
   simp only [St.swb,swbσ,swbm,AV.swb,AV.swbAll,swp,jN_swb,row_swb,Nat.reduceEqDiff,if_true,if_false,reduceIte]
   exact Le_wb (by simp only [go_sem,seval,Nat.add_assoc])
 ·refine Aw_st hE [0,3,4,5,20] [17,25,27,700,701,710,711,712,713,714,720,721,722,723,724] fun K hK=>?_
  simp only [go_sem,seval]
  refine hK _ (Aw_yes rfl (Aw_skip (hB4 _ ?_)))
  refine Aw_sq fun B6 hB6 hR6 hX6=>?_
  refine Aw_bk fun B7 hN7 hE7 hR7 hX7=>?_
  refine Aw_tx hE [0,3,4,5] [17,25,27,700,701,710,711,712,713,714,720,721,722,723,724] fun K hK=>?_
  simp only [go_sem,seval,List.flatten_cons,List.flatten_nil,List.cons_append,List.nil_append]
  refine ⟨fun h=>?_,fun h cap' hcap'=>?_⟩
  ·obtain ⟨c1,rfl⟩:∃ c1,c=c1 + 1:=⟨c - 1,by omega⟩
   simp only [jN_s,List.set_cons_zero]
   refine hK _ (hN7 _ (hB6 _ ?_))
   refine Aw_tx hE [0,3,4,5] [17,25,27,700,701,710,711,712,713,714,720,721,722,723,724] fun K hK=>?_
   simp only [go_sem,seval]
   repeat refine sd0 ?_
   refine hK _ (hN3 (2,c1) _ (by omega) (by simp only;omega) ?_)
   refine (Le_swb _ 25 711 (by decide) (by decide)).trans ?_
   simp only [St.swb,swbσ,swbm,AV.swb,AV.swbAll,swp,jN_swb,row_swb,Nat.reduceEqDiff,if_true,if_false,reduceIte]
   exact Le_wb (by simp only [go_sem,seval,Nat.add_assoc])
  ·obtain ⟨c1,rfl⟩:∃ c1,cap'=c1 + 2:=⟨cap' - 2,by omega⟩
   rw [Nat.add_sub_cancel]
   refine hK _ (hN7 _ (hB6 _ ?_))
   refine Aw_tx hE [0,3,4,5] [17,25,27,700,701,710,711,712,713,714,720,721,722,723,724] fun K hK=>?_
   simp only [go_sem,seval]
   repeat refine sd0 ?_
   refine hK _ (hN3 (2,c1) _ (by omega) (by simp only;omega) ?_)
   refine (Le_swb _ 25 711 (by decide) (by decide)).trans ?_
   simp only [St.swb,swbσ,swbm,AV.swb,AV.swbAll,swp,jN_swb,row_swb,Nat.reduceEqDiff,if_true,if_false,reduceIte]
   refine (Le_swb _ 27 700 (by decide) (by decide)).trans ?_
   simp only [St.swb,swbσ,swbm,AV.swb,AV.swbAll,swp,jN_swb,row_swb,Nat.reduceEqDiff,if_true,if_false,reduceIte]
   exact Le_wb (by simp only [go_sem,seval,Nat.add_assoc])
 ·refine Aw_st hE [0,3,4,5,20] [17,25,27,700,701,710,711,712,713,714,720,721,722,723,724] fun K hK=>?_
  simp only [go_sem,seval]
  refine hK _ (Aw_yes rfl (Aw_skip (hB4 _ ?_)))
  refine Aw_sq fun B6 hB6 hR6 hX6=>?_
  refine Aw_bk fun B7 hN7 hE7 hR7 hX7=>?_
  refine Aw_tx hE [0,3,4,5] [17,25,27,700,701,710,711,712,713,714,720,721,722,723,724] fun K hK=>?_
  simp only [go_sem,seval,List.flatten_cons,List.flatten_nil,List.cons_append,List.nil_append]
  refine ⟨fun h=>?_,fun h cap' hcap'=>?_⟩
  ·obtain ⟨c1,rfl⟩:∃ c1,c=c1 + 1:=⟨c - 1,by omega⟩
   simp only [jN_s,List.set_cons_zero]
   refine hK _ (hN7 _ (hB6 _ ?_))
   refine Aw_tx hE [0,3,4,5] [17,25,27,700,701,710,711,712,713,714,720,721,722,723,724] fun K hK=>?_
   simp only [go_sem,seval]
   repeat refine sd0 ?_
   refine hK _ (hN3 (3,c1) _ (by omega) (by simp only;omega) ?_)
   refine (Le_swb _ 25 712 (by decide) (by decide)).trans ?_
   simp only [St.swb,swbσ,swbm,AV.swb,AV.swbAll,swp,jN_swb,row_swb,Nat.reduceEqDiff,if_true,if_false,reduceIte]
   exact Le_wb (by simp only [go_sem,seval,Nat.add_assoc])
  ·obtain ⟨c1,rfl⟩:∃ c1,cap'=c1 + 3:=⟨cap' - 3,by omega⟩
   rw [Nat.add_sub_cancel]
   refine hK _ (hN7 _ (hB6 _ ?_))
   refine Aw_tx hE [0,3,4,5] [17,25,27,700,701,710,711,712,713,714,720,721,722,723,724] fun K hK=>?_
   simp only [go_sem,seval]
   repeat refine sd0 ?_
   refine hK _ (hN3 (3,c1) _ (by omega) (by simp only;omega) ?_)
   refine (Le_swb _ 25 712 (by decide) (by decide)).trans ?_
   simp only [St.swb,swbσ,swbm,AV.swb,AV.swbAll,swp,jN_swb,row_swb,Nat.reduceEqDiff,if_true,if_false,reduceIte]
   refine (Le_swb _ 27 700 (by decide) (by decide)).trans ?_
   simp only [St.swb,swbσ,swbm,AV.swb,AV.swbAll,swp,jN_swb,row_swb,Nat.reduceEqDiff,if_true,if_false,reduceIte]
   exact Le_wb (by simp only [go_sem,seval,Nat.add_assoc])
set_option maxHeartbeats 16000000 in
theorem relsA4 {E:En} (hE:TbOk E tbRels) {k:Nat} (hk:k + 40≤1099511627776) {Q:Exit→St→Prop} (hQ:∀ (L:List (List Int)) (rn:Nat),(2≤L.length∧L.length≤5)→(∀ w ∈ L,w.length=L.length)→rn≤k + 40→Aw E .ret ⟨111,[(2,wsl L)],[],rn⟩ Q):Aw E (seqB (seqB (seqB (Tryd.f30.body.getD .skip)))) ⟨111,[(0,.rd),(3,iv 4),(4,.xs 17 0 0 0 1)],[(17,[])],k + 1⟩ Q:=by
 refine Aw_sq fun B1 hB1 hR1 hX1=>?_
 refine Aw_st hE [0,3,4,5] [17,25,27,700,701,710,711,712,713,714,720,721,722,723,724] fun K hK=>?_
 simp only [go_sem,seval]
 refine hK _ ?_;clear hK K
 refine Aw_bk fun B2 hN2 hE2 hR2 hX2=>?_
 refine Aw_lp (fun i:Nat × Nat=>⟨111,[(0,.rd),(3,iv 4),(4,.xs 700 0 i.1 (i.2 + i.1) 1),(5,iv (i.1:Int))],(700,vws 4 (fun _=>0) 710 i.1++jN i.2)::bxs 4 (fun _=>0) (fun _=>List.replicate 4 0) 710 i.1,k + 1⟩) (fun i=>i.1≤4) (fun i=>4 - i.1) (0,0) ?_ (by omega) fun i hi B3 hN3 hR3 hX3=>?_
 ·refine (Le_swb _ 17 700 (by decide) (by decide)).trans ?_
  simp only [St.swb,swbσ,swbm,AV.swb,AV.swbAll,swp,jN_swb,row_swb,Nat.reduceEqDiff,if_true,if_false,reduceIte]
  exact Le_wa
 obtain ⟨i,c⟩:=i
 simp only at hi
 refine Aw_sq fun B4 hB4 hR4 hX4=>?_
 rcases (show i=4∨i=0∨i=1∨i=2∨i=3 by omega) with rfl | rfl | rfl | rfl | rfl
 ·refine Aw_st hE [0,3,4,5,20] [17,25,27,700,701,710,711,712,713,714,720,721,722,723,724] fun K hK=>?_
  simp only [go_sem,seval]
  refine hK _ (Aw_no rfl (Aw_exit (hX4 _ _ (hX3 _ _ (hE2 _ (hB1 _ ?_))))))
  refine Aw.leE (LeE_of (show Le _ ⟨111,[(0,.rd),(3,iv 4),(4,.xs 700 0 4 (c + 4) 1)],(700,vws 4 (fun _=>0) 710 4++jN c)::bxs 4 (fun _=>0) (fun _=>List.replicate 4 0) 710 4,k + 1⟩ from Le_wa)) (relsB4 hE hk hQ (fun _=>rfl))
 ·refine Aw_st hE [0,3,4,5,20] [17,25,27,700,701,710,711,712,713,714,720,721,722,723,724] fun K hK=>?_
  simp only [go_sem,seval]
  refine hK _ (Aw_yes rfl (Aw_skip (hB4 _ ?_)))
  refine Aw_sq fun B6 hB6 hR6 hX6=>?_
  refine Aw_bk fun B7 hN7 hE7 hR7 hX7=>?_
  refine Aw_tx hE [0,3,4,5] [17,25,27,700,701,710,711,712,713,714,720,721,722,723,724] fun K hK=>?_
  simp only [go_sem,seval,List.flatten_cons,List.flatten_nil,List.cons_append,List.nil_append]
  refine ⟨fun h=>?_,fun h cap' hcap'=>?_⟩
  ·obtain ⟨c1,rfl⟩:∃ c1,c=c1 + 1:=⟨c - 1,by omega⟩
   simp only [jN_s,List.set_cons_zero]
   refine hK _ (hN7 _ (hB6 _ ?_))
   refine Aw_tx hE [0,3,4,5] [17,25,27,700,701,710,711,712,713,714,720,721,722,723,724] fun K hK=>?_
   simp only [go_sem,seval]
   repeat refine sd0 ?_
   refine hK _ (hN3 (1,c1) _ (by omega) (by simp only;omega) ?_)
   refine (Le_swb _ 25 710 (by decide) (by decide)).trans ?_
   simp only [St.swb,swbσ,swbm,AV.swb,AV.swbAll,swp,jN_swb,row_swb,Nat.reduceEqDiff,if_true,if_false,reduceIte]
   exact Le_wb (by simp only [go_sem,seval,Nat.add_assoc])
  ·obtain ⟨c1,rfl⟩:∃ c1,cap'=c1 + 1:=⟨cap' - 1,by omega⟩
   rw [Nat.add_sub_cancel]
   refine hK _ (hN7 _ (hB6 _ ?_))
   refine Aw_tx hE [0,3,4,5] [17,25,27,700,701,710,711,712,713,714,720,721,722,723,724] fun K hK=>?_
   simp only [go_sem,seval]
   repeat refine sd0 ?_
   refine hK _ (hN3 (1,c1) _ (by omega) (by simp only;omega) ?_)
   refine (Le_swb _ 25 710 (by decide) (by decide)).trans ?_
   simp only [St.swb,swbσ,swbm,AV.swb,AV.swbAll,swp,jN_swb,row_swb,Nat.reduceEqDiff,if_true,if_false,reduceIte]
   refine (Le_swb _ 27 700 (by decide) (by decide)).trans ?_
   simp only [St.swb,swbσ,swbm,AV.swb,AV.swbAll,swp,jN_swb,row_swb,Nat.reduceEqDiff,if_true,if_false,reduceIte]
   exact Le_wb (by simp only [go_sem,seval,Nat.add_assoc])
 ·refine Aw_st hE [0,3,4,5,20] [17,25,27,700,701,710,711,712,713,714,720,721,722,723,724] fun K hK=>?_
  simp only [go_sem,seval]
  refine hK _ (Aw_yes rfl (Aw_skip (hB4 _ ?_)))
  refine Aw_sq fun B6 hB6 hR6 hX6=>?_
  refine Aw_bk fun B7 hN7 hE7 hR7 hX7=>?_
  refine Aw_tx hE [0,3,4,5] [17,25,27,700,701,710,711,712,713,714,720,721,722,723,724] fun K hK=>?_
  simp only [go_sem,seval,List.flatten_cons,List.flatten_nil,List.cons_append,List.nil_append]
  refine ⟨fun h=>?_,fun h cap' hcap'=>?_⟩
  ·obtain ⟨c1,rfl⟩:∃ c1,c=c1 + 1:=⟨c - 1,by omega⟩
   simp only [jN_s,List.set_cons_zero]
   refine hK _ (hN7 _ (hB6 _ ?_))
   refine Aw_tx hE [0,3,4,5] [17,25,27,700,701,710,711,712,713,714,720,721,722,723,724] fun K hK=>?_
   simp only [go_sem,seval]
   repeat refine sd0 ?_
   refine hK _ (hN3 (2,c1) _ (by omega) (by simp only;omega) ?_)
   refine (Le_swb _ 25 711 (by decide) (by decide)).trans ?_
   simp only [St.swb,swbσ,swbm,AV.swb,AV.swbAll,swp,jN_swb,row_swb,Nat.reduceEqDiff,if_true,if_false,reduceIte]
   exact Le_wb (by simp only [go_sem,seval,Nat.add_assoc])
  ·obtain ⟨c1,rfl⟩:∃ c1,cap'=c1 + 2:=⟨cap' - 2,by omega⟩
   rw [Nat.add_sub_cancel]
   refine hK _ (hN7 _ (hB6 _ ?_))
   refine Aw_tx hE [0,3,4,5] [17,25,27,700,701,710,711,712,713,714,720,721,722,723,724] fun K hK=>?_
   simp only [go_sem,seval]
   repeat refine sd0 ?_
   refine hK _ (hN3 (2,c1) _ (by omega) (by simp only;omega) ?_)
   refine (Le_swb _ 25 711 (by decide) (by decide)).trans ?_
   simp only [St.swb,swbσ,swbm,AV.swb,AV.swbAll,swp,jN_swb,row_swb,Nat.reduceEqDiff,if_true,if_false,reduceIte]
   refine (Le_swb _ 27 700 (by decide) (by decide)).trans ?_
   simp only [St.swb,swbσ,swbm,AV.swb,AV.swbAll,swp,jN_swb,row_swb,Nat.reduceEqDiff,if_true,if_false,reduceIte]
   exact Le_wb (by simp only [go_sem,seval,Nat.add_assoc])
 ·refine Aw_st hE [0,3,4,5,20] [17,25,27,700,701,710,711,712,713,714,720,721,722,723,724] fun K hK=>?_
  simp only [go_sem,seval]
  refine hK _ (Aw_yes rfl (Aw_skip (hB4 _ ?_)))
  refine Aw_sq fun B6 hB6 hR6 hX6=>?_
  refine Aw_bk fun B7 hN7 hE7 hR7 hX7=>?_
  refine Aw_tx hE [0,3,4,5] [17,25,27,700,701,710,711,712,713,714,720,721,722,723,724] fun K hK=>?_
  simp only [go_sem,seval,List.flatten_cons,List.flatten_nil,List.cons_append,List.nil_append]
  refine ⟨fun h=>?_,fun h cap' hcap'=>?_⟩
  ·obtain ⟨c1,rfl⟩:∃ c1,c=c1 + 1:=⟨c - 1,by omega⟩
   simp only [jN_s,List.set_cons_zero]
   refine hK _ (hN7 _ (hB6 _ ?_))
   refine Aw_tx hE [0,3,4,5] [17,25,27,700,701,710,711,712,713,714,720,721,722,723,724] fun K hK=>?_
   simp only [go_sem,seval]
   repeat refine sd0 ?_
   refine hK _ (hN3 (3,c1) _ (by omega) (by simp only;omega) ?_)
   refine (Le_swb _ 25 712 (by decide) (by decide)).trans ?_
   simp only [St.swb,swbσ,swbm,AV.swb,AV.swbAll,swp,jN_swb,row_swb,Nat.reduceEqDiff,if_true,if_false,reduceIte]
   exact Le_wb (by simp only [go_sem,seval,Nat.add_assoc])
  ·obtain ⟨c1,rfl⟩:∃ c1,cap'=c1 + 3:=⟨cap' - 3,by omega⟩
   rw [Nat.add_sub_cancel]
   refine hK _ (hN7 _ (hB6 _ ?_))
   refine Aw_tx hE [0,3,4,5] [17,25,27,700,701,710,711,712,713,714,720,721,722,723,724] fun K hK=>?_
   simp only [go_sem,seval]
   repeat refine sd0 ?_
   refine hK _ (hN3 (3,c1) _ (by omega) (by simp only;omega) ?_)
   refine (Le_swb _ 25 712 (by decide) (by decide)).trans ?_
   simp only [St.swb,swbσ,swbm,AV.swb,AV.swbAll,swp,jN_swb,row_swb,Nat.reduceEqDiff,if_true,if_false,reduceIte]
   refine (Le_swb _ 27 700 (by decide) (by decide)).trans ?_
   simp only [St.swb,swbσ,swbm,AV.swb,AV.swbAll,swp,jN_swb,row_swb,Nat.reduceEqDiff,if_true,if_false,reduceIte]
   exact Le_wb (by simp only [go_sem,seval,Nat.add_assoc])
 ·refine Aw_st hE [0,3,4,5,20] [17,25,27,700,701,710,711,712,713,714,720,721,722,723,724] fun K hK=>?_
  simp only [go_sem,seval]
  refine hK _ (Aw_yes rfl (Aw_skip (hB4 _ ?_)))
  refine Aw_sq fun B6 hB6 hR6 hX6=>?_
  refine Aw_bk fun B7 hN7 hE7 hR7 hX7=>?_
  refine Aw_tx hE [0,3,4,5] [17,25,27,700,701,710,711,712,713,714,720,721,722,723,724] fun K hK=>?_
  simp only [go_sem,seval,List.flatten_cons,List.flatten_nil,List.cons_append,List.nil_append]
  refine ⟨fun h=>?_,fun h cap' hcap'=>?_⟩
  ·obtain ⟨c1,rfl⟩:∃ c1,c=c1 + 1:=⟨c - 1,by omega⟩
   simp only [jN_s,List.set_cons_zero]
   refine hK _ (hN7 _ (hB6 _ ?_))
   refine Aw_tx hE [0,3,4,5] [17,25,27,700,701,710,711,712,713,714,720,721,722,723,724] fun K hK=>?_
   simp only [go_sem,seval]
   repeat refine sd0 ?_
   refine hK _ (hN3 (4,c1) _ (by omega) (by simp only;omega) ?_)
   refine (Le_swb _ 25 713 (by decide) (by decide)).trans ?_
   simp only [St.swb,swbσ,swbm,AV.swb,AV.swbAll,swp,jN_swb,row_swb,Nat.reduceEqDiff,if_true,if_false,reduceIte]
   exact Le_wb (by simp only [go_sem,seval,Nat.add_assoc])
  ·obtain ⟨c1,rfl⟩:∃ c1,cap'=c1 + 4:=⟨cap' - 4,by omega⟩
   rw [Nat.add_sub_cancel]
   refine hK _ (hN7 _ (hB6 _ ?_))
   refine Aw_tx hE [0,3,4,5] [17,25,27,700,701,710,711,712,713,714,720,721,722,723,724] fun K hK=>?_
   simp only [go_sem,seval]
   repeat refine sd0 ?_
   refine hK _ (hN3 (4,c1) _ (by omega) (by simp only;omega) ?_)
   refine (Le_swb _ 25 713 (by decide) (by decide)).trans ?_
   simp only [St.swb,swbσ,swbm,AV.swb,AV.swbAll,swp,jN_swb,row_swb,Nat.reduceEqDiff,if_true,if_false,reduceIte]
   refine (Le_swb _ 27 700 (by decide) (by decide)).trans ?_
   simp only [St.swb,swbσ,swbm,AV.swb,AV.swbAll,swp,jN_swb,row_swb,Nat.reduceEqDiff,if_true,if_false,reduceIte]
   exact Le_wb (by simp only [go_sem,seval,Nat.add_assoc])
set_option maxHeartbeats 16000000 in
theorem relsA5 {E:En} (hE:TbOk E tbRels) {k:Nat} (hk:k + 40≤1099511627776) {Q:Exit→St→Prop} (hQ:∀ (L:List (List Int)) (rn:Nat),(2≤L.length∧L.length≤5)→(∀ w ∈ L,w.length=L.length)→rn≤k + 40→Aw E .ret ⟨111,[(2,wsl L)],[],rn⟩ Q):Aw E (seqB (seqB (seqB (Tryd.f30.body.getD .skip)))) ⟨111,[(0,.rd),(3,iv 5),(4,.xs 17 0 0 0 1)],[(17,[])],k + 1⟩ Q:=by
 refine Aw_sq fun B1 hB1 hR1 hX1=>?_
 refine Aw_st hE [0,3,4,5] [17,25,27,700,701,710,711,712,713,714,720,721,722,723,724] fun K hK=>?_
 simp only [go_sem,seval]
 refine hK _ ?_;clear hK K
 refine Aw_bk fun B2 hN2 hE2 hR2 hX2=>?_
 refine Aw_lp (fun i:Nat × Nat=>⟨111,[(0,.rd),(3,iv 5),(4,.xs 700 0 i.1 (i.2 + i.1) 1),(5,iv (i.1:Int))],(700,vws 5 (fun _=>0) 710 i.1++jN i.2)::bxs 5 (fun _=>0) (fun _=>List.replicate 5 0) 710 i.1,k + 1⟩) (fun i=>i.1≤5) (fun i=>5 - i.1) (0,0) ?_ (by omega) fun i hi B3 hN3 hR3 hX3=>?_
 ·refine (Le_swb _ 17 700 (by decide) (by decide)).trans ?_
  simp only [St.swb,swbσ,swbm,AV.swb,AV.swbAll,swp,jN_swb,row_swb,Nat.reduceEqDiff,if_true,if_false,reduceIte]
  exact Le_wa
 obtain ⟨i,c⟩:=i
 simp only at hi
 refine Aw_sq fun B4 hB4 hR4 hX4=>?_
 rcases (show i=5∨i=0∨i=1∨i=2∨i=3∨i=4 by omega) with rfl | rfl | rfl | rfl | rfl | rfl
 ·refine Aw_st hE [0,3,4,5,20] [17,25,27,700,701,710,711,712,713,714,720,721,722,723,724] fun K hK=>?_
  simp only [go_sem,seval]
  refine hK _ (Aw_no rfl (Aw_exit (hX4 _ _ (hX3 _ _ (hE2 _ (hB1 _ ?_))))))
  refine Aw.leE (LeE_of (show Le _ ⟨111,[(0,.rd),(3,iv 5),(4,.xs 700 0 5 (c + 5) 1)],(700,vws 5 (fun _=>0) 710 5++jN c)::bxs 5 (fun _=>0) (fun _=>List.replicate 5 0) 710 5,k + 1⟩ from Le_wa)) (relsB5 hE hk hQ (fun _=>rfl))
 ·refine Aw_st hE [0,3,4,5,20] [17,25,27,700,701,710,711,712,713,714,720,721,722,723,724] fun K hK=>?_
  simp only [go_sem,seval]
  refine hK _ (Aw_yes rfl (Aw_skip (hB4 _ ?_)))
  refine Aw_sq fun B6 hB6 hR6 hX6=>?_
  refine Aw_bk fun B7 hN7 hE7 hR7 hX7=>?_
  refine Aw_tx hE [0,3,4,5] [17,25,27,700,701,710,711,712,713,714,720,721,722,723,724] fun K hK=>?_
  simp only [go_sem,seval,List.flatten_cons,List.flatten_nil,List.cons_append,List.nil_append]
  refine ⟨fun h=>?_,fun h cap' hcap'=>?_⟩
  ·obtain ⟨c1,rfl⟩:∃ c1,c=c1 + 1:=⟨c - 1,by omega⟩
   simp only [jN_s,List.set_cons_zero]
   refine hK _ (hN7 _ (hB6 _ ?_))
   refine Aw_tx hE [0,3,4,5] [17,25,27,700,701,710,711,712,713,714,720,721,722,723,724] fun K hK=>?_
   simp only [go_sem,seval]
   repeat refine sd0 ?_
   refine hK _ (hN3 (1,c1) _ (by omega) (by simp only;omega) ?_)
   refine (Le_swb _ 25 710 (by decide) (by decide)).trans ?_
   simp only [St.swb,swbσ,swbm,AV.swb,AV.swbAll,swp,jN_swb,row_swb,Nat.reduceEqDiff,if_true,if_false,reduceIte]
   exact Le_wb (by simp only [go_sem,seval,Nat.add_assoc])
  ·obtain ⟨c1,rfl⟩:∃ c1,cap'=c1 + 1:=⟨cap' - 1,by omega⟩
   rw [Nat.add_sub_cancel]
   refine hK _ (hN7 _ (hB6 _ ?_))
   refine Aw_tx hE [0,3,4,5] [17,25,27,700,701,710,711,712,713,714,720,721,722,723,724] fun K hK=>?_
   simp only [go_sem,seval]
   repeat refine sd0 ?_
   refine hK _ (hN3 (1,c1) _ (by omega) (by simp only;omega) ?_)
   refine (Le_swb _ 25 710 (by decide) (by decide)).trans ?_
   simp only [St.swb,swbσ,swbm,AV.swb,AV.swbAll,swp,jN_swb,row_swb,Nat.reduceEqDiff,if_true,if_false,reduceIte]
   refine (Le_swb _ 27 700 (by decide) (by decide)).trans ?_
   simp only [St.swb,swbσ,swbm,AV.swb,AV.swbAll,swp,jN_swb,row_swb,Nat.reduceEqDiff,if_true,if_false,reduceIte]
   exact Le_wb (by simp only [go_sem,seval,Nat.add_assoc])
 ·refine Aw_st hE [0,3,4,5,20] [17,25,27,700,701,710,711,712,713,714,720,721,722,723,724] fun K hK=>?_
  simp only [go_sem,seval]
  refine hK _ (Aw_yes rfl (Aw_skip (hB4 _ ?_)))
  refine Aw_sq fun B6 hB6 hR6 hX6=>?_
  refine Aw_bk fun B7 hN7 hE7 hR7 hX7=>?_
  refine Aw_tx hE [0,3,4,5] [17,25,27,700,701,710,711,712,713,714,720,721,722,723,724] fun K hK=>?_
  simp only [go_sem,seval,List.flatten_cons,List.flatten_nil,List.cons_append,List.nil_append]
  refine ⟨fun h=>?_,fun h cap' hcap'=>?_⟩
  ·obtain ⟨c1,rfl⟩:∃ c1,c=c1 + 1:=⟨c - 1,by omega⟩
   simp only [jN_s,List.set_cons_zero]
   refine hK _ (hN7 _ (hB6 _ ?_))
   refine Aw_tx hE [0,3,4,5] [17,25,27,700,701,710,711,712,713,714,720,721,722,723,724] fun K hK=>?_
   simp only [go_sem,seval]
   repeat refine sd0 ?_
   refine hK _ (hN3 (2,c1) _ (by omega) (by simp only;omega) ?_)
   refine (Le_swb _ 25 711 (by decide) (by decide)).trans ?_
   simp only [St.swb,swbσ,swbm,AV.swb,AV.swbAll,swp,jN_swb,row_swb,Nat.reduceEqDiff,if_true,if_false,reduceIte]
   exact Le_wb (by simp only [go_sem,seval,Nat.add_assoc])
  ·obtain ⟨c1,rfl⟩:∃ c1,cap'=c1 + 2:=⟨cap' - 2,by omega⟩
   rw [Nat.add_sub_cancel]
   refine hK _ (hN7 _ (hB6 _ ?_))
   refine Aw_tx hE [0,3,4,5] [17,25,27,700,701,710,711,712,713,714,720,721,722,723,724] fun K hK=>?_
   simp only [go_sem,seval]
   repeat refine sd0 ?_
   refine hK _ (hN3 (2,c1) _ (by omega) (by simp only;omega) ?_)
   refine (Le_swb _ 25 711 (by decide) (by decide)).trans ?_
   simp only [St.swb,swbσ,swbm,AV.swb,AV.swbAll,swp,jN_swb,row_swb,Nat.reduceEqDiff,if_true,if_false,reduceIte]
   refine (Le_swb _ 27 700 (by decide) (by decide)).trans ?_
   simp only [St.swb,swbσ,swbm,AV.swb,AV.swbAll,swp,jN_swb,row_swb,Nat.reduceEqDiff,if_true,if_false,reduceIte]
   exact Le_wb (by simp only [go_sem,seval,Nat.add_assoc])
 ·refine Aw_st hE [0,3,4,5,20] [17,25,27,700,701,710,711,712,713,714,720,721,722,723,724] fun K hK=>?_
  simp only [go_sem,seval]
  refine hK _ (Aw_yes rfl (Aw_skip (hB4 _ ?_)))
  refine Aw_sq fun B6 hB6 hR6 hX6=>?_
  refine Aw_bk fun B7 hN7 hE7 hR7 hX7=>?_
  refine Aw_tx hE [0,3,4,5] [17,25,27,700,701,710,711,712,713,714,720,721,722,723,724] fun K hK=>?_
  simp only [go_sem,seval,List.flatten_cons,List.flatten_nil,List.cons_append,List.nil_append]
  refine ⟨fun h=>?_,fun h cap' hcap'=>?_⟩
  ·obtain ⟨c1,rfl⟩:∃ c1,c=c1 + 1:=⟨c - 1,by omega⟩
   simp only [jN_s,List.set_cons_zero]
   refine hK _ (hN7 _ (hB6 _ ?_))
   refine Aw_tx hE [0,3,4,5] [17,25,27,700,701,710,711,712,713,714,720,721,722,723,724] fun K hK=>?_
   simp only [go_sem,seval]
   repeat refine sd0 ?_
   refine hK _ (hN3 (3,c1) _ (by omega) (by simp only;omega) ?_)
   refine (Le_swb _ 25 712 (by decide) (by decide)).trans ?_
   simp only [St.swb,swbσ,swbm,AV.swb,AV.swbAll,swp,jN_swb,row_swb,Nat.reduceEqDiff,if_true,if_false,reduceIte]
   exact Le_wb (by simp only [go_sem,seval,Nat.add_assoc])
  ·obtain ⟨c1,rfl⟩:∃ c1,cap'=c1 + 3:=⟨cap' - 3,by omega⟩
   rw [Nat.add_sub_cancel]
   refine hK _ (hN7 _ (hB6 _ ?_))
   refine Aw_tx hE [0,3,4,5] [17,25,27,700,701,710,711,712,713,714,720,721,722,723,724] fun K hK=>?_
   simp only [go_sem,seval]
   repeat refine sd0 ?_
   refine hK _ (hN3 (3,c1) _ (by omega) (by simp only;omega) ?_)
   refine (Le_swb _ 25 712 (by decide) (by decide)).trans ?_
   simp only [St.swb,swbσ,swbm,AV.swb,AV.swbAll,swp,jN_swb,row_swb,Nat.reduceEqDiff,if_true,if_false,reduceIte]
   refine (Le_swb _ 27 700 (by decide) (by decide)).trans ?_
   simp only [St.swb,swbσ,swbm,AV.swb,AV.swbAll,swp,jN_swb,row_swb,Nat.reduceEqDiff,if_true,if_false,reduceIte]
   exact Le_wb (by simp only [go_sem,seval,Nat.add_assoc])
 ·refine Aw_st hE [0,3,4,5,20] [17,25,27,700,701,710,711,712,713,714,720,721,722,723,724] fun K hK=>?_
  simp only [go_sem,seval]
  refine hK _ (Aw_yes rfl (Aw_skip (hB4 _ ?_)))
  refine Aw_sq fun B6 hB6 hR6 hX6=>?_
  refine Aw_bk fun B7 hN7 hE7 hR7 hX7=>?_
  refine Aw_tx hE [0,3,4,5] [17,25,27,700,701,710,711,712,713,714,720,721,722,723,724] fun K hK=>?_
  simp only [go_sem,seval,List.flatten_cons,List.flatten_nil,List.cons_append,List.nil_append]
  refine ⟨fun h=>?_,fun h cap' hcap'=>?_⟩
  ·obtain ⟨c1,rfl⟩:∃ c1,c=c1 + 1:=⟨c - 1,by omega⟩
   simp only [jN_s,List.set_cons_zero]
   refine hK _ (hN7 _ (hB6 _ ?_))
   refine Aw_tx hE [0,3,4,5] [17,25,27,700,701,710,711,712,713,714,720,721,722,723,724] fun K hK=>?_
   simp only [go_sem,seval]
   repeat refine sd0 ?_
   refine hK _ (hN3 (4,c1) _ (by omega) (by simp only;omega) ?_)
   refine (Le_swb _ 25 713 (by decide) (by decide)).trans ?_
   simp only [St.swb,swbσ,swbm,AV.swb,AV.swbAll,swp,jN_swb,row_swb,Nat.reduceEqDiff,if_true,if_false,reduceIte]
   exact Le_wb (by simp only [go_sem,seval,Nat.add_assoc])
  ·obtain ⟨c1,rfl⟩:∃ c1,cap'=c1 + 4:=⟨cap' - 4,by omega⟩
   rw [Nat.add_sub_cancel]
   refine hK _ (hN7 _ (hB6 _ ?_))
   refine Aw_tx hE [0,3,4,5] [17,25,27,700,701,710,711,712,713,714,720,721,722,723,724] fun K hK=>?_
   simp only [go_sem,seval]
   repeat refine sd0 ?_
   refine hK _ (hN3 (4,c1) _ (by omega) (by simp only;omega) ?_)
   refine (Le_swb _ 25 713 (by decide) (by decide)).trans ?_
   simp only [St.swb,swbσ,swbm,AV.swb,AV.swbAll,swp,jN_swb,row_swb,Nat.reduceEqDiff,if_true,if_false,reduceIte]
   refine (Le_swb _ 27 700 (by decide) (by decide)).trans ?_
   simp only [St.swb,swbσ,swbm,AV.swb,AV.swbAll,swp,jN_swb,row_swb,Nat.reduceEqDiff,if_true,if_false,reduceIte]
   exact Le_wb (by simp only [go_sem,seval,Nat.add_assoc])
 ·refine Aw_st hE [0,3,4,5,20] [17,25,27,700,701,710,711,712,713,714,720,721,722,723,724] fun K hK=>?_
  simp only [go_sem,seval]
  refine hK _ (Aw_yes rfl (Aw_skip (hB4 _ ?_)))
  refine Aw_sq fun B6 hB6 hR6 hX6=>?_
  refine Aw_bk fun B7 hN7 hE7 hR7 hX7=>?_
  refine Aw_tx hE [0,3,4,5] [17,25,27,700,701,710,711,712,713,714,720,721,722,723,724] fun K hK=>?_
  simp only [go_sem,seval,List.flatten_cons,List.flatten_nil,List.cons_append,List.nil_append]
  refine ⟨fun h=>?_,fun h cap' hcap'=>?_⟩
  ·obtain ⟨c1,rfl⟩:∃ c1,c=c1 + 1:=⟨c - 1,by omega⟩
   simp only [jN_s,List.set_cons_zero]
   refine hK _ (hN7 _ (hB6 _ ?_))
   refine Aw_tx hE [0,3,4,5] [17,25,27,700,701,710,711,712,713,714,720,721,722,723,724] fun K hK=>?_
   simp only [go_sem,seval]
   repeat refine sd0 ?_
   refine hK _ (hN3 (5,c1) _ (by omega) (by simp only;omega) ?_)
   refine (Le_swb _ 25 714 (by decide) (by decide)).trans ?_
   simp only [St.swb,swbσ,swbm,AV.swb,AV.swbAll,swp,jN_swb,row_swb,Nat.reduceEqDiff,if_true,if_false,reduceIte]
   exact Le_wb (by simp only [go_sem,seval,Nat.add_assoc])
  ·obtain ⟨c1,rfl⟩:∃ c1,cap'=c1 + 5:=⟨cap' - 5,by omega⟩
   rw [Nat.add_sub_cancel]
   refine hK _ (hN7 _ (hB6 _ ?_))
   refine Aw_tx hE [0,3,4,5] [17,25,27,700,701,710,711,712,713,714,720,721,722,723,724] fun K hK=>?_
   simp only [go_sem,seval]
   repeat refine sd0 ?_
   refine hK _ (hN3 (5,c1) _ (by omega) (by simp only;omega) ?_)
   refine (Le_swb _ 25 714 (by decide) (by decide)).trans ?_
   simp only [St.swb,swbσ,swbm,AV.swb,AV.swbAll,swp,jN_swb,row_swb,Nat.reduceEqDiff,if_true,if_false,reduceIte]
   refine (Le_swb _ 27 700 (by decide) (by decide)).trans ?_
   simp only [St.swb,swbσ,swbm,AV.swb,AV.swbAll,swp,jN_swb,row_swb,Nat.reduceEqDiff,if_true,if_false,reduceIte]
   exact Le_wb (by simp only [go_sem,seval,Nat.add_assoc])
set_option maxHeartbeats 4000000 in
theorem l91Rels_ok:Fine Tryd.prog 30 cRelsD:=by
 refine fine_ofX [] gl_nil [] ms_nil [] mm_nil [17,25,26,27,72,79,95,98,99] [] ex_nil (T:=TT) Tryd.func30 rfl Tryd.ntmps30 (by rw [Tryd.results30]) rfl rfl tt (gs_cons pick_ok gs_nil) (ds_cons back_ok ds_nil) ?_
 rintro args rfl
 refine ⟨by simp,fun k hk E hE Q hQ=>?_⟩
 have hk:=hk rfl
 simp only [go_sem] at hk
 have hQ2:∀ (L:List (List Int)) (rn:Nat),(2≤L.length∧L.length≤5)→(∀ w ∈ L,w.length=L.length)→rn≤k + 40→Aw E .ret ⟨111,[(2,wsl L)],[],rn⟩ Q:=by
  intro L rn h1 h2 h3
  refine Aw_ret (hQ _ ?_)
  simp only [go_sem,seval]
  exact ⟨h3,L,h1,h2,rfl⟩
 refine Aw_st hE [0] [17] fun K hK=>?_
 simp only [go_sem,seval]
 refine hK _ ?_;clear hK K
 refine Aw_st hE [0,3] [17] fun K hK=>?_
 simp only [go_sem,seval]
 repeat' (first | (refine And.intro (by first | omega | decide) ?_) | intro)
 rename_i n0 hn1 hn2
 refine hK _ ?_;clear hK K
 refine Aw_st hE [0,3,4] [17] fun K hK=>?_
 simp only [go_sem,seval]
 refine hK _ ?_;clear hK K
 have hn:n0=0∨n0=1∨n0=2∨n0=3:=by omega
 rcases hn with rfl | rfl | rfl | rfl
 ·exact relsA2 hE hk hQ2
 ·exact relsA3 hE hk hQ2
 ·exact relsA4 hE hk hQ2
 ·exact relsA5 hE hk hQ2
def okRl (R:List (List Int)):Prop:=(2≤R.length∧R.length≤5)∧(∀ w ∈ R,w.length=R.length)
theorem okRl_big {R:List (List Int)} (h:okRl R):bigM R:=⟨by have:=h.1;omega,fun w hw=>by have:=h.2 w hw;have:=h.1;omega⟩
theorem relsD_pre:cRelsD.pre [.rd]=True:=eq_true rfl
theorem relsD_post (args:List AV) (K:AV→Prop):(∀ r,cRelsD.post args r→K r)=(∀ R:List (List Int),okRl R→K (wsl R)):=by
 apply propext
 exact ⟨fun h R hR=>h _ ⟨R,hR.1,hR.2,rfl⟩,fun h r ⟨R,h1,h2,e⟩=>e ▸ h R ⟨h1,h2⟩⟩
theorem relsD_ex (args:List AV):(∃ r,cRelsD.post args r)=True:=eq_true ⟨_,[[0,0],[0,0]],⟨by decide,by decide⟩,by decide,rfl⟩
attribute [go_sem] relsD_pre relsD_post relsD_ex
def cDNE:Con:={ pre:=codeArg,post:=fun _ r=>∃ (R:List (List Int)) (x:Int),okRl R∧(1≤x∧x≤100)∧r = .tup [wsl R,iv x] }
theorem cDNE_own:cDNE.own=false:=rfl
theorem cDNE_draws:cDNE.draws=false:=rfl
theorem cDNE_cost:cDNE.cost=0:=rfl
attribute [go_sem] cDNE_own cDNE_draws cDNE_cost
theorem dne_post (args:List AV) (K:AV→Prop):(∀ r,cDNE.post args r→K r)=(∀ (R:List (List Int)) (x:Int),okRl R→1≤x→x≤100→K (.tup [wsl R,iv x])):=by
 apply propext
 exact ⟨fun h R x h1 h2 h3=>h _ ⟨R,x,h1,⟨h2,h3⟩,rfl⟩,fun h r ⟨R,x,h1,⟨h2,h3⟩,e⟩=>e ▸ h R x h1 h2 h3⟩
attribute [go_sem] dne_post
def okW (W:List (List Int)):Prop:=W.length≤5∧∀ w ∈ W,w.length≤5
theorem okW_big {W:List (List Int)} (h:okW W):bigM W:=⟨by have:=h.1;omega,fun w hw=>by have:=h.2 w hw;omega⟩
theorem okW_bw {W:List (List Int)} (h:okW W):bigW W:=⟨by have:=h.1;omega,fun w hw=>by have:=h.2 w hw;omega⟩
theorem okW_net {R:List (List Int)} {x:Int} {W:List (List Int)} (h:netOk R x W=true):okW W:=by
 have h5:=(relsOk_iff.1 (netOk_iff.1 h).1).1.2
 obtain ⟨_,hl,h2⟩:=netOk_in h
 exact ⟨by omega,fun w hw=>(h2 w hw).1⟩
theorem okW_nil:okW []:=⟨by simp,fun w hw=>by cases hw⟩
theorem okW_set {W:List (List Int)} {w:List Int} (i:Nat) (h:okW W) (hw:w.length≤5):okW (W.set i w):=by
 refine ⟨by rw [List.length_set];exact h.1,fun v hv=>?_⟩
 rcases List.mem_or_eq_of_mem_set hv with h1 | h1
 ·exact h.2 v h1
 ·rw [h1];exact hw
theorem wrow_set (W:List (List Int)) (c i:Nat) (w:List Int) (h:i < W.length):(cWs W++jN c).set i (isl w)=cWs (W.set i w)++jN c:=by
 rw [List.set_append_left _ _ (by rw [cWs_len];exact h),cWs_set]
def cNetD:Con:={ pre:=fun args=>args=[.rd],post:=fun _ r=>∃ (R:List (List Int)) (x:Int) (W:List (List Int)),(okRl R∧hI R.length x∧okW W)∧r = .tup [wsl R,iv x,wsl W],cost:=80,draws:=true }
theorem cNetD_own:cNetD.own=false:=rfl
theorem cNetD_draws:cNetD.draws=true:=rfl
theorem cNetD_cost:cNetD.cost=80:=rfl
attribute [go_sem] cNetD_own cNetD_draws cNetD_cost
theorem netD_pre:cNetD.pre [.rd]=True:=by simp [cNetD]
theorem netD_post (args:List AV) (K:AV→Prop):(∀ r,cNetD.post args r→K r)=(∀ (R:List (List Int)) (x:Int) (W:List (List Int)),(okRl R∧hI R.length x∧okW W)→K (.tup [wsl R,iv x,wsl W])):=by
 apply propext
 exact ⟨fun h R x W hp=>h _ ⟨R,x,W,hp,rfl⟩,fun h r ⟨R,x,W,hp,e⟩=>e ▸ h R x W hp⟩
theorem netD_ex (args:List AV):(∃ r,cNetD.post args r)=True:=eq_true ⟨_,[[0,0],[0,0]],1,[],⟨⟨⟨by decide,by decide⟩,by decide⟩,⟨by decide,by decide⟩,okW_nil⟩,rfl⟩
attribute [go_sem] netD_pre netD_post netD_ex
def netI (R:List (List Int)) (x:Int) (W:List (List Int)):Prop:=W=[]∨netOk R x W=true
theorem netI_ok {R:List (List Int)} {x:Int} {W:List (List Int)} (h:netI R x W):okW W:=h.elim (fun e=>e ▸ okW_nil) okW_net
theorem netI_step {R:List (List Int)} {x:Int} {W:List (List Int)} {h:Int} (hn:netOk R x W=true) (hh:hI R.length h):netOk R x (stepC R.length (ofR R) x W h)=true:=by
 obtain ⟨h1,h2,h3⟩:=netOk_iff.1 hn
 have hb:hIb R.length h=true:=hIb_iff.2 hh
 rw [stepC,if_pos hb]
 exact netOk_iff.2 ⟨h1,by rw [stpL_len];exact h2,by rw [toS_stp h2 hh];exact netS_stp (relsOk_iff.1 h1).1.2 h3 hh⟩
theorem netI_none (R:List (List Int)) (x:Int):netI R x (if relsOk R && hIb R.length x then noneL R.length x else []):=by
 split
 ·rename_i h
  rw [Bool.and_eq_true] at h
  have hx:=hIb_iff.1 h.2
  exact .inr (netOk_iff.2 ⟨h.1,noneL_len,by rw [toS_none hx];exact netS_none (relsOk_iff.1 h.1).1.2 hx⟩)
 ·exact .inl rfl
def netSt (R:List (List Int)) (x:Int) (i:List (List Int) × Nat × Int × Nat):St:=⟨70,[(0,.rd),(5,wsl R),(6,iv x),(7,.xs 750 0 i.1.length (i.2.1 + i.1.length) 1),(8,iv i.2.2.1)],[(750,cWs i.1++jN i.2.1)],i.2.2.2⟩
def netSu (R:List (List Int)) (x:Int) (i:List (List Int) × Nat × Nat):St:=⟨70,[(5,wsl R),(6,iv x),(7,.xs 750 0 i.1.length (i.2.1 + i.1.length) 1)],[(750,cWs i.1++jN i.2.1)],i.2.2⟩
set_option maxHeartbeats 4000000 in
theorem l92Net_ok:Fine Tryd.prog 46 cNetD:=by
 refine fine_ofX [] gl_nil [] ms_nil [(62,(cNetNoneM,[],[(900,200)])),(49,(cStepM,[],[(900,200)]))] (mm_cons sNetNoneM_ok (by decide) (mm_cons sStepM_ok (by decide) mm_nil)) [] [] ex_nil (T:=TT) Tryd.func46 rfl Tryd.ntmps46 (by rw [Tryd.results46]) rfl rfl tt (gs_cons l91Rels_ok (gs_cons pick_ok (gs_cons l91Path_ok gs_nil))) (ds_cons sWay_ok ds_nil) ?_
 rintro args rfl
 refine ⟨by simp,fun k hk E hE Q hQ=>?_⟩
 have hk:=hk rfl
 simp only [go_sem] at hk
 refine Aw_st hE [0] [220,240,750] fun K hK=>?_
 simp only [go_sem,seval]
 refine hK _ ?_;clear hK K
 refine Aw_st hE [0,5] [220,240,750] fun K hK=>?_
 simp only [go_sem,seval]
 refine ⟨by omega,fun R hR=>?_⟩
 refine hK _ ?_;clear hK K
 have hR1:=hR.1
 have hbR:=okRl_big hR
 refine Aw_st hE [0,5,6] [220,240,750] fun K hK=>?_
 simp only [go_sem,seval]
 refine ⟨by omega,fun y hy1 hy2=>⟨⟨by omega,by omega⟩,?_⟩⟩
 have hx:hI R.length (1 + y):=⟨by omega,by omega⟩
 generalize (1 + y:Int)=x at hx
 refine hK _ ?_;clear hK K
 refine Aw_st hE [0,5,6,7] [220,240,750] fun K hK=>?_
 simp only [go_sem,seval,hbR,netNoneM_post R x rfl]
 have hI0:=netI_none R x
 generalize (if relsOk R && hIb R.length x then noneL R.length x else [])=W0 at hI0
 refine ⟨by decide,fun c0=>?_⟩
 refine hK _ ?_;clear hK K
 refine Aw_sqJ (fun i:List (List Int) × Nat × Nat=>⟨70,[(0,.rd),(5,wsl R),(6,iv x),(7,.xs 750 0 i.1.length (i.2.1 + i.1.length) 1)],[(750,cWs i.1++jN i.2.1)],i.2.2⟩) (fun i=>okW i.1∧i.2.2≤k + 62) (fun i hi=>?_) fun B1 hB1 hR1' hX1=>?_
 ·obtain ⟨W,c,rn⟩:=i
  obtain ⟨hW,hrn⟩:=hi
  simp only at hW hrn
  have hWl:=hW.1
  refine Aw_sqJ (netSu R x) (fun i=>okW i.1∧i.2.2≤k + 80) (fun i hi=>?_) fun B10 hB10 hR10 hX10=>?_
  ·obtain ⟨W,c,rn⟩:=i
   obtain ⟨hW,hrn⟩:=hi
   simp only at hW hrn
   simp only [netSu]
   refine Aw_frz hE rfl 750 W.length (ls:=cWs W++jN c) (ys:=wD W) rfl (ofAll_wrow rfl) ?_
   simp only [go_sem,seval,↓frz_xsW (d:=750) (n:=W.length) (cap:=c + W.length) (L:=W) rfl]
   refine Aw_st hE [2,3,4] [220,240,750] fun K hK=>?_
   simp only [go_sem,seval]
   refine hK _ (Aw_ret (hQ _ ?_))
   simp only [go_sem,seval]
   exact ⟨by omega,R,x,W,⟨hR,hx,hW⟩,rfl⟩
  refine Aw_st hE [0,5,6,7,50] [220,240,750] fun K hK=>?_
  simp only [go_sem,seval]
  refine ⟨fun hg12=>?_,fun hg12=>?_⟩
  ·simp only [dte] at hg12
   refine ⟨by omega,fun y hy1 hy2=>?_⟩
   refine hK _ (Aw_cond rfl (fun hc13=>?_) (fun hc13=>?_))
   ·refine Aw_st hE [0,5,6,7,9] [220,240,750] fun K hK=>?_
    simp only [go_sem,seval]
    refine ⟨by omega,fun h hh1 hh2=>?_⟩
    refine hK _ ?_;clear hK K
    refine Aw_st hE [5,6,7,9,10] [220,240,750] fun K hK=>?_
    simp only [go_sem,seval]
    refine ⟨by omega,fun p hp=>?_⟩
    refine hK _ ?_;clear hK K
    have hsq:sqR R:=⟨by omega,hR.2⟩
    have hpl:=hp.1
    refine Aw_st hE [5,6,7,9,10,62] [220,240,750] fun K hK=>?_
    simp only [go_sem,seval,hsq]
    repeat refine sd0 ?_
    refine hK _ (Aw_cond rfl (fun hc14=>?_) (fun hc14=>?_))
    ·have hhl:h.toNat < W.length:=by omega
     have hset:=wrow_set W c h.toNat p hhl
     refine Aw_tx hE [5,6,7] [220,240,750] fun K hK=>?_
     simp only [go_sem,seval,hset]
     repeat refine sd0 ?_
     refine hK _ (hB10 (W.set h.toNat p,c,rn + 11) _ ⟨okW_set _ hW (by omega),by simp only;omega⟩ (LeE_of ?_))
     simp only [netSu,List.length_set]
     exact Le_wa
    ·refine Aw_skip (hB10 (W,c,rn + 11) _ ⟨hW,by simp only;omega⟩ (LeE_of ?_))
     simp only [netSu]
     exact Le_wa
   ·refine Aw_skip (hB10 (W,c,rn + 1) _ ⟨hW,by simp only;omega⟩ (LeE_of ?_))
    simp only [netSu]
    exact Le_wa
  ·refine hK _ (Aw_no rfl ?_)
   refine Aw_skip (hB10 (W,c,rn) _ ⟨hW,by simp only;omega⟩ (LeE_of ?_))
   simp only [netSu]
   exact Le_wa
 refine Aw_st hE [0,5,6,7,8] [220,240,750] fun K hK=>?_
 simp only [go_sem,seval]
 refine ⟨by omega,fun n0 hn1 hn2=>?_⟩
 refine hK _ ?_;clear hK K
 refine Aw_bk fun B2 hN2 hE2 hR2 hX2=>?_
 refine Aw_lp (netSt R x) (fun i=>netI R x i.1∧(0≤i.2.2.1∧i.2.2.1 < 20)∧i.2.2.2 + i.2.2.1.toNat≤k + 62) (fun i=>i.2.2.1.toNat) (W0,c0,n0,k + 42) ?_ ⟨hI0,⟨by simp only;omega,by simp only;omega⟩,by simp only;omega⟩ fun i hi B3 hN3 hR3 hX3=>?_
 ·refine (Le_swb _ 220 750 (by decide) (by decide)).trans ?_
  simp only [netSt,St.swb,swbσ,swbm,AV.swb,AV.swbAll,swp,jN_swb,wrow_swb,Nat.reduceEqDiff,if_true,if_false,reduceIte]
  exact Le_wa
 obtain ⟨W,c,n,rn⟩:=i
 obtain ⟨hI,⟨hn1',hn2'⟩,hrn⟩:=hi
 simp only at hI hn1' hn2' hrn
 simp only [netSt]
 have hWl:=(netI_ok hI).1
 refine Aw_sq fun B4 hB4 hR4 hX4=>?_
 refine Aw_st hE [0,5,6,7,8,29] [220,240,750] fun K hK=>?_
 simp only [go_sem,seval]
 refine ⟨fun hg6=>?_,fun hg6=>?_⟩
 ·simp only [dte] at hg6
  refine hK _ (Aw_cond rfl (fun hc7=>?_) (fun hc7=>?_))
  ·simp only [dte] at hc7
   have hnet:netOk R x W=true:=hI.resolve_left (fun e=>by rw [e] at hc7;simp at hc7)
   obtain ⟨hsq,hin⟩:=netOk_in hnet
   refine Aw_skip (hB4 _ ?_)
   refine Aw_sq fun B8 hB8 hR8 hX8=>?_
   refine Aw_bk fun B9 hN9 hE9 hR9 hX9=>?_
   refine Aw_frz hE rfl 750 W.length (ls:=cWs W++jN c) (ys:=wD W) rfl (ofAll_wrow rfl) ?_
   simp only [go_sem,seval,↓frz_xsW (d:=750) (n:=W.length) (cap:=c + W.length) (L:=W) rfl]
   have hsp:=fun h=>stepM_post R x W h rfl
   refine Aw_tx hE [0,5,6,7,8] [220,240,750] fun K hK=>?_
   simp only [go_sem,seval,hsq,hin,hsp]
   refine ⟨by omega,fun y hy1 hy2=>⟨⟨by omega,by omega⟩,by decide,fun c'=>?_⟩⟩
   have hnx:=netI_step (h:=1 + y) hnet ⟨by omega,by omega⟩
   refine hK _ (hN9 _ (hB8 _ ?_))
   refine Aw_tx hE [0,5,6,7,8] [220,240,750] fun K hK=>?_
   simp only [go_sem,seval]
   repeat refine sd0 ?_
   refine hK _ (hN3 (stepC R.length (ofR R) x W (1 + y),c',n - 1,rn + 1) _ ⟨.inr hnx,⟨by simp only;omega,by simp only;omega⟩,by simp only;omega⟩ (by simp only;omega) ?_)
   refine (Le_swb _ 240 750 (by decide) (by decide)).trans ?_
   simp only [netSt,St.swb,swbσ,swbm,AV.swb,AV.swbAll,swp,jN_swb,wrow_swb,Nat.reduceEqDiff,if_true,if_false,reduceIte]
   exact Le_wa
  ·refine Aw_exit (hX4 _ _ (hX3 _ _ (hE2 _ (hB1 (W,c,rn) _ ⟨netI_ok hI,by simp only;omega⟩ (LeE_of ?_)))))
   exact Le_wa
 ·refine hK _ (Aw_no rfl ?_)
  refine Aw_exit (hX4 _ _ (hX3 _ _ (hE2 _ (hB1 (W,c,rn) _ ⟨netI_ok hI,by simp only;omega⟩ (LeE_of ?_)))))
  exact Le_wa
structure NetP (R:List (List Int)) (x:Int) (W:List (List Int)):Prop where
 r:okRl R
 x:hI R.length x
 w:okW W
def cDNP:Con:={ pre:=codeArg,post:=fun _ r=>∃ (R:List (List Int)) (x:Int) (W:List (List Int)) (h:Int),NetP R x W∧(1≤h∧h≤100)∧r = .tup [wsl R,iv x,wsl W,iv h] }
theorem cDNP_own:cDNP.own=false:=rfl
theorem cDNP_draws:cDNP.draws=false:=rfl
theorem cDNP_cost:cDNP.cost=0:=rfl
attribute [go_sem] cDNP_own cDNP_draws cDNP_cost
theorem dnp_pre (bs:List Nat) (h:∀ b ∈ bs,b < 256):cDNP.pre [.sl none (byteRows bs)]:=⟨bs,h,rfl⟩
theorem dnp_post (args:List AV) (K:AV→Prop):(∀ r,cDNP.post args r→K r)=(∀ (R:List (List Int)) (x:Int) (W:List (List Int)) (h:Int),NetP R x W→1≤h→h≤100→K (.tup [wsl R,iv x,wsl W,iv h])):=by
 apply propext
 exact ⟨fun hh R x W h h1 h2 h3=>hh _ ⟨R,x,W,h,h1,⟨h2,h3⟩,rfl⟩,fun hh r ⟨R,x,W,h,h1,⟨h2,h3⟩,e⟩=>e ▸ hh R x W h h1 h2 h3⟩
attribute [go_sem] dnp_post
theorem drawNetPick_ok:Fine Tryd.prog 24 cDNP:=by
 refine fine_draw (T:=TT) (C:=cDNP) Tryd.func24 rfl Tryd.ntmps24 (by rw [Tryd.results24]) rfl rfl tt rfl rfl (G:=[(46,cNetD),(31,cPick)]) (D:=[]) (gs_cons l92Net_ok (gs_cons pick_ok gs_nil)) ds_nil (l1:=[_]) (l2:=[_]) rfl rfl rfl rfl (by decide) open_calls ⟨_,Tryd.func29,rfl,rfl⟩ ?_ ?_
 ·rintro args r ⟨R,x,W,h,_,_,rfl⟩;rfl
 rintro args ⟨bs,hbs,rfl⟩
 refine ⟨by simp,bs,hbs,fun n E hE J hJ=>?_⟩
 refine Aw_tx hE [0] [] fun K hK=>?_
 simp only [go_sem,seval]
 refine hK _ ?_
 simp only [thenA]
 simp only [go_sem,seval]
 refine hJ _ rfl rfl fun E hE Q hQ=>?_
 simp only [go_sem,seval]
 refine Aw_st hE [6,7,8,9] [] fun K hK=>?_
 simp only [go_sem,seval]
 intro R x W hp
 refine hK _ ?_;clear hK K
 have hR1:=hp.1.1
 refine Aw_st hE [2,3,4,5] [] fun K hK=>?_
 simp only [go_sem,seval]
 refine fun z hz1 hz2=>⟨⟨by omega,by omega⟩,fun y hy1 hy2=>?_⟩
 have hd:y.tdiv 23=0∨y.tdiv 23=1:=by
  rw [Int.tdiv_eq_ediv_of_nonneg hy1];omega
 refine ⟨⟨by omega,by omega⟩,⟨by omega,by omega⟩,⟨by omega,by omega⟩,?_⟩
 refine hK _ (Aw_ret (hQ _ ?_))
 simp only [go_sem,seval]
 exact ⟨R,x,W,_,⟨hp.1,hp.2.1,hp.2.2⟩,⟨by omega,by omega⟩,rfl⟩
def cDNY:Con:={ pre:=codeArg,post:=fun _ r=>∃ (R:List (List Int)) (x:Int) (W:List (List Int)) (o:List Int),NetP R x W∧o.length≤50∧r = .tup [wsl R,iv x,wsl W,isl o] }
theorem cDNY_own:cDNY.own=false:=rfl
theorem cDNY_draws:cDNY.draws=false:=rfl
theorem cDNY_cost:cDNY.cost=0:=rfl
attribute [go_sem] cDNY_own cDNY_draws cDNY_cost
theorem dny_pre (bs:List Nat) (h:∀ b ∈ bs,b < 256):cDNY.pre [.sl none (byteRows bs)]:=⟨bs,h,rfl⟩
theorem dny_post (args:List AV) (K:AV→Prop):(∀ r,cDNY.post args r→K r)=(∀ (R:List (List Int)) (x:Int) (W:List (List Int)) (o:List Int),NetP R x W→o.length≤50→K (.tup [wsl R,iv x,wsl W,isl o])):=by
 apply propext
 exact ⟨fun hh R x W h h1 h2=>hh _ ⟨R,x,W,h,h1,h2,rfl⟩,fun hh r ⟨R,x,W,h,h1,h2,e⟩=>e ▸ hh R x W h h1 h2⟩
attribute [go_sem] dny_post
set_option maxHeartbeats 1000000 in
theorem drawNetPlay_ok:Fine Tryd.prog 27 cDNY:=by
 refine fine_draw (T:=TT) (C:=cDNY) Tryd.func27 rfl Tryd.ntmps27 (by rw [Tryd.results27]) rfl rfl tt rfl rfl (G:=[(46,cNetD),(31,cPick)]) (D:=[]) (gs_cons l92Net_ok (gs_cons pick_ok gs_nil)) ds_nil (l1:=[_]) (l2:=[_]) rfl rfl rfl rfl (by decide) open_calls ⟨_,Tryd.func29,rfl,rfl⟩ ?_ ?_
 ·rintro args r ⟨R,x,W,o,_,_,rfl⟩;rfl
 rintro args ⟨bs,hbs,rfl⟩
 refine ⟨by simp,bs,hbs,fun n E hE J hJ=>?_⟩
 refine Aw_tx hE [0] [] fun K hK=>?_
 simp only [go_sem,seval]
 refine hK _ ?_
 simp only [thenA]
 simp only [go_sem,seval]
 refine hJ _ rfl rfl fun E hE Q hQ=>?_
 simp only [go_sem,seval]
 refine Aw_st hE [6,7,8,9] [] fun K hK=>?_
 simp only [go_sem,seval]
 intro R x W hp
 refine hK _ ?_;clear hK K
 have hR1:=hp.1.1
 have hP:NetP R x W:=⟨hp.1,hp.2.1,hp.2.2⟩
 refine Aw_st hE [6,7,8,9,10] [] fun K hK=>?_
 simp only [go_sem,seval]
 refine hK _ ?_;clear hK K
 refine Aw_sq fun B1 hB1 hR1' hX1=>?_
 refine Aw_st hE [6,7,8,9,10,11] [] fun K hK=>?_
 simp only [go_sem,seval]
 intro n0 hn1 hn2
 refine hK _ ?_;clear hK K
 refine Aw_bk fun B2 hN2 hE2 hR2 hX2=>?_
 refine Aw_lp (fun i:List Int × Int × Nat=>⟨45,[(6,.rd),(7,wsl R),(8,iv x),(9,wsl W),(10,.sl (some (20,0,3)) (rows i.1)),(11,iv i.2.1)],[],i.2.2⟩) (fun i=>(0≤i.2.1∧i.2.1 < 40)∧i.2.2 + i.2.1.toNat≤200∧i.1.length + i.2.1.toNat≤40) (fun i=>i.2.1.toNat) ([],n0,81) (Le_wa) ⟨⟨by simp only;omega,by simp only;omega⟩,by simp only;omega,by simp only [List.length_nil];omega⟩ fun i hi B3 hN3 hR3 hX3=>?_
 obtain ⟨o,n1,rn⟩:=i
 obtain ⟨⟨h1,h2⟩,h3,h4⟩:=hi
 simp only at h1 h2 h3 h4
 refine Aw_sq fun B4 hB4 hR4 hX4=>?_
 refine Aw_st hE [6,7,8,9,10,11,24] [] fun K hK=>?_
 simp only [go_sem,seval]
 refine hK _ (Aw_cond rfl (fun hc5=>?_) (fun hc5=>?_))
 ·simp only [dte] at hc5
  refine Aw_skip (hB4 _ ?_)
  refine Aw_sq fun B6 hB6 hR6 hX6=>?_
  refine Aw_bk fun B7 hN7 hE7 hR7 hX7=>?_
  refine Aw_tx hE [6,7,8,9,10,11] [] fun K hK=>?_
  simp only [go_sem,seval,none_row]
  refine ⟨by omega,fun y hy1 hy2=>?_⟩
  repeat refine sd0 ?_
  refine hK _ (hN7 _ (hB6 _ ?_))
  refine Aw_tx hE [6,7,8,9,10,11] [] fun K hK=>?_
  simp only [go_sem,seval]
  repeat refine sd0 ?_
  refine hK _ (hN3 (o++[1 + y],n1 - 1,rn + 1) _ ⟨⟨by simp only;omega,by simp only;omega⟩,by simp only;omega,by simp only [List.length_append,List.length_singleton];omega⟩ (by simp only;omega) (Le_tk 34 20 rfl))
 ·refine Aw_exit (hX4 _ _ (hX3 _ _ (hE2 _ (hB1 _ ?_))))
  refine Aw_sq fun B8 hB8 hR8 hX8=>?_
  refine Aw_st hE [7,8,9,10,37] [] fun K hK=>?_
  simp only [go_sem,seval]
  refine ⟨by omega,fun y hy1 hy2=>?_⟩
  refine hK _ (Aw_cond rfl (fun hc9=>?_) (fun hc9=>?_))
  ·refine Aw_tx hE [7,8,9,10] [] fun K hK=>?_
   simp only [go_sem,seval,none_row]
   repeat refine sd0 ?_
   refine hK _ (hB8 _ ?_)
   refine Aw_st hE [2,3,4,5] [] fun K hK=>?_
   simp only [go_sem,seval]
   refine hK _ (Aw_ret (hQ _ ?_))
   simp only [go_sem,seval]
   exact ⟨R,x,W,o++[0],hP,by rw [List.length_append,List.length_singleton];omega,rfl⟩
  ·refine Aw_skip (hB8 _ ?_)
   refine Aw_st hE [2,3,4,5] [] fun K hK=>?_
   simp only [go_sem,seval]
   refine hK _ (Aw_ret (hQ _ ?_))
   simp only [go_sem,seval]
   exact ⟨R,x,W,o,hP,by omega,rfl⟩
def vwA (b:Nat):Option (List Int × Nat)→AV
 | none=>.nl
 | some (l,e)=>.xs b 0 l.length (e + l.length) 1
def vwM (b:Nat):Option (List Int × Nat)→List (Nat × List AV)
 | none=>[]
 | some (l,e)=>[(b,cI l++jN e)]
def vwL:Option (List Int × Nat)→List Int
 | none=>[]
 | some (l,_)=>l
attribute [go_sem] vwA vwM vwL
theorem row_inj {l l':List Int} {e e':Nat} (h1:l.length=l'.length) (h:cI l++jN e=cI l'++jN e'):l=l'∧e=e':=by
 obtain ⟨h2,h3⟩:=List.append_inj h (by rw [cI_len,cI_len];exact h1)
 refine ⟨cI_inj h2,?_⟩
 have:=congrArg List.length h3
 rwa [jN_len,jN_len] at this
theorem vw_inj {b:Nat}:∀ {i j:Option (List Int × Nat)},vwA b i=vwA b j→vwM b i=vwM b j→i=j
 | none,none,_,_=>rfl
 | none,some _,h,_=>by cases h
 | some _,none,h,_=>by cases h
 | some (l,e),some (l',e'),h1,h2=>by
  simp only [vwA,AV.xs.injEq,true_and,and_true] at h1
  simp only [vwM,List.cons.injEq,Prod.mk.injEq,true_and,and_true] at h2
  obtain ⟨rfl,rfl⟩:=row_inj h1.1 h2
  rfl
def eVw (i:Option (List Int × Nat) × Int):List AV × List (Nat × List AV):=([vwA 1000 i.1,iv i.2],vwM 1000 i.1)
theorem eVw_inj (i j:Option (List Int × Nat) × Int) (h:eVw i=eVw j):i=j:=by
 obtain ⟨o,x⟩:=i
 obtain ⟨o',x'⟩:=j
 obtain ⟨h1,h2⟩:=Prod.mk.inj h
 obtain ⟨h1,h3⟩:=List.cons.inj h1
 obtain rfl:o=o':=vw_inj h1 h2
 have h3:x=x':=by simpa using h3
 rw [h3]
def cIdxV:ConM:=mkM (fun _=>True) eVw (fun i=>(vwL i.1).length≤1000) fun i r m2=>r=iv (idxB (fun x=>decide (i.2=x)) (vwL i.1) 0)∧m2=vwM 1000 i.1
theorem idxV_preN (h:Int):cIdxV.pre [.nl,iv h] []=True:=(mkM_pre eVw_inj (none,h) rfl).trans (eq_true (show 0≤1000 by decide))
theorem idxV_postN (h:Int) (K:AV→List (Nat × List AV)→Prop):(∀ r m2,cIdxV.post [.nl,iv h] [] r m2→K r m2)=K (iv (-1)) []:=(mkM_post eVw_inj (none,h) rfl K).trans (mkM_fn _ _)
theorem idxV_pre (l:List Int) (e:Nat) (h:Int):cIdxV.pre [.xs 1000 0 l.length (e + l.length) 1,iv h] [(1000,cI l++jN e)]=(l.length≤1000):=mkM_pre eVw_inj (some (l,e),h) rfl
theorem idxV_post (l:List Int) (e:Nat) (h:Int) (K:AV→List (Nat × List AV)→Prop):(∀ r m2,cIdxV.post [.xs 1000 0 l.length (e + l.length) 1,iv h] [(1000,cI l++jN e)] r m2→K r m2)=K (iv (idxB (fun x=>decide (h=x)) l 0)) [(1000,cI l++jN e)]:=(mkM_post eVw_inj (some (l,e),h) rfl K).trans (mkM_fn _ _)
attribute [go_sem] idxV_preN idxV_postN idxV_pre idxV_post
def cHasV:ConM:=mkM (fun _=>True) eVw (fun i=>(vwL i.1).length≤1000) fun i r m2=>r=bv ((vwL i.1).contains i.2)∧m2=vwM 1000 i.1
theorem hasV_preN (h:Int):cHasV.pre [.nl,iv h] []=True:=(mkM_pre eVw_inj (none,h) rfl).trans (eq_true (show 0≤1000 by decide))
theorem hasV_postN (h:Int) (K:AV→List (Nat × List AV)→Prop):(∀ r m2,cHasV.post [.nl,iv h] [] r m2→K r m2)=K (bv false) []:=(mkM_post eVw_inj (none,h) rfl K).trans (mkM_fn _ _)
theorem hasV_pre (l:List Int) (e:Nat) (h:Int):cHasV.pre [.xs 1000 0 l.length (e + l.length) 1,iv h] [(1000,cI l++jN e)]=(l.length≤1000):=mkM_pre eVw_inj (some (l,e),h) rfl
theorem hasV_post (l:List Int) (e:Nat) (h:Int) (K:AV→List (Nat × List AV)→Prop):(∀ r m2,cHasV.post [.xs 1000 0 l.length (e + l.length) 1,iv h] [(1000,cI l++jN e)] r m2→K r m2)=K (bv (l.contains h)) [(1000,cI l++jN e)]:=(mkM_post eVw_inj (some (l,e),h) rfl K).trans (mkM_fn _ _)
attribute [go_sem] hasV_preN hasV_postN hasV_pre hasV_post
theorem jN_mvn (f:Nat→Option Nat) (c:Nat):AV.mvnAll f (jN c)=jN c:=by rw [mvnAll_eq,jN,List.map_replicate];rfl
theorem jN_stripF (F:Nat→Bool) (c:Nat):AV.stripFAll F (jN c)=jN c:=by rw [stripFAll_eq,jN,List.map_replicate];rfl
theorem row_mvn (f:Nat→Option Nat) (l:List Int) (c:Nat):AV.mvnAll f (cI l++jN c)=cI l++jN c:=by
 rw [mvnAll_eq,List.map_append,cI,jN,List.map_map,List.map_replicate];rfl
theorem row_nt (l:List Int) (c:Nat):AV.ntAll (cI l++jN c)=cI l++jN c:=by
 rw [ntAll_eq,List.map_append,cI,jN,List.map_map,List.map_replicate];rfl
theorem row_stripF (F:Nat→Bool) (l:List Int) (c:Nat):AV.stripFAll F (cI l++jN c)=cI l++jN c:=by
 rw [stripFAll_eq,List.map_append,cI,jN,List.map_map,List.map_replicate];rfl
theorem rhoS_row (m:List (Nat × List AV)) (c:Nat):∀ (l:List Int) (f n:Nat) (ρ:List (Nat × Nat)),rhoS m f n (cI l++jN c) ρ=ρ
 | x::l,0,_,_=>rfl
 | x::l,f + 1,n,ρ=>rhoS_row m c l f n ρ
 | [],f,n,ρ=>by
  show rhoS m f n (jN c) ρ=ρ
  induction c generalizing f with
  | zero=>cases f<;>rfl
  | succ c ih=>cases f with
   | zero=>rfl
   | succ f=>exact ih f
attribute [go_sem] jN_mvn jN_stripF row_mvn row_nt row_stripF rhoS_row
structure Od where
 n:Int
 t:List (Value × Value)
 o:Option (List Int × Nat)
def Od.M (N:Od) (a b c:Nat):List (Nat × List AV):=(a,[vwA c N.o])::(b,[iv N.n,.dv (.mp N.t)])::vwM c N.o
attribute [go_sem] Od.M
def eOd (i:Od × Int):List AV × List (Nat × List AV):=([iv i.2,.loc 1000 0,.loc 1001 0],i.1.M 1000 1001 1002)
theorem eOd_inj (i j:Od × Int) (h:eOd i=eOd j):i=j:=by
 obtain ⟨⟨n,t,o⟩,x⟩:=i
 obtain ⟨⟨n',t',o'⟩,x'⟩:=j
 obtain ⟨h1,h2⟩:=Prod.mk.inj h
 obtain ⟨h3,h4⟩:=List.cons.inj h2
 obtain ⟨h4,h5⟩:=List.cons.inj h4
 have h3:=(List.cons.inj (Prod.mk.inj h3).2).1
 obtain rfl:o=o':=vw_inj h3 h5
 simp only [List.cons.injEq,true_and,AV.v.injEq,Value.int.injEq,and_true] at h1
 simp only [List.cons.injEq,Prod.mk.injEq,true_and,and_true,AV.v.injEq,Value.int.injEq,AV.dv.injEq,DV.mp.injEq] at h4
 obtain ⟨rfl,rfl⟩:=h4
 rw [h1]
def cRdy:ConM:=mkM (fun _=>True) eOd (fun i=>mpI i.1.t∧0≤i.1.n∧i.1.n≤1000∧(vwL i.1.o).length≤1000) fun i r m2=>r=bv (rdyB i.1.n.toNat (lkF i.1.t) (vwL i.1.o) i.2)∧m2=i.1.M 1000 1001 1002
theorem rdy_preN (n:Int) (t:List (Value × Value)) (h:Int):cRdy.pre [iv h,.loc 1000 0,.loc 1001 0] [(1000,[.nl]),(1001,[iv n,.dv (.mp t)])]=(mpI t∧0≤n∧n≤1000∧0≤1000):=mkM_pre eOd_inj (⟨n,t,none⟩,h) rfl
theorem rdy_postN (n:Int) (t:List (Value × Value)) (h:Int) (K:AV→List (Nat × List AV)→Prop):(∀ r m2,cRdy.post [iv h,.loc 1000 0,.loc 1001 0] [(1000,[.nl]),(1001,[iv n,.dv (.mp t)])] r m2→K r m2)=K (bv (rdyB n.toNat (lkF t) [] h)) [(1000,[.nl]),(1001,[iv n,.dv (.mp t)])]:=(mkM_post eOd_inj (⟨n,t,none⟩,h) rfl K).trans (mkM_fn _ _)
theorem rdy_pre (n:Int) (t:List (Value × Value)) (l:List Int) (e:Nat) (h:Int):cRdy.pre [iv h,.loc 1000 0,.loc 1001 0] [(1000,[.xs 1002 0 l.length (e + l.length) 1]),(1001,[iv n,.dv (.mp t)]),(1002,cI l++jN e)]=(mpI t∧0≤n∧n≤1000∧l.length≤1000):=mkM_pre eOd_inj (⟨n,t,some (l,e)⟩,h) rfl
theorem rdy_post (n:Int) (t:List (Value × Value)) (l:List Int) (e:Nat) (h:Int) (K:AV→List (Nat × List AV)→Prop):(∀ r m2,cRdy.post [iv h,.loc 1000 0,.loc 1001 0] [(1000,[.xs 1002 0 l.length (e + l.length) 1]),(1001,[iv n,.dv (.mp t)]),(1002,cI l++jN e)] r m2→K r m2)=K (bv (rdyB n.toNat (lkF t) l h)) [(1000,[.xs 1002 0 l.length (e + l.length) 1]),(1001,[iv n,.dv (.mp t)]),(1002,cI l++jN e)]:=(mkM_post eOd_inj (⟨n,t,some (l,e)⟩,h) rfl K).trans (mkM_fn _ _)
attribute [go_sem] rdy_preN rdy_postN rdy_pre rdy_post
def gOrd:List AV→Option (Prop × AV)
 | [.agg [.v (.int .i64 n),.dv (.mp t)]]=>some (mpI t∧0≤n∧n≤1000,match ordF n.toNat (lkF t) n.toNat [] with
  | some l=>.tup [isl l,bv true]
  | none=>.tup [isl [],bv false])
 | _=>none
def dOrd:DFn:={ g:=gOrd }
attribute [go_sem] gOrd dOrd
def ordR (R:List (List Int)):Option (List Int):=if relsOk R then ordF R.length (ofR R) R.length [] else none
def gRelsOrder:List AV→Option (Prop × AV)
 | [.sl _ els]=>(match waysL els with
  | some R=>some (bigM R,.tup [isl ((ordR R).getD []),bv (ordR R).isSome])
  | none=>none)
 | _=>none
def dRelsOrder:DFn:={ g:=gRelsOrder }
def gRelsFree:List AV→Option (Prop × AV)
 | [.sl _ els]=>(match waysL els with
  | some R=>some (bigM R,bv (ordR R).isSome)
  | none=>none)
 | _=>none
def dRelsFree:DFn:={ g:=gRelsFree }
attribute [go_sem] gRelsOrder dRelsOrder gRelsFree dRelsFree
def endR (R:List (List Int)) (x:Int):List (List Int):=if relsOk R && hIb R.length x then endL R.length (ofR R) x else []
structure FreeR (R:List (List Int)) (x:Int):Prop where
 ok:relsOk R=true
 home:hI R.length x
 n5:R.length≤5
 H:RelH R.length (ofR R)
 rk:∃ rk,Rk R.length (ofR R) rk
 eq:endR R x=endL R.length (ofR R) x
 len:(endR R x).length=R.length
theorem endR_def (R:List (List Int)) (x:Int):(if (relsOk R && hIb R.length x)=true then endL R.length (ofR R) x else [])=endR R x:=rfl
attribute [go_sem] endR_def
section
variable {R:List (List Int)} {x:Int}
theorem FreeR.net (F:FreeR R x):netS R.length (ofR R) x (toS (endR R x)):=by rw [F.eq];exact end_net F.n5 F.home
theorem FreeR.still (F:FreeR R x):stillS R.length (ofR R) x (toS (endR R x)):=by
 obtain ⟨rk,K⟩:=F.rk
 rw [F.eq];exact end_still F.H K F.home
theorem FreeR.hi (_:FreeR R x) {i:Nat} (hi:i < R.length):hI R.length ((i:Int) + 1):=⟨by omega,by omega⟩
theorem toS_at {W:List (List Int)} {y:Int} (h:1≤y):toS W y=W.getD (y - 1).toNat []:=if_pos h
end
def pickR (R:List (List Int)) (x:Int) (W:List (List Int)) (h:Int):List Int:=if netOk R x W && hIb R.length h then pickN R.length (ofR R) x (toS W) h else []
theorem pickR_def (R:List (List Int)) (x:Int) (W:List (List Int)) (h:Int):(if (netOk R x W && hIb R.length h)=true then pickN R.length (ofR R) x (toS W) h else [])=pickR R x W h:=rfl
def stepR (R:List (List Int)) (x:Int) (W:List (List Int)) (h:Int):List (List Int):=if netOk R x W && hIb R.length h then stpL R.length (ofR R) x W h else []
theorem stepR_def (R:List (List Int)) (x:Int) (W:List (List Int)) (h:Int):(if (netOk R x W && hIb R.length h)=true then stpL R.length (ofR R) x W h else [])=stepR R x W h:=rfl
def playR (R:List (List Int)) (x:Int) (W:List (List Int)) (o:List Int):List (List Int):=if playOk R x W o then runL R.length (ofR R) x W o else []
theorem playR_def (R:List (List Int)) (x:Int) (W:List (List Int)) (o:List Int):(if playOk R x W o=true then runL R.length (ofR R) x W o else [])=playR R x W o:=rfl
attribute [go_sem] pickR_def stepR_def playR_def
section
variable {R:List (List Int)} {x:Int} {W:List (List Int)} {h:Int}
theorem net5 (hn:netOk R x W=true):R.length≤5:=(relsOk_iff.1 (netOk_iff.1 hn).1).1.2
theorem net_s (hn:netOk R x W=true):netS R.length (ofR R) x (toS W):=(netOk_iff.1 hn).2.2
theorem net_l (hn:netOk R x W=true):W.length=R.length:=(netOk_iff.1 hn).2.1
theorem net_h (hn:netOk R x W=true):hI R.length x:=(net_s hn).1
theorem pickR_eq (hn:netOk R x W=true) (hh:hI R.length h):pickR R x W h=pickN R.length (ofR R) x (toS W) h:=by
 unfold pickR;rw [hn,hIb_iff.2 hh];rfl
theorem pickR_len:(pickR R x W h).length≤5:=by
 unfold pickR
 split
 ·rename_i e
  rw [Bool.and_eq_true] at e
  have hh:=hIb_iff.1 e.2
  have hv:=wayPick_ok (net5 e.1) (net_s e.1) hh
  by_cases he:pickN R.length (ofR R) x (toS W) h=[]
  ·rw [he];simp
  ·have:=pathOk_len ((wayOk_iff he).1 hv).2.2.1
   omega
 ·simp
theorem run_net {o:List Int} (hn:netOk R x W=true) (ho:∀ y ∈ o,hI R.length y):netOk R x (runL R.length (ofR R) x W o)=true:=by
 obtain ⟨h1,h2,h3⟩:=netOk_iff.1 hn
 obtain ⟨e1,e2⟩:=toS_run (of:=ofR R) (home:=x) o h2 ho
 exact netOk_iff.2 ⟨h1,e2,by rw [e1];exact netS_run (net5 hn) o h3 ho⟩
theorem play_iff {o:List Int}:playOk R x W o=true↔netOk R x W=true∧o.length≤200∧∀ y ∈ o,hI R.length y:=by
 simp only [playOk,Bool.and_eq_true,dte,List.all_eq_true,hIb_iff,and_assoc]
theorem playR_eq {o:List Int} (hp:playOk R x W o=true):playR R x W o=runL R.length (ofR R) x W o:=by
 unfold playR;rw [if_pos hp]
theorem playR_net {o:List Int} (hp:playOk R x W o=true):netOk R x (playR R x W o)=true:=by
 rw [playR_eq hp]
 obtain ⟨h1,_,h3⟩:=play_iff.1 hp
 exact run_net h1 h3
theorem playR_ok {o:List Int}:okW (playR R x W o):=by
 cases hp:playOk R x W o with
 | true=>exact okW_net (playR_net hp)
 | false=>unfold playR;rw [hp];exact okW_nil
theorem net_home_i (hn:netOk R x W=true):W.getD (x - 1).toNat []=[x]:=by
 have h1:=netS_home (net_s hn)
 rwa [toS_at (net_h hn).1] at h1
theorem pickR_home (hn:netOk R x W=true):pickR R x W x=[x]:=by
 rw [pickR_eq hn (net_h hn)];exact pick_home
end
end Go.Proofs.W
end
