/- YtgfclgpljhiicaaDoorWd: part of the proof that laws hold, for every input that the row speaks of (no condition of ours). -/
import Derived.Test.YtgfclgpljhiicaaDoorWc
import Derived.Test.YtgfclgpljhiicaaDoorWa
import Derived.Test.YtgfclgpljhiicaaDoorWb
import Derived.Test.YtgfclgpljhiicaaDoorEc
set_option linter.unusedVariables false
set_option linter.unusedSimpArgs false
section
namespace Go.Proofs.W
open Go Go.Eng Go.RowKit
set_option linter.unusedSimpArgs false
set_option maxRecDepth 100000
/-! relations are drawn: made -/
set_option maxHeartbeats 16000000 in
theorem relsA2 {E:En} (hE:TbOk E tbRels) {k:Nat} (hk:k + 40≤1099511627776) {Q:Exit→St→Prop} (hQ:∀ (L:List (List Int)) (rn:Nat),(2≤L.length∧L.length≤5)→(∀ w ∈ L,w.length=L.length)→rn≤k + 40→Aw E .ret ⟨111,[(2,wsl L)],[],rn⟩ Q):Aw E (seqB (seqB (seqB (Tryd.f30.body.getD .skip)))) ⟨111,[(0,.rd),(3,iv 2),(4,.xs 17 0 0 0 1)],[(17,[])],k + 1⟩ Q:=by
 refine Aw_sq fun B1 hB1 hR1 hX1=>?_
 refine Aw_st hE [0,3,4,5] [17,25,27,700,701,710,711,712,713,714,720,721,722,723,724] fun K hK=>?_
 simp only [go_sem,seval]
 refine hK _ ?_;clear hK K
 refine Aw_bk fun B2 hN2 hE2 hR2 hX2=>?_
 refine Aw_lp (fun i:Nat × Nat=>⟨111,[(0,.rd),(3,iv 2),(4,.xs 700 0 i.1 (i.2 + i.1) 1),(5,iv (i.1:Int))],(700,vws 2 (fun _=>0) 710 i.1++jN i.2)::bxs 2 (fun _=>0) (fun _=>List.replicate 2 0) 710 i.1,k + 1⟩) (fun i=>i.1≤2) (fun i=>2 - i.1) (0,0) ?_ (by omega) fun i hi B3 hN3 hR3 hX3=>?_
 ·refine (Le_swb _ 17 700 (by decide) (by decide)).trans ?_
  simp only [St.swb,swbσ,swbm,AV.swb,AV.swbAll,swp,jN_swb,row_swb,Nat.reduceEqDiff,if_true,if_false,reduceIte]
  exact Le_wa
 obtain ⟨i,c⟩:=i
 simp only at hi
 refine Aw_sq fun B4 hB4 hR4 hX4=>?_
 rcases (show i=2∨i=0∨i=1 by omega) with rfl | rfl | rfl
 ·refine Aw_st hE [0,3,4,5,20] [17,25,27,700,701,710,711,712,713,714,720,721,722,723,724] fun K hK=>?_
  simp only [go_sem,seval]
  refine hK _ (Aw_no rfl (Aw_exit (hX4 _ _ (hX3 _ _ (hE2 _ (hB1 _ ?_))))))
  refine Aw.leE (LeE_of (show Le _ ⟨111,[(0,.rd),(3,iv 2),(4,.xs 700 0 2 (c + 2) 1)],(700,vws 2 (fun _=>0) 710 2++jN c)::bxs 2 (fun _=>0) (fun _=>List.replicate 2 0) 710 2,k + 1⟩ from Le_wa)) (relsB2 hE hk hQ (fun _=>rfl))
 ·refine Aw_st hE [0,3,4,5,20] [17,25,27,700,701,710,711,712,713,714,720,721,722,723,724] fun K hK=>?_
  simp only [go_sem,seval]
  refine hK _ (Aw_yes rfl (Aw_skip (hB4 _ ?_)))
  refine Aw_sq fun B6 hB6 hR6 hX6=>?_
  refine Aw_bk fun B7 hN7 hE7 hR7 hX7=>?_
  refine Aw_tx hE [0,3,4,5] [17,25,27,700,701,710,711,712,713,714,720,721,722,723,724] fun K hK=>?_
  simp only [go_sem,seval,List.flatten_cons,List.flatten_nil,List.cons_append,List.nil_append]
  refine ⟨fun h=>?_,fun h cap' hcap'=>?_⟩
  ·obtain ⟨c1,rfl⟩:∃ c1,c=c1 + 1:=⟨c - 1,by omega⟩
   simp only [jN_s,List.set_cons_zero]
   refine hK _ (hN7 _ (hB6 _ ?_))
   refine Aw_tx hE [0,3,4,5] [17,25,27,700,701,710,711,712,713,714,720,721,722,723,724] fun K hK=>?_
   simp only [go_sem,seval]
   repeat refine sd0 ?_
   refine hK _ (hN3 (1,c1) _ (by omega) (by simp only;omega) ?_)
   refine (Le_swb _ 25 710 (by decide) (by decide)).trans ?_
   simp only [St.swb,swbσ,swbm,AV.swb,AV.swbAll,swp,jN_swb,row_swb,Nat.reduceEqDiff,if_true,if_false,reduceIte]
   exact Le_wb (by simp only [go_sem,seval,Nat.add_assoc])
  ·obtain ⟨c1,rfl⟩:∃ c1,cap'=c1 + 1:=⟨cap' - 1,by omega⟩
   rw [Nat.add_sub_cancel]
   refine hK _ (hN7 _ (hB6 _ ?_))
   refine Aw_tx hE [0,3,4,5] [17,25,27,700,701,710,711,712,713,714,720,721,722,723,724] fun K hK=>?_
   simp only [go_sem,seval]
   repeat refine sd0 ?_
   refine hK _ (hN3 (1,c1) _ (by omega) (by simp only;omega) ?_)
   refine (Le_swb _ 25 710 (by decide) (by decide)).trans ?_
   simp only [St.swb,swbσ,swbm,AV.swb,AV.swbAll,swp,jN_swb,row_swb,Nat.reduceEqDiff,if_true,if_false,reduceIte]
   refine (Le_swb _ 27 700 (by decide) (by decide)).trans ?_
   simp only [St.swb,swbσ,swbm,AV.swb,AV.swbAll,swp,jN_swb,row_swb,Nat.reduceEqDiff,if_true,if_false,reduceIte]
   exact Le_wb (by simp only [go_sem,seval,Nat.add_assoc])
 ·refine Aw_st hE [0,3,4,5,20] [17,25,27,700,701,710,711,712,713,714,720,721,722,723,724] fun K hK=>?_
  simp only [go_sem,seval]
  refine hK _ (Aw_yes rfl (Aw_skip (hB4 _ ?_)))
  refine Aw_sq fun B6 hB6 hR6 hX6=>?_
  refine Aw_bk fun B7 hN7 hE7 hR7 hX7=>?_
  refine Aw_tx hE [0,3,4,5] [17,25,27,700,701,710,711,712,713,714,720,721,722,723,724] fun K hK=>?_
  simp only [go_sem,seval,List.flatten_cons,List.flatten_nil,List.cons_append,List.nil_append]
  refine ⟨fun h=>?_,fun h cap' hcap'=>?_⟩
  ·obtain ⟨c1,rfl⟩:∃ c1,c=c1 + 1:=⟨c - 1,by omega⟩
   simp only [jN_s,List.set_cons_zero]
   refine hK _ (hN7 _ (hB6 _ ?_))
   refine Aw_tx hE [0,3,4,5] [17,25,27,700,701,710,711,712,713,714,720,721,722,723,724] fun K hK=>?_
   simp only [go_sem,seval]
   repeat refine sd0 ?_
   refine hK _ (hN3 (2,c1) _ (by omega) (by simp only;omega) ?_)
   refine (Le_swb _ 25 711 (by decide) (by decide)).trans ?_
   simp only [St.swb,swbσ,swbm,AV.swb,AV.swbAll,swp,jN_swb,row_swb,Nat.reduceEqDiff,if_true,if_false,reduceIte]
   exact Le_wb (by simp only [go_sem,seval,Nat.add_assoc])
  ·obtain ⟨c1,rfl⟩:∃ c1,cap'=c1 + 2:=⟨cap' - 2,by omega⟩
   rw [Nat.add_sub_cancel]
   refine hK _ (hN7 _ (hB6 _ ?_))
   refine Aw_tx hE [0,3,4,5] [17,25,27,700,701,710,711,712,713,714,720,721,722,723,724] fun K hK=>?_
   simp only [go_sem,seval]
   repeat refine sd0 ?_
   refine hK _ (hN3 (2,c1) _ (by omega) (by simp only;omega) ?_)
   refine (Le_swb _ 25 711 (by decide) (by decide)).trans ?_
   simp only [St.swb,swbσ,swbm,AV.swb,AV.swbAll,swp,jN_swb,row_swb,Nat.reduceEqDiff,if_true,if_false,reduceIte]
   refine (Le_swb _ 27 700 (by decide) (by decide)).trans ?_
   simp only [St.swb,swbσ,swbm,AV.swb,AV.swbAll,swp,jN_swb,row_swb,Nat.reduceEqDiff,if_true,if_false,reduceIte]
   exact Le_wb (by simp only [go_sem,seval,Nat.add_assoc])
set_option maxHeartbeats 16000000 in
theorem relsA3 {E:En} (hE:TbOk E tbRels) {k:Nat} (hk:k + 40≤1099511627776) {Q:Exit→St→Prop} (hQ:∀ (L:List (List Int)) (rn:Nat),(2≤L.length∧L.length≤5)→(∀ w ∈ L,w.length=L.length)→rn≤k + 40→Aw E .ret ⟨111,[(2,wsl L)],[],rn⟩ Q):Aw E (seqB (seqB (seqB (Tryd.f30.body.getD .skip)))) ⟨111,[(0,.rd),(3,iv 3),(4,.xs 17 0 0 0 1)],[(17,[])],k + 1⟩ Q:=by
 refine Aw_sq fun B1 hB1 hR1 hX1=>?_
 refine Aw_st hE [0,3,4,5] [17,25,27,700,701,710,711,712,713,714,720,721,722,723,724] fun K hK=>?_
 simp only [go_sem,seval]
 refine hK _ ?_;clear hK K
 refine Aw_bk fun B2 hN2 hE2 hR2 hX2=>?_
 refine Aw_lp (fun i:Nat × Nat=>⟨111,[(0,.rd),(3,iv 3),(4,.xs 700 0 i.1 (i.2 + i.1) 1),(5,iv (i.1:Int))],(700,vws 3 (fun _=>0) 710 i.1++jN i.2)::bxs 3 (fun _=>0) (fun _=>List.replicate 3 0) 710 i.1,k + 1⟩) (fun i=>i.1≤3) (fun i=>3 - i.1) (0,0) ?_ (by omega) fun i hi B3 hN3 hR3 hX3=>?_
 ·refine (Le_swb _ 17 700 (by decide) (by decide)).trans ?_
  simp only [St.swb,swbσ,swbm,AV.swb,AV.swbAll,swp,jN_swb,row_swb,Nat.reduceEqDiff,if_true,if_false,reduceIte]
  exact Le_wa
 obtain ⟨i,c⟩:=i
 simp only at hi
 refine Aw_sq fun B4 hB4 hR4 hX4=>?_
 rcases (show i=3∨i=0∨i=1∨i=2 by omega) with rfl | rfl | rfl | rfl
 ·refine Aw_st hE [0,3,4,5,20] [17,25,27,700,701,710,711,712,713,714,720,721,722,723,724] fun K hK=>?_
  simp only [go_sem,seval]
  refine hK _ (Aw_no rfl (Aw_exit (hX4 _ _ (hX3 _ _ (hE2 _ (hB1 _ ?_))))))
  refine Aw.leE (LeE_of (show Le _ ⟨111,[(0,.rd),(3,iv 3),(4,.xs 700 0 3 (c + 3) 1)],(700,vws 3 (fun _=>0) 710 3++jN c)::bxs 3 (fun _=>0) (fun _=>List.replicate 3 0) 710 3,k + 1⟩ from Le_wa)) (relsB3 hE hk hQ (fun _=>rfl))
 ·refine Aw_st hE [0,3,4,5,20] [17,25,27,700,701,710,711,712,713,714,720,721,722,723,724] fun K hK=>?_
  simp only [go_sem,seval]
  refine hK _ (Aw_yes rfl (Aw_skip (hB4 _ ?_)))
  refine Aw_sq fun B6 hB6 hR6 hX6=>?_
  refine Aw_bk fun B7 hN7 hE7 hR7 hX7=>?_
  refine Aw_tx hE [0,3,4,5] [17,25,27,700,701,710,711,712,713,714,720,721,722,723,724] fun K hK=>?_
  simp only [go_sem,seval,List.flatten_cons,List.flatten_nil,List.cons_append,List.nil_append]
  refine ⟨fun h=>?_,fun h cap' hcap'=>?_⟩
  ·obtain ⟨c1,rfl⟩:∃ c1,c=c1 + 1:=⟨c - 1,by omega⟩
   simp only [jN_s,List.set_cons_zero]
   refine hK _ (hN7 _ (hB6 _ ?_))
   refine Aw_tx hE [0,3,4,5] [17,25,27,700,701,710,711,712,713,714,720,721,722,723,724] fun K hK=>?_
   simp only [go_sem,seval]
   repeat refine sd0 ?_
   refine hK _ (hN3 (1,c1) _ (by omega) (by simp only;omega) ?_)
   refine (Le_swb _ 25 710 (by decide) (by decide)).trans ?_
   simp only [St.swb,swbσ,swbm,AV.swb,AV.swbAll,swp,jN_swb,row_swb,Nat.reduceEqDiff,if_true,if_false,reduceIte]
   exact Le_wb (by simp only [go_sem,seval,Nat.add_assoc])
  ·obtain ⟨c1,rfl⟩:∃ c1,cap'=c1 + 1:=⟨cap' - 1,by omega⟩
   rw [Nat.add_sub_cancel]
   refine hK _ (hN7 _ (hB6 _ ?_))
   refine Aw_tx hE [0,3,4,5] [17,25,27,700,701,710,711,712,713,714,720,721,722,723,724] fun K hK=>?_
   simp only [go_sem,seval]
   repeat refine sd0 ?_
   refine hK _ (hN3 (1,c1) _ (by omega) (by simp only;omega) ?_)
   refine (Le_swb _ 25 710 (by decide) (by decide)).trans ?_
   simp only [St.swb,swbσ,swbm,AV.swb,AV.swbAll,swp,jN_swb,row_swb,Nat.reduceEqDiff,if_true,if_false,reduceIte]
   refine (Le_swb _ 27 700 (by decide) (by decide)).trans ?_
   simp only [St.swb,swbσ,swbm,AV.swb,AV.swbAll,swp,jN_swb,row_swb,Nat.reduceEqDiff,if_true,if_false,reduceIte]
   exact Le_wb (by simp only [go_sem,seval,Nat.add_assoc])
 ·refine Aw_st hE [0,3,4,5,20] [17,25,27,700,701,710,711,712,713,714,720,721,722,723,724] fun K hK=>?_
  simp only [go_sem,seval]
  refine hK _ (Aw_yes rfl (Aw_skip (hB4 _ ?_)))
  refine Aw_sq fun B6 hB6 hR6 hX6=>?_
  refine Aw_bk fun B7 hN7 hE7 hR7 hX7=>?_
  refine Aw_tx hE [0,3,4,5] [17,25,27,700,701,710,711,712,713,714,720,721,722,723,724] fun K hK=>?_
  simp only [go_sem,seval,List.flatten_cons,List.flatten_nil,List.cons_append,List.nil_append]
  refine ⟨fun h=>?_,fun h cap' hcap'=>?_⟩
  ·obtain ⟨c1,rfl⟩:∃ c1,c=c1 + 1:=⟨c - 1,by omega⟩
   simp only [jN_s,List.set_cons_zero]
   refine hK _ (hN7 _ (hB6 _ ?_))
   refine Aw_tx hE [0,3,4,5] [17,25,27,700,701,710,711,712,713,714,720,721,722,723,724] fun K hK=>?_
   simp only [go_sem,seval]
   repeat refine sd0 ?_
   refine hK _ (hN3 (2,c1) _ (by omega) (by simp only;omega) ?_)
   refine (Le_swb _ 25 711 (by decide) (by decide)).trans ?_
   simp only [St.swb,swbσ,swbm,AV.swb,AV.swbAll,swp,jN_swb,row_swb,Nat.reduceEqDiff,if_true,if_false,reduceIte]
   exact Le_wb (by simp only [go_sem,seval,Nat.add_assoc])
  ·obtain ⟨c1,rfl⟩:∃ c1,cap'=c1 + 2:=⟨cap' - 2,by omega⟩
   rw [Nat.add_sub_cancel]
   refine hK _ (hN7 _ (hB6 _ ?_))
   refine Aw_tx hE [0,3,4,5] [17,25,27,700,701,710,711,712,713,714,720,721,722,723,724] fun K hK=>?_
   simp only [go_sem,seval]
   repeat refine sd0 ?_
   refine hK _ (hN3 (2,c1) _ (by omega) (by simp only;omega) ?_)
   refine (Le_swb _ 25 711 (by decide) (by decide)).trans ?_
   simp only [St.swb,swbσ,swbm,AV.swb,AV.swbAll,swp,jN_swb,row_swb,Nat.reduceEqDiff,if_true,if_false,reduceIte]
   refine (Le_swb _ 27 700 (by decide) (by decide)).trans ?_
   simp only [St.swb,swbσ,swbm,AV.swb,AV.swbAll,swp,jN_swb,row_swb,Nat.reduceEqDiff,if_true,if_false,reduceIte]
   exact Le_wb (by simp only [go_sem,seval,Nat.add_assoc])
 ·refine Aw_st hE [0,3,4,5,20] [17,25,27,700,701,710,711,712,713,714,720,721,722,723,724] fun K hK=>?_
  simp only [go_sem,seval]
  refine hK _ (Aw_yes rfl (Aw_skip (hB4 _ ?_)))
  refine Aw_sq fun B6 hB6 hR6 hX6=>?_
  refine Aw_bk fun B7 hN7 hE7 hR7 hX7=>?_
  refine Aw_tx hE [0,3,4,5] [17,25,27,700,701,710,711,712,713,714,720,721,722,723,724] fun K hK=>?_
  simp only [go_sem,seval,List.flatten_cons,List.flatten_nil,List.cons_append,List.nil_append]
  refine ⟨fun h=>?_,fun h cap' hcap'=>?_⟩
  ·obtain ⟨c1,rfl⟩:∃ c1,c=c1 + 1:=⟨c - 1,by omega⟩
   simp only [jN_s,List.set_cons_zero]
   refine hK _ (hN7 _ (hB6 _ ?_))
   refine Aw_tx hE [0,3,4,5] [17,25,27,700,701,710,711,712,713,714,720,721,722,723,724] fun K hK=>?_
   simp only [go_sem,seval]
   repeat refine sd0 ?_
   refine hK _ (hN3 (3,c1) _ (by omega) (by simp only;omega) ?_)
   refine (Le_swb _ 25 712 (by decide) (by decide)).trans ?_
   simp only [St.swb,swbσ,swbm,AV.swb,AV.swbAll,swp,jN_swb,row_swb,Nat.reduceEqDiff,if_true,if_false,reduceIte]
   exact Le_wb (by simp only [go_sem,seval,Nat.add_assoc])
  ·obtain ⟨c1,rfl⟩:∃ c1,cap'=c1 + 3:=⟨cap' - 3,by omega⟩
   rw [Nat.add_sub_cancel]
   refine hK _ (hN7 _ (hB6 _ ?_))
   refine Aw_tx hE [0,3,4,5] [17,25,27,700,701,710,711,712,713,714,720,721,722,723,724] fun K hK=>?_
   simp only [go_sem,seval]
   repeat refine sd0 ?_
   refine hK _ (hN3 (3,c1) _ (by omega) (by simp only;omega) ?_)
   refine (Le_swb _ 25 712 (by decide) (by decide)).trans ?_
   simp only [St.swb,swbσ,swbm,AV.swb,AV.swbAll,swp,jN_swb,row_swb,Nat.reduceEqDiff,if_true,if_false,reduceIte]
   refine (Le_swb _ 27 700 (by decide) (by decide)).trans ?_
   simp only [St.swb,swbσ,swbm,AV.swb,AV.swbAll,swp,jN_swb,row_swb,Nat.reduceEqDiff,if_true,if_false,reduceIte]
   exact Le_wb (by simp only [go_sem,seval,Nat.add_assoc])
set_option maxHeartbeats 16000000 in
theorem relsA4 {E:En} (hE:TbOk E tbRels) {k:Nat} (hk:k + 40≤1099511627776) {Q:Exit→St→Prop} (hQ:∀ (L:List (List Int)) (rn:Nat),(2≤L.length∧L.length≤5)→(∀ w ∈ L,w.length=L.length)→rn≤k + 40→Aw E .ret ⟨111,[(2,wsl L)],[],rn⟩ Q):Aw E (seqB (seqB (seqB (Tryd.f30.body.getD .skip)))) ⟨111,[(0,.rd),(3,iv 4),(4,.xs 17 0 0 0 1)],[(17,[])],k + 1⟩ Q:=by
 refine Aw_sq fun B1 hB1 hR1 hX1=>?_
 refine Aw_st hE [0,3,4,5] [17,25,27,700,701,710,711,712,713,714,720,721,722,723,724] fun K hK=>?_
 simp only [go_sem,seval]
 refine hK _ ?_;clear hK K
 refine Aw_bk fun B2 hN2 hE2 hR2 hX2=>?_
 refine Aw_lp (fun i:Nat × Nat=>⟨111,[(0,.rd),(3,iv 4),(4,.xs 700 0 i.1 (i.2 + i.1) 1),(5,iv (i.1:Int))],(700,vws 4 (fun _=>0) 710 i.1++jN i.2)::bxs 4 (fun _=>0) (fun _=>List.replicate 4 0) 710 i.1,k + 1⟩) (fun i=>i.1≤4) (fun i=>4 - i.1) (0,0) ?_ (by omega) fun i hi B3 hN3 hR3 hX3=>?_
 ·refine (Le_swb _ 17 700 (by decide) (by decide)).trans ?_
  simp only [St.swb,swbσ,swbm,AV.swb,AV.swbAll,swp,jN_swb,row_swb,Nat.reduceEqDiff,if_true,if_false,reduceIte]
  exact Le_wa
 obtain ⟨i,c⟩:=i
 simp only at hi
 refine Aw_sq fun B4 hB4 hR4 hX4=>?_
 rcases (show i=4∨i=0∨i=1∨i=2∨i=3 by omega) with rfl | rfl | rfl | rfl | rfl
 ·refine Aw_st hE [0,3,4,5,20] [17,25,27,700,701,710,711,712,713,714,720,721,722,723,724] fun K hK=>?_
  simp only [go_sem,seval]
  refine hK _ (Aw_no rfl (Aw_exit (hX4 _ _ (hX3 _ _ (hE2 _ (hB1 _ ?_))))))
  refine Aw.leE (LeE_of (show Le _ ⟨111,[(0,.rd),(3,iv 4),(4,.xs 700 0 4 (c + 4) 1)],(700,vws 4 (fun _=>0) 710 4++jN c)::bxs 4 (fun _=>0) (fun _=>List.replicate 4 0) 710 4,k + 1⟩ from Le_wa)) (relsB4 hE hk hQ (fun _=>rfl))
 ·refine Aw_st hE [0,3,4,5,20] [17,25,27,700,701,710,711,712,713,714,720,721,722,723,724] fun K hK=>?_
  simp only [go_sem,seval]
  refine hK _ (Aw_yes rfl (Aw_skip (hB4 _ ?_)))
  refine Aw_sq fun B6 hB6 hR6 hX6=>?_
  refine Aw_bk fun B7 hN7 hE7 hR7 hX7=>?_
  refine Aw_tx hE [0,3,4,5] [17,25,27,700,701,710,711,712,713,714,720,721,722,723,724] fun K hK=>?_
  simp only [go_sem,seval,List.flatten_cons,List.flatten_nil,List.cons_append,List.nil_append]
  refine ⟨fun h=>?_,fun h cap' hcap'=>?_⟩
  ·obtain ⟨c1,rfl⟩:∃ c1,c=c1 + 1:=⟨c - 1,by omega⟩
   simp only [jN_s,List.set_cons_zero]
   refine hK _ (hN7 _ (hB6 _ ?_))
   refine Aw_tx hE [0,3,4,5] [17,25,27,700,701,710,711,712,713,714,720,721,722,723,724] fun K hK=>?_
   simp only [go_sem,seval]
   repeat refine sd0 ?_
   refine hK _ (hN3 (1,c1) _ (by omega) (by simp only;omega) ?_)
   refine (Le_swb _ 25 710 (by decide) (by decide)).trans ?_
   simp only [St.swb,swbσ,swbm,AV.swb,AV.swbAll,swp,jN_swb,row_swb,Nat.reduceEqDiff,if_true,if_false,reduceIte]
   exact Le_wb (by simp only [go_sem,seval,Nat.add_assoc])
  ·obtain ⟨c1,rfl⟩:∃ c1,cap'=c1 + 1:=⟨cap' - 1,by omega⟩
   rw [Nat.add_sub_cancel]
   refine hK _ (hN7 _ (hB6 _ ?_))
   refine Aw_tx hE [0,3,4,5] [17,25,27,700,701,710,711,712,713,714,720,721,722,723,724] fun K hK=>?_
   simp only [go_sem,seval]
   repeat refine sd0 ?_
   refine hK _ (hN3 (1,c1) _ (by omega) (by simp only;omega) ?_)
   refine (Le_swb _ 25 710 (by decide) (by decide)).trans ?_
   simp only [St.swb,swbσ,swbm,AV.swb,AV.swbAll,swp,jN_swb,row_swb,Nat.reduceEqDiff,if_true,if_false,reduceIte]
   refine (Le_swb _ 27 700 (by decide) (by decide)).trans ?_
   simp only [St.swb,swbσ,swbm,AV.swb,AV.swbAll,swp,jN_swb,row_swb,Nat.reduceEqDiff,if_true,if_false,reduceIte]
   exact Le_wb (by simp only [go_sem,seval,Nat.add_assoc])
 ·refine Aw_st hE [0,3,4,5,20] [17,25,27,700,701,710,711,712,713,714,720,721,722,723,724] fun K hK=>?_
  simp only [go_sem,seval]
  refine hK _ (Aw_yes rfl (Aw_skip (hB4 _ ?_)))
  refine Aw_sq fun B6 hB6 hR6 hX6=>?_
  refine Aw_bk fun B7 hN7 hE7 hR7 hX7=>?_
  refine Aw_tx hE [0,3,4,5] [17,25,27,700,701,710,711,712,713,714,720,721,722,723,724] fun K hK=>?_
  simp only [go_sem,seval,List.flatten_cons,List.flatten_nil,List.cons_append,List.nil_append]
  refine ⟨fun h=>?_,fun h cap' hcap'=>?_⟩
  ·obtain ⟨c1,rfl⟩:∃ c1,c=c1 + 1:=⟨c - 1,by omega⟩
   simp only [jN_s,List.set_cons_zero]
   refine hK _ (hN7 _ (hB6 _ ?_))
   refine Aw_tx hE [0,3,4,5] [17,25,27,700,701,710,711,712,713,714,720,721,722,723,724] fun K hK=>?_
   simp only [go_sem,seval]
   repeat refine sd0 ?_
   refine hK _ (hN3 (2,c1) _ (by omega) (by simp only;omega) ?_)
   refine (Le_swb _ 25 711 (by decide) (by decide)).trans ?_
   simp only [St.swb,swbσ,swbm,AV.swb,AV.swbAll,swp,jN_swb,row_swb,Nat.reduceEqDiff,if_true,if_false,reduceIte]
   exact Le_wb (by simp only [go_sem,seval,Nat.add_assoc])
  ·obtain ⟨c1,rfl⟩:∃ c1,cap'=c1 + 2:=⟨cap' - 2,by omega⟩
   rw [Nat.add_sub_cancel]
   refine hK _ (hN7 _ (hB6 _ ?_))
   refine Aw_tx hE [0,3,4,5] [17,25,27,700,701,710,711,712,713,714,720,721,722,723,724] fun K hK=>?_
   simp only [go_sem,seval]
   repeat refine sd0 ?_
   refine hK _ (hN3 (2,c1) _ (by omega) (by simp only;omega) ?_)
   refine (Le_swb _ 25 711 (by decide) (by decide)).trans ?_
   simp only [St.swb,swbσ,swbm,AV.swb,AV.swbAll,swp,jN_swb,row_swb,Nat.reduceEqDiff,if_true,if_false,reduceIte]
   refine (Le_swb _ 27 700 (by decide) (by decide)).trans ?_
   simp only [St.swb,swbσ,swbm,AV.swb,AV.swbAll,swp,jN_swb,row_swb,Nat.reduceEqDiff,if_true,if_false,reduceIte]
   exact Le_wb (by simp only [go_sem,seval,Nat.add_assoc])
 ·refine Aw_st hE [0,3,4,5,20] [17,25,27,700,701,710,711,712,713,714,720,721,722,723,724] fun K hK=>?_
  simp only [go_sem,seval]
  refine hK _ (Aw_yes rfl (Aw_skip (hB4 _ ?_)))
  refine Aw_sq fun B6 hB6 hR6 hX6=>?_
  refine Aw_bk fun B7 hN7 hE7 hR7 hX7=>?_
  refine Aw_tx hE [0,3,4,5] [17,25,27,700,701,710,711,712,713,714,720,721,722,723,724] fun K hK=>?_
  simp only [go_sem,seval,List.flatten_cons,List.flatten_nil,List.cons_append,List.nil_append]
  refine ⟨fun h=>?_,fun h cap' hcap'=>?_⟩
  ·obtain ⟨c1,rfl⟩:∃ c1,c=c1 + 1:=⟨c - 1,by omega⟩
   simp only [jN_s,List.set_cons_zero]
   refine hK _ (hN7 _ (hB6 _ ?_))
   refine Aw_tx hE [0,3,4,5] [17,25,27,700,701,710,711,712,713,714,720,721,722,723,724] fun K hK=>?_
   simp only [go_sem,seval]
   repeat refine sd0 ?_
   refine hK _ (hN3 (3,c1) _ (by omega) (by simp only;omega) ?_)
   refine (Le_swb _ 25 712 (by decide) (by decide)).trans ?_
   simp only [St.swb,swbσ,swbm,AV.swb,AV.swbAll,swp,jN_swb,row_swb,Nat.reduceEqDiff,if_true,if_false,reduceIte]
   exact Le_wb (by simp only [go_sem,seval,Nat.add_assoc])
  ·obtain ⟨c1,rfl⟩:∃ c1,cap'=c1 + 3:=⟨cap' - 3,by omega⟩
   rw [Nat.add_sub_cancel]
   refine hK _ (hN7 _ (hB6 _ ?_))
   refine Aw_tx hE [0,3,4,5] [17,25,27,700,701,710,711,712,713,714,720,721,722,723,724] fun K hK=>?_
   simp only [go_sem,seval]
   repeat refine sd0 ?_
   refine hK _ (hN3 (3,c1) _ (by omega) (by simp only;omega) ?_)
   refine (Le_swb _ 25 712 (by decide) (by decide)).trans ?_
   simp only [St.swb,swbσ,swbm,AV.swb,AV.swbAll,swp,jN_swb,row_swb,Nat.reduceEqDiff,if_true,if_false,reduceIte]
   refine (Le_swb _ 27 700 (by decide) (by decide)).trans ?_
   simp only [St.swb,swbσ,swbm,AV.swb,AV.swbAll,swp,jN_swb,row_swb,Nat.reduceEqDiff,if_true,if_false,reduceIte]
   exact Le_wb (by simp only [go_sem,seval,Nat.add_assoc])
 ·refine Aw_st hE [0,3,4,5,20] [17,25,27,700,701,710,711,712,713,714,720,721,722,723,724] fun K hK=>?_
  simp only [go_sem,seval]
  refine hK _ (Aw_yes rfl (Aw_skip (hB4 _ ?_)))
  refine Aw_sq fun B6 hB6 hR6 hX6=>?_
  refine Aw_bk fun B7 hN7 hE7 hR7 hX7=>?_
  refine Aw_tx hE [0,3,4,5] [17,25,27,700,701,710,711,712,713,714,720,721,722,723,724] fun K hK=>?_
  simp only [go_sem,seval,List.flatten_cons,List.flatten_nil,List.cons_append,List.nil_append]
  refine ⟨fun h=>?_,fun h cap' hcap'=>?_⟩
  ·obtain ⟨c1,rfl⟩:∃ c1,c=c1 + 1:=⟨c - 1,by omega⟩
   simp only [jN_s,List.set_cons_zero]
   refine hK _ (hN7 _ (hB6 _ ?_))
   refine Aw_tx hE [0,3,4,5] [17,25,27,700,701,710,711,712,713,714,720,721,722,723,724] fun K hK=>?_
   simp only [go_sem,seval]
   repeat refine sd0 ?_
   refine hK _ (hN3 (4,c1) _ (by omega) (by simp only;omega) ?_)
   refine (Le_swb _ 25 713 (by decide) (by decide)).trans ?_
   simp only [St.swb,swbσ,swbm,AV.swb,AV.swbAll,swp,jN_swb,row_swb,Nat.reduceEqDiff,if_true,if_false,reduceIte]
   exact Le_wb (by simp only [go_sem,seval,Nat.add_assoc])
  ·obtain ⟨c1,rfl⟩:∃ c1,cap'=c1 + 4:=⟨cap' - 4,by omega⟩
   rw [Nat.add_sub_cancel]
   refine hK _ (hN7 _ (hB6 _ ?_))
   refine Aw_tx hE [0,3,4,5] [17,25,27,700,701,710,711,712,713,714,720,721,722,723,724] fun K hK=>?_
   simp only [go_sem,seval]
   repeat refine sd0 ?_
   refine hK _ (hN3 (4,c1) _ (by omega) (by simp only;omega) ?_)
   refine (Le_swb _ 25 713 (by decide) (by decide)).trans ?_
   simp only [St.swb,swbσ,swbm,AV.swb,AV.swbAll,swp,jN_swb,row_swb,Nat.reduceEqDiff,if_true,if_false,reduceIte]
   refine (Le_swb _ 27 700 (by decide) (by decide)).trans ?_
   simp only [St.swb,swbσ,swbm,AV.swb,AV.swbAll,swp,jN_swb,row_swb,Nat.reduceEqDiff,if_true,if_false,reduceIte]
   exact Le_wb (by simp only [go_sem,seval,Nat.add_assoc])
set_option maxHeartbeats 16000000 in
theorem relsA5 {E:En} (hE:TbOk E tbRels) {k:Nat} (hk:k + 40≤1099511627776) {Q:Exit→St→Prop} (hQ:∀ (L:List (List Int)) (rn:Nat),(2≤L.length∧L.length≤5)→(∀ w ∈ L,w.length=L.length)→rn≤k + 40→Aw E .ret ⟨111,[(2,wsl L)],[],rn⟩ Q):Aw E (seqB (seqB (seqB (Tryd.f30.body.getD .skip)))) ⟨111,[(0,.rd),(3,iv 5),(4,.xs 17 0 0 0 1)],[(17,[])],k + 1⟩ Q:=by
 refine Aw_sq fun B1 hB1 hR1 hX1=>?_
 refine Aw_st hE [0,3,4,5] [17,25,27,700,701,710,711,712,713,714,720,721,722,723,724] fun K hK=>?_
 simp only [go_sem,seval]
 refine hK _ ?_;clear hK K
 refine Aw_bk fun B2 hN2 hE2 hR2 hX2=>?_
 refine Aw_lp (fun i:Nat × Nat=>⟨111,[(0,.rd),(3,iv 5),(4,.xs 700 0 i.1 (i.2 + i.1) 1),(5,iv (i.1:Int))],(700,vws 5 (fun _=>0) 710 i.1++jN i.2)::bxs 5 (fun _=>0) (fun _=>List.replicate 5 0) 710 i.1,k + 1⟩) (fun i=>i.1≤5) (fun i=>5 - i.1) (0,0) ?_ (by omega) fun i hi B3 hN3 hR3 hX3=>?_
 ·refine (Le_swb _ 17 700 (by decide) (by decide)).trans ?_
  simp only [St.swb,swbσ,swbm,AV.swb,AV.swbAll,swp,jN_swb,row_swb,Nat.reduceEqDiff,if_true,if_false,reduceIte]
  exact Le_wa
 obtain ⟨i,c⟩:=i
 simp only at hi
 refine Aw_sq fun B4 hB4 hR4 hX4=>?_
 rcases (show i=5∨i=0∨i=1∨i=2∨i=3∨i=4 by omega) with rfl | rfl | rfl | rfl | rfl | rfl
 ·refine Aw_st hE [0,3,4,5,20] [17,25,27,700,701,710,711,712,713,714,720,721,722,723,724] fun K hK=>?_
  simp only [go_sem,seval]
  refine hK _ (Aw_no rfl (Aw_exit (hX4 _ _ (hX3 _ _ (hE2 _ (hB1 _ ?_))))))
  refine Aw.leE (LeE_of (show Le _ ⟨111,[(0,.rd),(3,iv 5),(4,.xs 700 0 5 (c + 5) 1)],(700,vws 5 (fun _=>0) 710 5++jN c)::bxs 5 (fun _=>0) (fun _=>List.replicate 5 0) 710 5,k + 1⟩ from Le_wa)) (relsB5 hE hk hQ (fun _=>rfl))
 ·refine Aw_st hE [0,3,4,5,20] [17,25,27,700,701,710,711,712,713,714,720,721,722,723,724] fun K hK=>?_
  simp only [go_sem,seval]
  refine hK _ (Aw_yes rfl (Aw_skip (hB4 _ ?_)))
  refine Aw_sq fun B6 hB6 hR6 hX6=>?_
  refine Aw_bk fun B7 hN7 hE7 hR7 hX7=>?_
  refine Aw_tx hE [0,3,4,5] [17,25,27,700,701,710,711,712,713,714,720,721,722,723,724] fun K hK=>?_
  simp only [go_sem,seval,List.flatten_cons,List.flatten_nil,List.cons_append,List.nil_append]
  refine ⟨fun h=>?_,fun h cap' hcap'=>?_⟩
  ·obtain ⟨c1,rfl⟩:∃ c1,c=c1 + 1:=⟨c - 1,by omega⟩
   simp only [jN_s,List.set_cons_zero]
   refine hK _ (hN7 _ (hB6 _ ?_))
   refine Aw_tx hE [0,3,4,5] [17,25,27,700,701,710,711,712,713,714,720,721,722,723,724] fun K hK=>?_
   simp only [go_sem,seval]
   repeat refine sd0 ?_
   refine hK _ (hN3 (1,c1) _ (by omega) (by simp only;omega) ?_)
   refine (Le_swb _ 25 710 (by decide) (by decide)).trans ?_
   simp only [St.swb,swbσ,swbm,AV.swb,AV.swbAll,swp,jN_swb,row_swb,Nat.reduceEqDiff,if_true,if_false,reduceIte]
   exact Le_wb (by simp only [go_sem,seval,Nat.add_assoc])
  ·obtain ⟨c1,rfl⟩:∃ c1,cap'=c1 + 1:=⟨cap' - 1,by omega⟩
   rw [Nat.add_sub_cancel]
   refine hK _ (hN7 _ (hB6 _ ?_))
   refine Aw_tx hE [0,3,4,5] [17,25,27,700,701,710,711,712,713,714,720,721,722,723,724] fun K hK=>?_
   simp only [go_sem,seval]
   repeat refine sd0 ?_
   refine hK _ (hN3 (1,c1) _ (by omega) (by simp only;omega) ?_)
   refine (Le_swb _ 25 710 (by decide) (by decide)).trans ?_
   simp only [St.swb,swbσ,swbm,AV.swb,AV.swbAll,swp,jN_swb,row_swb,Nat.reduceEqDiff,if_true,if_false,reduceIte]
   refine (Le_swb _ 27 700 (by decide) (by decide)).trans ?_
   simp only [St.swb,swbσ,swbm,AV.swb,AV.swbAll,swp,jN_swb,row_swb,Nat.reduceEqDiff,if_true,if_false,reduceIte]
   exact Le_wb (by simp only [go_sem,seval,Nat.add_assoc])
 ·refine Aw_st hE [0,3,4,5,20] [17,25,27,700,701,710,711,712,713,714,720,721,722,723,724] fun K hK=>?_
  simp only [go_sem,seval]
  refine hK _ (Aw_yes rfl (Aw_skip (hB4 _ ?_)))
  refine Aw_sq fun B6 hB6 hR6 hX6=>?_
  refine Aw_bk fun B7 hN7 hE7 hR7 hX7=>?_
  refine Aw_tx hE [0,3,4,5] [17,25,27,700,701,710,711,712,713,714,720,721,722,723,724] fun K hK=>?_
  simp only [go_sem,seval,List.flatten_cons,List.flatten_nil,List.cons_append,List.nil_append]
  refine ⟨fun h=>?_,fun h cap' hcap'=>?_⟩
  ·obtain ⟨c1,rfl⟩:∃ c1,c=c1 + 1:=⟨c - 1,by omega⟩
   simp only [jN_s,List.set_cons_zero]
   refine hK _ (hN7 _ (hB6 _ ?_))
   refine Aw_tx hE [0,3,4,5] [17,25,27,700,701,710,711,712,713,714,720,721,722,723,724] fun K hK=>?_
   simp only [go_sem,seval]
   repeat refine sd0 ?_
   refine hK _ (hN3 (2,c1) _ (by omega) (by simp only;omega) ?_)
   refine (Le_swb _ 25 711 (by decide) (by decide)).trans ?_
   simp only [St.swb,swbσ,swbm,AV.swb,AV.swbAll,swp,jN_swb,row_swb,Nat.reduceEqDiff,if_true,if_false,reduceIte]
   exact Le_wb (by simp only [go_sem,seval,Nat.add_assoc])
  ·obtain ⟨c1,rfl⟩:∃ c1,cap'=c1 + 2:=⟨cap' - 2,by omega⟩
   rw [Nat.add_sub_cancel]
   refine hK _ (hN7 _ (hB6 _ ?_))
   refine Aw_tx hE [0,3,4,5] [17,25,27,700,701,710,711,712,713,714,720,721,722,723,724] fun K hK=>?_
   simp only [go_sem,seval]
   repeat refine sd0 ?_
   refine hK _ (hN3 (2,c1) _ (by omega) (by simp only;omega) ?_)
   refine (Le_swb _ 25 711 (by decide) (by decide)).trans ?_
   simp only [St.swb,swbσ,swbm,AV.swb,AV.swbAll,swp,jN_swb,row_swb,Nat.reduceEqDiff,if_true,if_false,reduceIte]
   refine (Le_swb _ 27 700 (by decide) (by decide)).trans ?_
   simp only [St.swb,swbσ,swbm,AV.swb,AV.swbAll,swp,jN_swb,row_swb,Nat.reduceEqDiff,if_true,if_false,reduceIte]
   exact Le_wb (by simp only [go_sem,seval,Nat.add_assoc])
 ·refine Aw_st hE [0,3,4,5,20] [17,25,27,700,701,710,711,712,713,714,720,721,722,723,724] fun K hK=>?_
  simp only [go_sem,seval]
  refine hK _ (Aw_yes rfl (Aw_skip (hB4 _ ?_)))
  refine Aw_sq fun B6 hB6 hR6 hX6=>?_
  refine Aw_bk fun B7 hN7 hE7 hR7 hX7=>?_
  refine Aw_tx hE [0,3,4,5] [17,25,27,700,701,710,711,712,713,714,720,721,722,723,724] fun K hK=>?_
  simp only [go_sem,seval,List.flatten_cons,List.flatten_nil,List.cons_append,List.nil_append]
  refine ⟨fun h=>?_,fun h cap' hcap'=>?_⟩
  ·obtain ⟨c1,rfl⟩:∃ c1,c=c1 + 1:=⟨c - 1,by omega⟩
   simp only [jN_s,List.set_cons_zero]
   refine hK _ (hN7 _ (hB6 _ ?_))
   refine Aw_tx hE [0,3,4,5] [17,25,27,700,701,710,711,712,713,714,720,721,722,723,724] fun K hK=>?_
   simp only [go_sem,seval]
   repeat refine sd0 ?_
   refine hK _ (hN3 (3,c1) _ (by omega) (by simp only;omega) ?_)
   refine (Le_swb _ 25 712 (by decide) (by decide)).trans ?_
   simp only [St.swb,swbσ,swbm,AV.swb,AV.swbAll,swp,jN_swb,row_swb,Nat.reduceEqDiff,if_true,if_false,reduceIte]
   exact Le_wb (by simp only [go_sem,seval,Nat.add_assoc])
  ·obtain ⟨c1,rfl⟩:∃ c1,cap'=c1 + 3:=⟨cap' - 3,by omega⟩
   rw [Nat.add_sub_cancel]
   refine hK _ (hN7 _ (hB6 _ ?_))
   refine Aw_tx hE [0,3,4,5] [17,25,27,700,701,710,711,712,713,714,720,721,722,723,724] fun K hK=>?_
   simp only [go_sem,seval]
   repeat refine sd0 ?_
   refine hK _ (hN3 (3,c1) _ (by omega) (by simp only;omega) ?_)
   refine (Le_swb _ 25 712 (by decide) (by decide)).trans ?_
   simp only [St.swb,swbσ,swbm,AV.swb,AV.swbAll,swp,jN_swb,row_swb,Nat.reduceEqDiff,if_true,if_false,reduceIte]
   refine (Le_swb _ 27 700 (by decide) (by decide)).trans ?_
   simp only [St.swb,swbσ,swbm,AV.swb,AV.swbAll,swp,jN_swb,row_swb,Nat.reduceEqDiff,if_true,if_false,reduceIte]
   exact Le_wb (by simp only [go_sem,seval,Nat.add_assoc])
 ·refine Aw_st hE [0,3,4,5,20] [17,25,27,700,701,710,711,712,713,714,720,721,722,723,724] fun K hK=>?_
  simp only [go_sem,seval]
  refine hK _ (Aw_yes rfl (Aw_skip (hB4 _ ?_)))
  refine Aw_sq fun B6 hB6 hR6 hX6=>?_
  refine Aw_bk fun B7 hN7 hE7 hR7 hX7=>?_
  refine Aw_tx hE [0,3,4,5] [17,25,27,700,701,710,711,712,713,714,720,721,722,723,724] fun K hK=>?_
  simp only [go_sem,seval,List.flatten_cons,List.flatten_nil,List.cons_append,List.nil_append]
  refine ⟨fun h=>?_,fun h cap' hcap'=>?_⟩
  ·obtain ⟨c1,rfl⟩:∃ c1,c=c1 + 1:=⟨c - 1,by omega⟩
   simp only [jN_s,List.set_cons_zero]
   refine hK _ (hN7 _ (hB6 _ ?_))
   refine Aw_tx hE [0,3,4,5] [17,25,27,700,701,710,711,712,713,714,720,721,722,723,724] fun K hK=>?_
   simp only [go_sem,seval]
   repeat refine sd0 ?_
   refine hK _ (hN3 (4,c1) _ (by omega) (by simp only;omega) ?_)
   refine (Le_swb _ 25 713 (by decide) (by decide)).trans ?_
   simp only [St.swb,swbσ,swbm,AV.swb,AV.swbAll,swp,jN_swb,row_swb,Nat.reduceEqDiff,if_true,if_false,reduceIte]
   exact Le_wb (by simp only [go_sem,seval,Nat.add_assoc])
  ·obtain ⟨c1,rfl⟩:∃ c1,cap'=c1 + 4:=⟨cap' - 4,by omega⟩
   rw [Nat.add_sub_cancel]
   refine hK _ (hN7 _ (hB6 _ ?_))
   refine Aw_tx hE [0,3,4,5] [17,25,27,700,701,710,711,712,713,714,720,721,722,723,724] fun K hK=>?_
   simp only [go_sem,seval]
   repeat refine sd0 ?_
   refine hK _ (hN3 (4,c1) _ (by omega) (by simp only;omega) ?_)
   refine (Le_swb _ 25 713 (by decide) (by decide)).trans ?_
   simp only [St.swb,swbσ,swbm,AV.swb,AV.swbAll,swp,jN_swb,row_swb,Nat.reduceEqDiff,if_true,if_false,reduceIte]
   refine (Le_swb _ 27 700 (by decide) (by decide)).trans ?_
   simp only [St.swb,swbσ,swbm,AV.swb,AV.swbAll,swp,jN_swb,row_swb,Nat.reduceEqDiff,if_true,if_false,reduceIte]
   exact Le_wb (by simp only [go_sem,seval,Nat.add_assoc])
 ·refine Aw_st hE [0,3,4,5,20] [17,25,27,700,701,710,711,712,713,714,720,721,722,723,724] fun K hK=>?_
  simp only [go_sem,seval]
  refine hK _ (Aw_yes rfl (Aw_skip (hB4 _ ?_)))
  refine Aw_sq fun B6 hB6 hR6 hX6=>?_
  refine Aw_bk fun B7 hN7 hE7 hR7 hX7=>?_
  refine Aw_tx hE [0,3,4,5] [17,25,27,700,701,710,711,712,713,714,720,721,722,723,724] fun K hK=>?_
  simp only [go_sem,seval,List.flatten_cons,List.flatten_nil,List.cons_append,List.nil_append]
  refine ⟨fun h=>?_,fun h cap' hcap'=>?_⟩
  ·obtain ⟨c1,rfl⟩:∃ c1,c=c1 + 1:=⟨c - 1,by omega⟩
   simp only [jN_s,List.set_cons_zero]
   refine hK _ (hN7 _ (hB6 _ ?_))
   refine Aw_tx hE [0,3,4,5] [17,25,27,700,701,710,711,712,713,714,720,721,722,723,724] fun K hK=>?_
   simp only [go_sem,seval]
   repeat refine sd0 ?_
   refine hK _ (hN3 (5,c1) _ (by omega) (by simp only;omega) ?_)
   refine (Le_swb _ 25 714 (by decide) (by decide)).trans ?_
   simp only [St.swb,swbσ,swbm,AV.swb,AV.swbAll,swp,jN_swb,row_swb,Nat.reduceEqDiff,if_true,if_false,reduceIte]
   exact Le_wb (by simp only [go_sem,seval,Nat.add_assoc])
  ·obtain ⟨c1,rfl⟩:∃ c1,cap'=c1 + 5:=⟨cap' - 5,by omega⟩
   rw [Nat.add_sub_cancel]
   refine hK _ (hN7 _ (hB6 _ ?_))
   refine Aw_tx hE [0,3,4,5] [17,25,27,700,701,710,711,712,713,714,720,721,722,723,724] fun K hK=>?_
   simp only [go_sem,seval]
   repeat refine sd0 ?_
   refine hK _ (hN3 (5,c1) _ (by omega) (by simp only;omega) ?_)
   refine (Le_swb _ 25 714 (by decide) (by decide)).trans ?_
   simp only [St.swb,swbσ,swbm,AV.swb,AV.swbAll,swp,jN_swb,row_swb,Nat.reduceEqDiff,if_true,if_false,reduceIte]
   refine (Le_swb _ 27 700 (by decide) (by decide)).trans ?_
   simp only [St.swb,swbσ,swbm,AV.swb,AV.swbAll,swp,jN_swb,row_swb,Nat.reduceEqDiff,if_true,if_false,reduceIte]
   exact Le_wb (by simp only [go_sem,seval,Nat.add_assoc])
set_option maxHeartbeats 4000000 in
theorem l91Rels_ok:Fine Tryd.prog 30 cRelsD:=by
 refine fine_ofX [] gl_nil [] ms_nil [] mm_nil [17,25,26,27,72,79,95,98,99] [] ex_nil (T:=TT) Tryd.func30 rfl Tryd.ntmps30 (by rw [Tryd.results30]) rfl rfl tt (gs_cons pick_ok gs_nil) (ds_cons back_ok ds_nil) ?_
 rintro args rfl
 refine ⟨by simp,fun k hk E hE Q hQ=>?_⟩
 have hk:=hk rfl
 simp only [go_sem] at hk
 have hQ2:∀ (L:List (List Int)) (rn:Nat),(2≤L.length∧L.length≤5)→(∀ w ∈ L,w.length=L.length)→rn≤k + 40→Aw E .ret ⟨111,[(2,wsl L)],[],rn⟩ Q:=by
  intro L rn h1 h2 h3
  refine Aw_ret (hQ _ ?_)
  simp only [go_sem,seval]
  exact ⟨h3,L,h1,h2,rfl⟩
 refine Aw_st hE [0] [17] fun K hK=>?_
 simp only [go_sem,seval]
 refine hK _ ?_;clear hK K
 refine Aw_st hE [0,3] [17] fun K hK=>?_
 simp only [go_sem,seval]
 repeat' (first | (refine And.intro (by first | omega | decide) ?_) | intro)
 rename_i n0 hn1 hn2
 refine hK _ ?_;clear hK K
 refine Aw_st hE [0,3,4] [17] fun K hK=>?_
 simp only [go_sem,seval]
 refine hK _ ?_;clear hK K
 have hn:n0=0∨n0=1∨n0=2∨n0=3:=by omega
 rcases hn with rfl | rfl | rfl | rfl
 ·exact relsA2 hE hk hQ2
 ·exact relsA3 hE hk hQ2
 ·exact relsA4 hE hk hQ2
 ·exact relsA5 hE hk hQ2
end Go.Proofs.W
end
section
namespace Go.Proofs.W
open Go Go.Eng Go.RowKit
set_option linter.unusedSimpArgs false
set_option maxRecDepth 100000
/-! relations and a home are drawn -/
def okRl (R:List (List Int)):Prop:=(2≤R.length∧R.length≤5)∧(∀ w ∈ R,w.length=R.length)
theorem okRl_big {R:List (List Int)} (h:okRl R):bigM R:=⟨by have:=h.1;omega,fun w hw=>by have:=h.2 w hw;have:=h.1;omega⟩
theorem relsD_pre:cRelsD.pre [.rd]=True:=eq_true rfl
theorem relsD_post (args:List AV) (K:AV→Prop):(∀ r,cRelsD.post args r→K r)=(∀ R:List (List Int),okRl R→K (wsl R)):=by
 apply propext
 exact ⟨fun h R hR=>h _ ⟨R,hR.1,hR.2,rfl⟩,fun h r ⟨R,h1,h2,e⟩=>e ▸ h R ⟨h1,h2⟩⟩
theorem relsD_ex (args:List AV):(∃ r,cRelsD.post args r)=True:=eq_true ⟨_,[[0,0],[0,0]],⟨by decide,by decide⟩,by decide,rfl⟩
attribute [go_sem] relsD_pre relsD_post relsD_ex
/-- relations of two to five houses,and a home that may be none of them -/
def cDNE:Con:={ pre:=codeArg,post:=fun _ r=>∃ (R:List (List Int)) (x:Int),okRl R∧(1≤x∧x≤100)∧r = .tup [wsl R,iv x] }
theorem cDNE_own:cDNE.own=false:=rfl
theorem cDNE_draws:cDNE.draws=false:=rfl
theorem cDNE_cost:cDNE.cost=0:=rfl
attribute [go_sem] cDNE_own cDNE_draws cDNE_cost
theorem dne_pre (bs:List Nat) (h:∀ b ∈ bs,b < 256):cDNE.pre [.sl none (byteRows bs)]:=⟨bs,h,rfl⟩
theorem dne_post (args:List AV) (K:AV→Prop):(∀ r,cDNE.post args r→K r)=(∀ (R:List (List Int)) (x:Int),okRl R→1≤x→x≤100→K (.tup [wsl R,iv x])):=by
 apply propext
 exact ⟨fun h R x h1 h2 h3=>h _ ⟨R,x,h1,⟨h2,h3⟩,rfl⟩,fun h r ⟨R,x,h1,⟨h2,h3⟩,e⟩=>e ▸ h R x h1 h2 h3⟩
attribute [go_sem] dne_post
theorem drawNetEnd_ok:Fine Tryd.prog 12 cDNE:=by
 refine fine_draw (T:=TT) (C:=cDNE) Tryd.func12 rfl Tryd.ntmps12 (by rw [Tryd.results12]) rfl rfl tt rfl rfl (G:=[(30,cRelsD),(31,cPick)]) (D:=[]) (gs_cons l91Rels_ok (gs_cons pick_ok gs_nil)) ds_nil (l1:=[_]) (l2:=[_]) rfl rfl rfl rfl (by decide) open_calls ⟨_,Tryd.func29,rfl,rfl⟩ ?_ ?_
 ·rintro args r ⟨R,x,_,_,rfl⟩;rfl
 rintro args ⟨bs,hbs,rfl⟩
 refine ⟨by simp,bs,hbs,fun n E hE J hJ=>?_⟩
 refine Aw_tx hE [0] [] fun K hK=>?_
 simp only [go_sem,seval]
 refine hK _ ?_
 simp only [thenA]
 simp only [go_sem,seval]
 refine hJ _ rfl rfl fun E hE Q hQ=>?_
 simp only [go_sem,seval]
 refine Aw_st hE [4,5] [] fun K hK=>?_
 simp only [go_sem,seval]
 intro R hR
 refine hK _ ?_;clear hK K
 refine Aw_st hE [2,3] [] fun K hK=>?_
 simp only [go_sem,seval]
 intro x hx1 hx2
 refine ⟨⟨by omega,by have:=hR.1;omega⟩,fun y hy1 hy2=>?_⟩
 have hd:y.tdiv 23=0∨y.tdiv 23=1:=by
  rw [Int.tdiv_eq_ediv_of_nonneg hy1];omega
 have hR1:=hR.1
 refine ⟨⟨by omega,by omega⟩,⟨by omega,by omega⟩,⟨by omega,by omega⟩,?_⟩
 refine hK _ (Aw_ret (hQ _ ?_))
 simp only [go_sem,seval]
 exact ⟨R,_,hR,⟨by omega,by omega⟩,rfl⟩
end Go.Proofs.W
end
section
namespace Go.Proofs.W
open Go Go.Eng
/-! rounds of a net -/
def rdH (n s r i:Nat):Nat:=(if (r + s) % 2=1 then n - 1 - (i + r * s) % n else (i + r * s) % n) + 1
def rdP (n s r i:Nat):List Int:=(List.range i).map fun q=>(rdH n s r q:Int)
def lyR (n k s:Nat):List Int:=((List.range k).map fun r=>rdP n s r n).flatten
theorem rdP_succ (n s r i:Nat):rdP n s r (i + 1)=rdP n s r i++[(rdH n s r i:Int)]:=by
 unfold rdP;rw [List.range_succ,List.map_append];rfl
theorem rdP_len (n s r i:Nat):(rdP n s r i).length=i:=by unfold rdP;rw [List.length_map,List.length_range]
theorem lyR_succ (n k s:Nat):lyR n (k + 1) s=lyR n k s++rdP n s k n:=by
 unfold lyR;rw [List.range_succ,List.map_append,List.flatten_append];simp
theorem lyR_len (n s:Nat):∀ k,(lyR n k s).length=k * n
 | 0=>by simp [lyR]
 | k + 1=>by rw [lyR_succ,List.length_append,lyR_len n s k,rdP_len,Nat.succ_mul]
theorem rdH_rng {n:Nat} (hn:0 < n) (s r i:Nat):1≤rdH n s r i∧rdH n s r i≤n:=by
 have:=Nat.mod_lt (i + r * s) hn
 unfold rdH
 split<;>omega
theorem mod_hit {n:Nat} (t m:Nat) (hm:m < n):∃ i,i < n∧(i + t) % n=m:=by
 have hn:0 < n:=by omega
 have ht:=Nat.mod_lt t hn
 refine ⟨(m + (n - t % n)) % n,Nat.mod_lt _ hn,?_⟩
 rw [Nat.mod_add_mod]
 have e:m + (n - t % n) + t=m + n * (t / n + 1):=by
  have:=Nat.div_add_mod t n
  rw [Nat.mul_add,Nat.mul_one]
  omega
 rw [e,Nat.add_mul_mod_self_left,Nat.mod_eq_of_lt hm]
theorem rd_full {n:Nat} (hn:0 < n) (s r:Nat):full n (rdP n s r n):=by
 refine ⟨fun x hx=>?_,fun h hh=>?_⟩
 ·obtain ⟨i,_,rfl⟩:=List.mem_map.1 hx
  have:=rdH_rng hn s r i
  exact ⟨by omega,by omega⟩
 ·obtain ⟨h1,h2⟩:=hh
  obtain ⟨m,rfl⟩:∃ m:Nat,h=(m:Int) + 1:=⟨(h - 1).toNat,by omega⟩
  by_cases e:(r + s) % 2=1
  ·obtain ⟨i,hi,he⟩:=mod_hit (n:=n) (r * s) (n - 1 - m) (by omega)
   refine List.mem_map.2 ⟨i,List.mem_range.2 hi,?_⟩
   unfold rdH
   rw [if_pos e,he]
   omega
  ·obtain ⟨i,hi,he⟩:=mod_hit (n:=n) (r * s) m (by omega)
   refine List.mem_map.2 ⟨i,List.mem_range.2 hi,?_⟩
   unfold rdH
   rw [if_neg e,he]
   omega
theorem lyR_hI {n:Nat} (hn:0 < n) (k s:Nat):∀ x ∈ lyR n k s,hI n x:=fun x hx=>by
 obtain ⟨l,hl,hx⟩:=List.mem_flatten.1 hx
 obtain ⟨r,_,rfl⟩:=List.mem_map.1 hl
 exact (rd_full hn s r).1 x hx
theorem lyR_end {n:Nat} {of:Rel} {home:Int} {rk:Int→Nat} (H:RelH n of) (K:Rk n of rk) {L:List (List Int)} (hl:L.length=n) (hv:hds n (toS L)) (hh:hI n home) {k:Nat} (s:Nat) (hk:2 * n + 1≤k) :
  runL n of home L (lyR n k s)=endL n of home:=by
 have hn:0 < n:=by have:=hh.1;have:=hh.2;omega
 unfold lyR
 exact rounds_end H K hl hv hh (fun l hl=>by obtain ⟨r,_,rfl⟩:=List.mem_map.1 hl;exact rd_full hn s r) (by rw [List.length_map,List.length_range];exact hk)
/-- as the code counts -/
theorem tmod_c (a n:Nat):((a:Int)).tmod (n:Int)=((a % n:Nat):Int):=(Int.ofNat_tmod a n).symm
end Go.Proofs.W
end
section
namespace Go.Proofs.W
open Go Go.Eng Go.RowKit
set_option linter.unusedSimpArgs false
set_option maxRecDepth 100000
/-! rounds: lyRounds -/
def gRnd:List AV→Option (Prop × AV)
 | [.v (.int .i64 n),.v (.int .i64 q),.v (.int .i64 s)]=>some ((1≤n∧n≤1000)∧(0≤q∧q≤1000)∧0≤s∧s≤1000,isl (lyR n.toNat q.toNat s.toNat))
 | _=>none
def dRnd:DFn:={ g:=gRnd }
attribute [go_sem] gRnd dRnd
theorem lyR_z (n s:Nat):lyR n 0 s=[]:=rfl
theorem rdP_z (n s r:Nat):rdP n s r 0=[]:=rfl
set_option maxHeartbeats 1000000 in
theorem lyRounds_ok:Fine Tryd.prog 23 dRnd.con:=by
 refine fine_det (T:=TT) Tryd.func23 rfl Tryd.ntmps23 (by rw [Tryd.results23]) rfl rfl tt (gs_nil) (ds_nil) ?_
 intro args c r h hc
 simp only [dRnd,gRnd] at h
 split at h
 rotate_left
 ·cases h
 obtain ⟨rfl,rfl⟩:=Prod.mk.inj (Option.some.inj h)
 refine ⟨by simp,fun k E hE Q hQ=>?_⟩
 rename_i n q s
 obtain ⟨⟨hn1,hn2⟩,⟨hq1,hq2⟩,hs1,hs2⟩:=hc
 obtain ⟨N,rfl⟩:∃ N:Nat,n=(N:Int):=⟨n.toNat,by omega⟩
 obtain ⟨Q1,rfl⟩:∃ N:Nat,q=(N:Int):=⟨q.toNat,by omega⟩
 obtain ⟨S,rfl⟩:∃ N:Nat,s=(N:Int):=⟨s.toNat,by omega⟩
 simp only [Int.toNat_natCast] at hQ
 refine Aw_st hE [0,1,2] [] fun K hK=>?_
 simp only [go_sem,seval]
 repeat refine sd0 ?_
 refine hK _ ?_;clear hK K
 refine Aw_st hE [0,1,2,7] [] fun K hK=>?_
 simp only [go_sem,seval]
 repeat refine sd0 ?_
 refine hK _ ?_;clear hK K
 refine Aw_sq fun B1 hB1 hR1 hX1=>?_
 refine Aw_st hE [0,1,2,7,8] [] fun K hK=>?_
 simp only [go_sem,seval]
 repeat refine sd0 ?_
 refine hK _ ?_;clear hK K
 refine Aw_bk fun B2 hN2 hE2 hR2 hX2=>?_
 refine Aw_lp (fun i:Nat=>⟨44,[(0,iv (N:Int)),(1,iv (Q1:Int)),(2,iv (S:Int)),(7,.sl (some (11,0,3)) (rows (lyR N i S))),(8,iv (i:Int))],[],k⟩) (fun i:Nat=>i≤Q1) (fun i:Nat=>Q1 - i) (0) (Le_wb (by simp only [go_sem,seval,lyR_z,rows_nil])) (by omega) fun i hi B3 hN3 hR3 hX3=>?_
 obtain ⟨r,rfl⟩:∃ r,r=i:=⟨_,rfl⟩
 have hr:=hi
 refine Aw_sq fun B4 hB4 hR4 hX4=>?_
 refine Aw_st hE [0,1,2,7,8,14] [] fun K hK=>?_
 simp only [go_sem,seval]
 repeat refine sd0 ?_
 refine hK _ (Aw_cond rfl (fun hc5=>?_) (fun hc5=>?_))
 ·simp only [decide_eq_true_eq] at hc5
  have hrk:r < Q1:=by omega
  have hrs:r * S≤1000 * 1000:=Nat.mul_le_mul (by omega) (by omega)
  have hrn:r * N≤1000 * 1000:=Nat.mul_le_mul (by omega) (by omega)
  refine Aw_skip (hB4 _ ?_)
  refine Aw_sq fun B6 hB6 hR6 hX6=>?_
  refine Aw_bk fun B7 hN7 hE7 hR7 hX7=>?_
  refine Aw_st hE [0,1,2,7,8,9] [] fun K hK=>?_
  simp only [go_sem,seval]
  repeat refine sd0 ?_
  refine hK _ ?_;clear hK K
  refine Aw_bk fun B8 hN8 hE8 hR8 hX8=>?_
  refine Aw_lp (fun i:Nat=>⟨44,[(0,iv (N:Int)),(1,iv (Q1:Int)),(2,iv (S:Int)),(7,.sl (some (11,0,3)) (rows (lyR N r S++rdP N S r i))),(8,iv (r:Int)),(9,iv (i:Int))],[],k⟩) (fun i:Nat=>i≤N) (fun i:Nat=>N - i) (0) (Le_wb (by simp only [go_sem,seval,rdP_z,List.append_nil])) (by omega) fun i hi B9 hN9 hR9 hX9=>?_
  refine Aw_sq fun B10 hB10 hR10 hX10=>?_
  refine Aw_st hE [0,1,2,7,8,9,19] [] fun K hK=>?_
  simp only [go_sem,seval]
  repeat refine sd0 ?_
  refine hK _ (Aw_cond rfl (fun hc11=>?_) (fun hc11=>?_))
  ·simp only [decide_eq_true_eq] at hc11
   have e1:(r:Int) * (S:Int)=((r * S:Nat):Int):=(Int.natCast_mul r S).symm
   have e2:(i:Int) + ((r * S:Nat):Int)=((i + r * S:Nat):Int):=by omega
   have e3:=tmod_c (i + r * S) N
   have e4:(r:Int) + (S:Int)=((r + S:Nat):Int):=by omega
   have e5:((r + S:Nat):Int).tmod 2=(((r + S) % 2:Nat):Int):=tmod_c (r + S) 2
   have hlen:(lyR N r S++rdP N S r i).length≤4294967295:=by rw [List.length_append,lyR_len,rdP_len];omega
   have hml:(i + r * S) % N < N:=Nat.mod_lt _ (by omega)
   have hst:lyR N r S++rdP N S r i++[(rdH N S r i:Int)]=lyR N r S++rdP N S r (i + 1):=by rw [rdP_succ,List.append_assoc]
   refine Aw_skip (hB10 _ ?_)
   refine Aw_sq fun B12 hB12 hR12 hX12=>?_
   refine Aw_bk fun B13 hN13 hE13 hR13 hX13=>?_
   refine Aw_st hE [0,1,2,7,8,9,10] [] fun K hK=>?_
   simp only [go_sem,seval,e1,e2,e3]
   repeat refine sd0 ?_
   refine hK _ ?_;clear hK K
   refine Aw_sq fun B14 hB14 hR14 hX14=>?_
   refine Aw_st hE [0,1,2,7,8,9,10,33] [] fun K hK=>?_
   simp only [go_sem,seval,e4,e5]
   repeat refine sd0 ?_
   refine hK _ (Aw_cond rfl (fun hc15=>?_) (fun hc15=>?_))
   ·simp only [decide_eq_true_eq] at hc15
    have he:(N:Int) - 1 - (((i + r * S) % N:Nat):Int) + 1=(rdH N S r i:Int):=by unfold rdH;rw [if_pos (by omega)];omega
    refine Aw_tx hE [0,1,2,7,8,9,10] [] fun K hK=>?_
    simp only [go_sem,seval]
    repeat refine sd0 ?_
    refine hK _ (hB14 _ ?_)
    refine Aw_tx hE [0,1,2,7,8,9] [] fun K hK=>?_
    simp only [go_sem,seval,he,none_row,hst,hlen]
    repeat refine sd0 ?_
    refine hK _ (hN13 _ (hB12 _ ?_))
    refine Aw_tx hE [0,1,2,7,8,9] [] fun K hK=>?_
    simp only [go_sem,seval]
    repeat refine sd0 ?_
    refine hK _ (hN9 (i + 1) _ (by omega) (by omega) (Le_tk 42 11 rfl))
   ·simp only [decide_eq_false_iff_not] at hc15
    have he:(((i + r * S) % N:Nat):Int) + 1=(rdH N S r i:Int):=by unfold rdH;rw [if_neg (by omega)];omega
    refine Aw_skip (hB14 _ ?_)
    refine Aw_tx hE [0,1,2,7,8,9] [] fun K hK=>?_
    simp only [go_sem,seval,he,none_row,hst,hlen]
    repeat refine sd0 ?_
    refine hK _ (hN13 _ (hB12 _ ?_))
    refine Aw_tx hE [0,1,2,7,8,9] [] fun K hK=>?_
    simp only [go_sem,seval]
    repeat refine sd0 ?_
    refine hK _ (hN9 (i + 1) _ (by omega) (by omega) (Le_tk 42 11 rfl))
  ·simp only [decide_eq_false_iff_not] at hc11
   obtain rfl:i=N:=by omega
   rw [← lyR_succ]
   refine Aw_exit (hX10 _ _ (hX9 _ _ (hE8 _ (hN7 _ (hB6 _ ?_)))))
   refine Aw_tx hE [0,1,2,7,8] [] fun K hK=>?_
   simp only [go_sem,seval]
   repeat refine sd0 ?_
   refine hK _ (hN3 (r + 1) _ (by omega) (by omega) (Le_wb (by simp only [go_sem,seval,Int.natCast_add,Int.natCast_one])))
 ·simp only [decide_eq_false_iff_not] at hc5
  obtain rfl:r=Q1:=by omega
  refine Aw_exit (hX4 _ _ (hX3 _ _ (hE2 _ (hB1 _ ?_))))
  refine Aw_st hE [6] [] fun K hK=>?_
  simp only [go_sem,seval]
  repeat refine sd0 ?_
  refine hK _ (Aw_ret (hQ _ ?_))
  simp only [go_sem,seval]
end Go.Proofs.W
end
