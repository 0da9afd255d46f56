/- YtpgilgnkiceggaaGreatDoorWc: part of the proof that laws hold, for every input that the row speaks of (no condition of ours). -/
import Derived.Test.YtpgilgnkiceggaaGreatDoorWb
import Derived.Test.YtpgilgnkiceggaaGreatDoorWa
set_option linter.unusedVariables false
set_option linter.unusedSimpArgs false
section
namespace Go.Proofs.W
open Go Go.Eng Go.RowKit
set_option linter.unusedSimpArgs false
set_option maxRecDepth 100000
/-! lists of nodes,as boxes -/
def hdB:List Gt→Nat→AV
 | [],_=>.v (.pointer none)
 | _::_,k=>.loc k 0
def ndB:List Gt→Nat→List (Nat × List AV)
 | [],_=>[]
 | g::l,k=>(k,gcs g++[hdB l (k + 1)])::ndB l (k + 1)
def sesB (h:Int) (up:Bool) (l:List Gt):List (Nat × List AV):=(600,[iv h,bv up,hdB l 601,iv l.length])::ndB l 601
attribute [go_sem] hdB ndB sesB gcs
def cOpen:ConM:={
 pre:=fun args m1=>∃ (h:Int) (up:Bool) (l:List Gt),args=[.agg [iv h,bv up,.sl none (grows l)]]∧m1=[]∧l.length≤6∧lensG l
 post:=fun args _ r m2=>∀ (h:Int) (up:Bool) (l:List Gt),args=[.agg [iv h,bv up,.sl none (grows l)]]→∀ K:AV→List (Nat × List AV)→Prop,K (.loc 600 0) (sesB h up l)→K r m2 }
theorem open_pre (h:Int) (up:Bool) (l:List Gt):cOpen.pre [.agg [iv h,bv up,.sl none (grows l)]] []=(l.length≤6∧lensG l):=by
 apply propext
 constructor
 ·rintro ⟨h',up',l',e,_,h2⟩
  obtain ⟨rfl,rfl,rfl⟩:=rbav_inj e
  exact h2
 ·exact fun hh=>⟨h,up,l,rfl,rfl,hh⟩
theorem open_post (h:Int) (up:Bool) (l:List Gt) (m1:List (Nat × List AV)) (K:AV→List (Nat × List AV)→Prop):(∀ r m2,cOpen.post [.agg [iv h,bv up,.sl none (grows l)]] m1 r m2→K r m2)=K (.loc 600 0) (sesB h up l):=by
 apply propext
 constructor
 ·intro hh
  refine hh _ _ fun h' up' l' e K' hK'=>?_
  obtain ⟨rfl,rfl,rfl⟩:=rbav_inj e
  exact hK'
 ·exact fun hh r m2 hp=>hp h up l rfl K hh
attribute [go_sem] open_pre
theorem six {l:List Gt} (h:l.length≤6):l=[]∨(∃ g1,l=[g1])∨(∃ g1 g2,l=[g1,g2])∨(∃ g1 g2 g3,l=[g1,g2,g3])∨(∃ g1 g2 g3 g4,l=[g1,g2,g3,g4])∨(∃ g1 g2 g3 g4 g5,l=[g1,g2,g3,g4,g5])∨(∃ g1 g2 g3 g4 g5 g6,l=[g1,g2,g3,g4,g5,g6]):=by
 match l,h with
 | [],_=>exact .inl rfl
 | [a],_=>exact .inr (.inl ⟨_,rfl⟩)
 | [a,b],_=>exact .inr (.inr (.inl ⟨_,_,rfl⟩))
 | [a,b,c],_=>exact .inr (.inr (.inr (.inl ⟨_,_,_,rfl⟩)))
 | [a,b,c,d],_=>exact .inr (.inr (.inr (.inr (.inl ⟨_,_,_,_,rfl⟩))))
 | [a,b,c,d,e],_=>exact .inr (.inr (.inr (.inr (.inr (.inl ⟨_,_,_,_,_,rfl⟩)))))
 | [a,b,c,d,e,f],_=>exact .inr (.inr (.inr (.inr (.inr (.inr ⟨_,_,_,_,_,_,rfl⟩)))))
 | _::_::_::_::_::_::_::_,h=>simp at h
set_option maxHeartbeats 8000000 in
theorem open_ok:FineM Tryz.prog 42 cOpen:=by
 refine fineM_of [] ms_nil [] mm_nil [] [] ex_nil (T:=TT) Tryz.func42 rfl Tryz.ntmps42 (by rw [Tryz.results42]) rfl rfl tt gs_nil (ds_cons copyGot_ok ds_nil) ?_
 rintro args m1 ⟨h0,up,l,rfl,rfl,hl6,hlg⟩
 refine ⟨by simp,fun E hE Q hQ=>?_⟩
 have hpost:∀ m2,m2=sesB h0 up l→cOpen.post [.agg [iv h0,bv up,.sl none (grows l)]] [] (.loc 600 0) m2:=by
  intro m2 hm h' up' l' e K' hK'
  obtain ⟨rfl,rfl,rfl⟩:=rbav_inj e
  rw [hm];exact hK'
 refine Aw_st hE [1] [1,6,15,30,600,601,602,603,604,605,606] fun K hK=>?_
 simp only [go_sem,seval]
 refine hK _ ?_;clear hK K
 refine Aw_st hE [1,3] [1,6,15,30,600,601,602,603,604,605,606] fun K hK=>?_
 simp only [go_sem,seval]
 refine hK _ ?_;clear hK K
 refine Aw.leE (Le_E (Le_swb _ 15 600 (by decide) (by decide))) ?_
 simp only [St.swb,swbσ,swbm,AV.swb,AV.swbAll,swp,Nat.reduceEqDiff,if_true,if_false,reduceIte,gcs,List.cons_append,List.nil_append]
 refine Aw_st hE [1,3,4] [1,6,15,30,600,601,602,603,604,605,606] fun K hK=>?_
 simp only [go_sem,seval]
 refine hK _ ?_;clear hK K
 refine Aw_sq fun B1 hB1 hR1 hX1=>?_
 rcases six hl6 with rfl | ⟨g1,rfl⟩ | ⟨g1,g2,rfl⟩ | ⟨g1,g2,g3,rfl⟩ | ⟨g1,g2,g3,g4,rfl⟩ | ⟨g1,g2,g3,g4,g5,rfl⟩ | ⟨g1,g2,g3,g4,g5,g6,rfl⟩
 ·refine Aw_st hE [3,4,20,21,22] [1,6,15,30,600,601,602,603,604,605,606] fun K hK=>?_
  simp only [go_sem,seval]
  refine hK _ ?_;clear hK K
  refine Aw_bk fun B2 hN2 hE2 hR2 hX2=>?_
  refine Aw_unr 1 ?_
  refine Aw_rd fun B3_0 hN3_0 hR3_0 hX3_0=>?_
  refine Aw_st hE [3,4,20,21,22,23] [1,6,15,30,600,601,602,603,604,605,606] fun K hK=>?_
  simp only [go_sem,seval]
  refine hK _ ?_;clear hK K
  refine Aw_sq fun B4_0 hB4_0 hR4_0 hX4_0=>?_
  refine Aw_no rfl ?_
  refine Aw_exit (hX4_0 _ _ (hX3_0 _ _ (hE2 _ (hB1 _ ?_))))
  refine Aw_st hE [2] [1,6,15,30,600,601,602,603,604,605,606] fun K hK=>?_
  simp only [go_sem,seval]
  refine hK _ ?_
  refine Aw.leE (Le_E (Le_ks [2] [600])) ?_
  refine Aw_ret (hQ _ ?_)
  simp only [go_sem,seval]
  exact hpost _ rfl
 ·refine Aw_st hE [3,4,20,21,22] [1,6,15,30,600,601,602,603,604,605,606] fun K hK=>?_
  simp only [go_sem,seval]
  refine hK _ ?_;clear hK K
  refine Aw_bk fun B2 hN2 hE2 hR2 hX2=>?_
  refine Aw_unr 2 ?_
  refine Aw_rd fun B3_0 hN3_0 hR3_0 hX3_0=>?_
  refine Aw_st hE [3,4,20,21,22,23] [1,6,15,30,600,601,602,603,604,605,606] fun K hK=>?_
  simp only [go_sem,seval]
  refine hK _ ?_;clear hK K
  refine Aw_sq fun B4_0 hB4_0 hR4_0 hX4_0=>?_
  refine Aw_yes rfl ?_
  refine Aw_skip (hB4_0 _ ?_)
  refine Aw_sq fun B6_0 hB6_0 hR6_0 hX6_0=>?_
  refine Aw_bk fun B7_0 hN7_0 hE7_0 hR7_0 hX7_0=>?_
  have hg_0:(grows [g1])[0]? = some g1.row:=rfl
  have hln_0:=hlg g1 (by simp)
  refine Aw_st hE [3,4,6,20,21,22] [1,6,15,30,600,601,602,603,604,605,606] fun K hK=>?_
  simp only [go_sem,seval,hg_0,Int.reduceAdd]
  repeat refine ⟨by first|omega|(and_intros<;>first|omega|exact rows_row _|decide|(simp<;>omega))|fail,?_⟩
  refine hK _ ?_;clear hK K
  refine Aw_st hE [3,4,20,21,22] [1,6,15,30,600,601,602,603,604,605,606] fun K hK=>?_
  simp only [go_sem,seval]
  refine ⟨⟨by omega,by omega⟩,?_⟩
  refine hK _ ?_;clear hK K
  refine Aw_tx hE [3,4,20,21,22] [1,6,15,30,600,601,602,603,604,605,606] fun K hK=>?_
  simp only [go_sem,seval]
  refine hK _ (hN7_0 _ (hB6_0 _ ?_))
  refine Aw.leE (Le_E (Le_swb _ 30 601 (by decide) (by decide))) ?_
  simp only [St.swb,swbσ,swbm,AV.swb,AV.swbAll,swp,Nat.reduceEqDiff,if_true,if_false,reduceIte,gcs,List.cons_append,List.nil_append]
  refine Aw_tx hE [3,4,20,21,22] [1,6,15,30,600,601,602,603,604,605,606] fun K hK=>?_
  simp only [go_sem,seval,Int.reduceAdd]
  repeat refine ⟨by first|omega|(and_intros<;>first|omega|exact rows_row _|decide|(simp<;>omega))|fail,?_⟩
  refine hK _ (hN3_0 _ ?_)
  refine Aw_rd fun B3_1 hN3_1 hR3_1 hX3_1=>?_
  refine Aw_st hE [3,4,20,21,22,23] [1,6,15,30,600,601,602,603,604,605,606] fun K hK=>?_
  simp only [go_sem,seval]
  refine hK _ ?_;clear hK K
  refine Aw_sq fun B4_1 hB4_1 hR4_1 hX4_1=>?_
  refine Aw_no rfl ?_
  refine Aw_exit (hX4_1 _ _ (hX3_1 _ _ (hE2 _ (hB1 _ ?_))))
  refine Aw_st hE [2] [1,6,15,30,600,601,602,603,604,605,606] fun K hK=>?_
  simp only [go_sem,seval]
  refine hK _ ?_
  refine Aw.leE (Le_E (Le_ks [2] [600,601])) ?_
  refine Aw_ret (hQ _ ?_)
  simp only [go_sem,seval]
  exact hpost _ rfl
 ·refine Aw_st hE [3,4,20,21,22] [1,6,15,30,600,601,602,603,604,605,606] fun K hK=>?_
  simp only [go_sem,seval]
  refine hK _ ?_;clear hK K
  refine Aw_bk fun B2 hN2 hE2 hR2 hX2=>?_
  refine Aw_unr 3 ?_
  refine Aw_rd fun B3_0 hN3_0 hR3_0 hX3_0=>?_
  refine Aw_st hE [3,4,20,21,22,23] [1,6,15,30,600,601,602,603,604,605,606] fun K hK=>?_
  simp only [go_sem,seval]
  refine hK _ ?_;clear hK K
  refine Aw_sq fun B4_0 hB4_0 hR4_0 hX4_0=>?_
  refine Aw_yes rfl ?_
  refine Aw_skip (hB4_0 _ ?_)
  refine Aw_sq fun B6_0 hB6_0 hR6_0 hX6_0=>?_
  refine Aw_bk fun B7_0 hN7_0 hE7_0 hR7_0 hX7_0=>?_
  have hg_0:(grows [g1,g2])[0]? = some g1.row:=rfl
  have hln_0:=hlg g1 (by simp)
  refine Aw_st hE [3,4,6,20,21,22] [1,6,15,30,600,601,602,603,604,605,606] fun K hK=>?_
  simp only [go_sem,seval,hg_0,Int.reduceAdd]
  repeat refine ⟨by first|omega|(and_intros<;>first|omega|exact rows_row _|decide|(simp<;>omega))|fail,?_⟩
  refine hK _ ?_;clear hK K
  refine Aw_st hE [3,4,20,21,22] [1,6,15,30,600,601,602,603,604,605,606] fun K hK=>?_
  simp only [go_sem,seval]
  refine ⟨⟨by omega,by omega⟩,?_⟩
  refine hK _ ?_;clear hK K
  refine Aw_tx hE [3,4,20,21,22] [1,6,15,30,600,601,602,603,604,605,606] fun K hK=>?_
  simp only [go_sem,seval]
  refine hK _ (hN7_0 _ (hB6_0 _ ?_))
  refine Aw.leE (Le_E (Le_swb _ 30 601 (by decide) (by decide))) ?_
  simp only [St.swb,swbσ,swbm,AV.swb,AV.swbAll,swp,Nat.reduceEqDiff,if_true,if_false,reduceIte,gcs,List.cons_append,List.nil_append]
  refine Aw_tx hE [3,4,20,21,22] [1,6,15,30,600,601,602,603,604,605,606] fun K hK=>?_
  simp only [go_sem,seval,Int.reduceAdd]
  repeat refine ⟨by first|omega|(and_intros<;>first|omega|exact rows_row _|decide|(simp<;>omega))|fail,?_⟩
  refine hK _ (hN3_0 _ ?_)
  refine Aw_rd fun B3_1 hN3_1 hR3_1 hX3_1=>?_
  refine Aw_st hE [3,4,20,21,22,23] [1,6,15,30,600,601,602,603,604,605,606] fun K hK=>?_
  simp only [go_sem,seval]
  refine hK _ ?_;clear hK K
  refine Aw_sq fun B4_1 hB4_1 hR4_1 hX4_1=>?_
  refine Aw_yes rfl ?_
  refine Aw_skip (hB4_1 _ ?_)
  refine Aw_sq fun B6_1 hB6_1 hR6_1 hX6_1=>?_
  refine Aw_bk fun B7_1 hN7_1 hE7_1 hR7_1 hX7_1=>?_
  have hg_1:(grows [g1,g2])[1]? = some g2.row:=rfl
  have hln_1:=hlg g2 (by simp)
  refine Aw_st hE [3,4,6,20,21,22] [1,6,15,30,600,601,602,603,604,605,606] fun K hK=>?_
  simp only [go_sem,seval,hg_1,Int.reduceAdd]
  repeat refine ⟨by first|omega|(and_intros<;>first|omega|exact rows_row _|decide|(simp<;>omega))|fail,?_⟩
  refine hK _ ?_;clear hK K
  refine Aw_st hE [3,4,20,21,22] [1,6,15,30,600,601,602,603,604,605,606] fun K hK=>?_
  simp only [go_sem,seval]
  refine ⟨⟨by omega,by omega⟩,?_⟩
  refine hK _ ?_;clear hK K
  refine Aw_tx hE [3,4,20,21,22] [1,6,15,30,600,601,602,603,604,605,606] fun K hK=>?_
  simp only [go_sem,seval]
  refine hK _ (hN7_1 _ (hB6_1 _ ?_))
  refine Aw.leE (Le_E (Le_swb _ 30 602 (by decide) (by decide))) ?_
  simp only [St.swb,swbσ,swbm,AV.swb,AV.swbAll,swp,Nat.reduceEqDiff,if_true,if_false,reduceIte,gcs,List.cons_append,List.nil_append]
  refine Aw_tx hE [3,4,20,21,22] [1,6,15,30,600,601,602,603,604,605,606] fun K hK=>?_
  simp only [go_sem,seval,Int.reduceAdd]
  repeat refine ⟨by first|omega|(and_intros<;>first|omega|exact rows_row _|decide|(simp<;>omega))|fail,?_⟩
  refine hK _ (hN3_1 _ ?_)
  refine Aw_rd fun B3_2 hN3_2 hR3_2 hX3_2=>?_
  refine Aw_st hE [3,4,20,21,22,23] [1,6,15,30,600,601,602,603,604,605,606] fun K hK=>?_
  simp only [go_sem,seval]
  refine hK _ ?_;clear hK K
  refine Aw_sq fun B4_2 hB4_2 hR4_2 hX4_2=>?_
  refine Aw_no rfl ?_
  refine Aw_exit (hX4_2 _ _ (hX3_2 _ _ (hE2 _ (hB1 _ ?_))))
  refine Aw_st hE [2] [1,6,15,30,600,601,602,603,604,605,606] fun K hK=>?_
  simp only [go_sem,seval]
  refine hK _ ?_
  refine Aw.leE (Le_E (Le_ks [2] [600,601,602])) ?_
  refine Aw_ret (hQ _ ?_)
  simp only [go_sem,seval]
  exact hpost _ rfl
 ·refine Aw_st hE [3,4,20,21,22] [1,6,15,30,600,601,602,603,604,605,606] fun K hK=>?_
  simp only [go_sem,seval]
  refine hK _ ?_;clear hK K
  refine Aw_bk fun B2 hN2 hE2 hR2 hX2=>?_
  refine Aw_unr 4 ?_
  refine Aw_rd fun B3_0 hN3_0 hR3_0 hX3_0=>?_
  refine Aw_st hE [3,4,20,21,22,23] [1,6,15,30,600,601,602,603,604,605,606] fun K hK=>?_
  simp only [go_sem,seval]
  refine hK _ ?_;clear hK K
  refine Aw_sq fun B4_0 hB4_0 hR4_0 hX4_0=>?_
  refine Aw_yes rfl ?_
  refine Aw_skip (hB4_0 _ ?_)
  refine Aw_sq fun B6_0 hB6_0 hR6_0 hX6_0=>?_
  refine Aw_bk fun B7_0 hN7_0 hE7_0 hR7_0 hX7_0=>?_
  have hg_0:(grows [g1,g2,g3])[0]? = some g1.row:=rfl
  have hln_0:=hlg g1 (by simp)
  refine Aw_st hE [3,4,6,20,21,22] [1,6,15,30,600,601,602,603,604,605,606] fun K hK=>?_
  simp only [go_sem,seval,hg_0,Int.reduceAdd]
  repeat refine ⟨by first|omega|(and_intros<;>first|omega|exact rows_row _|decide|(simp<;>omega))|fail,?_⟩
  refine hK _ ?_;clear hK K
  refine Aw_st hE [3,4,20,21,22] [1,6,15,30,600,601,602,603,604,605,606] fun K hK=>?_
  simp only [go_sem,seval]
  refine ⟨⟨by omega,by omega⟩,?_⟩
  refine hK _ ?_;clear hK K
  refine Aw_tx hE [3,4,20,21,22] [1,6,15,30,600,601,602,603,604,605,606] fun K hK=>?_
  simp only [go_sem,seval]
  refine hK _ (hN7_0 _ (hB6_0 _ ?_))
  refine Aw.leE (Le_E (Le_swb _ 30 601 (by decide) (by decide))) ?_
  simp only [St.swb,swbσ,swbm,AV.swb,AV.swbAll,swp,Nat.reduceEqDiff,if_true,if_false,reduceIte,gcs,List.cons_append,List.nil_append]
  refine Aw_tx hE [3,4,20,21,22] [1,6,15,30,600,601,602,603,604,605,606] fun K hK=>?_
  simp only [go_sem,seval,Int.reduceAdd]
  repeat refine ⟨by first|omega|(and_intros<;>first|omega|exact rows_row _|decide|(simp<;>omega))|fail,?_⟩
  refine hK _ (hN3_0 _ ?_)
  refine Aw_rd fun B3_1 hN3_1 hR3_1 hX3_1=>?_
  refine Aw_st hE [3,4,20,21,22,23] [1,6,15,30,600,601,602,603,604,605,606] fun K hK=>?_
  simp only [go_sem,seval]
  refine hK _ ?_;clear hK K
  refine Aw_sq fun B4_1 hB4_1 hR4_1 hX4_1=>?_
  refine Aw_yes rfl ?_
  refine Aw_skip (hB4_1 _ ?_)
  refine Aw_sq fun B6_1 hB6_1 hR6_1 hX6_1=>?_
  refine Aw_bk fun B7_1 hN7_1 hE7_1 hR7_1 hX7_1=>?_
  have hg_1:(grows [g1,g2,g3])[1]? = some g2.row:=rfl
  have hln_1:=hlg g2 (by simp)
  refine Aw_st hE [3,4,6,20,21,22] [1,6,15,30,600,601,602,603,604,605,606] fun K hK=>?_
  simp only [go_sem,seval,hg_1,Int.reduceAdd]
  repeat refine ⟨by first|omega|(and_intros<;>first|omega|exact rows_row _|decide|(simp<;>omega))|fail,?_⟩
  refine hK _ ?_;clear hK K
  refine Aw_st hE [3,4,20,21,22] [1,6,15,30,600,601,602,603,604,605,606] fun K hK=>?_
  simp only [go_sem,seval]
  refine ⟨⟨by omega,by omega⟩,?_⟩
  refine hK _ ?_;clear hK K
  refine Aw_tx hE [3,4,20,21,22] [1,6,15,30,600,601,602,603,604,605,606] fun K hK=>?_
  simp only [go_sem,seval]
  refine hK _ (hN7_1 _ (hB6_1 _ ?_))
  refine Aw.leE (Le_E (Le_swb _ 30 602 (by decide) (by decide))) ?_
  simp only [St.swb,swbσ,swbm,AV.swb,AV.swbAll,swp,Nat.reduceEqDiff,if_true,if_false,reduceIte,gcs,List.cons_append,List.nil_append]
  refine Aw_tx hE [3,4,20,21,22] [1,6,15,30,600,601,602,603,604,605,606] fun K hK=>?_
  simp only [go_sem,seval,Int.reduceAdd]
  repeat refine ⟨by first|omega|(and_intros<;>first|omega|exact rows_row _|decide|(simp<;>omega))|fail,?_⟩
  refine hK _ (hN3_1 _ ?_)
  refine Aw_rd fun B3_2 hN3_2 hR3_2 hX3_2=>?_
  refine Aw_st hE [3,4,20,21,22,23] [1,6,15,30,600,601,602,603,604,605,606] fun K hK=>?_
  simp only [go_sem,seval]
  refine hK _ ?_;clear hK K
  refine Aw_sq fun B4_2 hB4_2 hR4_2 hX4_2=>?_
  refine Aw_yes rfl ?_
  refine Aw_skip (hB4_2 _ ?_)
  refine Aw_sq fun B6_2 hB6_2 hR6_2 hX6_2=>?_
  refine Aw_bk fun B7_2 hN7_2 hE7_2 hR7_2 hX7_2=>?_
  have hg_2:(grows [g1,g2,g3])[2]? = some g3.row:=rfl
  have hln_2:=hlg g3 (by simp)
  refine Aw_st hE [3,4,6,20,21,22] [1,6,15,30,600,601,602,603,604,605,606] fun K hK=>?_
  simp only [go_sem,seval,hg_2,Int.reduceAdd]
  repeat refine ⟨by first|omega|(and_intros<;>first|omega|exact rows_row _|decide|(simp<;>omega))|fail,?_⟩
  refine hK _ ?_;clear hK K
  refine Aw_st hE [3,4,20,21,22] [1,6,15,30,600,601,602,603,604,605,606] fun K hK=>?_
  simp only [go_sem,seval]
  refine ⟨⟨by omega,by omega⟩,?_⟩
  refine hK _ ?_;clear hK K
  refine Aw_tx hE [3,4,20,21,22] [1,6,15,30,600,601,602,603,604,605,606] fun K hK=>?_
  simp only [go_sem,seval]
  refine hK _ (hN7_2 _ (hB6_2 _ ?_))
  refine Aw.leE (Le_E (Le_swb _ 30 603 (by decide) (by decide))) ?_
  simp only [St.swb,swbσ,swbm,AV.swb,AV.swbAll,swp,Nat.reduceEqDiff,if_true,if_false,reduceIte,gcs,List.cons_append,List.nil_append]
  refine Aw_tx hE [3,4,20,21,22] [1,6,15,30,600,601,602,603,604,605,606] fun K hK=>?_
  simp only [go_sem,seval,Int.reduceAdd]
  repeat refine ⟨by first|omega|(and_intros<;>first|omega|exact rows_row _|decide|(simp<;>omega))|fail,?_⟩
  refine hK _ (hN3_2 _ ?_)
  refine Aw_rd fun B3_3 hN3_3 hR3_3 hX3_3=>?_
  refine Aw_st hE [3,4,20,21,22,23] [1,6,15,30,600,601,602,603,604,605,606] fun K hK=>?_
  simp only [go_sem,seval]
  refine hK _ ?_;clear hK K
  refine Aw_sq fun B4_3 hB4_3 hR4_3 hX4_3=>?_
  refine Aw_no rfl ?_
  refine Aw_exit (hX4_3 _ _ (hX3_3 _ _ (hE2 _ (hB1 _ ?_))))
  refine Aw_st hE [2] [1,6,15,30,600,601,602,603,604,605,606] fun K hK=>?_
  simp only [go_sem,seval]
  refine hK _ ?_
  refine Aw.leE (Le_E (Le_ks [2] [600,601,602,603])) ?_
  refine Aw_ret (hQ _ ?_)
  simp only [go_sem,seval]
  exact hpost _ rfl
 ·refine Aw_st hE [3,4,20,21,22] [1,6,15,30,600,601,602,603,604,605,606] fun K hK=>?_
  simp only [go_sem,seval]
  refine hK _ ?_;clear hK K
  refine Aw_bk fun B2 hN2 hE2 hR2 hX2=>?_
  refine Aw_unr 5 ?_
  refine Aw_rd fun B3_0 hN3_0 hR3_0 hX3_0=>?_
  refine Aw_st hE [3,4,20,21,22,23] [1,6,15,30,600,601,602,603,604,605,606] fun K hK=>?_
  simp only [go_sem,seval]
  refine hK _ ?_;clear hK K
  refine Aw_sq fun B4_0 hB4_0 hR4_0 hX4_0=>?_
  refine Aw_yes rfl ?_
  refine Aw_skip (hB4_0 _ ?_)
  refine Aw_sq fun B6_0 hB6_0 hR6_0 hX6_0=>?_
  refine Aw_bk fun B7_0 hN7_0 hE7_0 hR7_0 hX7_0=>?_
  have hg_0:(grows [g1,g2,g3,g4])[0]? = some g1.row:=rfl
  have hln_0:=hlg g1 (by simp)
  refine Aw_st hE [3,4,6,20,21,22] [1,6,15,30,600,601,602,603,604,605,606] fun K hK=>?_
  simp only [go_sem,seval,hg_0,Int.reduceAdd]
  repeat refine ⟨by first|omega|(and_intros<;>first|omega|exact rows_row _|decide|(simp<;>omega))|fail,?_⟩
  refine hK _ ?_;clear hK K
  refine Aw_st hE [3,4,20,21,22] [1,6,15,30,600,601,602,603,604,605,606] fun K hK=>?_
  simp only [go_sem,seval]
  refine ⟨⟨by omega,by omega⟩,?_⟩
  refine hK _ ?_;clear hK K
  refine Aw_tx hE [3,4,20,21,22] [1,6,15,30,600,601,602,603,604,605,606] fun K hK=>?_
  simp only [go_sem,seval]
  refine hK _ (hN7_0 _ (hB6_0 _ ?_))
  refine Aw.leE (Le_E (Le_swb _ 30 601 (by decide) (by decide))) ?_
  simp only [St.swb,swbσ,swbm,AV.swb,AV.swbAll,swp,Nat.reduceEqDiff,if_true,if_false,reduceIte,gcs,List.cons_append,List.nil_append]
  refine Aw_tx hE [3,4,20,21,22] [1,6,15,30,600,601,602,603,604,605,606] fun K hK=>?_
  simp only [go_sem,seval,Int.reduceAdd]
  repeat refine ⟨by first|omega|(and_intros<;>first|omega|exact rows_row _|decide|(simp<;>omega))|fail,?_⟩
  refine hK _ (hN3_0 _ ?_)
  refine Aw_rd fun B3_1 hN3_1 hR3_1 hX3_1=>?_
  refine Aw_st hE [3,4,20,21,22,23] [1,6,15,30,600,601,602,603,604,605,606] fun K hK=>?_
  simp only [go_sem,seval]
  refine hK _ ?_;clear hK K
  refine Aw_sq fun B4_1 hB4_1 hR4_1 hX4_1=>?_
  refine Aw_yes rfl ?_
  refine Aw_skip (hB4_1 _ ?_)
  refine Aw_sq fun B6_1 hB6_1 hR6_1 hX6_1=>?_
  refine Aw_bk fun B7_1 hN7_1 hE7_1 hR7_1 hX7_1=>?_
  have hg_1:(grows [g1,g2,g3,g4])[1]? = some g2.row:=rfl
  have hln_1:=hlg g2 (by simp)
  refine Aw_st hE [3,4,6,20,21,22] [1,6,15,30,600,601,602,603,604,605,606] fun K hK=>?_
  simp only [go_sem,seval,hg_1,Int.reduceAdd]
  repeat refine ⟨by first|omega|(and_intros<;>first|omega|exact rows_row _|decide|(simp<;>omega))|fail,?_⟩
  refine hK _ ?_;clear hK K
  refine Aw_st hE [3,4,20,21,22] [1,6,15,30,600,601,602,603,604,605,606] fun K hK=>?_
  simp only [go_sem,seval]
  refine ⟨⟨by omega,by omega⟩,?_⟩
  refine hK _ ?_;clear hK K
  refine Aw_tx hE [3,4,20,21,22] [1,6,15,30,600,601,602,603,604,605,606] fun K hK=>?_
  simp only [go_sem,seval]
  refine hK _ (hN7_1 _ (hB6_1 _ ?_))
  refine Aw.leE (Le_E (Le_swb _ 30 602 (by decide) (by decide))) ?_
  simp only [St.swb,swbσ,swbm,AV.swb,AV.swbAll,swp,Nat.reduceEqDiff,if_true,if_false,reduceIte,gcs,List.cons_append,List.nil_append]
  refine Aw_tx hE [3,4,20,21,22] [1,6,15,30,600,601,602,603,604,605,606] fun K hK=>?_
  simp only [go_sem,seval,Int.reduceAdd]
  repeat refine ⟨by first|omega|(and_intros<;>first|omega|exact rows_row _|decide|(simp<;>omega))|fail,?_⟩
  refine hK _ (hN3_1 _ ?_)
  refine Aw_rd fun B3_2 hN3_2 hR3_2 hX3_2=>?_
  refine Aw_st hE [3,4,20,21,22,23] [1,6,15,30,600,601,602,603,604,605,606] fun K hK=>?_
  simp only [go_sem,seval]
  refine hK _ ?_;clear hK K
  refine Aw_sq fun B4_2 hB4_2 hR4_2 hX4_2=>?_
  refine Aw_yes rfl ?_
  refine Aw_skip (hB4_2 _ ?_)
  refine Aw_sq fun B6_2 hB6_2 hR6_2 hX6_2=>?_
  refine Aw_bk fun B7_2 hN7_2 hE7_2 hR7_2 hX7_2=>?_
  have hg_2:(grows [g1,g2,g3,g4])[2]? = some g3.row:=rfl
  have hln_2:=hlg g3 (by simp)
  refine Aw_st hE [3,4,6,20,21,22] [1,6,15,30,600,601,602,603,604,605,606] fun K hK=>?_
  simp only [go_sem,seval,hg_2,Int.reduceAdd]
  repeat refine ⟨by first|omega|(and_intros<;>first|omega|exact rows_row _|decide|(simp<;>omega))|fail,?_⟩
  refine hK _ ?_;clear hK K
  refine Aw_st hE [3,4,20,21,22] [1,6,15,30,600,601,602,603,604,605,606] fun K hK=>?_
  simp only [go_sem,seval]
  refine ⟨⟨by omega,by omega⟩,?_⟩
  refine hK _ ?_;clear hK K
  refine Aw_tx hE [3,4,20,21,22] [1,6,15,30,600,601,602,603,604,605,606] fun K hK=>?_
  simp only [go_sem,seval]
  refine hK _ (hN7_2 _ (hB6_2 _ ?_))
  refine Aw.leE (Le_E (Le_swb _ 30 603 (by decide) (by decide))) ?_
  simp only [St.swb,swbσ,swbm,AV.swb,AV.swbAll,swp,Nat.reduceEqDiff,if_true,if_false,reduceIte,gcs,List.cons_append,List.nil_append]
  refine Aw_tx hE [3,4,20,21,22] [1,6,15,30,600,601,602,603,604,605,606] fun K hK=>?_
  simp only [go_sem,seval,Int.reduceAdd]
  repeat refine ⟨by first|omega|(and_intros<;>first|omega|exact rows_row _|decide|(simp<;>omega))|fail,?_⟩
  refine hK _ (hN3_2 _ ?_)
  refine Aw_rd fun B3_3 hN3_3 hR3_3 hX3_3=>?_
  refine Aw_st hE [3,4,20,21,22,23] [1,6,15,30,600,601,602,603,604,605,606] fun K hK=>?_
  simp only [go_sem,seval]
  refine hK _ ?_;clear hK K
  refine Aw_sq fun B4_3 hB4_3 hR4_3 hX4_3=>?_
  refine Aw_yes rfl ?_
  refine Aw_skip (hB4_3 _ ?_)
  refine Aw_sq fun B6_3 hB6_3 hR6_3 hX6_3=>?_
  refine Aw_bk fun B7_3 hN7_3 hE7_3 hR7_3 hX7_3=>?_
  have hg_3:(grows [g1,g2,g3,g4])[3]? = some g4.row:=rfl
  have hln_3:=hlg g4 (by simp)
  refine Aw_st hE [3,4,6,20,21,22] [1,6,15,30,600,601,602,603,604,605,606] fun K hK=>?_
  simp only [go_sem,seval,hg_3,Int.reduceAdd]
  repeat refine ⟨by first|omega|(and_intros<;>first|omega|exact rows_row _|decide|(simp<;>omega))|fail,?_⟩
  refine hK _ ?_;clear hK K
  refine Aw_st hE [3,4,20,21,22] [1,6,15,30,600,601,602,603,604,605,606] fun K hK=>?_
  simp only [go_sem,seval]
  refine ⟨⟨by omega,by omega⟩,?_⟩
  refine hK _ ?_;clear hK K
  refine Aw_tx hE [3,4,20,21,22] [1,6,15,30,600,601,602,603,604,605,606] fun K hK=>?_
  simp only [go_sem,seval]
  refine hK _ (hN7_3 _ (hB6_3 _ ?_))
  refine Aw.leE (Le_E (Le_swb _ 30 604 (by decide) (by decide))) ?_
  simp only [St.swb,swbσ,swbm,AV.swb,AV.swbAll,swp,Nat.reduceEqDiff,if_true,if_false,reduceIte,gcs,List.cons_append,List.nil_append]
  refine Aw_tx hE [3,4,20,21,22] [1,6,15,30,600,601,602,603,604,605,606] fun K hK=>?_
  simp only [go_sem,seval,Int.reduceAdd]
  repeat refine ⟨by first|omega|(and_intros<;>first|omega|exact rows_row _|decide|(simp<;>omega))|fail,?_⟩
  refine hK _ (hN3_3 _ ?_)
  refine Aw_rd fun B3_4 hN3_4 hR3_4 hX3_4=>?_
  refine Aw_st hE [3,4,20,21,22,23] [1,6,15,30,600,601,602,603,604,605,606] fun K hK=>?_
  simp only [go_sem,seval]
  refine hK _ ?_;clear hK K
  refine Aw_sq fun B4_4 hB4_4 hR4_4 hX4_4=>?_
  refine Aw_no rfl ?_
  refine Aw_exit (hX4_4 _ _ (hX3_4 _ _ (hE2 _ (hB1 _ ?_))))
  refine Aw_st hE [2] [1,6,15,30,600,601,602,603,604,605,606] fun K hK=>?_
  simp only [go_sem,seval]
  refine hK _ ?_
  refine Aw.leE (Le_E (Le_ks [2] [600,601,602,603,604])) ?_
  refine Aw_ret (hQ _ ?_)
  simp only [go_sem,seval]
  exact hpost _ rfl
 ·refine Aw_st hE [3,4,20,21,22] [1,6,15,30,600,601,602,603,604,605,606] fun K hK=>?_
  simp only [go_sem,seval]
  refine hK _ ?_;clear hK K
  refine Aw_bk fun B2 hN2 hE2 hR2 hX2=>?_
  refine Aw_unr 6 ?_
  refine Aw_rd fun B3_0 hN3_0 hR3_0 hX3_0=>?_
  refine Aw_st hE [3,4,20,21,22,23] [1,6,15,30,600,601,602,603,604,605,606] fun K hK=>?_
  simp only [go_sem,seval]
  refine hK _ ?_;clear hK K
  refine Aw_sq fun B4_0 hB4_0 hR4_0 hX4_0=>?_
  refine Aw_yes rfl ?_
  refine Aw_skip (hB4_0 _ ?_)
  refine Aw_sq fun B6_0 hB6_0 hR6_0 hX6_0=>?_
  refine Aw_bk fun B7_0 hN7_0 hE7_0 hR7_0 hX7_0=>?_
  have hg_0:(grows [g1,g2,g3,g4,g5])[0]? = some g1.row:=rfl
  have hln_0:=hlg g1 (by simp)
  refine Aw_st hE [3,4,6,20,21,22] [1,6,15,30,600,601,602,603,604,605,606] fun K hK=>?_
  simp only [go_sem,seval,hg_0,Int.reduceAdd]
  repeat refine ⟨by first|omega|(and_intros<;>first|omega|exact rows_row _|decide|(simp<;>omega))|fail,?_⟩
  refine hK _ ?_;clear hK K
  refine Aw_st hE [3,4,20,21,22] [1,6,15,30,600,601,602,603,604,605,606] fun K hK=>?_
  simp only [go_sem,seval]
  refine ⟨⟨by omega,by omega⟩,?_⟩
  refine hK _ ?_;clear hK K
  refine Aw_tx hE [3,4,20,21,22] [1,6,15,30,600,601,602,603,604,605,606] fun K hK=>?_
  simp only [go_sem,seval]
  refine hK _ (hN7_0 _ (hB6_0 _ ?_))
  refine Aw.leE (Le_E (Le_swb _ 30 601 (by decide) (by decide))) ?_
  simp only [St.swb,swbσ,swbm,AV.swb,AV.swbAll,swp,Nat.reduceEqDiff,if_true,if_false,reduceIte,gcs,List.cons_append,List.nil_append]
  refine Aw_tx hE [3,4,20,21,22] [1,6,15,30,600,601,602,603,604,605,606] fun K hK=>?_
  simp only [go_sem,seval,Int.reduceAdd]
  repeat refine ⟨by first|omega|(and_intros<;>first|omega|exact rows_row _|decide|(simp<;>omega))|fail,?_⟩
  refine hK _ (hN3_0 _ ?_)
  refine Aw_rd fun B3_1 hN3_1 hR3_1 hX3_1=>?_
  refine Aw_st hE [3,4,20,21,22,23] [1,6,15,30,600,601,602,603,604,605,606] fun K hK=>?_
  simp only [go_sem,seval]
  refine hK _ ?_;clear hK K
  refine Aw_sq fun B4_1 hB4_1 hR4_1 hX4_1=>?_
  refine Aw_yes rfl ?_
  refine Aw_skip (hB4_1 _ ?_)
  refine Aw_sq fun B6_1 hB6_1 hR6_1 hX6_1=>?_
  refine Aw_bk fun B7_1 hN7_1 hE7_1 hR7_1 hX7_1=>?_
  have hg_1:(grows [g1,g2,g3,g4,g5])[1]? = some g2.row:=rfl
  have hln_1:=hlg g2 (by simp)
  refine Aw_st hE [3,4,6,20,21,22] [1,6,15,30,600,601,602,603,604,605,606] fun K hK=>?_
  simp only [go_sem,seval,hg_1,Int.reduceAdd]
  repeat refine ⟨by first|omega|(and_intros<;>first|omega|exact rows_row _|decide|(simp<;>omega))|fail,?_⟩
  refine hK _ ?_;clear hK K
  refine Aw_st hE [3,4,20,21,22] [1,6,15,30,600,601,602,603,604,605,606] fun K hK=>?_
  simp only [go_sem,seval]
  refine ⟨⟨by omega,by omega⟩,?_⟩
  refine hK _ ?_;clear hK K
  refine Aw_tx hE [3,4,20,21,22] [1,6,15,30,600,601,602,603,604,605,606] fun K hK=>?_
  simp only [go_sem,seval]
  refine hK _ (hN7_1 _ (hB6_1 _ ?_))
  refine Aw.leE (Le_E (Le_swb _ 30 602 (by decide) (by decide))) ?_
  simp only [St.swb,swbσ,swbm,AV.swb,AV.swbAll,swp,Nat.reduceEqDiff,if_true,if_false,reduceIte,gcs,List.cons_append,List.nil_append]
  refine Aw_tx hE [3,4,20,21,22] [1,6,15,30,600,601,602,603,604,605,606] fun K hK=>?_
  simp only [go_sem,seval,Int.reduceAdd]
  repeat refine ⟨by first|omega|(and_intros<;>first|omega|exact rows_row _|decide|(simp<;>omega))|fail,?_⟩
  refine hK _ (hN3_1 _ ?_)
  refine Aw_rd fun B3_2 hN3_2 hR3_2 hX3_2=>?_
  refine Aw_st hE [3,4,20,21,22,23] [1,6,15,30,600,601,602,603,604,605,606] fun K hK=>?_
  simp only [go_sem,seval]
  refine hK _ ?_;clear hK K
  refine Aw_sq fun B4_2 hB4_2 hR4_2 hX4_2=>?_
  refine Aw_yes rfl ?_
  refine Aw_skip (hB4_2 _ ?_)
  refine Aw_sq fun B6_2 hB6_2 hR6_2 hX6_2=>?_
  refine Aw_bk fun B7_2 hN7_2 hE7_2 hR7_2 hX7_2=>?_
  have hg_2:(grows [g1,g2,g3,g4,g5])[2]? = some g3.row:=rfl
  have hln_2:=hlg g3 (by simp)
  refine Aw_st hE [3,4,6,20,21,22] [1,6,15,30,600,601,602,603,604,605,606] fun K hK=>?_
  simp only [go_sem,seval,hg_2,Int.reduceAdd]
  repeat refine ⟨by first|omega|(and_intros<;>first|omega|exact rows_row _|decide|(simp<;>omega))|fail,?_⟩
  refine hK _ ?_;clear hK K
  refine Aw_st hE [3,4,20,21,22] [1,6,15,30,600,601,602,603,604,605,606] fun K hK=>?_
  simp only [go_sem,seval]
  refine ⟨⟨by omega,by omega⟩,?_⟩
  refine hK _ ?_;clear hK K
  refine Aw_tx hE [3,4,20,21,22] [1,6,15,30,600,601,602,603,604,605,606] fun K hK=>?_
  simp only [go_sem,seval]
  refine hK _ (hN7_2 _ (hB6_2 _ ?_))
  refine Aw.leE (Le_E (Le_swb _ 30 603 (by decide) (by decide))) ?_
  simp only [St.swb,swbσ,swbm,AV.swb,AV.swbAll,swp,Nat.reduceEqDiff,if_true,if_false,reduceIte,gcs,List.cons_append,List.nil_append]
  refine Aw_tx hE [3,4,20,21,22] [1,6,15,30,600,601,602,603,604,605,606] fun K hK=>?_
  simp only [go_sem,seval,Int.reduceAdd]
  repeat refine ⟨by first|omega|(and_intros<;>first|omega|exact rows_row _|decide|(simp<;>omega))|fail,?_⟩
  refine hK _ (hN3_2 _ ?_)
  refine Aw_rd fun B3_3 hN3_3 hR3_3 hX3_3=>?_
  refine Aw_st hE [3,4,20,21,22,23] [1,6,15,30,600,601,602,603,604,605,606] fun K hK=>?_
  simp only [go_sem,seval]
  refine hK _ ?_;clear hK K
  refine Aw_sq fun B4_3 hB4_3 hR4_3 hX4_3=>?_
  refine Aw_yes rfl ?_
  refine Aw_skip (hB4_3 _ ?_)
  refine Aw_sq fun B6_3 hB6_3 hR6_3 hX6_3=>?_
  refine Aw_bk fun B7_3 hN7_3 hE7_3 hR7_3 hX7_3=>?_
  have hg_3:(grows [g1,g2,g3,g4,g5])[3]? = some g4.row:=rfl
  have hln_3:=hlg g4 (by simp)
  refine Aw_st hE [3,4,6,20,21,22] [1,6,15,30,600,601,602,603,604,605,606] fun K hK=>?_
  simp only [go_sem,seval,hg_3,Int.reduceAdd]
  repeat refine ⟨by first|omega|(and_intros<;>first|omega|exact rows_row _|decide|(simp<;>omega))|fail,?_⟩
  refine hK _ ?_;clear hK K
  refine Aw_st hE [3,4,20,21,22] [1,6,15,30,600,601,602,603,604,605,606] fun K hK=>?_
  simp only [go_sem,seval]
  refine ⟨⟨by omega,by omega⟩,?_⟩
  refine hK _ ?_;clear hK K
  refine Aw_tx hE [3,4,20,21,22] [1,6,15,30,600,601,602,603,604,605,606] fun K hK=>?_
  simp only [go_sem,seval]
  refine hK _ (hN7_3 _ (hB6_3 _ ?_))
  refine Aw.leE (Le_E (Le_swb _ 30 604 (by decide) (by decide))) ?_
  simp only [St.swb,swbσ,swbm,AV.swb,AV.swbAll,swp,Nat.reduceEqDiff,if_true,if_false,reduceIte,gcs,List.cons_append,List.nil_append]
  refine Aw_tx hE [3,4,20,21,22] [1,6,15,30,600,601,602,603,604,605,606] fun K hK=>?_
  simp only [go_sem,seval,Int.reduceAdd]
  repeat refine ⟨by first|omega|(and_intros<;>first|omega|exact rows_row _|decide|(simp<;>omega))|fail,?_⟩
  refine hK _ (hN3_3 _ ?_)
  refine Aw_rd fun B3_4 hN3_4 hR3_4 hX3_4=>?_
  refine Aw_st hE [3,4,20,21,22,23] [1,6,15,30,600,601,602,603,604,605,606] fun K hK=>?_
  simp only [go_sem,seval]
  refine hK _ ?_;clear hK K
  refine Aw_sq fun B4_4 hB4_4 hR4_4 hX4_4=>?_
  refine Aw_yes rfl ?_
  refine Aw_skip (hB4_4 _ ?_)
  refine Aw_sq fun B6_4 hB6_4 hR6_4 hX6_4=>?_
  refine Aw_bk fun B7_4 hN7_4 hE7_4 hR7_4 hX7_4=>?_
  have hg_4:(grows [g1,g2,g3,g4,g5])[4]? = some g5.row:=rfl
  have hln_4:=hlg g5 (by simp)
  refine Aw_st hE [3,4,6,20,21,22] [1,6,15,30,600,601,602,603,604,605,606] fun K hK=>?_
  simp only [go_sem,seval,hg_4,Int.reduceAdd]
  repeat refine ⟨by first|omega|(and_intros<;>first|omega|exact rows_row _|decide|(simp<;>omega))|fail,?_⟩
  refine hK _ ?_;clear hK K
  refine Aw_st hE [3,4,20,21,22] [1,6,15,30,600,601,602,603,604,605,606] fun K hK=>?_
  simp only [go_sem,seval]
  refine ⟨⟨by omega,by omega⟩,?_⟩
  refine hK _ ?_;clear hK K
  refine Aw_tx hE [3,4,20,21,22] [1,6,15,30,600,601,602,603,604,605,606] fun K hK=>?_
  simp only [go_sem,seval]
  refine hK _ (hN7_4 _ (hB6_4 _ ?_))
  refine Aw.leE (Le_E (Le_swb _ 30 605 (by decide) (by decide))) ?_
  simp only [St.swb,swbσ,swbm,AV.swb,AV.swbAll,swp,Nat.reduceEqDiff,if_true,if_false,reduceIte,gcs,List.cons_append,List.nil_append]
  refine Aw_tx hE [3,4,20,21,22] [1,6,15,30,600,601,602,603,604,605,606] fun K hK=>?_
  simp only [go_sem,seval,Int.reduceAdd]
  repeat refine ⟨by first|omega|(and_intros<;>first|omega|exact rows_row _|decide|(simp<;>omega))|fail,?_⟩
  refine hK _ (hN3_4 _ ?_)
  refine Aw_rd fun B3_5 hN3_5 hR3_5 hX3_5=>?_
  refine Aw_st hE [3,4,20,21,22,23] [1,6,15,30,600,601,602,603,604,605,606] fun K hK=>?_
  simp only [go_sem,seval]
  refine hK _ ?_;clear hK K
  refine Aw_sq fun B4_5 hB4_5 hR4_5 hX4_5=>?_
  refine Aw_no rfl ?_
  refine Aw_exit (hX4_5 _ _ (hX3_5 _ _ (hE2 _ (hB1 _ ?_))))
  refine Aw_st hE [2] [1,6,15,30,600,601,602,603,604,605,606] fun K hK=>?_
  simp only [go_sem,seval]
  refine hK _ ?_
  refine Aw.leE (Le_E (Le_ks [2] [600,601,602,603,604,605])) ?_
  refine Aw_ret (hQ _ ?_)
  simp only [go_sem,seval]
  exact hpost _ rfl
 ·refine Aw_st hE [3,4,20,21,22] [1,6,15,30,600,601,602,603,604,605,606] fun K hK=>?_
  simp only [go_sem,seval]
  refine hK _ ?_;clear hK K
  refine Aw_bk fun B2 hN2 hE2 hR2 hX2=>?_
  refine Aw_unr 7 ?_
  refine Aw_rd fun B3_0 hN3_0 hR3_0 hX3_0=>?_
  refine Aw_st hE [3,4,20,21,22,23] [1,6,15,30,600,601,602,603,604,605,606] fun K hK=>?_
  simp only [go_sem,seval]
  refine hK _ ?_;clear hK K
  refine Aw_sq fun B4_0 hB4_0 hR4_0 hX4_0=>?_
  refine Aw_yes rfl ?_
  refine Aw_skip (hB4_0 _ ?_)
  refine Aw_sq fun B6_0 hB6_0 hR6_0 hX6_0=>?_
  refine Aw_bk fun B7_0 hN7_0 hE7_0 hR7_0 hX7_0=>?_
  have hg_0:(grows [g1,g2,g3,g4,g5,g6])[0]? = some g1.row:=rfl
  have hln_0:=hlg g1 (by simp)
  refine Aw_st hE [3,4,6,20,21,22] [1,6,15,30,600,601,602,603,604,605,606] fun K hK=>?_
  simp only [go_sem,seval,hg_0,Int.reduceAdd]
  repeat refine ⟨by first|omega|(and_intros<;>first|omega|exact rows_row _|decide|(simp<;>omega))|fail,?_⟩
  refine hK _ ?_;clear hK K
  refine Aw_st hE [3,4,20,21,22] [1,6,15,30,600,601,602,603,604,605,606] fun K hK=>?_
  simp only [go_sem,seval]
  refine ⟨⟨by omega,by omega⟩,?_⟩
  refine hK _ ?_;clear hK K
  refine Aw_tx hE [3,4,20,21,22] [1,6,15,30,600,601,602,603,604,605,606] fun K hK=>?_
  simp only [go_sem,seval]
  refine hK _ (hN7_0 _ (hB6_0 _ ?_))
  refine Aw.leE (Le_E (Le_swb _ 30 601 (by decide) (by decide))) ?_
  simp only [St.swb,swbσ,swbm,AV.swb,AV.swbAll,swp,Nat.reduceEqDiff,if_true,if_false,reduceIte,gcs,List.cons_append,List.nil_append]
  refine Aw_tx hE [3,4,20,21,22] [1,6,15,30,600,601,602,603,604,605,606] fun K hK=>?_
  simp only [go_sem,seval,Int.reduceAdd]
  repeat refine ⟨by first|omega|(and_intros<;>first|omega|exact rows_row _|decide|(simp<;>omega))|fail,?_⟩
  refine hK _ (hN3_0 _ ?_)
  refine Aw_rd fun B3_1 hN3_1 hR3_1 hX3_1=>?_
  refine Aw_st hE [3,4,20,21,22,23] [1,6,15,30,600,601,602,603,604,605,606] fun K hK=>?_
  simp only [go_sem,seval]
  refine hK _ ?_;clear hK K
  refine Aw_sq fun B4_1 hB4_1 hR4_1 hX4_1=>?_
  refine Aw_yes rfl ?_
  refine Aw_skip (hB4_1 _ ?_)
  refine Aw_sq fun B6_1 hB6_1 hR6_1 hX6_1=>?_
  refine Aw_bk fun B7_1 hN7_1 hE7_1 hR7_1 hX7_1=>?_
  have hg_1:(grows [g1,g2,g3,g4,g5,g6])[1]? = some g2.row:=rfl
  have hln_1:=hlg g2 (by simp)
  refine Aw_st hE [3,4,6,20,21,22] [1,6,15,30,600,601,602,603,604,605,606] fun K hK=>?_
  simp only [go_sem,seval,hg_1,Int.reduceAdd]
  repeat refine ⟨by first|omega|(and_intros<;>first|omega|exact rows_row _|decide|(simp<;>omega))|fail,?_⟩
  refine hK _ ?_;clear hK K
  refine Aw_st hE [3,4,20,21,22] [1,6,15,30,600,601,602,603,604,605,606] fun K hK=>?_
  simp only [go_sem,seval]
  refine ⟨⟨by omega,by omega⟩,?_⟩
  refine hK _ ?_;clear hK K
  refine Aw_tx hE [3,4,20,21,22] [1,6,15,30,600,601,602,603,604,605,606] fun K hK=>?_
  simp only [go_sem,seval]
  refine hK _ (hN7_1 _ (hB6_1 _ ?_))
  refine Aw.leE (Le_E (Le_swb _ 30 602 (by decide) (by decide))) ?_
  simp only [St.swb,swbσ,swbm,AV.swb,AV.swbAll,swp,Nat.reduceEqDiff,if_true,if_false,reduceIte,gcs,List.cons_append,List.nil_append]
  refine Aw_tx hE [3,4,20,21,22] [1,6,15,30,600,601,602,603,604,605,606] fun K hK=>?_
  simp only [go_sem,seval,Int.reduceAdd]
  repeat refine ⟨by first|omega|(and_intros<;>first|omega|exact rows_row _|decide|(simp<;>omega))|fail,?_⟩
  refine hK _ (hN3_1 _ ?_)
  refine Aw_rd fun B3_2 hN3_2 hR3_2 hX3_2=>?_
  refine Aw_st hE [3,4,20,21,22,23] [1,6,15,30,600,601,602,603,604,605,606] fun K hK=>?_
  simp only [go_sem,seval]
  refine hK _ ?_;clear hK K
  refine Aw_sq fun B4_2 hB4_2 hR4_2 hX4_2=>?_
  refine Aw_yes rfl ?_
  refine Aw_skip (hB4_2 _ ?_)
  refine Aw_sq fun B6_2 hB6_2 hR6_2 hX6_2=>?_
  refine Aw_bk fun B7_2 hN7_2 hE7_2 hR7_2 hX7_2=>?_
  have hg_2:(grows [g1,g2,g3,g4,g5,g6])[2]? = some g3.row:=rfl
  have hln_2:=hlg g3 (by simp)
  refine Aw_st hE [3,4,6,20,21,22] [1,6,15,30,600,601,602,603,604,605,606] fun K hK=>?_
  simp only [go_sem,seval,hg_2,Int.reduceAdd]
  repeat refine ⟨by first|omega|(and_intros<;>first|omega|exact rows_row _|decide|(simp<;>omega))|fail,?_⟩
  refine hK _ ?_;clear hK K
  refine Aw_st hE [3,4,20,21,22] [1,6,15,30,600,601,602,603,604,605,606] fun K hK=>?_
  simp only [go_sem,seval]
  refine ⟨⟨by omega,by omega⟩,?_⟩
  refine hK _ ?_;clear hK K
  refine Aw_tx hE [3,4,20,21,22] [1,6,15,30,600,601,602,603,604,605,606] fun K hK=>?_
  simp only [go_sem,seval]
  refine hK _ (hN7_2 _ (hB6_2 _ ?_))
  refine Aw.leE (Le_E (Le_swb _ 30 603 (by decide) (by decide))) ?_
  simp only [St.swb,swbσ,swbm,AV.swb,AV.swbAll,swp,Nat.reduceEqDiff,if_true,if_false,reduceIte,gcs,List.cons_append,List.nil_append]
  refine Aw_tx hE [3,4,20,21,22] [1,6,15,30,600,601,602,603,604,605,606] fun K hK=>?_
  simp only [go_sem,seval,Int.reduceAdd]
  repeat refine ⟨by first|omega|(and_intros<;>first|omega|exact rows_row _|decide|(simp<;>omega))|fail,?_⟩
  refine hK _ (hN3_2 _ ?_)
  refine Aw_rd fun B3_3 hN3_3 hR3_3 hX3_3=>?_
  refine Aw_st hE [3,4,20,21,22,23] [1,6,15,30,600,601,602,603,604,605,606] fun K hK=>?_
  simp only [go_sem,seval]
  refine hK _ ?_;clear hK K
  refine Aw_sq fun B4_3 hB4_3 hR4_3 hX4_3=>?_
  refine Aw_yes rfl ?_
  refine Aw_skip (hB4_3 _ ?_)
  refine Aw_sq fun B6_3 hB6_3 hR6_3 hX6_3=>?_
  refine Aw_bk fun B7_3 hN7_3 hE7_3 hR7_3 hX7_3=>?_
  have hg_3:(grows [g1,g2,g3,g4,g5,g6])[3]? = some g4.row:=rfl
  have hln_3:=hlg g4 (by simp)
  refine Aw_st hE [3,4,6,20,21,22] [1,6,15,30,600,601,602,603,604,605,606] fun K hK=>?_
  simp only [go_sem,seval,hg_3,Int.reduceAdd]
  repeat refine ⟨by first|omega|(and_intros<;>first|omega|exact rows_row _|decide|(simp<;>omega))|fail,?_⟩
  refine hK _ ?_;clear hK K
  refine Aw_st hE [3,4,20,21,22] [1,6,15,30,600,601,602,603,604,605,606] fun K hK=>?_
  simp only [go_sem,seval]
  refine ⟨⟨by omega,by omega⟩,?_⟩
  refine hK _ ?_;clear hK K
  refine Aw_tx hE [3,4,20,21,22] [1,6,15,30,600,601,602,603,604,605,606] fun K hK=>?_
  simp only [go_sem,seval]
  refine hK _ (hN7_3 _ (hB6_3 _ ?_))
  refine Aw.leE (Le_E (Le_swb _ 30 604 (by decide) (by decide))) ?_
  simp only [St.swb,swbσ,swbm,AV.swb,AV.swbAll,swp,Nat.reduceEqDiff,if_true,if_false,reduceIte,gcs,List.cons_append,List.nil_append]
  refine Aw_tx hE [3,4,20,21,22] [1,6,15,30,600,601,602,603,604,605,606] fun K hK=>?_
  simp only [go_sem,seval,Int.reduceAdd]
  repeat refine ⟨by first|omega|(and_intros<;>first|omega|exact rows_row _|decide|(simp<;>omega))|fail,?_⟩
  refine hK _ (hN3_3 _ ?_)
  refine Aw_rd fun B3_4 hN3_4 hR3_4 hX3_4=>?_
  refine Aw_st hE [3,4,20,21,22,23] [1,6,15,30,600,601,602,603,604,605,606] fun K hK=>?_
  simp only [go_sem,seval]
  refine hK _ ?_;clear hK K
  refine Aw_sq fun B4_4 hB4_4 hR4_4 hX4_4=>?_
  refine Aw_yes rfl ?_
  refine Aw_skip (hB4_4 _ ?_)
  refine Aw_sq fun B6_4 hB6_4 hR6_4 hX6_4=>?_
  refine Aw_bk fun B7_4 hN7_4 hE7_4 hR7_4 hX7_4=>?_
  have hg_4:(grows [g1,g2,g3,g4,g5,g6])[4]? = some g5.row:=rfl
  have hln_4:=hlg g5 (by simp)
  refine Aw_st hE [3,4,6,20,21,22] [1,6,15,30,600,601,602,603,604,605,606] fun K hK=>?_
  simp only [go_sem,seval,hg_4,Int.reduceAdd]
  repeat refine ⟨by first|omega|(and_intros<;>first|omega|exact rows_row _|decide|(simp<;>omega))|fail,?_⟩
  refine hK _ ?_;clear hK K
  refine Aw_st hE [3,4,20,21,22] [1,6,15,30,600,601,602,603,604,605,606] fun K hK=>?_
  simp only [go_sem,seval]
  refine ⟨⟨by omega,by omega⟩,?_⟩
  refine hK _ ?_;clear hK K
  refine Aw_tx hE [3,4,20,21,22] [1,6,15,30,600,601,602,603,604,605,606] fun K hK=>?_
  simp only [go_sem,seval]
  refine hK _ (hN7_4 _ (hB6_4 _ ?_))
  refine Aw.leE (Le_E (Le_swb _ 30 605 (by decide) (by decide))) ?_
  simp only [St.swb,swbσ,swbm,AV.swb,AV.swbAll,swp,Nat.reduceEqDiff,if_true,if_false,reduceIte,gcs,List.cons_append,List.nil_append]
  refine Aw_tx hE [3,4,20,21,22] [1,6,15,30,600,601,602,603,604,605,606] fun K hK=>?_
  simp only [go_sem,seval,Int.reduceAdd]
  repeat refine ⟨by first|omega|(and_intros<;>first|omega|exact rows_row _|decide|(simp<;>omega))|fail,?_⟩
  refine hK _ (hN3_4 _ ?_)
  refine Aw_rd fun B3_5 hN3_5 hR3_5 hX3_5=>?_
  refine Aw_st hE [3,4,20,21,22,23] [1,6,15,30,600,601,602,603,604,605,606] fun K hK=>?_
  simp only [go_sem,seval]
  refine hK _ ?_;clear hK K
  refine Aw_sq fun B4_5 hB4_5 hR4_5 hX4_5=>?_
  refine Aw_yes rfl ?_
  refine Aw_skip (hB4_5 _ ?_)
  refine Aw_sq fun B6_5 hB6_5 hR6_5 hX6_5=>?_
  refine Aw_bk fun B7_5 hN7_5 hE7_5 hR7_5 hX7_5=>?_
  have hg_5:(grows [g1,g2,g3,g4,g5,g6])[5]? = some g6.row:=rfl
  have hln_5:=hlg g6 (by simp)
  refine Aw_st hE [3,4,6,20,21,22] [1,6,15,30,600,601,602,603,604,605,606] fun K hK=>?_
  simp only [go_sem,seval,hg_5,Int.reduceAdd]
  repeat refine ⟨by first|omega|(and_intros<;>first|omega|exact rows_row _|decide|(simp<;>omega))|fail,?_⟩
  refine hK _ ?_;clear hK K
  refine Aw_st hE [3,4,20,21,22] [1,6,15,30,600,601,602,603,604,605,606] fun K hK=>?_
  simp only [go_sem,seval]
  refine ⟨⟨by omega,by omega⟩,?_⟩
  refine hK _ ?_;clear hK K
  refine Aw_tx hE [3,4,20,21,22] [1,6,15,30,600,601,602,603,604,605,606] fun K hK=>?_
  simp only [go_sem,seval]
  refine hK _ (hN7_5 _ (hB6_5 _ ?_))
  refine Aw.leE (Le_E (Le_swb _ 30 606 (by decide) (by decide))) ?_
  simp only [St.swb,swbσ,swbm,AV.swb,AV.swbAll,swp,Nat.reduceEqDiff,if_true,if_false,reduceIte,gcs,List.cons_append,List.nil_append]
  refine Aw_tx hE [3,4,20,21,22] [1,6,15,30,600,601,602,603,604,605,606] fun K hK=>?_
  simp only [go_sem,seval,Int.reduceAdd]
  repeat refine ⟨by first|omega|(and_intros<;>first|omega|exact rows_row _|decide|(simp<;>omega))|fail,?_⟩
  refine hK _ (hN3_5 _ ?_)
  refine Aw_rd fun B3_6 hN3_6 hR3_6 hX3_6=>?_
  refine Aw_st hE [3,4,20,21,22,23] [1,6,15,30,600,601,602,603,604,605,606] fun K hK=>?_
  simp only [go_sem,seval]
  refine hK _ ?_;clear hK K
  refine Aw_sq fun B4_6 hB4_6 hR4_6 hX4_6=>?_
  refine Aw_no rfl ?_
  refine Aw_exit (hX4_6 _ _ (hX3_6 _ _ (hE2 _ (hB1 _ ?_))))
  refine Aw_st hE [2] [1,6,15,30,600,601,602,603,604,605,606] fun K hK=>?_
  simp only [go_sem,seval]
  refine hK _ ?_
  refine Aw.leE (Le_E (Le_ks [2] [600,601,602,603,604,605,606])) ?_
  refine Aw_ret (hQ _ ?_)
  simp only [go_sem,seval]
  exact hpost _ rfl
end Go.Proofs.W
end
section
namespace Go.Proofs.W
open Go Go.Eng Go.RowKit
set_option linter.unusedSimpArgs false
set_option maxRecDepth 100000
theorem open_postL {h:Int} {up:Bool} {l:List Gt} {M:List (Nat × List AV)} (hM:sesB h up l=M) (m1:List (Nat × List AV)) (K:AV→List (Nat × List AV)→Prop):(∀ r m2,cOpen.post [.agg [iv h,bv up,.sl none (grows l)]] m1 r m2→K r m2)=K (.loc 600 0) M:=by
 rw [open_post,hM]
theorem ribL_p {h:Int} {up:Bool} (l:List Gt) {n:Int} (hl:l.length≤1000):cRibL.pre [sesA h up l n]:=⟨h,up,l,n,rfl,hl⟩
theorem ribL_q {h:Int} {up:Bool} (l:List Gt) {n:Int} {K:AV→Prop} (hk:K (.agg [iv h,bv up,.sl none (grows l)])):∀ r,cRibL.post [sesA h up l n] r→K r:=fun r hr=>by
 rw [hr h up l n rfl];exact hk
def dRibDownI (pb:Addr):DFn:={ g:=gRibDown,inv:=WP pb }
attribute [go_sem] dRibDownI
theorem wp_mm (pb:Addr):Inh (WP pb) (fun _=>True) false:=fun _ _ _ _ _=>trivial
set_option maxHeartbeats 16000000 in
theorem iRibDown_ok (pb:Addr):Fine Tryz.prog 28 (dRibDownI pb).con:=by
 refine fine_detX [] gl_nil [] ms_nil [(42,(cOpen,[],[(600,400),(601,401),(602,402),(603,403),(604,404),(605,405),(606,406)]))] (mm_cons open_ok (by decide) mm_nil (wp_mm pb)) [] [] ex_nil (T:=TT) Tryz.func28 rfl Tryz.ntmps28 (by rw [Tryz.results28]) rfl rfl tt (gs_cons ribL_ok gs_nil) (ds_cons (iRibOk_ok pb) ds_nil (wp_inh pb)) ?_
 intro args c r h hc
 simp only [dRibDownI,gRibDown] at h
 split at h
 rotate_left
 ·cases h
 split at h
 rotate_left
 ·cases h
 rename_i h0 up t els g _ l hgo
 obtain rfl:=gotsL_eq hgo
 obtain ⟨rfl,rfl⟩:=Prod.mk.inj (Option.some.inj h)
 refine ⟨by simp,fun k E hE Q hQ=>?_⟩
 refine Aw_st hE [1,2,4] [2,4,412,413,414,415,416,417,418] fun K hK=>?_
 simp only [go_sem,seval]
 refine hK _ ?_;clear hK K
 refine Aw_sq fun B1 hB1 hR1 hX1=>?_
 refine Aw_st hE [1,2,4,9] [2,4,412,413,414,415,416,417,418] fun K hK=>?_
 simp only [go_sem,seval]
 refine ⟨⟨by omega,hc.2⟩,?_⟩
 refine hK _ (Aw_cond rfl (fun hc2=>?_) (fun hc2=>?_))
 ·have hok:ribOk ⟨h0,up,l⟩=false:=by simpa using hc2
  refine Aw_st hE [4] [2,4,412,413,414,415,416,417,418] fun K hK=>?_
  simp only [go_sem,seval]
  refine hK _ (Aw_ret (hR1 _ (hQ _ ?_)))
  simp only [go_sem,seval]
  rw [hok];rfl
 have hok:ribOk ⟨h0,up,l⟩=true:=by simpa using hc2
 rw [hok] at hQ
 simp only [if_true] at hQ
 have hl6:=(ribOk_iff.1 hok).2.1
 refine Aw_skip (hB1 _ ?_)
 rcases six hl6 with hl | ⟨g1,hl⟩ | ⟨g1,g2,hl⟩ | ⟨g1,g2,g3,hl⟩ | ⟨g1,g2,g3,g4,hl⟩ | ⟨g1,g2,g3,g4,g5,hl⟩ | ⟨g1,g2,g3,g4,g5,g6,hl⟩
 ·have hses:sesB h0 up l=[(600,[iv h0,bv up,.v (.pointer none),iv ((0:Nat):Int)])]:=by rw [hl];rfl
  have hop:=fun (m1:List (Nat × List AV)) (K:AV→List (Nat × List AV)→Prop)=>open_postL hses m1 K
  refine Aw_st hE [1,4,5] [2,4,412,413,414,415,416,417,418] fun K hK=>?_
  simp only [go_sem,seval,↓hop]
  refine ⟨by decide,⟨hl6,hc.2⟩,?_⟩
  subst hl
  refine hK _ ?_;clear hK K
  refine Aw_st hE [1,4,5] [2,4,412,413,414,415,416,417,418] fun K hK=>?_
  simp only [go_sem,seval]
  refine hK _ ?_;clear hK K
  refine Aw_sq fun B3 hB3 hR3 hX3=>?_
  refine Aw_st hE [4,5,17] [2,4,412,413,414,415,416,417,418] fun K hK=>?_
  simp only [go_sem,seval]
  refine hK _ (Aw_cond rfl (fun hc4=>?_) (fun hc4=>?_))
  ·have hg:g=false:=by simpa using hc4
   subst hg
   refine Aw_tx hE [4,5] [2,4,412,413,414,415,416,417,418] fun K hK=>?_
   simp only [go_sem,seval]
   refine hK _ (hB3 _ ?_)
   refine Aw_sq fun B5 hB5 hR5 hX5=>?_
   refine Aw_st hE [4,5,6] [2,4,412,413,414,415,416,417,418] fun K hK=>?_
   simp only [go_sem,seval]
   refine hK _ ?_;clear hK K
   refine Aw_bk fun B6 hN6 hE6 hR6 hX6=>?_
   refine Aw_unr 1 (Aw_rd fun B7 hN7 hR7 hX7=>?_)
   refine Aw_sq fun B8 hB8 hR8 hX8=>?_
   refine Aw_stP hE [4,5,6,26] [2,4,412,413,414,415,416,417,418] fun K hK=>?_
   simp only [go_sem,seval]
   refine hK _ (Aw_no rfl (Aw_exit (hX8 _ _ (hX7 _ _ (hE6 _ (hB5 _ ?_))))))
   refine Aw_frz hE rfl 412 4 rfl rfl ?_
   simp only [go_sem,seval]
   refine Aw_st hE [4] [2,4,412,413,414,415,416,417,418] fun K hK=>?_
   simp only [go_sem,seval]
   refine ⟨ribL_p [] (by simp),ribL_q [] ?_⟩
   simp only [go_sem,seval]
   refine hK _ (Aw_ret (hQ _ ?_))
   simp only [go_sem,seval]
   all_goals rfl
  ·have hg:g=true:=by simpa using hc4
   subst hg
   refine Aw_skip (hB3 _ ?_)
   refine Aw_sq fun B5 hB5 hR5 hX5=>?_
   refine Aw_st hE [4,5,6] [2,4,412,413,414,415,416,417,418] fun K hK=>?_
   simp only [go_sem,seval]
   refine hK _ ?_;clear hK K
   refine Aw_bk fun B6 hN6 hE6 hR6 hX6=>?_
   refine Aw_unr 1 ?_
   refine Aw_rd fun B7_0 hN7_0 hR7_0 hX7_0=>?_
   refine Aw_sq fun B8_0 hB8_0 hR8_0 hX8_0=>?_
   refine Aw_stP hE [4,5,6,26] [2,4,412,413,414,415,416,417,418] fun K hK=>?_
   simp only [go_sem,seval]
   refine hK _ (Aw_no rfl (Aw_exit (hX8_0 _ _ (hX7_0 _ _ (hE6 _ (hB5 _ ?_))))))
   refine Aw_frz hE rfl 412 4 rfl rfl ?_
   simp only [go_sem,seval]
   refine Aw_st hE [4] [2,4,412,413,414,415,416,417,418] fun K hK=>?_
   simp only [go_sem,seval]
   refine ⟨ribL_p [] (by simp),ribL_q [] ?_⟩
   simp only [go_sem,seval]
   refine hK _ (Aw_ret (hQ _ ?_))
   simp only [go_sem,seval]
   all_goals rfl
 ·have hses:sesB h0 up l=[(600,[iv h0,bv up,.loc 601 0,iv ((1:Nat):Int)]),(601,gcs g1++[.v (.pointer none)])]:=by rw [hl];rfl
  have hop:=fun (m1:List (Nat × List AV)) (K:AV→List (Nat × List AV)→Prop)=>open_postL hses m1 K
  refine Aw_st hE [1,4,5] [2,4,412,413,414,415,416,417,418] fun K hK=>?_
  simp only [go_sem,seval,↓hop]
  refine ⟨by decide,⟨hl6,hc.2⟩,?_⟩
  subst hl
  refine hK _ ?_;clear hK K
  refine Aw_st hE [1,4,5] [2,4,412,413,414,415,416,417,418] fun K hK=>?_
  simp only [go_sem,seval]
  refine hK _ ?_;clear hK K
  refine Aw_sq fun B3 hB3 hR3 hX3=>?_
  refine Aw_st hE [4,5,17] [2,4,412,413,414,415,416,417,418] fun K hK=>?_
  simp only [go_sem,seval]
  refine hK _ (Aw_cond rfl (fun hc4=>?_) (fun hc4=>?_))
  ·have hg:g=false:=by simpa using hc4
   subst hg
   refine Aw_tx hE [4,5] [2,4,412,413,414,415,416,417,418] fun K hK=>?_
   simp only [go_sem,seval]
   refine hK _ (hB3 _ ?_)
   refine Aw_sq fun B5 hB5 hR5 hX5=>?_
   refine Aw_st hE [4,5,6] [2,4,412,413,414,415,416,417,418] fun K hK=>?_
   simp only [go_sem,seval]
   refine hK _ ?_;clear hK K
   refine Aw_bk fun B6 hN6 hE6 hR6 hX6=>?_
   refine Aw_unr 1 (Aw_rd fun B7 hN7 hR7 hX7=>?_)
   refine Aw_sq fun B8 hB8 hR8 hX8=>?_
   refine Aw_stP hE [4,5,6,26] [2,4,412,413,414,415,416,417,418] fun K hK=>?_
   simp only [go_sem,seval]
   refine hK _ (Aw_no rfl (Aw_exit (hX8 _ _ (hX7 _ _ (hE6 _ (hB5 _ ?_))))))
   refine Aw_frz hE rfl 412 4 rfl rfl ?_
   simp only [go_sem,seval]
   refine Aw_st hE [4] [2,4,412,413,414,415,416,417,418] fun K hK=>?_
   simp only [go_sem,seval]
   refine ⟨ribL_p [] (by simp),ribL_q [] ?_⟩
   simp only [go_sem,seval]
   refine hK _ (Aw_ret (hQ _ ?_))
   simp only [go_sem,seval]
   all_goals rfl
  ·have hg:g=true:=by simpa using hc4
   subst hg
   refine Aw_skip (hB3 _ ?_)
   refine Aw_sq fun B5 hB5 hR5 hX5=>?_
   refine Aw_st hE [4,5,6] [2,4,412,413,414,415,416,417,418] fun K hK=>?_
   simp only [go_sem,seval]
   refine hK _ ?_;clear hK K
   refine Aw_bk fun B6 hN6 hE6 hR6 hX6=>?_
   refine Aw_unr 2 ?_
   refine Aw_rd fun B7_0 hN7_0 hR7_0 hX7_0=>?_
   refine Aw_sq fun B8_0 hB8_0 hR8_0 hX8_0=>?_
   refine Aw_stP hE [4,5,6,26] [2,4,412,413,414,415,416,417,418] fun K hK=>?_
   simp only [go_sem,seval]
   refine hK _ (Aw_yes rfl (Aw_skip (hB8_0 _ ?_)))
   refine Aw_sq fun B10_0 hB10_0 hR10_0 hX10_0=>?_
   refine Aw_bk fun B11_0 hN11_0 hE11_0 hR11_0 hX11_0=>?_
   refine Aw_tx hE [4,5,6] [2,4,412,413,414,415,416,417,418] fun K hK=>?_
   simp only [go_sem,seval]
   repeat refine ⟨by first|omega|(and_intros<;>first|omega|exact rows_row _|decide|(simp<;>omega))|fail,?_⟩
   refine hK _ (hN11_0 _ (hB10_0 _ ?_))
   refine Aw_tx hE [4,5,6] [2,4,412,413,414,415,416,417,418] fun K hK=>?_
   simp only [go_sem,seval]
   refine hK _ (hN7_0 _ ?_)
   refine Aw_rd fun B7_1 hN7_1 hR7_1 hX7_1=>?_
   refine Aw_sq fun B8_1 hB8_1 hR8_1 hX8_1=>?_
   refine Aw_stP hE [4,5,6,26] [2,4,412,413,414,415,416,417,418] fun K hK=>?_
   simp only [go_sem,seval]
   refine hK _ (Aw_no rfl (Aw_exit (hX8_1 _ _ (hX7_1 _ _ (hE6 _ (hB5 _ ?_))))))
   refine Aw_frz hE rfl 413 7 rfl rfl ?_
   simp only [go_sem,seval]
   refine Aw_frz hE rfl 412 4 rfl rfl ?_
   simp only [go_sem,seval]
   refine Aw_st hE [4] [2,4,412,413,414,415,416,417,418] fun K hK=>?_
   simp only [go_sem,seval]
   refine ⟨ribL_p [oldG g1] (by simp),ribL_q [oldG g1] ?_⟩
   simp only [go_sem,seval]
   refine hK _ (Aw_ret (hQ _ ?_))
   simp only [go_sem,seval]
   all_goals rfl
 ·have hses:sesB h0 up l=[(600,[iv h0,bv up,.loc 601 0,iv ((2:Nat):Int)]),(601,gcs g1++[.loc 602 0]),(602,gcs g2++[.v (.pointer none)])]:=by rw [hl];rfl
  have hop:=fun (m1:List (Nat × List AV)) (K:AV→List (Nat × List AV)→Prop)=>open_postL hses m1 K
  refine Aw_st hE [1,4,5] [2,4,412,413,414,415,416,417,418] fun K hK=>?_
  simp only [go_sem,seval,↓hop]
  refine ⟨by decide,⟨hl6,hc.2⟩,?_⟩
  subst hl
  refine hK _ ?_;clear hK K
  refine Aw_st hE [1,4,5] [2,4,412,413,414,415,416,417,418] fun K hK=>?_
  simp only [go_sem,seval]
  refine hK _ ?_;clear hK K
  refine Aw_sq fun B3 hB3 hR3 hX3=>?_
  refine Aw_st hE [4,5,17] [2,4,412,413,414,415,416,417,418] fun K hK=>?_
  simp only [go_sem,seval]
  refine hK _ (Aw_cond rfl (fun hc4=>?_) (fun hc4=>?_))
  ·have hg:g=false:=by simpa using hc4
   subst hg
   refine Aw_tx hE [4,5] [2,4,412,413,414,415,416,417,418] fun K hK=>?_
   simp only [go_sem,seval]
   refine hK _ (hB3 _ ?_)
   refine Aw_sq fun B5 hB5 hR5 hX5=>?_
   refine Aw_st hE [4,5,6] [2,4,412,413,414,415,416,417,418] fun K hK=>?_
   simp only [go_sem,seval]
   refine hK _ ?_;clear hK K
   refine Aw_bk fun B6 hN6 hE6 hR6 hX6=>?_
   refine Aw_unr 1 (Aw_rd fun B7 hN7 hR7 hX7=>?_)
   refine Aw_sq fun B8 hB8 hR8 hX8=>?_
   refine Aw_stP hE [4,5,6,26] [2,4,412,413,414,415,416,417,418] fun K hK=>?_
   simp only [go_sem,seval]
   refine hK _ (Aw_no rfl (Aw_exit (hX8 _ _ (hX7 _ _ (hE6 _ (hB5 _ ?_))))))
   refine Aw_frz hE rfl 412 4 rfl rfl ?_
   simp only [go_sem,seval]
   refine Aw_st hE [4] [2,4,412,413,414,415,416,417,418] fun K hK=>?_
   simp only [go_sem,seval]
   refine ⟨ribL_p [] (by simp),ribL_q [] ?_⟩
   simp only [go_sem,seval]
   refine hK _ (Aw_ret (hQ _ ?_))
   simp only [go_sem,seval]
   all_goals rfl
  ·have hg:g=true:=by simpa using hc4
   subst hg
   refine Aw_skip (hB3 _ ?_)
   refine Aw_sq fun B5 hB5 hR5 hX5=>?_
   refine Aw_st hE [4,5,6] [2,4,412,413,414,415,416,417,418] fun K hK=>?_
   simp only [go_sem,seval]
   refine hK _ ?_;clear hK K
   refine Aw_bk fun B6 hN6 hE6 hR6 hX6=>?_
   refine Aw_unr 3 ?_
   refine Aw_rd fun B7_0 hN7_0 hR7_0 hX7_0=>?_
   refine Aw_sq fun B8_0 hB8_0 hR8_0 hX8_0=>?_
   refine Aw_stP hE [4,5,6,26] [2,4,412,413,414,415,416,417,418] fun K hK=>?_
   simp only [go_sem,seval]
   refine hK _ (Aw_yes rfl (Aw_skip (hB8_0 _ ?_)))
   refine Aw_sq fun B10_0 hB10_0 hR10_0 hX10_0=>?_
   refine Aw_bk fun B11_0 hN11_0 hE11_0 hR11_0 hX11_0=>?_
   refine Aw_tx hE [4,5,6] [2,4,412,413,414,415,416,417,418] fun K hK=>?_
   simp only [go_sem,seval]
   repeat refine ⟨by first|omega|(and_intros<;>first|omega|exact rows_row _|decide|(simp<;>omega))|fail,?_⟩
   refine hK _ (hN11_0 _ (hB10_0 _ ?_))
   refine Aw_tx hE [4,5,6] [2,4,412,413,414,415,416,417,418] fun K hK=>?_
   simp only [go_sem,seval]
   refine hK _ (hN7_0 _ ?_)
   refine Aw_rd fun B7_1 hN7_1 hR7_1 hX7_1=>?_
   refine Aw_sq fun B8_1 hB8_1 hR8_1 hX8_1=>?_
   refine Aw_stP hE [4,5,6,26] [2,4,412,413,414,415,416,417,418] fun K hK=>?_
   simp only [go_sem,seval]
   refine hK _ (Aw_yes rfl (Aw_skip (hB8_1 _ ?_)))
   refine Aw_sq fun B10_1 hB10_1 hR10_1 hX10_1=>?_
   refine Aw_bk fun B11_1 hN11_1 hE11_1 hR11_1 hX11_1=>?_
   refine Aw_tx hE [4,5,6] [2,4,412,413,414,415,416,417,418] fun K hK=>?_
   simp only [go_sem,seval]
   repeat refine ⟨by first|omega|(and_intros<;>first|omega|exact rows_row _|decide|(simp<;>omega))|fail,?_⟩
   refine hK _ (hN11_1 _ (hB10_1 _ ?_))
   refine Aw_tx hE [4,5,6] [2,4,412,413,414,415,416,417,418] fun K hK=>?_
   simp only [go_sem,seval]
   refine hK _ (hN7_1 _ ?_)
   refine Aw_rd fun B7_2 hN7_2 hR7_2 hX7_2=>?_
   refine Aw_sq fun B8_2 hB8_2 hR8_2 hX8_2=>?_
   refine Aw_stP hE [4,5,6,26] [2,4,412,413,414,415,416,417,418] fun K hK=>?_
   simp only [go_sem,seval]
   refine hK _ (Aw_no rfl (Aw_exit (hX8_2 _ _ (hX7_2 _ _ (hE6 _ (hB5 _ ?_))))))
   refine Aw_frz hE rfl 414 7 rfl rfl ?_
   simp only [go_sem,seval]
   refine Aw_frz hE rfl 413 7 rfl rfl ?_
   simp only [go_sem,seval]
   refine Aw_frz hE rfl 412 4 rfl rfl ?_
   simp only [go_sem,seval]
   refine Aw_st hE [4] [2,4,412,413,414,415,416,417,418] fun K hK=>?_
   simp only [go_sem,seval]
   refine ⟨ribL_p [oldG g1,oldG g2] (by simp),ribL_q [oldG g1,oldG g2] ?_⟩
   simp only [go_sem,seval]
   refine hK _ (Aw_ret (hQ _ ?_))
   simp only [go_sem,seval]
   all_goals rfl
 ·have hses:sesB h0 up l=[(600,[iv h0,bv up,.loc 601 0,iv ((3:Nat):Int)]),(601,gcs g1++[.loc 602 0]),(602,gcs g2++[.loc 603 0]),(603,gcs g3++[.v (.pointer none)])]:=by rw [hl];rfl
  have hop:=fun (m1:List (Nat × List AV)) (K:AV→List (Nat × List AV)→Prop)=>open_postL hses m1 K
  refine Aw_st hE [1,4,5] [2,4,412,413,414,415,416,417,418] fun K hK=>?_
  simp only [go_sem,seval,↓hop]
  refine ⟨by decide,⟨hl6,hc.2⟩,?_⟩
  subst hl
  refine hK _ ?_;clear hK K
  refine Aw_st hE [1,4,5] [2,4,412,413,414,415,416,417,418] fun K hK=>?_
  simp only [go_sem,seval]
  refine hK _ ?_;clear hK K
  refine Aw_sq fun B3 hB3 hR3 hX3=>?_
  refine Aw_st hE [4,5,17] [2,4,412,413,414,415,416,417,418] fun K hK=>?_
  simp only [go_sem,seval]
  refine hK _ (Aw_cond rfl (fun hc4=>?_) (fun hc4=>?_))
  ·have hg:g=false:=by simpa using hc4
   subst hg
   refine Aw_tx hE [4,5] [2,4,412,413,414,415,416,417,418] fun K hK=>?_
   simp only [go_sem,seval]
   refine hK _ (hB3 _ ?_)
   refine Aw_sq fun B5 hB5 hR5 hX5=>?_
   refine Aw_st hE [4,5,6] [2,4,412,413,414,415,416,417,418] fun K hK=>?_
   simp only [go_sem,seval]
   refine hK _ ?_;clear hK K
   refine Aw_bk fun B6 hN6 hE6 hR6 hX6=>?_
   refine Aw_unr 1 (Aw_rd fun B7 hN7 hR7 hX7=>?_)
   refine Aw_sq fun B8 hB8 hR8 hX8=>?_
   refine Aw_stP hE [4,5,6,26] [2,4,412,413,414,415,416,417,418] fun K hK=>?_
   simp only [go_sem,seval]
   refine hK _ (Aw_no rfl (Aw_exit (hX8 _ _ (hX7 _ _ (hE6 _ (hB5 _ ?_))))))
   refine Aw_frz hE rfl 412 4 rfl rfl ?_
   simp only [go_sem,seval]
   refine Aw_st hE [4] [2,4,412,413,414,415,416,417,418] fun K hK=>?_
   simp only [go_sem,seval]
   refine ⟨ribL_p [] (by simp),ribL_q [] ?_⟩
   simp only [go_sem,seval]
   refine hK _ (Aw_ret (hQ _ ?_))
   simp only [go_sem,seval]
   all_goals rfl
  ·have hg:g=true:=by simpa using hc4
   subst hg
   refine Aw_skip (hB3 _ ?_)
   refine Aw_sq fun B5 hB5 hR5 hX5=>?_
   refine Aw_st hE [4,5,6] [2,4,412,413,414,415,416,417,418] fun K hK=>?_
   simp only [go_sem,seval]
   refine hK _ ?_;clear hK K
   refine Aw_bk fun B6 hN6 hE6 hR6 hX6=>?_
   refine Aw_unr 4 ?_
   refine Aw_rd fun B7_0 hN7_0 hR7_0 hX7_0=>?_
   refine Aw_sq fun B8_0 hB8_0 hR8_0 hX8_0=>?_
   refine Aw_stP hE [4,5,6,26] [2,4,412,413,414,415,416,417,418] fun K hK=>?_
   simp only [go_sem,seval]
   refine hK _ (Aw_yes rfl (Aw_skip (hB8_0 _ ?_)))
   refine Aw_sq fun B10_0 hB10_0 hR10_0 hX10_0=>?_
   refine Aw_bk fun B11_0 hN11_0 hE11_0 hR11_0 hX11_0=>?_
   refine Aw_tx hE [4,5,6] [2,4,412,413,414,415,416,417,418] fun K hK=>?_
   simp only [go_sem,seval]
   repeat refine ⟨by first|omega|(and_intros<;>first|omega|exact rows_row _|decide|(simp<;>omega))|fail,?_⟩
   refine hK _ (hN11_0 _ (hB10_0 _ ?_))
   refine Aw_tx hE [4,5,6] [2,4,412,413,414,415,416,417,418] fun K hK=>?_
   simp only [go_sem,seval]
   refine hK _ (hN7_0 _ ?_)
   refine Aw_rd fun B7_1 hN7_1 hR7_1 hX7_1=>?_
   refine Aw_sq fun B8_1 hB8_1 hR8_1 hX8_1=>?_
   refine Aw_stP hE [4,5,6,26] [2,4,412,413,414,415,416,417,418] fun K hK=>?_
   simp only [go_sem,seval]
   refine hK _ (Aw_yes rfl (Aw_skip (hB8_1 _ ?_)))
   refine Aw_sq fun B10_1 hB10_1 hR10_1 hX10_1=>?_
   refine Aw_bk fun B11_1 hN11_1 hE11_1 hR11_1 hX11_1=>?_
   refine Aw_tx hE [4,5,6] [2,4,412,413,414,415,416,417,418] fun K hK=>?_
   simp only [go_sem,seval]
   repeat refine ⟨by first|omega|(and_intros<;>first|omega|exact rows_row _|decide|(simp<;>omega))|fail,?_⟩
   refine hK _ (hN11_1 _ (hB10_1 _ ?_))
   refine Aw_tx hE [4,5,6] [2,4,412,413,414,415,416,417,418] fun K hK=>?_
   simp only [go_sem,seval]
   refine hK _ (hN7_1 _ ?_)
   refine Aw_rd fun B7_2 hN7_2 hR7_2 hX7_2=>?_
   refine Aw_sq fun B8_2 hB8_2 hR8_2 hX8_2=>?_
   refine Aw_stP hE [4,5,6,26] [2,4,412,413,414,415,416,417,418] fun K hK=>?_
   simp only [go_sem,seval]
   refine hK _ (Aw_yes rfl (Aw_skip (hB8_2 _ ?_)))
   refine Aw_sq fun B10_2 hB10_2 hR10_2 hX10_2=>?_
   refine Aw_bk fun B11_2 hN11_2 hE11_2 hR11_2 hX11_2=>?_
   refine Aw_tx hE [4,5,6] [2,4,412,413,414,415,416,417,418] fun K hK=>?_
   simp only [go_sem,seval]
   repeat refine ⟨by first|omega|(and_intros<;>first|omega|exact rows_row _|decide|(simp<;>omega))|fail,?_⟩
   refine hK _ (hN11_2 _ (hB10_2 _ ?_))
   refine Aw_tx hE [4,5,6] [2,4,412,413,414,415,416,417,418] fun K hK=>?_
   simp only [go_sem,seval]
   refine hK _ (hN7_2 _ ?_)
   refine Aw_rd fun B7_3 hN7_3 hR7_3 hX7_3=>?_
   refine Aw_sq fun B8_3 hB8_3 hR8_3 hX8_3=>?_
   refine Aw_stP hE [4,5,6,26] [2,4,412,413,414,415,416,417,418] fun K hK=>?_
   simp only [go_sem,seval]
   refine hK _ (Aw_no rfl (Aw_exit (hX8_3 _ _ (hX7_3 _ _ (hE6 _ (hB5 _ ?_))))))
   refine Aw_frz hE rfl 415 7 rfl rfl ?_
   simp only [go_sem,seval]
   refine Aw_frz hE rfl 414 7 rfl rfl ?_
   simp only [go_sem,seval]
   refine Aw_frz hE rfl 413 7 rfl rfl ?_
   simp only [go_sem,seval]
   refine Aw_frz hE rfl 412 4 rfl rfl ?_
   simp only [go_sem,seval]
   refine Aw_st hE [4] [2,4,412,413,414,415,416,417,418] fun K hK=>?_
   simp only [go_sem,seval]
   refine ⟨ribL_p [oldG g1,oldG g2,oldG g3] (by simp),ribL_q [oldG g1,oldG g2,oldG g3] ?_⟩
   simp only [go_sem,seval]
   refine hK _ (Aw_ret (hQ _ ?_))
   simp only [go_sem,seval]
   all_goals rfl
 ·have hses:sesB h0 up l=[(600,[iv h0,bv up,.loc 601 0,iv ((4:Nat):Int)]),(601,gcs g1++[.loc 602 0]),(602,gcs g2++[.loc 603 0]),(603,gcs g3++[.loc 604 0]),(604,gcs g4++[.v (.pointer none)])]:=by rw [hl];rfl
  have hop:=fun (m1:List (Nat × List AV)) (K:AV→List (Nat × List AV)→Prop)=>open_postL hses m1 K
  refine Aw_st hE [1,4,5] [2,4,412,413,414,415,416,417,418] fun K hK=>?_
  simp only [go_sem,seval,↓hop]
  refine ⟨by decide,⟨hl6,hc.2⟩,?_⟩
  subst hl
  refine hK _ ?_;clear hK K
  refine Aw_st hE [1,4,5] [2,4,412,413,414,415,416,417,418] fun K hK=>?_
  simp only [go_sem,seval]
  refine hK _ ?_;clear hK K
  refine Aw_sq fun B3 hB3 hR3 hX3=>?_
  refine Aw_st hE [4,5,17] [2,4,412,413,414,415,416,417,418] fun K hK=>?_
  simp only [go_sem,seval]
  refine hK _ (Aw_cond rfl (fun hc4=>?_) (fun hc4=>?_))
  ·have hg:g=false:=by simpa using hc4
   subst hg
   refine Aw_tx hE [4,5] [2,4,412,413,414,415,416,417,418] fun K hK=>?_
   simp only [go_sem,seval]
   refine hK _ (hB3 _ ?_)
   refine Aw_sq fun B5 hB5 hR5 hX5=>?_
   refine Aw_st hE [4,5,6] [2,4,412,413,414,415,416,417,418] fun K hK=>?_
   simp only [go_sem,seval]
   refine hK _ ?_;clear hK K
   refine Aw_bk fun B6 hN6 hE6 hR6 hX6=>?_
   refine Aw_unr 1 (Aw_rd fun B7 hN7 hR7 hX7=>?_)
   refine Aw_sq fun B8 hB8 hR8 hX8=>?_
   refine Aw_stP hE [4,5,6,26] [2,4,412,413,414,415,416,417,418] fun K hK=>?_
   simp only [go_sem,seval]
   refine hK _ (Aw_no rfl (Aw_exit (hX8 _ _ (hX7 _ _ (hE6 _ (hB5 _ ?_))))))
   refine Aw_frz hE rfl 412 4 rfl rfl ?_
   simp only [go_sem,seval]
   refine Aw_st hE [4] [2,4,412,413,414,415,416,417,418] fun K hK=>?_
   simp only [go_sem,seval]
   refine ⟨ribL_p [] (by simp),ribL_q [] ?_⟩
   simp only [go_sem,seval]
   refine hK _ (Aw_ret (hQ _ ?_))
   simp only [go_sem,seval]
   all_goals rfl
  ·have hg:g=true:=by simpa using hc4
   subst hg
   refine Aw_skip (hB3 _ ?_)
   refine Aw_sq fun B5 hB5 hR5 hX5=>?_
   refine Aw_st hE [4,5,6] [2,4,412,413,414,415,416,417,418] fun K hK=>?_
   simp only [go_sem,seval]
   refine hK _ ?_;clear hK K
   refine Aw_bk fun B6 hN6 hE6 hR6 hX6=>?_
   refine Aw_unr 5 ?_
   refine Aw_rd fun B7_0 hN7_0 hR7_0 hX7_0=>?_
   refine Aw_sq fun B8_0 hB8_0 hR8_0 hX8_0=>?_
   refine Aw_stP hE [4,5,6,26] [2,4,412,413,414,415,416,417,418] fun K hK=>?_
   simp only [go_sem,seval]
   refine hK _ (Aw_yes rfl (Aw_skip (hB8_0 _ ?_)))
   refine Aw_sq fun B10_0 hB10_0 hR10_0 hX10_0=>?_
   refine Aw_bk fun B11_0 hN11_0 hE11_0 hR11_0 hX11_0=>?_
   refine Aw_tx hE [4,5,6] [2,4,412,413,414,415,416,417,418] fun K hK=>?_
   simp only [go_sem,seval]
   repeat refine ⟨by first|omega|(and_intros<;>first|omega|exact rows_row _|decide|(simp<;>omega))|fail,?_⟩
   refine hK _ (hN11_0 _ (hB10_0 _ ?_))
   refine Aw_tx hE [4,5,6] [2,4,412,413,414,415,416,417,418] fun K hK=>?_
   simp only [go_sem,seval]
   refine hK _ (hN7_0 _ ?_)
   refine Aw_rd fun B7_1 hN7_1 hR7_1 hX7_1=>?_
   refine Aw_sq fun B8_1 hB8_1 hR8_1 hX8_1=>?_
   refine Aw_stP hE [4,5,6,26] [2,4,412,413,414,415,416,417,418] fun K hK=>?_
   simp only [go_sem,seval]
   refine hK _ (Aw_yes rfl (Aw_skip (hB8_1 _ ?_)))
   refine Aw_sq fun B10_1 hB10_1 hR10_1 hX10_1=>?_
   refine Aw_bk fun B11_1 hN11_1 hE11_1 hR11_1 hX11_1=>?_
   refine Aw_tx hE [4,5,6] [2,4,412,413,414,415,416,417,418] fun K hK=>?_
   simp only [go_sem,seval]
   repeat refine ⟨by first|omega|(and_intros<;>first|omega|exact rows_row _|decide|(simp<;>omega))|fail,?_⟩
   refine hK _ (hN11_1 _ (hB10_1 _ ?_))
   refine Aw_tx hE [4,5,6] [2,4,412,413,414,415,416,417,418] fun K hK=>?_
   simp only [go_sem,seval]
   refine hK _ (hN7_1 _ ?_)
   refine Aw_rd fun B7_2 hN7_2 hR7_2 hX7_2=>?_
   refine Aw_sq fun B8_2 hB8_2 hR8_2 hX8_2=>?_
   refine Aw_stP hE [4,5,6,26] [2,4,412,413,414,415,416,417,418] fun K hK=>?_
   simp only [go_sem,seval]
   refine hK _ (Aw_yes rfl (Aw_skip (hB8_2 _ ?_)))
   refine Aw_sq fun B10_2 hB10_2 hR10_2 hX10_2=>?_
   refine Aw_bk fun B11_2 hN11_2 hE11_2 hR11_2 hX11_2=>?_
   refine Aw_tx hE [4,5,6] [2,4,412,413,414,415,416,417,418] fun K hK=>?_
   simp only [go_sem,seval]
   repeat refine ⟨by first|omega|(and_intros<;>first|omega|exact rows_row _|decide|(simp<;>omega))|fail,?_⟩
   refine hK _ (hN11_2 _ (hB10_2 _ ?_))
   refine Aw_tx hE [4,5,6] [2,4,412,413,414,415,416,417,418] fun K hK=>?_
   simp only [go_sem,seval]
   refine hK _ (hN7_2 _ ?_)
   refine Aw_rd fun B7_3 hN7_3 hR7_3 hX7_3=>?_
   refine Aw_sq fun B8_3 hB8_3 hR8_3 hX8_3=>?_
   refine Aw_stP hE [4,5,6,26] [2,4,412,413,414,415,416,417,418] fun K hK=>?_
   simp only [go_sem,seval]
   refine hK _ (Aw_yes rfl (Aw_skip (hB8_3 _ ?_)))
   refine Aw_sq fun B10_3 hB10_3 hR10_3 hX10_3=>?_
   refine Aw_bk fun B11_3 hN11_3 hE11_3 hR11_3 hX11_3=>?_
   refine Aw_tx hE [4,5,6] [2,4,412,413,414,415,416,417,418] fun K hK=>?_
   simp only [go_sem,seval]
   repeat refine ⟨by first|omega|(and_intros<;>first|omega|exact rows_row _|decide|(simp<;>omega))|fail,?_⟩
   refine hK _ (hN11_3 _ (hB10_3 _ ?_))
   refine Aw_tx hE [4,5,6] [2,4,412,413,414,415,416,417,418] fun K hK=>?_
   simp only [go_sem,seval]
   refine hK _ (hN7_3 _ ?_)
   refine Aw_rd fun B7_4 hN7_4 hR7_4 hX7_4=>?_
   refine Aw_sq fun B8_4 hB8_4 hR8_4 hX8_4=>?_
   refine Aw_stP hE [4,5,6,26] [2,4,412,413,414,415,416,417,418] fun K hK=>?_
   simp only [go_sem,seval]
   refine hK _ (Aw_no rfl (Aw_exit (hX8_4 _ _ (hX7_4 _ _ (hE6 _ (hB5 _ ?_))))))
   refine Aw_frz hE rfl 416 7 rfl rfl ?_
   simp only [go_sem,seval]
   refine Aw_frz hE rfl 415 7 rfl rfl ?_
   simp only [go_sem,seval]
   refine Aw_frz hE rfl 414 7 rfl rfl ?_
   simp only [go_sem,seval]
   refine Aw_frz hE rfl 413 7 rfl rfl ?_
   simp only [go_sem,seval]
   refine Aw_frz hE rfl 412 4 rfl rfl ?_
   simp only [go_sem,seval]
   refine Aw_st hE [4] [2,4,412,413,414,415,416,417,418] fun K hK=>?_
   simp only [go_sem,seval]
   refine ⟨ribL_p [oldG g1,oldG g2,oldG g3,oldG g4] (by simp),ribL_q [oldG g1,oldG g2,oldG g3,oldG g4] ?_⟩
   simp only [go_sem,seval]
   refine hK _ (Aw_ret (hQ _ ?_))
   simp only [go_sem,seval]
   all_goals rfl
 ·have hses:sesB h0 up l=[(600,[iv h0,bv up,.loc 601 0,iv ((5:Nat):Int)]),(601,gcs g1++[.loc 602 0]),(602,gcs g2++[.loc 603 0]),(603,gcs g3++[.loc 604 0]),(604,gcs g4++[.loc 605 0]),(605,gcs g5++[.v (.pointer none)])]:=by rw [hl];rfl
  have hop:=fun (m1:List (Nat × List AV)) (K:AV→List (Nat × List AV)→Prop)=>open_postL hses m1 K
  refine Aw_st hE [1,4,5] [2,4,412,413,414,415,416,417,418] fun K hK=>?_
  simp only [go_sem,seval,↓hop]
  refine ⟨by decide,⟨hl6,hc.2⟩,?_⟩
  subst hl
  refine hK _ ?_;clear hK K
  refine Aw_st hE [1,4,5] [2,4,412,413,414,415,416,417,418] fun K hK=>?_
  simp only [go_sem,seval]
  refine hK _ ?_;clear hK K
  refine Aw_sq fun B3 hB3 hR3 hX3=>?_
  refine Aw_st hE [4,5,17] [2,4,412,413,414,415,416,417,418] fun K hK=>?_
  simp only [go_sem,seval]
  refine hK _ (Aw_cond rfl (fun hc4=>?_) (fun hc4=>?_))
  ·have hg:g=false:=by simpa using hc4
   subst hg
   refine Aw_tx hE [4,5] [2,4,412,413,414,415,416,417,418] fun K hK=>?_
   simp only [go_sem,seval]
   refine hK _ (hB3 _ ?_)
   refine Aw_sq fun B5 hB5 hR5 hX5=>?_
   refine Aw_st hE [4,5,6] [2,4,412,413,414,415,416,417,418] fun K hK=>?_
   simp only [go_sem,seval]
   refine hK _ ?_;clear hK K
   refine Aw_bk fun B6 hN6 hE6 hR6 hX6=>?_
   refine Aw_unr 1 (Aw_rd fun B7 hN7 hR7 hX7=>?_)
   refine Aw_sq fun B8 hB8 hR8 hX8=>?_
   refine Aw_stP hE [4,5,6,26] [2,4,412,413,414,415,416,417,418] fun K hK=>?_
   simp only [go_sem,seval]
   refine hK _ (Aw_no rfl (Aw_exit (hX8 _ _ (hX7 _ _ (hE6 _ (hB5 _ ?_))))))
   refine Aw_frz hE rfl 412 4 rfl rfl ?_
   simp only [go_sem,seval]
   refine Aw_st hE [4] [2,4,412,413,414,415,416,417,418] fun K hK=>?_
   simp only [go_sem,seval]
   refine ⟨ribL_p [] (by simp),ribL_q [] ?_⟩
   simp only [go_sem,seval]
   refine hK _ (Aw_ret (hQ _ ?_))
   simp only [go_sem,seval]
   all_goals rfl
  ·have hg:g=true:=by simpa using hc4
   subst hg
   refine Aw_skip (hB3 _ ?_)
   refine Aw_sq fun B5 hB5 hR5 hX5=>?_
   refine Aw_st hE [4,5,6] [2,4,412,413,414,415,416,417,418] fun K hK=>?_
   simp only [go_sem,seval]
   refine hK _ ?_;clear hK K
   refine Aw_bk fun B6 hN6 hE6 hR6 hX6=>?_
   refine Aw_unr 6 ?_
   refine Aw_rd fun B7_0 hN7_0 hR7_0 hX7_0=>?_
   refine Aw_sq fun B8_0 hB8_0 hR8_0 hX8_0=>?_
   refine Aw_stP hE [4,5,6,26] [2,4,412,413,414,415,416,417,418] fun K hK=>?_
   simp only [go_sem,seval]
   refine hK _ (Aw_yes rfl (Aw_skip (hB8_0 _ ?_)))
   refine Aw_sq fun B10_0 hB10_0 hR10_0 hX10_0=>?_
   refine Aw_bk fun B11_0 hN11_0 hE11_0 hR11_0 hX11_0=>?_
   refine Aw_tx hE [4,5,6] [2,4,412,413,414,415,416,417,418] fun K hK=>?_
   simp only [go_sem,seval]
   repeat refine ⟨by first|omega|(and_intros<;>first|omega|exact rows_row _|decide|(simp<;>omega))|fail,?_⟩
   refine hK _ (hN11_0 _ (hB10_0 _ ?_))
   refine Aw_tx hE [4,5,6] [2,4,412,413,414,415,416,417,418] fun K hK=>?_
   simp only [go_sem,seval]
   refine hK _ (hN7_0 _ ?_)
   refine Aw_rd fun B7_1 hN7_1 hR7_1 hX7_1=>?_
   refine Aw_sq fun B8_1 hB8_1 hR8_1 hX8_1=>?_
   refine Aw_stP hE [4,5,6,26] [2,4,412,413,414,415,416,417,418] fun K hK=>?_
   simp only [go_sem,seval]
   refine hK _ (Aw_yes rfl (Aw_skip (hB8_1 _ ?_)))
   refine Aw_sq fun B10_1 hB10_1 hR10_1 hX10_1=>?_
   refine Aw_bk fun B11_1 hN11_1 hE11_1 hR11_1 hX11_1=>?_
   refine Aw_tx hE [4,5,6] [2,4,412,413,414,415,416,417,418] fun K hK=>?_
   simp only [go_sem,seval]
   repeat refine ⟨by first|omega|(and_intros<;>first|omega|exact rows_row _|decide|(simp<;>omega))|fail,?_⟩
   refine hK _ (hN11_1 _ (hB10_1 _ ?_))
   refine Aw_tx hE [4,5,6] [2,4,412,413,414,415,416,417,418] fun K hK=>?_
   simp only [go_sem,seval]
   refine hK _ (hN7_1 _ ?_)
   refine Aw_rd fun B7_2 hN7_2 hR7_2 hX7_2=>?_
   refine Aw_sq fun B8_2 hB8_2 hR8_2 hX8_2=>?_
   refine Aw_stP hE [4,5,6,26] [2,4,412,413,414,415,416,417,418] fun K hK=>?_
   simp only [go_sem,seval]
   refine hK _ (Aw_yes rfl (Aw_skip (hB8_2 _ ?_)))
   refine Aw_sq fun B10_2 hB10_2 hR10_2 hX10_2=>?_
   refine Aw_bk fun B11_2 hN11_2 hE11_2 hR11_2 hX11_2=>?_
   refine Aw_tx hE [4,5,6] [2,4,412,413,414,415,416,417,418] fun K hK=>?_
   simp only [go_sem,seval]
   repeat refine ⟨by first|omega|(and_intros<;>first|omega|exact rows_row _|decide|(simp<;>omega))|fail,?_⟩
   refine hK _ (hN11_2 _ (hB10_2 _ ?_))
   refine Aw_tx hE [4,5,6] [2,4,412,413,414,415,416,417,418] fun K hK=>?_
   simp only [go_sem,seval]
   refine hK _ (hN7_2 _ ?_)
   refine Aw_rd fun B7_3 hN7_3 hR7_3 hX7_3=>?_
   refine Aw_sq fun B8_3 hB8_3 hR8_3 hX8_3=>?_
   refine Aw_stP hE [4,5,6,26] [2,4,412,413,414,415,416,417,418] fun K hK=>?_
   simp only [go_sem,seval]
   refine hK _ (Aw_yes rfl (Aw_skip (hB8_3 _ ?_)))
   refine Aw_sq fun B10_3 hB10_3 hR10_3 hX10_3=>?_
   refine Aw_bk fun B11_3 hN11_3 hE11_3 hR11_3 hX11_3=>?_
   refine Aw_tx hE [4,5,6] [2,4,412,413,414,415,416,417,418] fun K hK=>?_
   simp only [go_sem,seval]
   repeat refine ⟨by first|omega|(and_intros<;>first|omega|exact rows_row _|decide|(simp<;>omega))|fail,?_⟩
   refine hK _ (hN11_3 _ (hB10_3 _ ?_))
   refine Aw_tx hE [4,5,6] [2,4,412,413,414,415,416,417,418] fun K hK=>?_
   simp only [go_sem,seval]
   refine hK _ (hN7_3 _ ?_)
   refine Aw_rd fun B7_4 hN7_4 hR7_4 hX7_4=>?_
   refine Aw_sq fun B8_4 hB8_4 hR8_4 hX8_4=>?_
   refine Aw_stP hE [4,5,6,26] [2,4,412,413,414,415,416,417,418] fun K hK=>?_
   simp only [go_sem,seval]
   refine hK _ (Aw_yes rfl (Aw_skip (hB8_4 _ ?_)))
   refine Aw_sq fun B10_4 hB10_4 hR10_4 hX10_4=>?_
   refine Aw_bk fun B11_4 hN11_4 hE11_4 hR11_4 hX11_4=>?_
   refine Aw_tx hE [4,5,6] [2,4,412,413,414,415,416,417,418] fun K hK=>?_
   simp only [go_sem,seval]
   repeat refine ⟨by first|omega|(and_intros<;>first|omega|exact rows_row _|decide|(simp<;>omega))|fail,?_⟩
   refine hK _ (hN11_4 _ (hB10_4 _ ?_))
   refine Aw_tx hE [4,5,6] [2,4,412,413,414,415,416,417,418] fun K hK=>?_
   simp only [go_sem,seval]
   refine hK _ (hN7_4 _ ?_)
   refine Aw_rd fun B7_5 hN7_5 hR7_5 hX7_5=>?_
   refine Aw_sq fun B8_5 hB8_5 hR8_5 hX8_5=>?_
   refine Aw_stP hE [4,5,6,26] [2,4,412,413,414,415,416,417,418] fun K hK=>?_
   simp only [go_sem,seval]
   refine hK _ (Aw_no rfl (Aw_exit (hX8_5 _ _ (hX7_5 _ _ (hE6 _ (hB5 _ ?_))))))
   refine Aw_frz hE rfl 417 7 rfl rfl ?_
   simp only [go_sem,seval]
   refine Aw_frz hE rfl 416 7 rfl rfl ?_
   simp only [go_sem,seval]
   refine Aw_frz hE rfl 415 7 rfl rfl ?_
   simp only [go_sem,seval]
   refine Aw_frz hE rfl 414 7 rfl rfl ?_
   simp only [go_sem,seval]
   refine Aw_frz hE rfl 413 7 rfl rfl ?_
   simp only [go_sem,seval]
   refine Aw_frz hE rfl 412 4 rfl rfl ?_
   simp only [go_sem,seval]
   refine Aw_st hE [4] [2,4,412,413,414,415,416,417,418] fun K hK=>?_
   simp only [go_sem,seval]
   refine ⟨ribL_p [oldG g1,oldG g2,oldG g3,oldG g4,oldG g5] (by simp),ribL_q [oldG g1,oldG g2,oldG g3,oldG g4,oldG g5] ?_⟩
   simp only [go_sem,seval]
   refine hK _ (Aw_ret (hQ _ ?_))
   simp only [go_sem,seval]
   all_goals rfl
 ·have hses:sesB h0 up l=[(600,[iv h0,bv up,.loc 601 0,iv ((6:Nat):Int)]),(601,gcs g1++[.loc 602 0]),(602,gcs g2++[.loc 603 0]),(603,gcs g3++[.loc 604 0]),(604,gcs g4++[.loc 605 0]),(605,gcs g5++[.loc 606 0]),(606,gcs g6++[.v (.pointer none)])]:=by rw [hl];rfl
  have hop:=fun (m1:List (Nat × List AV)) (K:AV→List (Nat × List AV)→Prop)=>open_postL hses m1 K
  refine Aw_st hE [1,4,5] [2,4,412,413,414,415,416,417,418] fun K hK=>?_
  simp only [go_sem,seval,↓hop]
  refine ⟨by decide,⟨hl6,hc.2⟩,?_⟩
  subst hl
  refine hK _ ?_;clear hK K
  refine Aw_st hE [1,4,5] [2,4,412,413,414,415,416,417,418] fun K hK=>?_
  simp only [go_sem,seval]
  refine hK _ ?_;clear hK K
  refine Aw_sq fun B3 hB3 hR3 hX3=>?_
  refine Aw_st hE [4,5,17] [2,4,412,413,414,415,416,417,418] fun K hK=>?_
  simp only [go_sem,seval]
  refine hK _ (Aw_cond rfl (fun hc4=>?_) (fun hc4=>?_))
  ·have hg:g=false:=by simpa using hc4
   subst hg
   refine Aw_tx hE [4,5] [2,4,412,413,414,415,416,417,418] fun K hK=>?_
   simp only [go_sem,seval]
   refine hK _ (hB3 _ ?_)
   refine Aw_sq fun B5 hB5 hR5 hX5=>?_
   refine Aw_st hE [4,5,6] [2,4,412,413,414,415,416,417,418] fun K hK=>?_
   simp only [go_sem,seval]
   refine hK _ ?_;clear hK K
   refine Aw_bk fun B6 hN6 hE6 hR6 hX6=>?_
   refine Aw_unr 1 (Aw_rd fun B7 hN7 hR7 hX7=>?_)
   refine Aw_sq fun B8 hB8 hR8 hX8=>?_
   refine Aw_stP hE [4,5,6,26] [2,4,412,413,414,415,416,417,418] fun K hK=>?_
   simp only [go_sem,seval]
   refine hK _ (Aw_no rfl (Aw_exit (hX8 _ _ (hX7 _ _ (hE6 _ (hB5 _ ?_))))))
   refine Aw_frz hE rfl 412 4 rfl rfl ?_
   simp only [go_sem,seval]
   refine Aw_st hE [4] [2,4,412,413,414,415,416,417,418] fun K hK=>?_
   simp only [go_sem,seval]
   refine ⟨ribL_p [] (by simp),ribL_q [] ?_⟩
   simp only [go_sem,seval]
   refine hK _ (Aw_ret (hQ _ ?_))
   simp only [go_sem,seval]
   all_goals rfl
  ·have hg:g=true:=by simpa using hc4
   subst hg
   refine Aw_skip (hB3 _ ?_)
   refine Aw_sq fun B5 hB5 hR5 hX5=>?_
   refine Aw_st hE [4,5,6] [2,4,412,413,414,415,416,417,418] fun K hK=>?_
   simp only [go_sem,seval]
   refine hK _ ?_;clear hK K
   refine Aw_bk fun B6 hN6 hE6 hR6 hX6=>?_
   refine Aw_unr 7 ?_
   refine Aw_rd fun B7_0 hN7_0 hR7_0 hX7_0=>?_
   refine Aw_sq fun B8_0 hB8_0 hR8_0 hX8_0=>?_
   refine Aw_stP hE [4,5,6,26] [2,4,412,413,414,415,416,417,418] fun K hK=>?_
   simp only [go_sem,seval]
   refine hK _ (Aw_yes rfl (Aw_skip (hB8_0 _ ?_)))
   refine Aw_sq fun B10_0 hB10_0 hR10_0 hX10_0=>?_
   refine Aw_bk fun B11_0 hN11_0 hE11_0 hR11_0 hX11_0=>?_
   refine Aw_tx hE [4,5,6] [2,4,412,413,414,415,416,417,418] fun K hK=>?_
   simp only [go_sem,seval]
   repeat refine ⟨by first|omega|(and_intros<;>first|omega|exact rows_row _|decide|(simp<;>omega))|fail,?_⟩
   refine hK _ (hN11_0 _ (hB10_0 _ ?_))
   refine Aw_tx hE [4,5,6] [2,4,412,413,414,415,416,417,418] fun K hK=>?_
   simp only [go_sem,seval]
   refine hK _ (hN7_0 _ ?_)
   refine Aw_rd fun B7_1 hN7_1 hR7_1 hX7_1=>?_
   refine Aw_sq fun B8_1 hB8_1 hR8_1 hX8_1=>?_
   refine Aw_stP hE [4,5,6,26] [2,4,412,413,414,415,416,417,418] fun K hK=>?_
   simp only [go_sem,seval]
   refine hK _ (Aw_yes rfl (Aw_skip (hB8_1 _ ?_)))
   refine Aw_sq fun B10_1 hB10_1 hR10_1 hX10_1=>?_
   refine Aw_bk fun B11_1 hN11_1 hE11_1 hR11_1 hX11_1=>?_
   refine Aw_tx hE [4,5,6] [2,4,412,413,414,415,416,417,418] fun K hK=>?_
   simp only [go_sem,seval]
   repeat refine ⟨by first|omega|(and_intros<;>first|omega|exact rows_row _|decide|(simp<;>omega))|fail,?_⟩
   refine hK _ (hN11_1 _ (hB10_1 _ ?_))
   refine Aw_tx hE [4,5,6] [2,4,412,413,414,415,416,417,418] fun K hK=>?_
   simp only [go_sem,seval]
   refine hK _ (hN7_1 _ ?_)
   refine Aw_rd fun B7_2 hN7_2 hR7_2 hX7_2=>?_
   refine Aw_sq fun B8_2 hB8_2 hR8_2 hX8_2=>?_
   refine Aw_stP hE [4,5,6,26] [2,4,412,413,414,415,416,417,418] fun K hK=>?_
   simp only [go_sem,seval]
   refine hK _ (Aw_yes rfl (Aw_skip (hB8_2 _ ?_)))
   refine Aw_sq fun B10_2 hB10_2 hR10_2 hX10_2=>?_
   refine Aw_bk fun B11_2 hN11_2 hE11_2 hR11_2 hX11_2=>?_
   refine Aw_tx hE [4,5,6] [2,4,412,413,414,415,416,417,418] fun K hK=>?_
   simp only [go_sem,seval]
   repeat refine ⟨by first|omega|(and_intros<;>first|omega|exact rows_row _|decide|(simp<;>omega))|fail,?_⟩
   refine hK _ (hN11_2 _ (hB10_2 _ ?_))
   refine Aw_tx hE [4,5,6] [2,4,412,413,414,415,416,417,418] fun K hK=>?_
   simp only [go_sem,seval]
   refine hK _ (hN7_2 _ ?_)
   refine Aw_rd fun B7_3 hN7_3 hR7_3 hX7_3=>?_
   refine Aw_sq fun B8_3 hB8_3 hR8_3 hX8_3=>?_
   refine Aw_stP hE [4,5,6,26] [2,4,412,413,414,415,416,417,418] fun K hK=>?_
   simp only [go_sem,seval]
   refine hK _ (Aw_yes rfl (Aw_skip (hB8_3 _ ?_)))
   refine Aw_sq fun B10_3 hB10_3 hR10_3 hX10_3=>?_
   refine Aw_bk fun B11_3 hN11_3 hE11_3 hR11_3 hX11_3=>?_
   refine Aw_tx hE [4,5,6] [2,4,412,413,414,415,416,417,418] fun K hK=>?_
   simp only [go_sem,seval]
   repeat refine ⟨by first|omega|(and_intros<;>first|omega|exact rows_row _|decide|(simp<;>omega))|fail,?_⟩
   refine hK _ (hN11_3 _ (hB10_3 _ ?_))
   refine Aw_tx hE [4,5,6] [2,4,412,413,414,415,416,417,418] fun K hK=>?_
   simp only [go_sem,seval]
   refine hK _ (hN7_3 _ ?_)
   refine Aw_rd fun B7_4 hN7_4 hR7_4 hX7_4=>?_
   refine Aw_sq fun B8_4 hB8_4 hR8_4 hX8_4=>?_
   refine Aw_stP hE [4,5,6,26] [2,4,412,413,414,415,416,417,418] fun K hK=>?_
   simp only [go_sem,seval]
   refine hK _ (Aw_yes rfl (Aw_skip (hB8_4 _ ?_)))
   refine Aw_sq fun B10_4 hB10_4 hR10_4 hX10_4=>?_
   refine Aw_bk fun B11_4 hN11_4 hE11_4 hR11_4 hX11_4=>?_
   refine Aw_tx hE [4,5,6] [2,4,412,413,414,415,416,417,418] fun K hK=>?_
   simp only [go_sem,seval]
   repeat refine ⟨by first|omega|(and_intros<;>first|omega|exact rows_row _|decide|(simp<;>omega))|fail,?_⟩
   refine hK _ (hN11_4 _ (hB10_4 _ ?_))
   refine Aw_tx hE [4,5,6] [2,4,412,413,414,415,416,417,418] fun K hK=>?_
   simp only [go_sem,seval]
   refine hK _ (hN7_4 _ ?_)
   refine Aw_rd fun B7_5 hN7_5 hR7_5 hX7_5=>?_
   refine Aw_sq fun B8_5 hB8_5 hR8_5 hX8_5=>?_
   refine Aw_stP hE [4,5,6,26] [2,4,412,413,414,415,416,417,418] fun K hK=>?_
   simp only [go_sem,seval]
   refine hK _ (Aw_yes rfl (Aw_skip (hB8_5 _ ?_)))
   refine Aw_sq fun B10_5 hB10_5 hR10_5 hX10_5=>?_
   refine Aw_bk fun B11_5 hN11_5 hE11_5 hR11_5 hX11_5=>?_
   refine Aw_tx hE [4,5,6] [2,4,412,413,414,415,416,417,418] fun K hK=>?_
   simp only [go_sem,seval]
   repeat refine ⟨by first|omega|(and_intros<;>first|omega|exact rows_row _|decide|(simp<;>omega))|fail,?_⟩
   refine hK _ (hN11_5 _ (hB10_5 _ ?_))
   refine Aw_tx hE [4,5,6] [2,4,412,413,414,415,416,417,418] fun K hK=>?_
   simp only [go_sem,seval]
   refine hK _ (hN7_5 _ ?_)
   refine Aw_rd fun B7_6 hN7_6 hR7_6 hX7_6=>?_
   refine Aw_sq fun B8_6 hB8_6 hR8_6 hX8_6=>?_
   refine Aw_stP hE [4,5,6,26] [2,4,412,413,414,415,416,417,418] fun K hK=>?_
   simp only [go_sem,seval]
   refine hK _ (Aw_no rfl (Aw_exit (hX8_6 _ _ (hX7_6 _ _ (hE6 _ (hB5 _ ?_))))))
   refine Aw_frz hE rfl 418 7 rfl rfl ?_
   simp only [go_sem,seval]
   refine Aw_frz hE rfl 417 7 rfl rfl ?_
   simp only [go_sem,seval]
   refine Aw_frz hE rfl 416 7 rfl rfl ?_
   simp only [go_sem,seval]
   refine Aw_frz hE rfl 415 7 rfl rfl ?_
   simp only [go_sem,seval]
   refine Aw_frz hE rfl 414 7 rfl rfl ?_
   simp only [go_sem,seval]
   refine Aw_frz hE rfl 413 7 rfl rfl ?_
   simp only [go_sem,seval]
   refine Aw_frz hE rfl 412 4 rfl rfl ?_
   simp only [go_sem,seval]
   refine Aw_st hE [4] [2,4,412,413,414,415,416,417,418] fun K hK=>?_
   simp only [go_sem,seval]
   refine ⟨ribL_p [oldG g1,oldG g2,oldG g3,oldG g4,oldG g5,oldG g6] (by simp),ribL_q [oldG g1,oldG g2,oldG g3,oldG g4,oldG g5,oldG g6] ?_⟩
   simp only [go_sem,seval]
   refine hK _ (Aw_ret (hQ _ ?_))
   simp only [go_sem,seval]
   all_goals rfl
end Go.Proofs.W
end
section
namespace Go.Proofs.W
open Go Go.Eng Go.RowKit
set_option linter.unusedSimpArgs false
set_option maxRecDepth 100000
/-! the link of a prefix,over lent boxes: 1000 the session,1001 and on the nodes -/
def skN (f b:Int):List Gt→Nat
 | []=>0
 | g::l=>if rCmp g.r.f g.r.b f b < 0 then skN f b l + 1 else 0
def skM (f b:Int):List (Nat × List AV)→Nat
 | (_,.v (.int .i64 f1)::.v (.int .i64 b1)::_)::ms=>if rCmp f1 b1 f b < 0 then skM f b ms + 1 else 0
 | _=>0
def lnkN:Nat→AV
 | 0=>.loc 1000 2
 | n + 1=>.loc (1001 + n) 6
theorem skM_nd (f b:Int):∀ (l:List Gt) (k:Nat),skM f b (ndB l k)=skN f b l
 | [],_=>rfl
 | g::l,k=>by
  show (if rCmp g.r.f g.r.b f b < 0 then skM f b (ndB l (k + 1)) + 1 else 0)=_
  rw [skM_nd f b l (k + 1)];rfl
def sesL (h:Int) (up:Bool) (l:List Gt) (n:Int):List (Nat × List AV):=(1000,[iv h,bv up,hdB l 1001,iv n])::ndB l 1001
attribute [go_sem] sesL
def cSeek:ConM:={
 pre:=fun args m1=>∃ (h:Int) (up:Bool) (l:List Gt) (n f b:Int),args=[.loc 1000 0,.agg [iv f,iv b]]∧m1=sesL h up l n∧l.length≤6∧(∀ g ∈ l,rngOk g.r.f g.r.b=true)∧rngOk f b=true
 post:=fun args m1 r m2=>m2=m1∧∀ f b:Int,args=[.loc 1000 0,.agg [iv f,iv b]]→r=lnkN (skM f b m1.tail) }
set_option maxHeartbeats 16000000 in
theorem seek_ok:FineM Tryz.prog 67 cSeek:=by
 refine fineM_of [] ms_nil [] mm_nil [] [] ex_nil (T:=TT) Tryz.func67 rfl Tryz.ntmps67 (by rw [Tryz.results67]) rfl rfl tt gs_nil (ds_cons iRgCmp_ok ds_nil) ?_
 rintro args m1 ⟨h0,up,l,n,f,b,rfl,rfl,hl6,hlg,hr⟩
 refine ⟨by simp,fun E hE Q hQ=>?_⟩
 have hpost:∀ (l':List Gt) (r:AV) m2,l=l'→m2=sesL h0 up l n→r=lnkN (skN f b l')→cSeek.post [.loc 1000 0,.agg [iv f,iv b]] (sesL h0 up l n) r m2:=by
  rintro l' r m2 rfl rfl rfl
  refine ⟨rfl,fun f' b' e=>?_⟩
  simp only [List.cons.injEq,AV.agg.injEq,AV.v.injEq,Value.int.injEq,and_true,true_and] at e
  obtain ⟨rfl,rfl⟩:=e
  simp only [sesL,List.tail_cons,skM_nd]
 rcases six hl6 with rfl | ⟨g1,rfl⟩ | ⟨g1,g2,rfl⟩ | ⟨g1,g2,g3,rfl⟩ | ⟨g1,g2,g3,g4,rfl⟩ | ⟨g1,g2,g3,g4,g5,rfl⟩ | ⟨g1,g2,g3,g4,g5,g6,rfl⟩
 ·refine Aw_st hE [0,3] [3,1000,1001,1002,1003,1004,1005,1006] fun K hK=>?_
  simp only [go_sem,seval]
  refine hK _ ?_;clear hK K
  refine Aw_st hE [3,5] [3,1000,1001,1002,1003,1004,1005,1006] fun K hK=>?_
  simp only [go_sem,seval]
  refine hK _ ?_;clear hK K
  refine Aw_sq fun B1 hB1 hR1 hX1=>?_
  refine Aw_bk fun B2 hN2 hE2 hR2 hX2=>?_
  refine Aw_unr 1 ?_
  refine Aw_rd fun B3_0 hN3_0 hR3_0 hX3_0=>?_
  refine Aw_sq fun B4_0 hB4_0 hR4_0 hX4_0=>?_
  refine Aw_sd hE [3,5,25] [3,1000,1001,1002,1003,1004,1005,1006] 6 (by kernel_rfl) fun K hK=>?_
  simp only [go_sem,seval]
  refine hK _ (Aw_no rfl (Aw_exit (hX4_0 _ _ (hX3_0 _ _ (hE2 _ (hB1 _ ?_))))))
  refine Aw_st hE [4] [3,1000,1001,1002,1003,1004,1005,1006] fun K hK=>?_
  simp only [go_sem,seval]
  refine hK _ ?_
  refine Aw.leE (Le_E (Le_ks [4] [1000])) ?_
  refine Aw_ret (hQ _ ?_)
  simp only [go_sem,seval]
  refine hpost [] _ _ rfl rfl ?_
  rw [show skN f b []=0 by simp [skN]]
  rfl
 ·refine Aw_st hE [0,3] [3,1000,1001,1002,1003,1004,1005,1006] fun K hK=>?_
  simp only [go_sem,seval]
  refine hK _ ?_;clear hK K
  refine Aw_st hE [3,5] [3,1000,1001,1002,1003,1004,1005,1006] fun K hK=>?_
  simp only [go_sem,seval]
  refine hK _ ?_;clear hK K
  refine Aw_sq fun B1 hB1 hR1 hX1=>?_
  refine Aw_bk fun B2 hN2 hE2 hR2 hX2=>?_
  refine Aw_unr 2 ?_
  refine Aw_rd fun B3_0 hN3_0 hR3_0 hX3_0=>?_
  refine Aw_sq fun B4_0 hB4_0 hR4_0 hX4_0=>?_
  have hr_0:=hlg g1 (by simp)
  refine Aw_sd hE [3,5,25] [3,1000,1001,1002,1003,1004,1005,1006] 6 (by kernel_rfl) fun K hK=>?_
  simp only [go_sem,seval,hr_0,hr,Bool.and_self,if_true]
  refine hK _ (Aw_cond rfl (fun hc_0=>?_) (fun hc_0=>?_))
  rotate_left
  ·simp only [decide_eq_false_iff_not] at hc_0
   refine Aw_exit (hX4_0 _ _ (hX3_0 _ _ (hE2 _ (hB1 _ ?_))))
   refine Aw_st hE [4] [3,1000,1001,1002,1003,1004,1005,1006] fun K hK=>?_
   simp only [go_sem,seval]
   refine hK _ ?_
   refine Aw.leE (Le_E (Le_ks [4] [1000,1001])) ?_
   refine Aw_ret (hQ _ ?_)
   simp only [go_sem,seval]
   refine hpost [g1] _ _ rfl rfl ?_
   rw [show skN f b [g1]=0 by simp [skN,hc_0]]
   rfl
  simp only [decide_eq_true_eq] at hc_0
  refine Aw_skip (hB4_0 _ ?_)
  refine Aw_bk fun B5_0 hN5_0 hE5_0 hR5_0 hX5_0=>?_
  refine Aw_tx hE [3,5] [3,1000,1001,1002,1003,1004,1005,1006] fun K hK=>?_
  simp only [go_sem,seval]
  refine hK _ (hN5_0 _ (hN3_0 _ ?_))
  refine Aw_rd fun B3_1 hN3_1 hR3_1 hX3_1=>?_
  refine Aw_sq fun B4_1 hB4_1 hR4_1 hX4_1=>?_
  refine Aw_sd hE [3,5,25] [3,1000,1001,1002,1003,1004,1005,1006] 6 (by kernel_rfl) fun K hK=>?_
  simp only [go_sem,seval]
  refine hK _ (Aw_no rfl (Aw_exit (hX4_1 _ _ (hX3_1 _ _ (hE2 _ (hB1 _ ?_))))))
  refine Aw_st hE [4] [3,1000,1001,1002,1003,1004,1005,1006] fun K hK=>?_
  simp only [go_sem,seval]
  refine hK _ ?_
  refine Aw.leE (Le_E (Le_ks [4] [1000,1001])) ?_
  refine Aw_ret (hQ _ ?_)
  simp only [go_sem,seval]
  refine hpost [g1] _ _ rfl rfl ?_
  rw [show skN f b [g1]=1 by simp [skN,hc_0]]
  rfl
 ·refine Aw_st hE [0,3] [3,1000,1001,1002,1003,1004,1005,1006] fun K hK=>?_
  simp only [go_sem,seval]
  refine hK _ ?_;clear hK K
  refine Aw_st hE [3,5] [3,1000,1001,1002,1003,1004,1005,1006] fun K hK=>?_
  simp only [go_sem,seval]
  refine hK _ ?_;clear hK K
  refine Aw_sq fun B1 hB1 hR1 hX1=>?_
  refine Aw_bk fun B2 hN2 hE2 hR2 hX2=>?_
  refine Aw_unr 3 ?_
  refine Aw_rd fun B3_0 hN3_0 hR3_0 hX3_0=>?_
  refine Aw_sq fun B4_0 hB4_0 hR4_0 hX4_0=>?_
  have hr_0:=hlg g1 (by simp)
  refine Aw_sd hE [3,5,25] [3,1000,1001,1002,1003,1004,1005,1006] 6 (by kernel_rfl) fun K hK=>?_
  simp only [go_sem,seval,hr_0,hr,Bool.and_self,if_true]
  refine hK _ (Aw_cond rfl (fun hc_0=>?_) (fun hc_0=>?_))
  rotate_left
  ·simp only [decide_eq_false_iff_not] at hc_0
   refine Aw_exit (hX4_0 _ _ (hX3_0 _ _ (hE2 _ (hB1 _ ?_))))
   refine Aw_st hE [4] [3,1000,1001,1002,1003,1004,1005,1006] fun K hK=>?_
   simp only [go_sem,seval]
   refine hK _ ?_
   refine Aw.leE (Le_E (Le_ks [4] [1000,1001,1002])) ?_
   refine Aw_ret (hQ _ ?_)
   simp only [go_sem,seval]
   refine hpost [g1,g2] _ _ rfl rfl ?_
   rw [show skN f b [g1,g2]=0 by simp [skN,hc_0]]
   rfl
  simp only [decide_eq_true_eq] at hc_0
  refine Aw_skip (hB4_0 _ ?_)
  refine Aw_bk fun B5_0 hN5_0 hE5_0 hR5_0 hX5_0=>?_
  refine Aw_tx hE [3,5] [3,1000,1001,1002,1003,1004,1005,1006] fun K hK=>?_
  simp only [go_sem,seval]
  refine hK _ (hN5_0 _ (hN3_0 _ ?_))
  refine Aw_rd fun B3_1 hN3_1 hR3_1 hX3_1=>?_
  refine Aw_sq fun B4_1 hB4_1 hR4_1 hX4_1=>?_
  have hr_1:=hlg g2 (by simp)
  refine Aw_sd hE [3,5,25] [3,1000,1001,1002,1003,1004,1005,1006] 6 (by kernel_rfl) fun K hK=>?_
  simp only [go_sem,seval,hr_1,hr,Bool.and_self,if_true]
  refine hK _ (Aw_cond rfl (fun hc_1=>?_) (fun hc_1=>?_))
  rotate_left
  ·simp only [decide_eq_false_iff_not] at hc_1
   refine Aw_exit (hX4_1 _ _ (hX3_1 _ _ (hE2 _ (hB1 _ ?_))))
   refine Aw_st hE [4] [3,1000,1001,1002,1003,1004,1005,1006] fun K hK=>?_
   simp only [go_sem,seval]
   refine hK _ ?_
   refine Aw.leE (Le_E (Le_ks [4] [1000,1001,1002])) ?_
   refine Aw_ret (hQ _ ?_)
   simp only [go_sem,seval]
   refine hpost [g1,g2] _ _ rfl rfl ?_
   rw [show skN f b [g1,g2]=1 by simp [skN,hc_0,hc_1]]
   rfl
  simp only [decide_eq_true_eq] at hc_1
  refine Aw_skip (hB4_1 _ ?_)
  refine Aw_bk fun B5_1 hN5_1 hE5_1 hR5_1 hX5_1=>?_
  refine Aw_tx hE [3,5] [3,1000,1001,1002,1003,1004,1005,1006] fun K hK=>?_
  simp only [go_sem,seval]
  refine hK _ (hN5_1 _ (hN3_1 _ ?_))
  refine Aw_rd fun B3_2 hN3_2 hR3_2 hX3_2=>?_
  refine Aw_sq fun B4_2 hB4_2 hR4_2 hX4_2=>?_
  refine Aw_sd hE [3,5,25] [3,1000,1001,1002,1003,1004,1005,1006] 6 (by kernel_rfl) fun K hK=>?_
  simp only [go_sem,seval]
  refine hK _ (Aw_no rfl (Aw_exit (hX4_2 _ _ (hX3_2 _ _ (hE2 _ (hB1 _ ?_))))))
  refine Aw_st hE [4] [3,1000,1001,1002,1003,1004,1005,1006] fun K hK=>?_
  simp only [go_sem,seval]
  refine hK _ ?_
  refine Aw.leE (Le_E (Le_ks [4] [1000,1001,1002])) ?_
  refine Aw_ret (hQ _ ?_)
  simp only [go_sem,seval]
  refine hpost [g1,g2] _ _ rfl rfl ?_
  rw [show skN f b [g1,g2]=2 by simp [skN,hc_0,hc_1]]
  rfl
 ·refine Aw_st hE [0,3] [3,1000,1001,1002,1003,1004,1005,1006] fun K hK=>?_
  simp only [go_sem,seval]
  refine hK _ ?_;clear hK K
  refine Aw_st hE [3,5] [3,1000,1001,1002,1003,1004,1005,1006] fun K hK=>?_
  simp only [go_sem,seval]
  refine hK _ ?_;clear hK K
  refine Aw_sq fun B1 hB1 hR1 hX1=>?_
  refine Aw_bk fun B2 hN2 hE2 hR2 hX2=>?_
  refine Aw_unr 4 ?_
  refine Aw_rd fun B3_0 hN3_0 hR3_0 hX3_0=>?_
  refine Aw_sq fun B4_0 hB4_0 hR4_0 hX4_0=>?_
  have hr_0:=hlg g1 (by simp)
  refine Aw_sd hE [3,5,25] [3,1000,1001,1002,1003,1004,1005,1006] 6 (by kernel_rfl) fun K hK=>?_
  simp only [go_sem,seval,hr_0,hr,Bool.and_self,if_true]
  refine hK _ (Aw_cond rfl (fun hc_0=>?_) (fun hc_0=>?_))
  rotate_left
  ·simp only [decide_eq_false_iff_not] at hc_0
   refine Aw_exit (hX4_0 _ _ (hX3_0 _ _ (hE2 _ (hB1 _ ?_))))
   refine Aw_st hE [4] [3,1000,1001,1002,1003,1004,1005,1006] fun K hK=>?_
   simp only [go_sem,seval]
   refine hK _ ?_
   refine Aw.leE (Le_E (Le_ks [4] [1000,1001,1002,1003])) ?_
   refine Aw_ret (hQ _ ?_)
   simp only [go_sem,seval]
   refine hpost [g1,g2,g3] _ _ rfl rfl ?_
   rw [show skN f b [g1,g2,g3]=0 by simp [skN,hc_0]]
   rfl
  simp only [decide_eq_true_eq] at hc_0
  refine Aw_skip (hB4_0 _ ?_)
  refine Aw_bk fun B5_0 hN5_0 hE5_0 hR5_0 hX5_0=>?_
  refine Aw_tx hE [3,5] [3,1000,1001,1002,1003,1004,1005,1006] fun K hK=>?_
  simp only [go_sem,seval]
  refine hK _ (hN5_0 _ (hN3_0 _ ?_))
  refine Aw_rd fun B3_1 hN3_1 hR3_1 hX3_1=>?_
  refine Aw_sq fun B4_1 hB4_1 hR4_1 hX4_1=>?_
  have hr_1:=hlg g2 (by simp)
  refine Aw_sd hE [3,5,25] [3,1000,1001,1002,1003,1004,1005,1006] 6 (by kernel_rfl) fun K hK=>?_
  simp only [go_sem,seval,hr_1,hr,Bool.and_self,if_true]
  refine hK _ (Aw_cond rfl (fun hc_1=>?_) (fun hc_1=>?_))
  rotate_left
  ·simp only [decide_eq_false_iff_not] at hc_1
   refine Aw_exit (hX4_1 _ _ (hX3_1 _ _ (hE2 _ (hB1 _ ?_))))
   refine Aw_st hE [4] [3,1000,1001,1002,1003,1004,1005,1006] fun K hK=>?_
   simp only [go_sem,seval]
   refine hK _ ?_
   refine Aw.leE (Le_E (Le_ks [4] [1000,1001,1002,1003])) ?_
   refine Aw_ret (hQ _ ?_)
   simp only [go_sem,seval]
   refine hpost [g1,g2,g3] _ _ rfl rfl ?_
   rw [show skN f b [g1,g2,g3]=1 by simp [skN,hc_0,hc_1]]
   rfl
  simp only [decide_eq_true_eq] at hc_1
  refine Aw_skip (hB4_1 _ ?_)
  refine Aw_bk fun B5_1 hN5_1 hE5_1 hR5_1 hX5_1=>?_
  refine Aw_tx hE [3,5] [3,1000,1001,1002,1003,1004,1005,1006] fun K hK=>?_
  simp only [go_sem,seval]
  refine hK _ (hN5_1 _ (hN3_1 _ ?_))
  refine Aw_rd fun B3_2 hN3_2 hR3_2 hX3_2=>?_
  refine Aw_sq fun B4_2 hB4_2 hR4_2 hX4_2=>?_
  have hr_2:=hlg g3 (by simp)
  refine Aw_sd hE [3,5,25] [3,1000,1001,1002,1003,1004,1005,1006] 6 (by kernel_rfl) fun K hK=>?_
  simp only [go_sem,seval,hr_2,hr,Bool.and_self,if_true]
  refine hK _ (Aw_cond rfl (fun hc_2=>?_) (fun hc_2=>?_))
  rotate_left
  ·simp only [decide_eq_false_iff_not] at hc_2
   refine Aw_exit (hX4_2 _ _ (hX3_2 _ _ (hE2 _ (hB1 _ ?_))))
   refine Aw_st hE [4] [3,1000,1001,1002,1003,1004,1005,1006] fun K hK=>?_
   simp only [go_sem,seval]
   refine hK _ ?_
   refine Aw.leE (Le_E (Le_ks [4] [1000,1001,1002,1003])) ?_
   refine Aw_ret (hQ _ ?_)
   simp only [go_sem,seval]
   refine hpost [g1,g2,g3] _ _ rfl rfl ?_
   rw [show skN f b [g1,g2,g3]=2 by simp [skN,hc_0,hc_1,hc_2]]
   rfl
  simp only [decide_eq_true_eq] at hc_2
  refine Aw_skip (hB4_2 _ ?_)
  refine Aw_bk fun B5_2 hN5_2 hE5_2 hR5_2 hX5_2=>?_
  refine Aw_tx hE [3,5] [3,1000,1001,1002,1003,1004,1005,1006] fun K hK=>?_
  simp only [go_sem,seval]
  refine hK _ (hN5_2 _ (hN3_2 _ ?_))
  refine Aw_rd fun B3_3 hN3_3 hR3_3 hX3_3=>?_
  refine Aw_sq fun B4_3 hB4_3 hR4_3 hX4_3=>?_
  refine Aw_sd hE [3,5,25] [3,1000,1001,1002,1003,1004,1005,1006] 6 (by kernel_rfl) fun K hK=>?_
  simp only [go_sem,seval]
  refine hK _ (Aw_no rfl (Aw_exit (hX4_3 _ _ (hX3_3 _ _ (hE2 _ (hB1 _ ?_))))))
  refine Aw_st hE [4] [3,1000,1001,1002,1003,1004,1005,1006] fun K hK=>?_
  simp only [go_sem,seval]
  refine hK _ ?_
  refine Aw.leE (Le_E (Le_ks [4] [1000,1001,1002,1003])) ?_
  refine Aw_ret (hQ _ ?_)
  simp only [go_sem,seval]
  refine hpost [g1,g2,g3] _ _ rfl rfl ?_
  rw [show skN f b [g1,g2,g3]=3 by simp [skN,hc_0,hc_1,hc_2]]
  rfl
 ·refine Aw_st hE [0,3] [3,1000,1001,1002,1003,1004,1005,1006] fun K hK=>?_
  simp only [go_sem,seval]
  refine hK _ ?_;clear hK K
  refine Aw_st hE [3,5] [3,1000,1001,1002,1003,1004,1005,1006] fun K hK=>?_
  simp only [go_sem,seval]
  refine hK _ ?_;clear hK K
  refine Aw_sq fun B1 hB1 hR1 hX1=>?_
  refine Aw_bk fun B2 hN2 hE2 hR2 hX2=>?_
  refine Aw_unr 5 ?_
  refine Aw_rd fun B3_0 hN3_0 hR3_0 hX3_0=>?_
  refine Aw_sq fun B4_0 hB4_0 hR4_0 hX4_0=>?_
  have hr_0:=hlg g1 (by simp)
  refine Aw_sd hE [3,5,25] [3,1000,1001,1002,1003,1004,1005,1006] 6 (by kernel_rfl) fun K hK=>?_
  simp only [go_sem,seval,hr_0,hr,Bool.and_self,if_true]
  refine hK _ (Aw_cond rfl (fun hc_0=>?_) (fun hc_0=>?_))
  rotate_left
  ·simp only [decide_eq_false_iff_not] at hc_0
   refine Aw_exit (hX4_0 _ _ (hX3_0 _ _ (hE2 _ (hB1 _ ?_))))
   refine Aw_st hE [4] [3,1000,1001,1002,1003,1004,1005,1006] fun K hK=>?_
   simp only [go_sem,seval]
   refine hK _ ?_
   refine Aw.leE (Le_E (Le_ks [4] [1000,1001,1002,1003,1004])) ?_
   refine Aw_ret (hQ _ ?_)
   simp only [go_sem,seval]
   refine hpost [g1,g2,g3,g4] _ _ rfl rfl ?_
   rw [show skN f b [g1,g2,g3,g4]=0 by simp [skN,hc_0]]
   rfl
  simp only [decide_eq_true_eq] at hc_0
  refine Aw_skip (hB4_0 _ ?_)
  refine Aw_bk fun B5_0 hN5_0 hE5_0 hR5_0 hX5_0=>?_
  refine Aw_tx hE [3,5] [3,1000,1001,1002,1003,1004,1005,1006] fun K hK=>?_
  simp only [go_sem,seval]
  refine hK _ (hN5_0 _ (hN3_0 _ ?_))
  refine Aw_rd fun B3_1 hN3_1 hR3_1 hX3_1=>?_
  refine Aw_sq fun B4_1 hB4_1 hR4_1 hX4_1=>?_
  have hr_1:=hlg g2 (by simp)
  refine Aw_sd hE [3,5,25] [3,1000,1001,1002,1003,1004,1005,1006] 6 (by kernel_rfl) fun K hK=>?_
  simp only [go_sem,seval,hr_1,hr,Bool.and_self,if_true]
  refine hK _ (Aw_cond rfl (fun hc_1=>?_) (fun hc_1=>?_))
  rotate_left
  ·simp only [decide_eq_false_iff_not] at hc_1
   refine Aw_exit (hX4_1 _ _ (hX3_1 _ _ (hE2 _ (hB1 _ ?_))))
   refine Aw_st hE [4] [3,1000,1001,1002,1003,1004,1005,1006] fun K hK=>?_
   simp only [go_sem,seval]
   refine hK _ ?_
   refine Aw.leE (Le_E (Le_ks [4] [1000,1001,1002,1003,1004])) ?_
   refine Aw_ret (hQ _ ?_)
   simp only [go_sem,seval]
   refine hpost [g1,g2,g3,g4] _ _ rfl rfl ?_
   rw [show skN f b [g1,g2,g3,g4]=1 by simp [skN,hc_0,hc_1]]
   rfl
  simp only [decide_eq_true_eq] at hc_1
  refine Aw_skip (hB4_1 _ ?_)
  refine Aw_bk fun B5_1 hN5_1 hE5_1 hR5_1 hX5_1=>?_
  refine Aw_tx hE [3,5] [3,1000,1001,1002,1003,1004,1005,1006] fun K hK=>?_
  simp only [go_sem,seval]
  refine hK _ (hN5_1 _ (hN3_1 _ ?_))
  refine Aw_rd fun B3_2 hN3_2 hR3_2 hX3_2=>?_
  refine Aw_sq fun B4_2 hB4_2 hR4_2 hX4_2=>?_
  have hr_2:=hlg g3 (by simp)
  refine Aw_sd hE [3,5,25] [3,1000,1001,1002,1003,1004,1005,1006] 6 (by kernel_rfl) fun K hK=>?_
  simp only [go_sem,seval,hr_2,hr,Bool.and_self,if_true]
  refine hK _ (Aw_cond rfl (fun hc_2=>?_) (fun hc_2=>?_))
  rotate_left
  ·simp only [decide_eq_false_iff_not] at hc_2
   refine Aw_exit (hX4_2 _ _ (hX3_2 _ _ (hE2 _ (hB1 _ ?_))))
   refine Aw_st hE [4] [3,1000,1001,1002,1003,1004,1005,1006] fun K hK=>?_
   simp only [go_sem,seval]
   refine hK _ ?_
   refine Aw.leE (Le_E (Le_ks [4] [1000,1001,1002,1003,1004])) ?_
   refine Aw_ret (hQ _ ?_)
   simp only [go_sem,seval]
   refine hpost [g1,g2,g3,g4] _ _ rfl rfl ?_
   rw [show skN f b [g1,g2,g3,g4]=2 by simp [skN,hc_0,hc_1,hc_2]]
   rfl
  simp only [decide_eq_true_eq] at hc_2
  refine Aw_skip (hB4_2 _ ?_)
  refine Aw_bk fun B5_2 hN5_2 hE5_2 hR5_2 hX5_2=>?_
  refine Aw_tx hE [3,5] [3,1000,1001,1002,1003,1004,1005,1006] fun K hK=>?_
  simp only [go_sem,seval]
  refine hK _ (hN5_2 _ (hN3_2 _ ?_))
  refine Aw_rd fun B3_3 hN3_3 hR3_3 hX3_3=>?_
  refine Aw_sq fun B4_3 hB4_3 hR4_3 hX4_3=>?_
  have hr_3:=hlg g4 (by simp)
  refine Aw_sd hE [3,5,25] [3,1000,1001,1002,1003,1004,1005,1006] 6 (by kernel_rfl) fun K hK=>?_
  simp only [go_sem,seval,hr_3,hr,Bool.and_self,if_true]
  refine hK _ (Aw_cond rfl (fun hc_3=>?_) (fun hc_3=>?_))
  rotate_left
  ·simp only [decide_eq_false_iff_not] at hc_3
   refine Aw_exit (hX4_3 _ _ (hX3_3 _ _ (hE2 _ (hB1 _ ?_))))
   refine Aw_st hE [4] [3,1000,1001,1002,1003,1004,1005,1006] fun K hK=>?_
   simp only [go_sem,seval]
   refine hK _ ?_
   refine Aw.leE (Le_E (Le_ks [4] [1000,1001,1002,1003,1004])) ?_
   refine Aw_ret (hQ _ ?_)
   simp only [go_sem,seval]
   refine hpost [g1,g2,g3,g4] _ _ rfl rfl ?_
   rw [show skN f b [g1,g2,g3,g4]=3 by simp [skN,hc_0,hc_1,hc_2,hc_3]]
   rfl
  simp only [decide_eq_true_eq] at hc_3
  refine Aw_skip (hB4_3 _ ?_)
  refine Aw_bk fun B5_3 hN5_3 hE5_3 hR5_3 hX5_3=>?_
  refine Aw_tx hE [3,5] [3,1000,1001,1002,1003,1004,1005,1006] fun K hK=>?_
  simp only [go_sem,seval]
  refine hK _ (hN5_3 _ (hN3_3 _ ?_))
  refine Aw_rd fun B3_4 hN3_4 hR3_4 hX3_4=>?_
  refine Aw_sq fun B4_4 hB4_4 hR4_4 hX4_4=>?_
  refine Aw_sd hE [3,5,25] [3,1000,1001,1002,1003,1004,1005,1006] 6 (by kernel_rfl) fun K hK=>?_
  simp only [go_sem,seval]
  refine hK _ (Aw_no rfl (Aw_exit (hX4_4 _ _ (hX3_4 _ _ (hE2 _ (hB1 _ ?_))))))
  refine Aw_st hE [4] [3,1000,1001,1002,1003,1004,1005,1006] fun K hK=>?_
  simp only [go_sem,seval]
  refine hK _ ?_
  refine Aw.leE (Le_E (Le_ks [4] [1000,1001,1002,1003,1004])) ?_
  refine Aw_ret (hQ _ ?_)
  simp only [go_sem,seval]
  refine hpost [g1,g2,g3,g4] _ _ rfl rfl ?_
  rw [show skN f b [g1,g2,g3,g4]=4 by simp [skN,hc_0,hc_1,hc_2,hc_3]]
  rfl
 ·refine Aw_st hE [0,3] [3,1000,1001,1002,1003,1004,1005,1006] fun K hK=>?_
  simp only [go_sem,seval]
  refine hK _ ?_;clear hK K
  refine Aw_st hE [3,5] [3,1000,1001,1002,1003,1004,1005,1006] fun K hK=>?_
  simp only [go_sem,seval]
  refine hK _ ?_;clear hK K
  refine Aw_sq fun B1 hB1 hR1 hX1=>?_
  refine Aw_bk fun B2 hN2 hE2 hR2 hX2=>?_
  refine Aw_unr 6 ?_
  refine Aw_rd fun B3_0 hN3_0 hR3_0 hX3_0=>?_
  refine Aw_sq fun B4_0 hB4_0 hR4_0 hX4_0=>?_
  have hr_0:=hlg g1 (by simp)
  refine Aw_sd hE [3,5,25] [3,1000,1001,1002,1003,1004,1005,1006] 6 (by kernel_rfl) fun K hK=>?_
  simp only [go_sem,seval,hr_0,hr,Bool.and_self,if_true]
  refine hK _ (Aw_cond rfl (fun hc_0=>?_) (fun hc_0=>?_))
  rotate_left
  ·simp only [decide_eq_false_iff_not] at hc_0
   refine Aw_exit (hX4_0 _ _ (hX3_0 _ _ (hE2 _ (hB1 _ ?_))))
   refine Aw_st hE [4] [3,1000,1001,1002,1003,1004,1005,1006] fun K hK=>?_
   simp only [go_sem,seval]
   refine hK _ ?_
   refine Aw.leE (Le_E (Le_ks [4] [1000,1001,1002,1003,1004,1005])) ?_
   refine Aw_ret (hQ _ ?_)
   simp only [go_sem,seval]
   refine hpost [g1,g2,g3,g4,g5] _ _ rfl rfl ?_
   rw [show skN f b [g1,g2,g3,g4,g5]=0 by simp [skN,hc_0]]
   rfl
  simp only [decide_eq_true_eq] at hc_0
  refine Aw_skip (hB4_0 _ ?_)
  refine Aw_bk fun B5_0 hN5_0 hE5_0 hR5_0 hX5_0=>?_
  refine Aw_tx hE [3,5] [3,1000,1001,1002,1003,1004,1005,1006] fun K hK=>?_
  simp only [go_sem,seval]
  refine hK _ (hN5_0 _ (hN3_0 _ ?_))
  refine Aw_rd fun B3_1 hN3_1 hR3_1 hX3_1=>?_
  refine Aw_sq fun B4_1 hB4_1 hR4_1 hX4_1=>?_
  have hr_1:=hlg g2 (by simp)
  refine Aw_sd hE [3,5,25] [3,1000,1001,1002,1003,1004,1005,1006] 6 (by kernel_rfl) fun K hK=>?_
  simp only [go_sem,seval,hr_1,hr,Bool.and_self,if_true]
  refine hK _ (Aw_cond rfl (fun hc_1=>?_) (fun hc_1=>?_))
  rotate_left
  ·simp only [decide_eq_false_iff_not] at hc_1
   refine Aw_exit (hX4_1 _ _ (hX3_1 _ _ (hE2 _ (hB1 _ ?_))))
   refine Aw_st hE [4] [3,1000,1001,1002,1003,1004,1005,1006] fun K hK=>?_
   simp only [go_sem,seval]
   refine hK _ ?_
   refine Aw.leE (Le_E (Le_ks [4] [1000,1001,1002,1003,1004,1005])) ?_
   refine Aw_ret (hQ _ ?_)
   simp only [go_sem,seval]
   refine hpost [g1,g2,g3,g4,g5] _ _ rfl rfl ?_
   rw [show skN f b [g1,g2,g3,g4,g5]=1 by simp [skN,hc_0,hc_1]]
   rfl
  simp only [decide_eq_true_eq] at hc_1
  refine Aw_skip (hB4_1 _ ?_)
  refine Aw_bk fun B5_1 hN5_1 hE5_1 hR5_1 hX5_1=>?_
  refine Aw_tx hE [3,5] [3,1000,1001,1002,1003,1004,1005,1006] fun K hK=>?_
  simp only [go_sem,seval]
  refine hK _ (hN5_1 _ (hN3_1 _ ?_))
  refine Aw_rd fun B3_2 hN3_2 hR3_2 hX3_2=>?_
  refine Aw_sq fun B4_2 hB4_2 hR4_2 hX4_2=>?_
  have hr_2:=hlg g3 (by simp)
  refine Aw_sd hE [3,5,25] [3,1000,1001,1002,1003,1004,1005,1006] 6 (by kernel_rfl) fun K hK=>?_
  simp only [go_sem,seval,hr_2,hr,Bool.and_self,if_true]
  refine hK _ (Aw_cond rfl (fun hc_2=>?_) (fun hc_2=>?_))
  rotate_left
  ·simp only [decide_eq_false_iff_not] at hc_2
   refine Aw_exit (hX4_2 _ _ (hX3_2 _ _ (hE2 _ (hB1 _ ?_))))
   refine Aw_st hE [4] [3,1000,1001,1002,1003,1004,1005,1006] fun K hK=>?_
   simp only [go_sem,seval]
   refine hK _ ?_
   refine Aw.leE (Le_E (Le_ks [4] [1000,1001,1002,1003,1004,1005])) ?_
   refine Aw_ret (hQ _ ?_)
   simp only [go_sem,seval]
   refine hpost [g1,g2,g3,g4,g5] _ _ rfl rfl ?_
   rw [show skN f b [g1,g2,g3,g4,g5]=2 by simp [skN,hc_0,hc_1,hc_2]]
   rfl
  simp only [decide_eq_true_eq] at hc_2
  refine Aw_skip (hB4_2 _ ?_)
  refine Aw_bk fun B5_2 hN5_2 hE5_2 hR5_2 hX5_2=>?_
  refine Aw_tx hE [3,5] [3,1000,1001,1002,1003,1004,1005,1006] fun K hK=>?_
  simp only [go_sem,seval]
  refine hK _ (hN5_2 _ (hN3_2 _ ?_))
  refine Aw_rd fun B3_3 hN3_3 hR3_3 hX3_3=>?_
  refine Aw_sq fun B4_3 hB4_3 hR4_3 hX4_3=>?_
  have hr_3:=hlg g4 (by simp)
  refine Aw_sd hE [3,5,25] [3,1000,1001,1002,1003,1004,1005,1006] 6 (by kernel_rfl) fun K hK=>?_
  simp only [go_sem,seval,hr_3,hr,Bool.and_self,if_true]
  refine hK _ (Aw_cond rfl (fun hc_3=>?_) (fun hc_3=>?_))
  rotate_left
  ·simp only [decide_eq_false_iff_not] at hc_3
   refine Aw_exit (hX4_3 _ _ (hX3_3 _ _ (hE2 _ (hB1 _ ?_))))
   refine Aw_st hE [4] [3,1000,1001,1002,1003,1004,1005,1006] fun K hK=>?_
   simp only [go_sem,seval]
   refine hK _ ?_
   refine Aw.leE (Le_E (Le_ks [4] [1000,1001,1002,1003,1004,1005])) ?_
   refine Aw_ret (hQ _ ?_)
   simp only [go_sem,seval]
   refine hpost [g1,g2,g3,g4,g5] _ _ rfl rfl ?_
   rw [show skN f b [g1,g2,g3,g4,g5]=3 by simp [skN,hc_0,hc_1,hc_2,hc_3]]
   rfl
  simp only [decide_eq_true_eq] at hc_3
  refine Aw_skip (hB4_3 _ ?_)
  refine Aw_bk fun B5_3 hN5_3 hE5_3 hR5_3 hX5_3=>?_
  refine Aw_tx hE [3,5] [3,1000,1001,1002,1003,1004,1005,1006] fun K hK=>?_
  simp only [go_sem,seval]
  refine hK _ (hN5_3 _ (hN3_3 _ ?_))
  refine Aw_rd fun B3_4 hN3_4 hR3_4 hX3_4=>?_
  refine Aw_sq fun B4_4 hB4_4 hR4_4 hX4_4=>?_
  have hr_4:=hlg g5 (by simp)
  refine Aw_sd hE [3,5,25] [3,1000,1001,1002,1003,1004,1005,1006] 6 (by kernel_rfl) fun K hK=>?_
  simp only [go_sem,seval,hr_4,hr,Bool.and_self,if_true]
  refine hK _ (Aw_cond rfl (fun hc_4=>?_) (fun hc_4=>?_))
  rotate_left
  ·simp only [decide_eq_false_iff_not] at hc_4
   refine Aw_exit (hX4_4 _ _ (hX3_4 _ _ (hE2 _ (hB1 _ ?_))))
   refine Aw_st hE [4] [3,1000,1001,1002,1003,1004,1005,1006] fun K hK=>?_
   simp only [go_sem,seval]
   refine hK _ ?_
   refine Aw.leE (Le_E (Le_ks [4] [1000,1001,1002,1003,1004,1005])) ?_
   refine Aw_ret (hQ _ ?_)
   simp only [go_sem,seval]
   refine hpost [g1,g2,g3,g4,g5] _ _ rfl rfl ?_
   rw [show skN f b [g1,g2,g3,g4,g5]=4 by simp [skN,hc_0,hc_1,hc_2,hc_3,hc_4]]
   rfl
  simp only [decide_eq_true_eq] at hc_4
  refine Aw_skip (hB4_4 _ ?_)
  refine Aw_bk fun B5_4 hN5_4 hE5_4 hR5_4 hX5_4=>?_
  refine Aw_tx hE [3,5] [3,1000,1001,1002,1003,1004,1005,1006] fun K hK=>?_
  simp only [go_sem,seval]
  refine hK _ (hN5_4 _ (hN3_4 _ ?_))
  refine Aw_rd fun B3_5 hN3_5 hR3_5 hX3_5=>?_
  refine Aw_sq fun B4_5 hB4_5 hR4_5 hX4_5=>?_
  refine Aw_sd hE [3,5,25] [3,1000,1001,1002,1003,1004,1005,1006] 6 (by kernel_rfl) fun K hK=>?_
  simp only [go_sem,seval]
  refine hK _ (Aw_no rfl (Aw_exit (hX4_5 _ _ (hX3_5 _ _ (hE2 _ (hB1 _ ?_))))))
  refine Aw_st hE [4] [3,1000,1001,1002,1003,1004,1005,1006] fun K hK=>?_
  simp only [go_sem,seval]
  refine hK _ ?_
  refine Aw.leE (Le_E (Le_ks [4] [1000,1001,1002,1003,1004,1005])) ?_
  refine Aw_ret (hQ _ ?_)
  simp only [go_sem,seval]
  refine hpost [g1,g2,g3,g4,g5] _ _ rfl rfl ?_
  rw [show skN f b [g1,g2,g3,g4,g5]=5 by simp [skN,hc_0,hc_1,hc_2,hc_3,hc_4]]
  rfl
 ·refine Aw_st hE [0,3] [3,1000,1001,1002,1003,1004,1005,1006] fun K hK=>?_
  simp only [go_sem,seval]
  refine hK _ ?_;clear hK K
  refine Aw_st hE [3,5] [3,1000,1001,1002,1003,1004,1005,1006] fun K hK=>?_
  simp only [go_sem,seval]
  refine hK _ ?_;clear hK K
  refine Aw_sq fun B1 hB1 hR1 hX1=>?_
  refine Aw_bk fun B2 hN2 hE2 hR2 hX2=>?_
  refine Aw_unr 7 ?_
  refine Aw_rd fun B3_0 hN3_0 hR3_0 hX3_0=>?_
  refine Aw_sq fun B4_0 hB4_0 hR4_0 hX4_0=>?_
  have hr_0:=hlg g1 (by simp)
  refine Aw_sd hE [3,5,25] [3,1000,1001,1002,1003,1004,1005,1006] 6 (by kernel_rfl) fun K hK=>?_
  simp only [go_sem,seval,hr_0,hr,Bool.and_self,if_true]
  refine hK _ (Aw_cond rfl (fun hc_0=>?_) (fun hc_0=>?_))
  rotate_left
  ·simp only [decide_eq_false_iff_not] at hc_0
   refine Aw_exit (hX4_0 _ _ (hX3_0 _ _ (hE2 _ (hB1 _ ?_))))
   refine Aw_st hE [4] [3,1000,1001,1002,1003,1004,1005,1006] fun K hK=>?_
   simp only [go_sem,seval]
   refine hK _ ?_
   refine Aw.leE (Le_E (Le_ks [4] [1000,1001,1002,1003,1004,1005,1006])) ?_
   refine Aw_ret (hQ _ ?_)
   simp only [go_sem,seval]
   refine hpost [g1,g2,g3,g4,g5,g6] _ _ rfl rfl ?_
   rw [show skN f b [g1,g2,g3,g4,g5,g6]=0 by simp [skN,hc_0]]
   rfl
  simp only [decide_eq_true_eq] at hc_0
  refine Aw_skip (hB4_0 _ ?_)
  refine Aw_bk fun B5_0 hN5_0 hE5_0 hR5_0 hX5_0=>?_
  refine Aw_tx hE [3,5] [3,1000,1001,1002,1003,1004,1005,1006] fun K hK=>?_
  simp only [go_sem,seval]
  refine hK _ (hN5_0 _ (hN3_0 _ ?_))
  refine Aw_rd fun B3_1 hN3_1 hR3_1 hX3_1=>?_
  refine Aw_sq fun B4_1 hB4_1 hR4_1 hX4_1=>?_
  have hr_1:=hlg g2 (by simp)
  refine Aw_sd hE [3,5,25] [3,1000,1001,1002,1003,1004,1005,1006] 6 (by kernel_rfl) fun K hK=>?_
  simp only [go_sem,seval,hr_1,hr,Bool.and_self,if_true]
  refine hK _ (Aw_cond rfl (fun hc_1=>?_) (fun hc_1=>?_))
  rotate_left
  ·simp only [decide_eq_false_iff_not] at hc_1
   refine Aw_exit (hX4_1 _ _ (hX3_1 _ _ (hE2 _ (hB1 _ ?_))))
   refine Aw_st hE [4] [3,1000,1001,1002,1003,1004,1005,1006] fun K hK=>?_
   simp only [go_sem,seval]
   refine hK _ ?_
   refine Aw.leE (Le_E (Le_ks [4] [1000,1001,1002,1003,1004,1005,1006])) ?_
   refine Aw_ret (hQ _ ?_)
   simp only [go_sem,seval]
   refine hpost [g1,g2,g3,g4,g5,g6] _ _ rfl rfl ?_
   rw [show skN f b [g1,g2,g3,g4,g5,g6]=1 by simp [skN,hc_0,hc_1]]
   rfl
  simp only [decide_eq_true_eq] at hc_1
  refine Aw_skip (hB4_1 _ ?_)
  refine Aw_bk fun B5_1 hN5_1 hE5_1 hR5_1 hX5_1=>?_
  refine Aw_tx hE [3,5] [3,1000,1001,1002,1003,1004,1005,1006] fun K hK=>?_
  simp only [go_sem,seval]
  refine hK _ (hN5_1 _ (hN3_1 _ ?_))
  refine Aw_rd fun B3_2 hN3_2 hR3_2 hX3_2=>?_
  refine Aw_sq fun B4_2 hB4_2 hR4_2 hX4_2=>?_
  have hr_2:=hlg g3 (by simp)
  refine Aw_sd hE [3,5,25] [3,1000,1001,1002,1003,1004,1005,1006] 6 (by kernel_rfl) fun K hK=>?_
  simp only [go_sem,seval,hr_2,hr,Bool.and_self,if_true]
  refine hK _ (Aw_cond rfl (fun hc_2=>?_) (fun hc_2=>?_))
  rotate_left
  ·simp only [decide_eq_false_iff_not] at hc_2
   refine Aw_exit (hX4_2 _ _ (hX3_2 _ _ (hE2 _ (hB1 _ ?_))))
   refine Aw_st hE [4] [3,1000,1001,1002,1003,1004,1005,1006] fun K hK=>?_
   simp only [go_sem,seval]
   refine hK _ ?_
   refine Aw.leE (Le_E (Le_ks [4] [1000,1001,1002,1003,1004,1005,1006])) ?_
   refine Aw_ret (hQ _ ?_)
   simp only [go_sem,seval]
   refine hpost [g1,g2,g3,g4,g5,g6] _ _ rfl rfl ?_
   rw [show skN f b [g1,g2,g3,g4,g5,g6]=2 by simp [skN,hc_0,hc_1,hc_2]]
   rfl
  simp only [decide_eq_true_eq] at hc_2
  refine Aw_skip (hB4_2 _ ?_)
  refine Aw_bk fun B5_2 hN5_2 hE5_2 hR5_2 hX5_2=>?_
  refine Aw_tx hE [3,5] [3,1000,1001,1002,1003,1004,1005,1006] fun K hK=>?_
  simp only [go_sem,seval]
  refine hK _ (hN5_2 _ (hN3_2 _ ?_))
  refine Aw_rd fun B3_3 hN3_3 hR3_3 hX3_3=>?_
  refine Aw_sq fun B4_3 hB4_3 hR4_3 hX4_3=>?_
  have hr_3:=hlg g4 (by simp)
  refine Aw_sd hE [3,5,25] [3,1000,1001,1002,1003,1004,1005,1006] 6 (by kernel_rfl) fun K hK=>?_
  simp only [go_sem,seval,hr_3,hr,Bool.and_self,if_true]
  refine hK _ (Aw_cond rfl (fun hc_3=>?_) (fun hc_3=>?_))
  rotate_left
  ·simp only [decide_eq_false_iff_not] at hc_3
   refine Aw_exit (hX4_3 _ _ (hX3_3 _ _ (hE2 _ (hB1 _ ?_))))
   refine Aw_st hE [4] [3,1000,1001,1002,1003,1004,1005,1006] fun K hK=>?_
   simp only [go_sem,seval]
   refine hK _ ?_
   refine Aw.leE (Le_E (Le_ks [4] [1000,1001,1002,1003,1004,1005,1006])) ?_
   refine Aw_ret (hQ _ ?_)
   simp only [go_sem,seval]
   refine hpost [g1,g2,g3,g4,g5,g6] _ _ rfl rfl ?_
   rw [show skN f b [g1,g2,g3,g4,g5,g6]=3 by simp [skN,hc_0,hc_1,hc_2,hc_3]]
   rfl
  simp only [decide_eq_true_eq] at hc_3
  refine Aw_skip (hB4_3 _ ?_)
  refine Aw_bk fun B5_3 hN5_3 hE5_3 hR5_3 hX5_3=>?_
  refine Aw_tx hE [3,5] [3,1000,1001,1002,1003,1004,1005,1006] fun K hK=>?_
  simp only [go_sem,seval]
  refine hK _ (hN5_3 _ (hN3_3 _ ?_))
  refine Aw_rd fun B3_4 hN3_4 hR3_4 hX3_4=>?_
  refine Aw_sq fun B4_4 hB4_4 hR4_4 hX4_4=>?_
  have hr_4:=hlg g5 (by simp)
  refine Aw_sd hE [3,5,25] [3,1000,1001,1002,1003,1004,1005,1006] 6 (by kernel_rfl) fun K hK=>?_
  simp only [go_sem,seval,hr_4,hr,Bool.and_self,if_true]
  refine hK _ (Aw_cond rfl (fun hc_4=>?_) (fun hc_4=>?_))
  rotate_left
  ·simp only [decide_eq_false_iff_not] at hc_4
   refine Aw_exit (hX4_4 _ _ (hX3_4 _ _ (hE2 _ (hB1 _ ?_))))
   refine Aw_st hE [4] [3,1000,1001,1002,1003,1004,1005,1006] fun K hK=>?_
   simp only [go_sem,seval]
   refine hK _ ?_
   refine Aw.leE (Le_E (Le_ks [4] [1000,1001,1002,1003,1004,1005,1006])) ?_
   refine Aw_ret (hQ _ ?_)
   simp only [go_sem,seval]
   refine hpost [g1,g2,g3,g4,g5,g6] _ _ rfl rfl ?_
   rw [show skN f b [g1,g2,g3,g4,g5,g6]=4 by simp [skN,hc_0,hc_1,hc_2,hc_3,hc_4]]
   rfl
  simp only [decide_eq_true_eq] at hc_4
  refine Aw_skip (hB4_4 _ ?_)
  refine Aw_bk fun B5_4 hN5_4 hE5_4 hR5_4 hX5_4=>?_
  refine Aw_tx hE [3,5] [3,1000,1001,1002,1003,1004,1005,1006] fun K hK=>?_
  simp only [go_sem,seval]
  refine hK _ (hN5_4 _ (hN3_4 _ ?_))
  refine Aw_rd fun B3_5 hN3_5 hR3_5 hX3_5=>?_
  refine Aw_sq fun B4_5 hB4_5 hR4_5 hX4_5=>?_
  have hr_5:=hlg g6 (by simp)
  refine Aw_sd hE [3,5,25] [3,1000,1001,1002,1003,1004,1005,1006] 6 (by kernel_rfl) fun K hK=>?_
  simp only [go_sem,seval,hr_5,hr,Bool.and_self,if_true]
  refine hK _ (Aw_cond rfl (fun hc_5=>?_) (fun hc_5=>?_))
  rotate_left
  ·simp only [decide_eq_false_iff_not] at hc_5
   refine Aw_exit (hX4_5 _ _ (hX3_5 _ _ (hE2 _ (hB1 _ ?_))))
   refine Aw_st hE [4] [3,1000,1001,1002,1003,1004,1005,1006] fun K hK=>?_
   simp only [go_sem,seval]
   refine hK _ ?_
   refine Aw.leE (Le_E (Le_ks [4] [1000,1001,1002,1003,1004,1005,1006])) ?_
   refine Aw_ret (hQ _ ?_)
   simp only [go_sem,seval]
   refine hpost [g1,g2,g3,g4,g5,g6] _ _ rfl rfl ?_
   rw [show skN f b [g1,g2,g3,g4,g5,g6]=5 by simp [skN,hc_0,hc_1,hc_2,hc_3,hc_4,hc_5]]
   rfl
  simp only [decide_eq_true_eq] at hc_5
  refine Aw_skip (hB4_5 _ ?_)
  refine Aw_bk fun B5_5 hN5_5 hE5_5 hR5_5 hX5_5=>?_
  refine Aw_tx hE [3,5] [3,1000,1001,1002,1003,1004,1005,1006] fun K hK=>?_
  simp only [go_sem,seval]
  refine hK _ (hN5_5 _ (hN3_5 _ ?_))
  refine Aw_rd fun B3_6 hN3_6 hR3_6 hX3_6=>?_
  refine Aw_sq fun B4_6 hB4_6 hR4_6 hX4_6=>?_
  refine Aw_sd hE [3,5,25] [3,1000,1001,1002,1003,1004,1005,1006] 6 (by kernel_rfl) fun K hK=>?_
  simp only [go_sem,seval]
  refine hK _ (Aw_no rfl (Aw_exit (hX4_6 _ _ (hX3_6 _ _ (hE2 _ (hB1 _ ?_))))))
  refine Aw_st hE [4] [3,1000,1001,1002,1003,1004,1005,1006] fun K hK=>?_
  simp only [go_sem,seval]
  refine hK _ ?_
  refine Aw.leE (Le_E (Le_ks [4] [1000,1001,1002,1003,1004,1005,1006])) ?_
  refine Aw_ret (hQ _ ?_)
  simp only [go_sem,seval]
  refine hpost [g1,g2,g3,g4,g5,g6] _ _ rfl rfl ?_
  rw [show skN f b [g1,g2,g3,g4,g5,g6]=6 by simp [skN,hc_0,hc_1,hc_2,hc_3,hc_4,hc_5]]
  rfl
end Go.Proofs.W
end
section
namespace Go.Proofs.W
open Go Go.Eng Go.RowKit
set_option linter.unusedSimpArgs false
set_option maxRecDepth 100000
/-! what is old goes from a list -/
def hdR:List Gt→AV
 | []=>.v (.pointer none)
 | _::r=>.loc (570 + r.length) 0
def rsN:List Gt→List (Nat × List AV)
 | []=>[]
 | g::r=>(570 + r.length,gcs g++[hdR r])::rsN r
def nxK (x:AV):List Gt→Nat→AV
 | [],_=>x
 | _::_,k=>.loc k 0
def kpN (x:AV):List Gt→Nat→List (Nat × List AV)
 | [],_=>[]
 | g::o,k=>(k,gcs g++[nxK x o (k + 1)])::kpN x o (k + 1)
def lnk:List Gt→AV
 | []=>.loc 410 2
 | _::o=>.loc (550 + o.length) 6
attribute [go_sem] hdR rsN nxK kpN lnk
def sndC:Code→Code
 | .seq _ y=>y
 | c=>c
def tbEnd (pb:Addr):Tb:={ T:=TT,G:=[(44,cRibL)],D:=[(18,dRibOkI pb)],draws:=false,gl:=[],M:=[],MM:=[(42,(cOpen,[],[(600,400),(601,401),(602,402),(603,403),(604,404),(605,405),(606,406)]))],X:=[],EX:=[] }
attribute [go_sem] tbEnd
end Go.Proofs.W
end
section
namespace Go.Proofs.W
open Go Go.Eng Go.RowKit
set_option linter.unusedSimpArgs false
set_option maxRecDepth 100000
def dRibEndI (pb:Addr):DFn:={ g:=gRibEnd,inv:=WP pb }
attribute [go_sem] dRibEndI
end Go.Proofs.W
end
