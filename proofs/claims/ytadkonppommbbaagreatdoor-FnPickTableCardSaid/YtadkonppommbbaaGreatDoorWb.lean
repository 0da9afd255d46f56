/- YtadkonppommbbaaGreatDoorWb: part of the proof that laws hold, for every input that the row speaks of (no condition of ours). -/
import Derived.Test.YtadkonppommbbaaGreatDoorWa
import Derived.Test.YtadkonppommbbaaGreatDoorEc
import Derived.Test.YtadkonppommbbaaGreatDoorEd
set_option linter.unusedVariables false
set_option linter.unusedSimpArgs false
section
namespace Go.Proofs.W
open Go Go.Eng Go.RowKit
set_option maxRecDepth 100000
theorem polDo_drop {l:List Cl} {i:Nat} (h:i < l.length) (r:Rt):polDo (l.drop i) r=if fitsB l[i] r then (if l[i].ref then none else some (doC l[i] r)) else polDo (l.drop (i + 1)) r:=by
 rw [List.drop_eq_getElem_cons h,polDo]
theorem l11Do_ok:Fine Tryz.prog 50 dDo.con:=by
 refine fine_det (T:=TT) Tryz.func50 rfl Tryz.ntmps50 (by rw [Tryz.results50]) rfl rfl tt (gs_nil) (ds_cons fits11_ok (ds_cons l4Copy_ok (ds_cons l4Mark_ok (ds_cons l4Clear_ok ds_nil)))) ?_
 intro args c r h hc
 simp only [dDo,gDo] at h
 split at h
 rotate_left
 ·cases h
 split at h
 rotate_left
 ·cases h
 rename_i t els rf rb t1 e1 rk t2 e2 _ _ _ l p m hcl hl1 hl2
 obtain rfl:=clsL_eq hcl
 obtain rfl:=intsL_eq hl1
 obtain rfl:=intsL_eq hl2
 obtain ⟨rfl,rfl⟩:=Prod.mk.inj (Option.some.inj h)
 refine ⟨by simp,fun k E hE Q hQ=>?_⟩
 obtain ⟨⟨hall,hrk⟩,hll,hpl,hml⟩:=hc
 have hsr:=mOk_srt (okR_parts hrk).2.2.2.2
 simp only at hsr
 refine Aw_st hE [0,3,4] [3,4] fun K hK=>?_
 simp only [go_sem,reduceIte,Nat.reduceLT,Nat.reduceLeDiff,Nat.reduceEqDiff,Nat.reduceAdd,Nat.reduceMul,Nat.reduceSub,Nat.reduceBEq,Int.reduceToNat,List.reduceReplicate,reduceCtorEq]
 repeat refine sd0 ?_
 refine hK _ ?_;clear hK K
 refine Aw_sq fun B1 hB1 hR1 hX1=>?_
 refine Aw_st hE [0,3,4,6] [3,4] fun K hK=>?_
 simp only [go_sem,reduceIte,Nat.reduceLT,Nat.reduceLeDiff,Nat.reduceEqDiff,Nat.reduceAdd,Nat.reduceMul,Nat.reduceSub,Nat.reduceBEq,Int.reduceToNat,List.reduceReplicate,reduceCtorEq]
 repeat refine sd0 ?_
 refine hK _ ?_;clear hK K
 refine Aw_bk fun B2 hN2 hE2 hR2 hX2=>?_
 refine Aw_lp (fun i:Nat=>⟨54,[(0,.sl t (crows l)),(3,.loc 3 0),(4,.loc 4 0),(6,iv i)],[(3,[iv rf,iv rb,.sl t1 (rows p),iv rk,.sl t2 (rows m)]),(4,[iv 0,iv 0,.nl,iv 0,.nl])],k⟩) (fun i:Nat=>i≤l.length∧polDo l ⟨rf,rb,p,rk,m⟩=polDo (l.drop i) ⟨rf,rb,p,rk,m⟩) (fun i:Nat=>l.length - i) (0) (Le.refl _) (⟨by omega,by simp⟩) fun i hi B3 hN3 hR3 hX3=>?_
 refine Aw_sq fun B4 hB4 hR4 hX4=>?_
 refine Aw_st hE [0,3,4,6,12] [3,4] fun K hK=>?_
 simp only [go_sem,reduceIte,Nat.reduceLT,Nat.reduceLeDiff,Nat.reduceEqDiff,Nat.reduceAdd,Nat.reduceMul,Nat.reduceSub,Nat.reduceBEq,Int.reduceToNat,List.reduceReplicate,reduceCtorEq]
 repeat refine sd0 ?_
 refine hK _ (Aw_cond rfl (fun hc5=>?_) (fun hc5=>?_))
 ·simp only [dte] at hc5
  have hil:i < l.length:=by omega
  have hget:=crows_get l i hil
  have hst:=hi.2.trans (polDo_drop hil ⟨rf,rb,p,rk,m⟩)
  have hco:=hall _ (List.getElem_mem hil)
  generalize l[i]=c at hget hst hco
  obtain ⟨ci,n,f,b,ref,like,mark,clear⟩:=c
  refine Aw_skip (hB4 _ ?_)
  refine Aw_sq fun B6 hB6 hR6 hX6=>?_
  refine Aw_bk fun B7 hN7 hE7 hR7 hX7=>?_
  refine Aw_st hE [0,3,4,6,7] [3,4,7] fun K hK=>?_
  simp only [go_sem,reduceIte,Nat.reduceLT,Nat.reduceLeDiff,Nat.reduceEqDiff,Nat.reduceAdd,Nat.reduceMul,Nat.reduceSub,Nat.reduceBEq,Int.reduceToNat,List.reduceReplicate,reduceCtorEq,hget]
  repeat refine sd0 ?_
  refine hK _ ?_;clear hK K
  refine Aw_sq fun B8 hB8 hR8 hX8=>?_
  refine Aw_st hE [0,3,4,6,7,22] [3,4,7] fun K hK=>?_
  simp only [go_sem,reduceIte,Nat.reduceLT,Nat.reduceLeDiff,Nat.reduceEqDiff,Nat.reduceAdd,Nat.reduceMul,Nat.reduceSub,Nat.reduceBEq,Int.reduceToNat,List.reduceReplicate,reduceCtorEq,hco,hrk]
  repeat refine sd0 ?_
  skip
  refine hK _ (Aw_cond rfl (fun hc9=>?_) (fun hc9=>?_))
  ·simp only [Bool.not_eq_true'] at hc9
   rw [hc9] at hst
   refine Aw_exit (hX8 _ _ (hE7 _ (hB6 _ ?_)))
   refine Aw_tx hE [0,3,4,6] [3,4] fun K hK=>?_
   simp only [go_sem,reduceIte,Nat.reduceLT,Nat.reduceLeDiff,Nat.reduceEqDiff,Nat.reduceAdd,Nat.reduceMul,Nat.reduceSub,Nat.reduceBEq,Int.reduceToNat,List.reduceReplicate,reduceCtorEq]
   repeat refine sd0 ?_
   refine hK _ (hN3 (i + 1) _ (⟨by omega,hst⟩) (by omega) (Le.refl _))
  ·simp only [Bool.not_eq_false'] at hc9
   rw [hc9] at hst
   refine Aw_skip (hB8 _ ?_)
   refine Aw_sq fun B10 hB10 hR10 hX10=>?_
   refine Aw_st hE [3,4,7,24] [3,4,7] fun K hK=>?_
   simp only [go_sem,reduceIte,Nat.reduceLT,Nat.reduceLeDiff,Nat.reduceEqDiff,Nat.reduceAdd,Nat.reduceMul,Nat.reduceSub,Nat.reduceBEq,Int.reduceToNat,List.reduceReplicate,reduceCtorEq]
   repeat refine sd0 ?_
   refine hK _ (Aw_cond rfl (fun hc11=>?_) (fun hc11=>?_))
   ·rw [hc11] at hst
    refine Aw_st hE [4,5] [4] fun K hK=>?_
    simp only [go_sem,reduceIte,Nat.reduceLT,Nat.reduceLeDiff,Nat.reduceEqDiff,Nat.reduceAdd,Nat.reduceMul,Nat.reduceSub,Nat.reduceBEq,Int.reduceToNat,List.reduceReplicate,reduceCtorEq]
    repeat refine sd0 ?_
    refine hK _ (Aw_ret (hR10 _ (hR7 _ (hR6 _ (hR3 _ (hR2 _ (hR1 _ (hQ _ ?_))))))))
    simp only [go_sem,reduceIte,Nat.reduceLT,Nat.reduceLeDiff,Nat.reduceEqDiff,Nat.reduceAdd,Nat.reduceMul,Nat.reduceSub,Nat.reduceBEq,Int.reduceToNat,List.reduceReplicate,reduceCtorEq]
    simp [hst,resR,rt0,rows]
   ·rw [hc11] at hst
    have hlm:(mkL m mark).length≤100000:=by have:=mkL_len hsr mark;omega
    refine Aw_skip (hB10 _ ?_)
    refine Aw_st hE [4,7,8] [4,7,8] fun K hK=>?_
    simp only [go_sem,reduceIte,Nat.reduceLT,Nat.reduceLeDiff,Nat.reduceEqDiff,Nat.reduceAdd,Nat.reduceMul,Nat.reduceSub,Nat.reduceBEq,Int.reduceToNat,List.reduceReplicate,reduceCtorEq]
    repeat refine sd0 ?_
    refine hK _ ?_;clear hK K
    refine Aw_sq fun B12 hB12 hR12 hX12=>?_
    refine Aw_st hE [4,7,8,30] [4,7,8] fun K hK=>?_
    simp only [go_sem,reduceIte,Nat.reduceLT,Nat.reduceLeDiff,Nat.reduceEqDiff,Nat.reduceAdd,Nat.reduceMul,Nat.reduceSub,Nat.reduceBEq,Int.reduceToNat,List.reduceReplicate,reduceCtorEq]
    repeat refine sd0 ?_
    refine hK _ (Aw_cond rfl (fun hc13=>?_) (fun hc13=>?_))
    ·simp only [dte] at hc13
     refine Aw_tx hE [4,7,8] [4,7,8] fun K hK=>?_
     simp only [go_sem,reduceIte,Nat.reduceLT,Nat.reduceLeDiff,Nat.reduceEqDiff,Nat.reduceAdd,Nat.reduceMul,Nat.reduceSub,Nat.reduceBEq,Int.reduceToNat,List.reduceReplicate,reduceCtorEq]
     repeat refine sd0 ?_
     refine hK _ (hB12 _ ?_)
     refine Aw_sq fun B14 hB14 hR14 hX14=>?_
     refine Aw_st hE [4,7,8,36] [4,7,8] fun K hK=>?_
     simp only [go_sem,reduceIte,Nat.reduceLT,Nat.reduceLeDiff,Nat.reduceEqDiff,Nat.reduceAdd,Nat.reduceMul,Nat.reduceSub,Nat.reduceBEq,Int.reduceToNat,List.reduceReplicate,reduceCtorEq]
     repeat refine sd0 ?_
     refine hK _ (Aw_cond rfl (fun hc15=>?_) (fun hc15=>?_))
     ·simp only [dte] at hc15
      refine Aw_tx hE [4,7,8] [4,7,8] fun K hK=>?_
      simp only [go_sem,reduceIte,Nat.reduceLT,Nat.reduceLeDiff,Nat.reduceEqDiff,Nat.reduceAdd,Nat.reduceMul,Nat.reduceSub,Nat.reduceBEq,Int.reduceToNat,List.reduceReplicate,reduceCtorEq]
      repeat refine sd0 ?_
      refine hK _ (hB14 _ ?_)
      refine Aw_sq fun B16 hB16 hR16 hX16=>?_
      refine Aw_st hE [4,7,8,45] [4,7,8] fun K hK=>?_
      simp only [go_sem,reduceIte,Nat.reduceLT,Nat.reduceLeDiff,Nat.reduceEqDiff,Nat.reduceAdd,Nat.reduceMul,Nat.reduceSub,Nat.reduceBEq,Int.reduceToNat,List.reduceReplicate,reduceCtorEq]
      repeat refine sd0 ?_
      refine hK _ (Aw_cond rfl (fun hc17=>?_) (fun hc17=>?_))
      ·simp only [dte] at hc17
       refine Aw_tx hE [4,8] [4,8] fun K hK=>?_
       simp only [go_sem,reduceIte,Nat.reduceLT,Nat.reduceLeDiff,Nat.reduceEqDiff,Nat.reduceAdd,Nat.reduceMul,Nat.reduceSub,Nat.reduceBEq,Int.reduceToNat,List.reduceReplicate,reduceCtorEq]
       repeat refine sd0 ?_
       refine hK _ (hB16 _ ?_)
       refine Aw_st hE [4,5] [4] fun K hK=>?_
       simp only [go_sem,reduceIte,Nat.reduceLT,Nat.reduceLeDiff,Nat.reduceEqDiff,Nat.reduceAdd,Nat.reduceMul,Nat.reduceSub,Nat.reduceBEq,Int.reduceToNat,List.reduceReplicate,reduceCtorEq]
       repeat refine sd0 ?_
       refine hK _ (Aw_ret (hR7 _ (hR6 _ (hR3 _ (hR2 _ (hR1 _ (hQ _ ?_)))))))
       simp only [go_sem,reduceIte,Nat.reduceLT,Nat.reduceLeDiff,Nat.reduceEqDiff,Nat.reduceAdd,Nat.reduceMul,Nat.reduceSub,Nat.reduceBEq,Int.reduceToNat,List.reduceReplicate,reduceCtorEq]
       simp [hst,resR,doC,marksC,hc13,hc15,hc17]
      ·simp only [dfn] at hc17
       refine Aw_skip (hB16 _ ?_)
       refine Aw_st hE [4,5] [4] fun K hK=>?_
       simp only [go_sem,reduceIte,Nat.reduceLT,Nat.reduceLeDiff,Nat.reduceEqDiff,Nat.reduceAdd,Nat.reduceMul,Nat.reduceSub,Nat.reduceBEq,Int.reduceToNat,List.reduceReplicate,reduceCtorEq]
       repeat refine sd0 ?_
       refine hK _ (Aw_ret (hR7 _ (hR6 _ (hR3 _ (hR2 _ (hR1 _ (hQ _ ?_)))))))
       simp only [go_sem,reduceIte,Nat.reduceLT,Nat.reduceLeDiff,Nat.reduceEqDiff,Nat.reduceAdd,Nat.reduceMul,Nat.reduceSub,Nat.reduceBEq,Int.reduceToNat,List.reduceReplicate,reduceCtorEq]
       simp [hst,resR,doC,marksC,hc13,hc15,hc17]
     ·simp only [dfn] at hc15
      refine Aw_skip (hB14 _ ?_)
      refine Aw_sq fun B18 hB18 hR18 hX18=>?_
      refine Aw_st hE [4,7,8,45] [4,7,8] fun K hK=>?_
      simp only [go_sem,reduceIte,Nat.reduceLT,Nat.reduceLeDiff,Nat.reduceEqDiff,Nat.reduceAdd,Nat.reduceMul,Nat.reduceSub,Nat.reduceBEq,Int.reduceToNat,List.reduceReplicate,reduceCtorEq]
      repeat refine sd0 ?_
      refine hK _ (Aw_cond rfl (fun hc19=>?_) (fun hc19=>?_))
      ·simp only [dte] at hc19
       refine Aw_tx hE [4,8] [4,8] fun K hK=>?_
       simp only [go_sem,reduceIte,Nat.reduceLT,Nat.reduceLeDiff,Nat.reduceEqDiff,Nat.reduceAdd,Nat.reduceMul,Nat.reduceSub,Nat.reduceBEq,Int.reduceToNat,List.reduceReplicate,reduceCtorEq]
       repeat refine sd0 ?_
       refine hK _ (hB18 _ ?_)
       refine Aw_st hE [4,5] [4] fun K hK=>?_
       simp only [go_sem,reduceIte,Nat.reduceLT,Nat.reduceLeDiff,Nat.reduceEqDiff,Nat.reduceAdd,Nat.reduceMul,Nat.reduceSub,Nat.reduceBEq,Int.reduceToNat,List.reduceReplicate,reduceCtorEq]
       repeat refine sd0 ?_
       refine hK _ (Aw_ret (hR7 _ (hR6 _ (hR3 _ (hR2 _ (hR1 _ (hQ _ ?_)))))))
       simp only [go_sem,reduceIte,Nat.reduceLT,Nat.reduceLeDiff,Nat.reduceEqDiff,Nat.reduceAdd,Nat.reduceMul,Nat.reduceSub,Nat.reduceBEq,Int.reduceToNat,List.reduceReplicate,reduceCtorEq]
       simp [hst,resR,doC,marksC,hc13,hc15,hc19]
      ·simp only [dfn] at hc19
       refine Aw_skip (hB18 _ ?_)
       refine Aw_st hE [4,5] [4] fun K hK=>?_
       simp only [go_sem,reduceIte,Nat.reduceLT,Nat.reduceLeDiff,Nat.reduceEqDiff,Nat.reduceAdd,Nat.reduceMul,Nat.reduceSub,Nat.reduceBEq,Int.reduceToNat,List.reduceReplicate,reduceCtorEq]
       repeat refine sd0 ?_
       refine hK _ (Aw_ret (hR7 _ (hR6 _ (hR3 _ (hR2 _ (hR1 _ (hQ _ ?_)))))))
       simp only [go_sem,reduceIte,Nat.reduceLT,Nat.reduceLeDiff,Nat.reduceEqDiff,Nat.reduceAdd,Nat.reduceMul,Nat.reduceSub,Nat.reduceBEq,Int.reduceToNat,List.reduceReplicate,reduceCtorEq]
       simp [hst,resR,doC,marksC,hc13,hc15,hc19]
    ·simp only [dfn] at hc13
     refine Aw_skip (hB12 _ ?_)
     refine Aw_sq fun B20 hB20 hR20 hX20=>?_
     refine Aw_st hE [4,7,8,36] [4,7,8] fun K hK=>?_
     simp only [go_sem,reduceIte,Nat.reduceLT,Nat.reduceLeDiff,Nat.reduceEqDiff,Nat.reduceAdd,Nat.reduceMul,Nat.reduceSub,Nat.reduceBEq,Int.reduceToNat,List.reduceReplicate,reduceCtorEq]
     repeat refine sd0 ?_
     refine hK _ (Aw_cond rfl (fun hc21=>?_) (fun hc21=>?_))
     ·simp only [dte] at hc21
      refine Aw_tx hE [4,7,8] [4,7,8] fun K hK=>?_
      simp only [go_sem,reduceIte,Nat.reduceLT,Nat.reduceLeDiff,Nat.reduceEqDiff,Nat.reduceAdd,Nat.reduceMul,Nat.reduceSub,Nat.reduceBEq,Int.reduceToNat,List.reduceReplicate,reduceCtorEq]
      repeat refine sd0 ?_
      refine hK _ (hB20 _ ?_)
      refine Aw_sq fun B22 hB22 hR22 hX22=>?_
      refine Aw_st hE [4,7,8,45] [4,7,8] fun K hK=>?_
      simp only [go_sem,reduceIte,Nat.reduceLT,Nat.reduceLeDiff,Nat.reduceEqDiff,Nat.reduceAdd,Nat.reduceMul,Nat.reduceSub,Nat.reduceBEq,Int.reduceToNat,List.reduceReplicate,reduceCtorEq]
      repeat refine sd0 ?_
      refine hK _ (Aw_cond rfl (fun hc23=>?_) (fun hc23=>?_))
      ·simp only [dte] at hc23
       refine Aw_tx hE [4,8] [4,8] fun K hK=>?_
       simp only [go_sem,reduceIte,Nat.reduceLT,Nat.reduceLeDiff,Nat.reduceEqDiff,Nat.reduceAdd,Nat.reduceMul,Nat.reduceSub,Nat.reduceBEq,Int.reduceToNat,List.reduceReplicate,reduceCtorEq]
       repeat refine sd0 ?_
       refine hK _ (hB22 _ ?_)
       refine Aw_st hE [4,5] [4] fun K hK=>?_
       simp only [go_sem,reduceIte,Nat.reduceLT,Nat.reduceLeDiff,Nat.reduceEqDiff,Nat.reduceAdd,Nat.reduceMul,Nat.reduceSub,Nat.reduceBEq,Int.reduceToNat,List.reduceReplicate,reduceCtorEq]
       repeat refine sd0 ?_
       refine hK _ (Aw_ret (hR7 _ (hR6 _ (hR3 _ (hR2 _ (hR1 _ (hQ _ ?_)))))))
       simp only [go_sem,reduceIte,Nat.reduceLT,Nat.reduceLeDiff,Nat.reduceEqDiff,Nat.reduceAdd,Nat.reduceMul,Nat.reduceSub,Nat.reduceBEq,Int.reduceToNat,List.reduceReplicate,reduceCtorEq]
       simp [hst,resR,doC,marksC,hc13,hc21,hc23]
      ·simp only [dfn] at hc23
       refine Aw_skip (hB22 _ ?_)
       refine Aw_st hE [4,5] [4] fun K hK=>?_
       simp only [go_sem,reduceIte,Nat.reduceLT,Nat.reduceLeDiff,Nat.reduceEqDiff,Nat.reduceAdd,Nat.reduceMul,Nat.reduceSub,Nat.reduceBEq,Int.reduceToNat,List.reduceReplicate,reduceCtorEq]
       repeat refine sd0 ?_
       refine hK _ (Aw_ret (hR7 _ (hR6 _ (hR3 _ (hR2 _ (hR1 _ (hQ _ ?_)))))))
       simp only [go_sem,reduceIte,Nat.reduceLT,Nat.reduceLeDiff,Nat.reduceEqDiff,Nat.reduceAdd,Nat.reduceMul,Nat.reduceSub,Nat.reduceBEq,Int.reduceToNat,List.reduceReplicate,reduceCtorEq]
       simp [hst,resR,doC,marksC,hc13,hc21,hc23]
     ·simp only [dfn] at hc21
      refine Aw_skip (hB20 _ ?_)
      refine Aw_sq fun B24 hB24 hR24 hX24=>?_
      refine Aw_st hE [4,7,8,45] [4,7,8] fun K hK=>?_
      simp only [go_sem,reduceIte,Nat.reduceLT,Nat.reduceLeDiff,Nat.reduceEqDiff,Nat.reduceAdd,Nat.reduceMul,Nat.reduceSub,Nat.reduceBEq,Int.reduceToNat,List.reduceReplicate,reduceCtorEq]
      repeat refine sd0 ?_
      refine hK _ (Aw_cond rfl (fun hc25=>?_) (fun hc25=>?_))
      ·simp only [dte] at hc25
       refine Aw_tx hE [4,8] [4,8] fun K hK=>?_
       simp only [go_sem,reduceIte,Nat.reduceLT,Nat.reduceLeDiff,Nat.reduceEqDiff,Nat.reduceAdd,Nat.reduceMul,Nat.reduceSub,Nat.reduceBEq,Int.reduceToNat,List.reduceReplicate,reduceCtorEq]
       repeat refine sd0 ?_
       refine hK _ (hB24 _ ?_)
       refine Aw_st hE [4,5] [4] fun K hK=>?_
       simp only [go_sem,reduceIte,Nat.reduceLT,Nat.reduceLeDiff,Nat.reduceEqDiff,Nat.reduceAdd,Nat.reduceMul,Nat.reduceSub,Nat.reduceBEq,Int.reduceToNat,List.reduceReplicate,reduceCtorEq]
       repeat refine sd0 ?_
       refine hK _ (Aw_ret (hR7 _ (hR6 _ (hR3 _ (hR2 _ (hR1 _ (hQ _ ?_)))))))
       simp only [go_sem,reduceIte,Nat.reduceLT,Nat.reduceLeDiff,Nat.reduceEqDiff,Nat.reduceAdd,Nat.reduceMul,Nat.reduceSub,Nat.reduceBEq,Int.reduceToNat,List.reduceReplicate,reduceCtorEq]
       simp [hst,resR,doC,marksC,hc13,hc21,hc25]
      ·simp only [dfn] at hc25
       refine Aw_skip (hB24 _ ?_)
       refine Aw_st hE [4,5] [4] fun K hK=>?_
       simp only [go_sem,reduceIte,Nat.reduceLT,Nat.reduceLeDiff,Nat.reduceEqDiff,Nat.reduceAdd,Nat.reduceMul,Nat.reduceSub,Nat.reduceBEq,Int.reduceToNat,List.reduceReplicate,reduceCtorEq]
       repeat refine sd0 ?_
       refine hK _ (Aw_ret (hR7 _ (hR6 _ (hR3 _ (hR2 _ (hR1 _ (hQ _ ?_)))))))
       simp only [go_sem,reduceIte,Nat.reduceLT,Nat.reduceLeDiff,Nat.reduceEqDiff,Nat.reduceAdd,Nat.reduceMul,Nat.reduceSub,Nat.reduceBEq,Int.reduceToNat,List.reduceReplicate,reduceCtorEq]
       simp [hst,resR,doC,marksC,hc13,hc21,hc25]
 ·simp only [dfn] at hc5
  refine Aw_exit (hX4 _ _ (hX3 _ _ (hE2 _ (hB1 _ ?_))))
  refine Aw_st hE [4,5] [4] fun K hK=>?_
  simp only [go_sem,reduceIte,Nat.reduceLT,Nat.reduceLeDiff,Nat.reduceEqDiff,Nat.reduceAdd,Nat.reduceMul,Nat.reduceSub,Nat.reduceBEq,Int.reduceToNat,List.reduceReplicate,reduceCtorEq]
  repeat refine sd0 ?_
  refine hK _ (Aw_ret (hQ _ ?_))
  simp only [go_sem,reduceIte,Nat.reduceLT,Nat.reduceLeDiff,Nat.reduceEqDiff,Nat.reduceAdd,Nat.reduceMul,Nat.reduceSub,Nat.reduceBEq,Int.reduceToNat,List.reduceReplicate,reduceCtorEq]
  rw [hi.2,List.drop_eq_nil_of_le (by omega)]
  simp [polDo,resR,rt0,rows]
def gPAll:List AV→Option (Prop × AV)
 | [.sl _ e1,.sl _ e2]=>(match clsL e1,rtsL e2 with
  | some l,some rs=>some ((l.length≤1000000∧rs.length≤1000000)∧∀ r ∈ rs,r.path.length≤1000000∧r.marks.length≤1000,.sl none (rrows (polAll l rs)))
  | _,_=>none)
 | _=>none
def dPAll:DFn:={ g:=gPAll }
attribute [go_sem] gPAll dPAll
def gCloneD:List AV→Option (Prop × AV) | [.sl _ els]=>(match intsL els with | some l=>some (l.length≤2000000,isl l) | none=>none) | _=>none
def dCloneD:DFn:={ g:=gCloneD }
attribute [go_sem] gCloneD dCloneD
def gCopyD:List AV→Option (Prop × AV)
 | [.agg [.v (.int .i64 f),.v (.int .i64 b),.sl _ e1,.v (.int .i64 k),.sl _ e2]]=>(match intsL e1,intsL e2 with
  | some p,some m=>some (p.length≤2000000∧m.length≤2000000,.agg [iv f,iv b,isl p,iv k,isl m])
  | _,_=>none)
 | _=>none
def dCopyD:DFn:={ g:=gCopyD }
attribute [go_sem] gCopyD dCopyD
def idxB {α:Type} (f:α→Bool):List α→Nat→Int
 | [],_=>-1
 | x::l,k=>if f x then k else idxB f l (k + 1)
theorem idxB_drop {α:Type} {f:α→Bool} {l:List α} {i:Nat} (h:i < l.length):idxB f (l.drop i) i=if f l[i] then (i:Int) else idxB f (l.drop (i + 1)) (i + 1):=by
 rw [List.drop_eq_getElem_cons h,idxB]
theorem idxB_some {α:Type} {f:α→Bool}:∀ {l:List α} {k:Nat},(idxB f l k = -1∧∀ x ∈ l,f x=false)∨∃ i,∃ h:i < l.length,idxB f l k=(k + i:Nat)∧f l[i]=true∧∀ x ∈ l.take i,f x=false
 | [],_=>.inl ⟨rfl,by simp⟩
 | x::l,k=>by
  rw [idxB]
  cases hf:f x with
  | true=>exact .inr ⟨0,by simp,by simp,by simpa using hf,by simp⟩
  | false =>
   rw [if_neg (by simp)]
   rcases idxB_some (f:=f) (l:=l) (k:=k + 1) with ⟨h1,h2⟩ | ⟨i,h,h1,h2,h3⟩
   ·exact .inl ⟨h1,fun y hy=>(List.mem_cons.1 hy).elim (fun e=>e ▸ hf) (h2 y)⟩
   ·refine .inr ⟨i + 1,by simp;omega,by rw [h1];congr 1;omega,by simpa using h2,fun y hy=>?_⟩
    rw [List.take_succ_cons] at hy
    exact (List.mem_cons.1 hy).elim (fun e=>e ▸ hf) (h3 y)
def gIdxI:List AV→Option (Prop × AV) | [.sl _ els,.v (.int .i64 n)]=>(match intsL els with | some l=>some (l.length≤4294967296,iv (idxB (fun x=>decide (n=x)) l 0)) | none=>none) | _=>none
def dIdxI:DFn:={ g:=gIdxI }
attribute [go_sem] gIdxI dIdxI
def gPHas:List AV→Option (Prop × AV) | [.sl _ els,.v (.int .i64 n)]=>(match intsL els with | some l=>some (l.length≤4294967296,bv (pathOk l && (isH n && l.contains n))) | none=>none) | _=>none
def dPHasI (pb:Addr):DFn:={ g:=gPHas,inv:=WP pb }
attribute [go_sem] gPHas dPHasI
def gCov:List AV→Option (Prop × AV) | [.agg [.v (.int .i64 f),.v (.int .i64 b)],.v (.int .i64 a)]=>some (rngOk f b=true∧0≤a∧a≤255,bv (rHas f b a)) | _=>none
def dCov:DFn:={ g:=gCov }
def gRIn:List AV→Option (Prop × AV) | [.agg [.v (.int .i64 f),.v (.int .i64 b)],.agg [.v (.int .i64 f'),.v (.int .i64 b')]]=>some (True,bv (rngOk f b && (rngOk f' b' && rIn f b f' b'))) | _=>none
def dRIn:DFn:={ g:=gRIn }
attribute [go_sem] gCov dCov gRIn dRIn
set_option maxRecDepth 10000
def cmpI (a b:Int):Int:=if a < b then -1 else if b < a then 1 else 0
def orL:List Int→Int
 | []=>0
 | x::l=>if x=0 then orL l else x
def cmpL:List Int→List Int→Int
 | [],[]=>0
 | [],_::_=>-1
 | _::_,[]=>1
 | x::a,y::b=>if cmpI x y=0 then cmpL a b else cmpI x y
def pCmp (a b:List Int):Int:=orL [cmpI a.length b.length,cmpL a b]
def rCmp (f b f' b':Int):Int:=orL [cmpI f f',cmpI b b']
theorem cmpI_lt {a b:Int} (h:a < b):cmpI a b = -1:=if_pos h
theorem cmpI_gt {a b:Int} (h:b < a):cmpI a b=1:=by unfold cmpI;rw [if_neg (by omega),if_pos h]
theorem cmpI_eq (a:Int):cmpI a a=0:=by unfold cmpI;simp
theorem orL_drop (l:List Int) (i:Nat) (h:i < l.length):orL (l.drop i)=if l.getD i 0=0 then orL (l.drop (i + 1)) else l.getD i 0:=by
 rw [List.drop_eq_getElem_cons h,orL]
 simp [List.getD_eq_getElem?_getD,h]
theorem cmpL_drop (a b:List Int) (i:Nat) (h:i < a.length) (k:i < b.length):cmpL (a.drop i) (b.drop i)=if cmpI (a.getD i 0) (b.getD i 0)=0 then cmpL (a.drop (i + 1)) (b.drop (i + 1)) else cmpI (a.getD i 0) (b.getD i 0):=by
 rw [List.drop_eq_getElem_cons h,List.drop_eq_getElem_cons k,cmpL]
 simp [List.getD_eq_getElem?_getD,h,k]
theorem cmpL_end (a b:List Int) (i:Nat) (h:a.length≤i) (k:b.length≤i):cmpL (a.drop i) (b.drop i)=0:=by
 rw [List.drop_of_length_le k,List.drop_of_length_le h,cmpL]
def gCmpI:List AV→Option (Prop × AV) | [.v (.int .i64 x),.v (.int .i64 y)]=>some (True,iv (cmpI x y)) | _=>none
def dCmpI:DFn:={ g:=gCmpI }
def gOrL:List AV→Option (Prop × AV) | [.sl _ els]=>(match intsL els with | some l=>some (l.length≤1000000,iv (orL l)) | none=>none) | _=>none
def dOrL:DFn:={ g:=gOrL }
def gCmpL:List AV→Option (Prop × AV) | [.sl _ e1,.sl _ e2]=>(match intsL e1,intsL e2 with | some a,some b=>some (a.length≤4294967296∧b.length≤4294967296,iv (cmpL a b)) | _,_=>none) | _=>none
def dCmpL:DFn:={ g:=gCmpL }
attribute [go_sem] gCmpI dCmpI gOrL dOrL gCmpL dCmpL
theorem cmpI_ok:Fine Tryz.prog 37 dCmpI.con:=by
 refine fine_det (T:=TT) Tryz.func37 rfl Tryz.ntmps37 (by rw [Tryz.results37]) rfl rfl tt (gs_nil) (ds_cons nan_ok ds_nil) ?_
 intro args c r h hc
 simp only [dCmpI,gCmpI] at h
 split at h
 rotate_left
 ·cases h
 obtain ⟨rfl,rfl⟩:=Prod.mk.inj (Option.some.inj h)
 refine ⟨by simp,fun k E hE Q hQ=>?_⟩
 rename_i x y
 refine Aw_st hE [0,1] [] fun K hK=>?_
 simp only [go_sem,seval]
 repeat refine sd0 ?_
 refine hK _ ?_;clear hK K
 refine Aw_st hE [0,1,5] [] fun K hK=>?_
 simp only [go_sem,seval]
 repeat refine sd0 ?_
 refine hK _ ?_;clear hK K
 refine Aw_st hE [0,1,5,6] [] fun K hK=>?_
 simp only [go_sem,seval]
 repeat refine sd0 ?_
 refine hK _ ?_;clear hK K
 refine Aw_sq fun B1 hB1 hR1 hX1=>?_
 refine Aw_st hE [0,1,6,11] [] fun K hK=>?_
 simp only [go_sem,seval]
 repeat refine sd0 ?_
 refine hK _ (Aw_no rfl ?_)
 refine Aw_skip (hB1 _ ?_)
 refine Aw_sq fun B3 hB3 hR3 hX3=>?_
 refine Aw_st hE [0,1,13] [] fun K hK=>?_
 simp only [go_sem,seval]
 repeat refine sd0 ?_
 refine hK _ (Aw_no rfl ?_)
 refine Aw_skip (hB3 _ ?_)
 refine Aw_sq fun B5 hB5 hR5 hX5=>?_
 refine Aw_st hE [0,1,16] [] fun K hK=>?_
 simp only [go_sem,seval]
 repeat refine sd0 ?_
 refine hK _ (Aw_cond rfl (fun hc6=>?_) (fun hc6=>?_))
 ·simp only [dte] at hc6
  refine Aw_st hE [4] [] fun K hK=>?_
  simp only [go_sem,seval]
  repeat refine sd0 ?_
  refine hK _ (Aw_ret (hR5 _ (hQ _ ?_)))
  simp only [go_sem,seval]
  rw [cmpI_lt hc6]
 ·simp only [dfn] at hc6
  refine Aw_skip (hB5 _ ?_)
  refine Aw_sq fun B7 hB7 hR7 hX7=>?_
  refine Aw_st hE [19] [] fun K hK=>?_
  simp only [go_sem,seval]
  repeat refine sd0 ?_
  refine hK _ (Aw_cond rfl (fun hc8=>?_) (fun hc8=>?_))
  ·simp only [dte] at hc8
   refine Aw_st hE [4] [] fun K hK=>?_
   simp only [go_sem,seval]
   repeat refine sd0 ?_
   refine hK _ (Aw_ret (hR7 _ (hQ _ ?_)))
   simp only [go_sem,seval]
   rw [cmpI_gt hc8]
  ·simp only [dfn] at hc8
   refine Aw_skip (hB7 _ ?_)
   refine Aw_st hE [4] [] fun K hK=>?_
   simp only [go_sem,seval]
   repeat refine sd0 ?_
   refine hK _ (Aw_ret (hQ _ ?_))
   simp only [go_sem,seval]
   rw [show x=y by omega,cmpI_eq]
theorem orL_ok:Fine Tryz.prog 36 dOrL.con:=by
 refine fine_det (T:=TT) Tryz.func36 rfl Tryz.ntmps36 (by rw [Tryz.results36]) rfl rfl tt (gs_nil) (ds_nil) ?_
 intro args c r h hc
 simp only [dOrL,gOrL] at h
 split at h
 rotate_left
 ·cases h
 split at h
 rotate_left
 ·cases h
 rename_i t els _ l hl
 obtain rfl:=intsL_eq hl
 obtain ⟨rfl,rfl⟩:=Prod.mk.inj (Option.some.inj h)
 refine ⟨by simp,fun k E hE Q hQ=>?_⟩
 refine Aw_st hE [0] [] fun K hK=>?_
 simp only [go_sem,seval]
 repeat refine sd0 ?_
 refine hK _ ?_;clear hK K
 refine Aw_st hE [0,3] [] fun K hK=>?_
 simp only [go_sem,seval]
 repeat refine sd0 ?_
 refine hK _ ?_;clear hK K
 refine Aw_sq fun B1 hB1 hR1 hX1=>?_
 refine Aw_st hE [3,6,7,8] [] fun K hK=>?_
 simp only [go_sem,seval]
 repeat refine sd0 ?_
 refine hK _ ?_;clear hK K
 refine Aw_bk fun B2 hN2 hE2 hR2 hX2=>?_
 refine Aw_lp (fun i:Nat=>⟨18,[(3,iv 0),(6,.sl t (rows l)),(7,iv l.length),(8,iv i)],[],k⟩) (fun i:Nat=>i≤l.length∧orL (l.drop i)=orL l) (fun i:Nat=>l.length - i) (0) (Le.refl _) (⟨by omega,by simp⟩) fun i hi B3 hN3 hR3 hX3=>?_
 refine Aw_st hE [3,6,7,8,9] [] fun K hK=>?_
 simp only [go_sem,seval]
 repeat refine sd0 ?_
 refine hK _ ?_;clear hK K
 refine Aw_sq fun B4 hB4 hR4 hX4=>?_
 refine Aw_cond rfl (fun hc5=>?_) (fun hc5=>?_)
 ·simp only [dte] at hc5
  have hil:i < l.length:=by omega
  have hst:=orL_drop l i hil
  refine Aw_skip (hB4 _ ?_)
  refine Aw_sq fun B6 hB6 hR6 hX6=>?_
  refine Aw_bk fun B7 hN7 hE7 hR7 hX7=>?_
  refine Aw_st hE [3,5,6,7,8] [] fun K hK=>?_
  simp only [go_sem,seval,rows_get l i hil]
  repeat refine sd0 ?_
  refine hK _ ?_;clear hK K
  refine Aw_st hE [3,5,6,7,8,14] [] fun K hK=>?_
  simp only [go_sem,seval]
  repeat refine sd0 ?_
  refine hK _ (Aw_cond rfl (fun hc8=>?_) (fun hc8=>?_))
  ·have hne:¬ l.getD i 0=0:=by simpa using hc8
   refine Aw_st hE [2] [] fun K hK=>?_
   simp only [go_sem,seval]
   repeat refine sd0 ?_
   refine hK _ (Aw_ret (hR7 _ (hR6 _ (hR3 _ (hR2 _ (hR1 _ (hQ _ ?_)))))))
   simp only [go_sem,seval]
   rw [if_neg hne,hi.2] at hst;rw [hst]
  ·have hne:l.getD i 0=0:=by simpa using hc8
   refine Aw_skip (hN7 _ (hB6 _ ?_))
   refine Aw_tx hE [3,6,7,8] [] fun K hK=>?_
   simp only [go_sem,seval]
   repeat refine sd0 ?_
   refine hK _ (hN3 (i + 1) _ (⟨by omega,by rw [if_pos hne,hi.2] at hst;exact hst.symm⟩) (by omega) (Le.refl _))
 ·simp only [dfn] at hc5
  refine Aw_exit (hX4 _ _ (hX3 _ _ (hE2 _ (hB1 _ ?_))))
  refine Aw_st hE [2] [] fun K hK=>?_
  simp only [go_sem,seval]
  repeat refine sd0 ?_
  refine hK _ (Aw_ret (hQ _ ?_))
  simp only [go_sem,seval]
  rw [← hi.2,List.drop_of_length_le (by omega)];rfl
def gPCmp:List AV→Option (Prop × AV) | [.sl _ e1,.sl _ e2]=>(match intsL e1,intsL e2 with | some a,some b=>some (a.length≤4294967296∧b.length≤4294967296,iv (if pathOk a && pathOk b then pCmp a b else 0)) | _,_=>none) | _=>none
def dPCmpI (pb:Addr):DFn:={ g:=gPCmp,inv:=WP pb }
def gRgCmp:List AV→Option (Prop × AV) | [.agg [.v (.int .i64 f),.v (.int .i64 b)],.agg [.v (.int .i64 f'),.v (.int .i64 b')]]=>some (True,iv (if rngOk f b && rngOk f' b' then rCmp f b f' b' else 0)) | _=>none
def dRgCmp:DFn:={ g:=gRgCmp }
attribute [go_sem] gPCmp dPCmpI gRgCmp dRgCmp
theorem iRgCmp_ok:Fine Tryz.prog 18 dRgCmp.con:=by
 refine fine_det (T:=TT) Tryz.func18 rfl Tryz.ntmps18 (by rw [Tryz.results18]) rfl rfl tt (gs_nil) (ds_cons rangeOk_ok (ds_cons cmpI_ok (ds_cons orL_ok ds_nil))) ?_
 intro args c r h hc
 simp only [dRgCmp,gRgCmp] at h
 split at h
 rotate_left
 ·cases h
 obtain ⟨rfl,rfl⟩:=Prod.mk.inj (Option.some.inj h)
 refine ⟨by simp,fun k E hE Q hQ=>?_⟩
 rename_i f b f' b'
 refine Aw_st hE [2,3] [2,3] fun K hK=>?_
 simp only [go_sem,seval]
 repeat refine sd0 ?_
 refine hK _ ?_;clear hK K
 refine Aw_sq fun B1 hB1 hR1 hX1=>?_
 refine Aw_st hE [2,3,12] [2,3] fun K hK=>?_
 simp only [go_sem,seval]
 repeat refine sd0 ?_
 refine ⟨fun hg3=>?_,fun hg3=>?_⟩
 ·simp only [Bool.not_eq_true'] at hg3
  repeat refine sd0 ?_
  refine hK _ (Aw_yes rfl ?_)
  refine Aw_st hE [4] [] fun K hK=>?_
  simp only [go_sem,seval]
  repeat refine sd0 ?_
  refine hK _ (Aw_ret (hR1 _ (hQ _ ?_)))
  simp only [go_sem,seval,hg3,Bool.false_and]
 ·simp only [Bool.not_eq_false'] at hg3
  repeat refine sd0 ?_
  refine hK _ (Aw_cond rfl (fun hc4=>?_) (fun hc4=>?_))
  ·simp only [Bool.not_eq_true'] at hc4
   refine Aw_st hE [4] [] fun K hK=>?_
   simp only [go_sem,seval]
   repeat refine sd0 ?_
   refine hK _ (Aw_ret (hR1 _ (hQ _ ?_)))
   simp only [go_sem,seval,hg3,hc4,Bool.and_false]
  ·simp only [Bool.not_eq_false'] at hc4
   refine Aw_skip (hB1 _ ?_)
   refine Aw_sd hE [4] [] 6 (by kernel_rfl) fun K hK=>?_
   simp only [go_sem,seval,intsL]
   repeat refine sd0 ?_
   refine hK _ (Aw_ret (hQ _ ?_))
   simp only [go_sem,seval,hg3,hc4]
   rfl
def rtCmp (f b:Int) (p:List Int) (k:Int) (m:List Int) (f' b':Int) (p':List Int) (k':Int) (m':List Int):Int:=orL [cmpI k' k,pCmp p p',rCmp f b f' b',pCmp m m']
def gRtCmp:List AV→Option (Prop × AV)
 | [.agg [.v (.int .i64 f),.v (.int .i64 b),.sl _ e1,.v (.int .i64 k),.sl _ e2],.agg [.v (.int .i64 f'),.v (.int .i64 b'),.sl _ e3,.v (.int .i64 k'),.sl _ e4]]=>(match intsL e1,intsL e2,intsL e3,intsL e4 with
  | some p,some m,some p',some m'=>some ((p.length≤4294967296∧p'.length≤4294967296)∧m.length≤4294967296∧m'.length≤4294967296,iv (if rtOk f b p k m && rtOk f' b' p' k' m' then rtCmp f b p k m f' b' p' k' m' else 0))
  | _,_,_,_=>none)
 | _=>none
def dRtCmp:DFn:={ g:=gRtCmp }
def dRtCmpI (pb:Addr):DFn:={ g:=gRtCmp,inv:=WP pb }
def gL4Cmp:List AV→Option (Prop × AV)
 | [.agg [.v (.int .i64 f),.v (.int .i64 b),.sl _ e1,.v (.int .i64 k),.sl _ e2],.agg [.v (.int .i64 f'),.v (.int .i64 b'),.sl _ e3,.v (.int .i64 k'),.sl _ e4]]=>(match intsL e1,intsL e2,intsL e3,intsL e4 with
  | some p,some m,some p',some m'=>some ((p.length≤4294967296∧p'.length≤4294967296)∧m.length≤4294967296∧m'.length≤4294967296,iv (rtCmp f b p k m f' b' p' k' m'))
  | _,_,_,_=>none)
 | _=>none
def dL4Cmp:DFn:={ g:=gL4Cmp }
def gL3Cmp:List AV→Option (Prop × AV) | [.sl _ e1,.sl _ e2]=>(match intsL e1,intsL e2 with | some a,some b=>some (a.length≤4294967296∧b.length≤4294967296,iv (pCmp a b)) | _,_=>none) | _=>none
def dL3Cmp:DFn:={ g:=gL3Cmp }
def gL1Cmp:List AV→Option (Prop × AV) | [.agg [.v (.int .i64 f),.v (.int .i64 b)],.agg [.v (.int .i64 f'),.v (.int .i64 b')]]=>some (True,iv (rCmp f b f' b')) | _=>none
def dL1Cmp:DFn:={ g:=gL1Cmp }
attribute [go_sem] gRtCmp dRtCmp dRtCmpI gL4Cmp dL4Cmp gL3Cmp dL3Cmp gL1Cmp dL1Cmp
theorem l1Cmp_ok:Fine Tryz.prog 32 dL1Cmp.con:=by
 refine fine_det (T:=TT) Tryz.func32 rfl Tryz.ntmps32 (by rw [Tryz.results32]) rfl rfl tt (gs_nil) (ds_nil) ?_
 intro args c r h hc
 simp only [dL1Cmp,gL1Cmp] at h
 split at h
 rotate_left
 ·cases h
 obtain ⟨rfl,rfl⟩:=Prod.mk.inj (Option.some.inj h)
 refine ⟨by simp,fun k E hE Q hQ=>?_⟩
 rename_i f b f' b'
 refine Aw_st hE [2,3] [2,3] fun K hK=>?_
 simp only [go_sem,seval]
 repeat refine sd0 ?_
 refine hK _ ?_;clear hK K
 refine Aw_sq fun B1 hB1 hR1 hX1=>?_
 refine Aw_bk fun B2 hN2 hE2 hR2 hX2=>?_
 refine Aw_st hE [2,3,5] [2,3] fun K hK=>?_
 simp only [go_sem,seval]
 repeat refine sd0 ?_
 refine hK _ (Aw_cond rfl (fun hc3=>?_) (fun hc3=>?_))
 ·simp only [dte] at hc3
  refine Aw_st hE [4] [] fun K hK=>?_
  simp only [go_sem,seval]
  repeat refine sd0 ?_
  refine hK _ (Aw_ret (hR2 _ (hR1 _ (hQ _ ?_))))
  simp only [go_sem,seval]
  simp [rCmp,orL,cmpI_lt hc3]
 ·simp only [dfn] at hc3
  refine Aw_st hE [2,3,11] [2,3] fun K hK=>?_
  simp only [go_sem,seval]
  repeat refine sd0 ?_
  refine hK _ (Aw_cond rfl (fun hc4=>?_) (fun hc4=>?_))
  ·simp only [dte] at hc4
   refine Aw_st hE [4] [] fun K hK=>?_
   simp only [go_sem,seval]
   repeat refine sd0 ?_
   refine hK _ (Aw_ret (hR2 _ (hR1 _ (hQ _ ?_))))
   simp only [go_sem,seval]
   simp [rCmp,orL,cmpI_gt hc4]
  ·simp only [dfn] at hc4
   refine Aw_st hE [2,3,17] [2,3] fun K hK=>?_
   simp only [go_sem,seval]
   repeat refine sd0 ?_
   refine hK _ (Aw_cond rfl (fun hc5=>?_) (fun hc5=>?_))
   ·simp only [dte] at hc5
    refine Aw_st hE [4] [] fun K hK=>?_
    simp only [go_sem,seval]
    repeat refine sd0 ?_
    refine hK _ (Aw_ret (hR2 _ (hR1 _ (hQ _ ?_))))
    simp only [go_sem,seval]
    simp [rCmp,orL,show f=f' by omega,cmpI_eq,cmpI_lt hc5]
   ·simp only [dfn] at hc5
    refine Aw_st hE [23] [] fun K hK=>?_
    simp only [go_sem,seval]
    repeat refine sd0 ?_
    refine hK _ (Aw_cond rfl (fun hc6=>?_) (fun hc6=>?_))
    ·simp only [dte] at hc6
     refine Aw_st hE [4] [] fun K hK=>?_
     simp only [go_sem,seval]
     repeat refine sd0 ?_
     refine hK _ (Aw_ret (hR2 _ (hR1 _ (hQ _ ?_))))
     simp only [go_sem,seval]
     simp [rCmp,orL,show f=f' by omega,cmpI_eq,cmpI_gt hc6]
    ·simp only [dfn] at hc6
     refine Aw_skip (hN2 _ (hB1 _ ?_))
     refine Aw_st hE [4] [] fun K hK=>?_
     simp only [go_sem,seval]
     repeat refine sd0 ?_
     refine hK _ (Aw_ret (hQ _ ?_))
     simp only [go_sem,seval]
     simp [rCmp,orL,show f=f' by omega,cmpI_eq,show b=b' by omega]
theorem l3Cmp_ok:Fine Tryz.prog 74 dL3Cmp.con:=by
 refine fine_det (T:=TT) Tryz.func74 rfl Tryz.ntmps74 (by rw [Tryz.results74]) rfl rfl tt (gs_nil) (ds_nil) ?_
 intro args c r h hc
 simp only [dL3Cmp,gL3Cmp] at h
 split at h
 rotate_left
 ·cases h
 split at h
 rotate_left
 ·cases h
 rename_i t1 e1 t2 e2 _ _ a b hl1 hl2
 obtain rfl:=intsL_eq hl1
 obtain rfl:=intsL_eq hl2
 obtain ⟨rfl,rfl⟩:=Prod.mk.inj (Option.some.inj h)
 refine ⟨by simp,fun k E hE Q hQ=>?_⟩
 refine Aw_st hE [0,1] [] fun K hK=>?_
 simp only [go_sem,seval]
 repeat refine sd0 ?_
 refine hK _ ?_;clear hK K
 refine Aw_sq fun B1 hB1 hR1 hX1=>?_
 refine Aw_st hE [0,1,10] [] fun K hK=>?_
 simp only [go_sem,seval]
 repeat refine sd0 ?_
 refine hK _ (Aw_cond rfl (fun hc2=>?_) (fun hc2=>?_))
 ·have hne:¬ (a.length:Int)=b.length:=by simpa using hc2
  refine Aw_sq fun B3 hB3 hR3 hX3=>?_
  refine Aw_st hE [15] [] fun K hK=>?_
  simp only [go_sem,seval]
  repeat refine sd0 ?_
  refine hK _ (Aw_cond rfl (fun hc4=>?_) (fun hc4=>?_))
  ·simp only [dte] at hc4
   refine Aw_st hE [4] [] fun K hK=>?_
   simp only [go_sem,seval]
   repeat refine sd0 ?_
   refine hK _ (Aw_ret (hR3 _ (hR1 _ (hQ _ ?_))))
   simp only [go_sem,seval]
   simp [pCmp,orL,cmpI_lt hc4]
  ·simp only [dfn] at hc4
   refine Aw_skip (hB3 _ ?_)
   refine Aw_st hE [4] [] fun K hK=>?_
   simp only [go_sem,seval]
   repeat refine sd0 ?_
   refine hK _ (Aw_ret (hR1 _ (hQ _ ?_)))
   simp only [go_sem,seval]
   simp [pCmp,orL,cmpI_gt (show (b.length:Int) < a.length by omega)]
 ·have heq:(a.length:Int)=b.length:=by simpa using hc2
  refine Aw_skip (hB1 _ ?_)
  refine Aw_sq fun B5 hB5 hR5 hX5=>?_
  refine Aw_st hE [0,1,5] [] fun K hK=>?_
  simp only [go_sem,seval]
  repeat refine sd0 ?_
  refine hK _ ?_;clear hK K
  refine Aw_bk fun B6 hN6 hE6 hR6 hX6=>?_
  refine Aw_lp (fun i:Nat=>⟨40,[(0,.sl t1 (rows a)),(1,.sl t2 (rows b)),(5,iv i)],[],k⟩) (fun i:Nat=>i≤a.length∧cmpL (a.drop i) (b.drop i)=cmpL a b) (fun i:Nat=>a.length - i) (0) (Le.refl _) (⟨by omega,by simp⟩) fun i hi B7 hN7 hR7 hX7=>?_
  refine Aw_sq fun B8 hB8 hR8 hX8=>?_
  refine Aw_st hE [0,1,5,19] [] fun K hK=>?_
  simp only [go_sem,seval]
  repeat refine sd0 ?_
  refine hK _ (Aw_cond rfl (fun hc9=>?_) (fun hc9=>?_))
  ·simp only [dte] at hc9
   have hil:i < a.length:=by omega
   have hib:i < b.length:=by omega
   have hst:=cmpL_drop a b i hil hib
   refine Aw_skip (hB8 _ ?_)
   refine Aw_sq fun B10 hB10 hR10 hX10=>?_
   refine Aw_bk fun B11 hN11 hE11 hR11 hX11=>?_
   refine Aw_sq fun B12 hB12 hR12 hX12=>?_
   refine Aw_sd hE [0,1,5,30] [] 6 (by kernel_rfl) fun K hK=>?_
   simp only [go_sem,seval,rows_get a i hil,rows_get b i hib]
   repeat refine sd0 ?_
   refine hK _ (Aw_cond rfl (fun hc13=>?_) (fun hc13=>?_))
   ·simp only [dte] at hc13
    refine Aw_st hE [4] [] fun K hK=>?_
    simp only [go_sem,seval]
    repeat refine sd0 ?_
    refine hK _ (Aw_ret (hR12 _ (hR11 _ (hR10 _ (hR7 _ (hR6 _ (hR5 _ (hQ _ ?_))))))))
    simp only [go_sem,seval]
    rw [cmpI_lt hc13] at hst;simp at hst;rw [pCmp,heq,cmpI_eq,← hi.2,hst];rfl
   ·simp only [dfn] at hc13
    refine Aw_skip (hB12 _ ?_)
    refine Aw_sd hE [0,1,5,39] [] 6 (by kernel_rfl) fun K hK=>?_
    simp only [go_sem,seval,rows_get a i hil,rows_get b i hib]
    repeat refine sd0 ?_
    refine hK _ (Aw_cond rfl (fun hc14=>?_) (fun hc14=>?_))
    ·simp only [dte] at hc14
     refine Aw_st hE [4] [] fun K hK=>?_
     simp only [go_sem,seval]
     repeat refine sd0 ?_
     refine hK _ (Aw_ret (hR11 _ (hR10 _ (hR7 _ (hR6 _ (hR5 _ (hQ _ ?_)))))))
     simp only [go_sem,seval]
     rw [cmpI_gt hc14] at hst;simp at hst;rw [pCmp,heq,cmpI_eq,← hi.2,hst];rfl
    ·simp only [dfn] at hc14
     refine Aw_skip (hN11 _ (hB10 _ ?_))
     refine Aw_tx hE [0,1,5] [] fun K hK=>?_
     simp only [go_sem,seval]
     repeat refine sd0 ?_
     refine hK _ (hN7 (i + 1) _ (⟨by omega,by rw [show a.getD i 0=b.getD i 0 by omega,cmpI_eq] at hst;simp at hst;rw [← hst];exact hi.2⟩) (by omega) (Le.refl _))
  ·simp only [dfn] at hc9
   refine Aw_exit (hX8 _ _ (hX7 _ _ (hE6 _ (hB5 _ ?_))))
   refine Aw_st hE [4] [] fun K hK=>?_
   simp only [go_sem,seval]
   repeat refine sd0 ?_
   refine hK _ (Aw_ret (hQ _ ?_))
   simp only [go_sem,seval]
   rw [pCmp,heq,cmpI_eq,← hi.2,cmpL_end a b i (by omega) (by omega)];rfl
theorem l4Cmp_ok:Fine Tryz.prog 65 dL4Cmp.con:=by
 refine fine_det (T:=TT) Tryz.func65 rfl Tryz.ntmps65 (by rw [Tryz.results65]) rfl rfl tt gs_nil (ds_cons l3Cmp_ok (ds_cons l1Cmp_ok ds_nil)) ?_
 intro args c r h hc
 simp only [dL4Cmp,gL4Cmp] at h
 split at h
 rotate_left
 ·cases h
 split at h
 rotate_left
 ·cases h
 rename_i f b t1 e1 lk t2 e2 f' b' t3 e3 lk' t4 e4 _ _ _ _ p m p' m' hl1 hl2 hl3 hl4
 obtain rfl:=intsL_eq hl1
 obtain rfl:=intsL_eq hl2
 obtain rfl:=intsL_eq hl3
 obtain rfl:=intsL_eq hl4
 obtain ⟨rfl,rfl⟩:=Prod.mk.inj (Option.some.inj h)
 refine ⟨by simp,fun k E hE Q hQ=>?_⟩
 refine Aw_st hE [2,3] [2,3] fun K hK=>?_
 simp only [go_sem,seval]
 repeat refine sd0 ?_
 refine hK _ ?_;clear hK K
 refine Aw_sq fun B1 hB1 hR1 hX1=>?_
 refine Aw_st hE [2,3,10] [2,3] fun K hK=>?_
 simp only [go_sem,seval]
 repeat refine sd0 ?_
 refine hK _ (Aw_cond rfl (fun hc2=>?_) (fun hc2=>?_))
 ·have hne:¬ lk=lk':=by simpa using hc2
  refine Aw_sq fun B3 hB3 hR3 hX3=>?_
  refine Aw_st hE [15] [] fun K hK=>?_
  simp only [go_sem,seval]
  repeat refine sd0 ?_
  refine hK _ (Aw_cond rfl (fun hc4=>?_) (fun hc4=>?_))
  ·simp only [dte] at hc4
   refine Aw_st hE [4] [] fun K hK=>?_
   simp only [go_sem,seval]
   repeat refine sd0 ?_
   refine hK _ (Aw_ret (hR3 _ (hR1 _ (hQ _ ?_))))
   simp only [go_sem,seval]
   simp [rtCmp,orL,cmpI_lt hc4]
  ·simp only [dfn] at hc4
   refine Aw_skip (hB3 _ ?_)
   refine Aw_st hE [4] [] fun K hK=>?_
   simp only [go_sem,seval]
   repeat refine sd0 ?_
   refine hK _ (Aw_ret (hR1 _ (hQ _ ?_)))
   simp only [go_sem,seval]
   simp [rtCmp,orL,cmpI_gt (show lk < lk' by omega)]
 ·have heq:lk=lk':=by simpa using hc2
  refine Aw_skip (hB1 _ ?_)
  refine Aw_st hE [2,3,5] [2,3] fun K hK=>?_
  simp only [go_sem,seval]
  repeat refine sd0 ?_
  refine hK _ ?_;clear hK K
  refine Aw_sq fun B5 hB5 hR5 hX5=>?_
  refine Aw_st hE [2,3,5,22] [2,3] fun K hK=>?_
  simp only [go_sem,seval]
  repeat refine sd0 ?_
  refine hK _ (Aw_cond rfl (fun hc6=>?_) (fun hc6=>?_))
  ·have hn6:¬ pCmp p p'=0:=by simpa using hc6
   refine Aw_st hE [4] [] fun K hK=>?_
   simp only [go_sem,seval]
   repeat refine sd0 ?_
   refine hK _ (Aw_ret (hR5 _ (hQ _ ?_)))
   simp only [go_sem,seval]
   simp [rtCmp,orL,heq,cmpI_eq,hn6]
  ·have hn6:pCmp p p'=0:=by simpa using hc6
   refine Aw_skip (hB5 _ ?_)
   refine Aw_st hE [2,3,5] [2,3] fun K hK=>?_
   simp only [go_sem,seval]
   repeat refine sd0 ?_
   refine hK _ ?_;clear hK K
   refine Aw_sq fun B7 hB7 hR7 hX7=>?_
   refine Aw_st hE [2,3,5,30] [2,3] fun K hK=>?_
   simp only [go_sem,seval]
   repeat refine sd0 ?_
   refine hK _ (Aw_cond rfl (fun hc8=>?_) (fun hc8=>?_))
   ·have hn8:¬ rCmp f b f' b'=0:=by simpa using hc8
    refine Aw_st hE [4] [] fun K hK=>?_
    simp only [go_sem,seval]
    repeat refine sd0 ?_
    refine hK _ (Aw_ret (hR7 _ (hQ _ ?_)))
    simp only [go_sem,seval]
    simp [rtCmp,orL,heq,cmpI_eq,hn6,hn8]
   ·have hn8:rCmp f b f' b'=0:=by simpa using hc8
    refine Aw_skip (hB7 _ ?_)
    refine Aw_st hE [4] [] fun K hK=>?_
    simp only [go_sem,seval]
    repeat refine sd0 ?_
    refine hK _ (Aw_ret (hQ _ ?_))
    simp only [go_sem,seval]
    simp [rtCmp,orL,heq,cmpI_eq,hn6,hn8]
set_option maxRecDepth 100000
structure Gt where
 r:Rt
 old:Bool
def Gt.row (g:Gt):List DV:=[.v (.int .i64 g.r.f),.v (.int .i64 g.r.b),.sl (rows g.r.path),.v (.int .i64 g.r.like),.sl (rows g.r.marks),.v (.bool g.old)]
def grows (l:List Gt):List (List DV):=l.map Gt.row
structure Rb where
 h:Int
 up:Bool
 all:List Gt
abbrev Rb.av (b:Rb):AV:=.agg [iv b.h,bv b.up,.sl none (grows b.all)]
def gotsL:List (List DV)→Option (List Gt)
 | []=>some []
 | [.v (.int .i64 f),.v (.int .i64 b),.sl e1,.v (.int .i64 like),.sl e2,.v (.bool old)]::l=>match intsL e1,intsL e2,gotsL l with
  | some p,some m,some r=>some (⟨⟨f,b,p,like,m⟩,old⟩::r)
  | _,_,_=>none
 | _=>none
theorem grows_nil:grows []=[]:=rfl
theorem grows_cons (c:Gt) (l:List Gt):grows (c::l)=c.row::grows l:=rfl
theorem gotsL_rows (l:List Gt):gotsL (grows l)=some l:=by
 induction l with
 | nil=>rfl
 | cons n l ih=>simp only [grows_cons,Gt.row,gotsL,ih,intsL_rows]
theorem gotsL_eq {els:List (List DV)}:∀ {l:List Gt},gotsL els=some l→els=grows l:=by
 induction els with
 | nil=>intro l h;obtain rfl:=Option.some.inj h;rfl
 | cons row els ih =>
  intro l h
  unfold gotsL at h
  split at h
  ·rename_i e;cases e
  ·rename_i l' e
   obtain ⟨rfl,rfl⟩:=List.cons.inj e
   split at h
   ·rename_i p m r hp hm hr
    obtain rfl:=Option.some.inj h
    rw [ih hr,intsL_eq hp,intsL_eq hm];rfl
   ·cases h
  ·cases h
theorem grows_len (l:List Gt):(grows l).length=l.length:=by simp [grows]
theorem grows_get (l:List Gt) (i:Nat) (h:i < l.length):(grows l)[i]? = some (l[i]).row:=by simp [grows,h]
theorem grows_app (a b:List Gt):grows a++grows b=grows (a++b):=by simp [grows]
attribute [go_sem] gotsL_rows grows_len grows_nil grows_app Gt.row
def gotOk (h:Int) (up:Bool):Option Gt→Gt→Bool
 | q,g=>okR g.r && (decide (g.r.path.head? = some h) && ((up || g.old) && (match q with | none=>true | some q=>decide (rCmp q.r.f q.r.b g.r.f g.r.b < 0))))
def allG (h:Int) (up:Bool):Option Gt→List Gt→Bool
 | _,[]=>true
 | q,g::l=>gotOk h up q g && allG h up (some g) l
def ribOk (b:Rb):Bool:=isH b.h && (decide (b.all.length≤6) && allG b.h b.up none b.all)
def prevG (l:List Gt):Nat→Option Gt
 | 0=>none
 | i + 1=>l[i]?
theorem allG_drop {h:Int} {up:Bool} {l:List Gt} {i:Nat} (hi:i < l.length):allG h up (prevG l i) (l.drop i)=(gotOk h up (prevG l i) l[i] && allG h up (prevG l (i + 1)) (l.drop (i + 1))):=by
 rw [List.drop_eq_getElem_cons hi,allG,prevG,List.getElem?_eq_getElem hi]
def sameRg (f b:Int) (g:Gt):Bool:=decide (g.r.f=f) && decide (g.r.b=b)
def atG (l:List Gt) (f b:Int):Int:=idxB (sameRg f b) l 0
def lensG (l:List Gt):Prop:=∀ g ∈ l,g.r.path.length≤1000∧g.r.marks.length≤900
def gRibOk:List AV→Option (Prop × AV) | [.agg [.v (.int .i64 h),.v (.bool up),.sl _ els]]=>(match gotsL els with | some l=>some (l.length≤1000000∧lensG l,bv (ribOk ⟨h,up,l⟩)) | none=>none) | _=>none
def dRibOk:DFn:={ g:=gRibOk }
def gAt:List AV→Option (Prop × AV) | [.agg [.v (.int .i64 _),.v (.bool _),.sl _ els],.agg [.v (.int .i64 f),.v (.int .i64 b)]]=>(match gotsL els with | some l=>some (l.length≤1000000,iv (atG l f b)) | none=>none) | _=>none
def dAt:DFn:={ g:=gAt }
attribute [go_sem] gRibOk dRibOk gAt dAt
theorem l21At_ok:Fine Tryz.prog 48 dAt.con:=by
 refine fine_det (T:=TT) Tryz.func48 rfl Tryz.ntmps48 (by rw [Tryz.results48]) rfl rfl tt (gs_nil) (ds_nil) ?_
 intro args c r h hc
 simp only [dAt,gAt] at h
 split at h
 rotate_left
 ·cases h
 split at h
 rotate_left
 ·cases h
 rename_i h0 up t els f b _ l hgo
 obtain rfl:=gotsL_eq hgo
 obtain ⟨rfl,rfl⟩:=Prod.mk.inj (Option.some.inj h)
 refine ⟨by simp,fun k E hE Q hQ=>?_⟩
 refine Aw_st hE [2,3] [2,3] fun K hK=>?_
 simp only [go_sem,reduceIte,Nat.reduceLT,Nat.reduceLeDiff,Nat.reduceEqDiff,Nat.reduceAdd,Nat.reduceMul,Nat.reduceSub,Nat.reduceBEq,Int.reduceToNat,List.reduceReplicate,reduceCtorEq]
 repeat refine sd0 ?_
 refine hK _ ?_;clear hK K
 refine Aw_sq fun B1 hB1 hR1 hX1=>?_
 refine Aw_st hE [2,3,5] [2,3] fun K hK=>?_
 simp only [go_sem,reduceIte,Nat.reduceLT,Nat.reduceLeDiff,Nat.reduceEqDiff,Nat.reduceAdd,Nat.reduceMul,Nat.reduceSub,Nat.reduceBEq,Int.reduceToNat,List.reduceReplicate,reduceCtorEq]
 repeat refine sd0 ?_
 refine hK _ ?_;clear hK K
 refine Aw_bk fun B2 hN2 hE2 hR2 hX2=>?_
 refine Aw_lp (fun i:Nat=>⟨23,[(2,.loc 2 0),(3,.loc 3 0),(5,iv i)],[(2,[iv h0,bv up,.sl t (grows l)]),(3,[iv f,iv b])],k⟩) (fun i:Nat=>i≤l.length∧atG l f b=idxB (sameRg f b) (l.drop i) i) (fun i:Nat=>l.length - i) (0) (Le.refl _) (⟨by omega,rfl⟩) fun i hi B3 hN3 hR3 hX3=>?_
 refine Aw_sq fun B4 hB4 hR4 hX4=>?_
 refine Aw_st hE [2,3,5,10] [2,3] fun K hK=>?_
 simp only [go_sem,reduceIte,Nat.reduceLT,Nat.reduceLeDiff,Nat.reduceEqDiff,Nat.reduceAdd,Nat.reduceMul,Nat.reduceSub,Nat.reduceBEq,Int.reduceToNat,List.reduceReplicate,reduceCtorEq]
 repeat refine sd0 ?_
 refine hK _ (Aw_cond rfl (fun hc5=>?_) (fun hc5=>?_))
 ·simp only [dte] at hc5
  have hil:i < l.length:=by omega
  have hs:=hi.2.trans (idxB_drop hil)
  have hget:=grows_get l i hil
  generalize l[i]=x at hget hs
  obtain ⟨⟨rf,rb,p,rk,m⟩,old⟩:=x
  refine Aw_skip (hB4 _ ?_)
  refine Aw_sq fun B6 hB6 hR6 hX6=>?_
  refine Aw_bk fun B7 hN7 hE7 hR7 hX7=>?_
  refine Aw_sd hE [2,3,5,21] [2,3] 6 (by kernel_rfl) fun K hK=>?_
  simp only [go_sem,reduceIte,Nat.reduceLT,Nat.reduceLeDiff,Nat.reduceEqDiff,Nat.reduceAdd,Nat.reduceMul,Nat.reduceSub,Nat.reduceBEq,Int.reduceToNat,List.reduceReplicate,reduceCtorEq,hget]
  repeat refine sd0 ?_
  refine hK _ (Aw_cond rfl (fun hc8=>?_) (fun hc8=>?_))
  ·have hsr:sameRg f b ⟨⟨rf,rb,p,rk,m⟩,old⟩=true:=hc8
   rw [hsr] at hs
   refine Aw_st hE [4] [] fun K hK=>?_
   simp only [go_sem,reduceIte,Nat.reduceLT,Nat.reduceLeDiff,Nat.reduceEqDiff,Nat.reduceAdd,Nat.reduceMul,Nat.reduceSub,Nat.reduceBEq,Int.reduceToNat,List.reduceReplicate,reduceCtorEq]
   repeat refine sd0 ?_
   refine hK _ (Aw_ret (hR7 _ (hR6 _ (hR3 _ (hR2 _ (hR1 _ (hQ _ ?_)))))))
   simp only [go_sem,reduceIte,Nat.reduceLT,Nat.reduceLeDiff,Nat.reduceEqDiff,Nat.reduceAdd,Nat.reduceMul,Nat.reduceSub,Nat.reduceBEq,Int.reduceToNat,List.reduceReplicate,reduceCtorEq,hs]
  ·have hsr:sameRg f b ⟨⟨rf,rb,p,rk,m⟩,old⟩=false:=hc8
   rw [hsr] at hs
   refine Aw_skip (hN7 _ (hB6 _ ?_))
   refine Aw_tx hE [2,3,5] [2,3] fun K hK=>?_
   simp only [go_sem,reduceIte,Nat.reduceLT,Nat.reduceLeDiff,Nat.reduceEqDiff,Nat.reduceAdd,Nat.reduceMul,Nat.reduceSub,Nat.reduceBEq,Int.reduceToNat,List.reduceReplicate,reduceCtorEq]
   repeat refine sd0 ?_
   refine hK _ (hN3 (i + 1) _ (⟨by omega,hs⟩) (by omega) (Le.refl _))
 ·simp only [dfn] at hc5
  refine Aw_exit (hX4 _ _ (hX3 _ _ (hE2 _ (hB1 _ ?_))))
  refine Aw_st hE [4] [] fun K hK=>?_
  simp only [go_sem,reduceIte,Nat.reduceLT,Nat.reduceLeDiff,Nat.reduceEqDiff,Nat.reduceAdd,Nat.reduceMul,Nat.reduceSub,Nat.reduceBEq,Int.reduceToNat,List.reduceReplicate,reduceCtorEq]
  repeat refine sd0 ?_
  refine hK _ (Aw_ret (hQ _ ?_))
  simp only [go_sem,reduceIte,Nat.reduceLT,Nat.reduceLeDiff,Nat.reduceEqDiff,Nat.reduceAdd,Nat.reduceMul,Nat.reduceSub,Nat.reduceBEq,Int.reduceToNat,List.reduceReplicate,reduceCtorEq]
  rw [hi.2,List.drop_eq_nil_of_le (by omega)]
  rfl
theorem ribOk_stop {h:Int} {up:Bool} {l:List Gt} {i:Nat} (hi:i < l.length) (h1:allG h up none l=allG h up (prevG l i) (l.drop i)) (h2:gotOk h up (prevG l i) l[i]=false):ribOk ⟨h,up,l⟩=false:=by
 rw [allG_drop hi,h2,Bool.false_and] at h1
 simp only [ribOk,h1,Bool.and_false]
set_option maxHeartbeats 4000000 in
theorem sRibOk_ok:Fine Tryz.prog 44 dRibOk.con:=by
 refine fine_det (T:=TT) Tryz.func44 rfl Tryz.ntmps44 (by rw [Tryz.results44]) rfl rfl tt (gs_nil) (ds_cons sRtOk_ok (ds_cons l1Cmp_ok (ds_cons sIsH_ok ds_nil))) ?_
 intro args c r h hc
 simp only [dRibOk,gRibOk] at h
 split at h
 rotate_left
 ·cases h
 split at h
 rotate_left
 ·cases h
 rename_i h0 up t els _ l hgo
 obtain rfl:=gotsL_eq hgo
 obtain ⟨rfl,rfl⟩:=Prod.mk.inj (Option.some.inj h)
 refine ⟨by simp,fun k E hE Q hQ=>?_⟩
 obtain ⟨hll,hlen⟩:=hc
 refine Aw_st hE [1] [1] fun K hK=>?_
 simp only [go_sem,seval]
 refine hK _ ?_;clear hK K
 refine Aw_sq fun B1 hB1 hR1 hX1=>?_
 refine Aw_st hE [1,3] [1] fun K hK=>?_
 simp only [go_sem,seval]
 refine hK _ ?_;clear hK K
 refine Aw_bk fun B2 hN2 hE2 hR2 hX2=>?_
 refine Aw_lp (fun i:Nat=>⟨69,[(1,.loc 1 0),(3,iv i)],[(1,[iv h0,bv up,.sl t (grows l)])],k⟩) (fun i=>i≤l.length∧allG h0 up none l=allG h0 up (prevG l i) (l.drop i)) (fun i=>l.length - i) 0 (Le.refl _) ⟨by omega,rfl⟩ fun i hi B3 hN3 hR3 hX3=>?_
 refine Aw_sq fun B4 hB4 hR4 hX4=>?_
 refine Aw_st hE [1,3,9] [1] fun K hK=>?_
 simp only [go_sem,seval]
 refine hK _ (Aw_cond rfl (fun hc5=>?_) (fun hc5=>?_))
 rotate_left
 ·refine Aw_exit (hX4 _ _ (hX3 _ _ (hE2 _ (hB1 _ ?_))))
  simp only [dfn] at hc5
  have hal:allG h0 up none l=true:=by rw [hi.2,List.drop_eq_nil_of_le (by omega)];rfl
  refine Aw_st hE [2] [] fun K hK=>?_
  simp only [go_sem,seval]
  refine ⟨fun h1=>?_,fun h1=>?_⟩
  ·refine hK _ (Aw_ret (hQ _ ?_))
   simp only [go_sem,seval]
   simp only [ribOk,hal,Bool.and_true,h1,Bool.true_and]
   congr 1
   exact propext (by omega)
  ·refine hK _ (Aw_ret (hQ _ ?_))
   simp only [go_sem,seval]
   simp only [ribOk,h1,Bool.false_and]
 simp only [dte] at hc5
 have hil:i < l.length:=by omega
 have hget:=grows_get l i hil
 have hln:=hlen _ (List.getElem_mem hil)
 have hstop:=fun h=>ribOk_stop hil hi.2 h
 have hst:=hi.2.trans (allG_drop hil)
 generalize l[i]=x at hget hln hstop hst
 obtain ⟨⟨rf,rb,p,rk,m⟩,old⟩:=x
 simp only at hln
 refine Aw_skip (hB4 _ ?_)
 refine Aw_sq fun B6 hB6 hR6 hX6=>?_
 refine Aw_bk fun B7 hN7 hE7 hR7 hX7=>?_
 refine Aw_st hE [1,3,4] [1,4] fun K hK=>?_
 simp only [go_sem,seval,hget]
 repeat refine sd0 ?_
 refine hK _ ?_;clear hK K
 have hokR:okR ⟨rf,rb,p,rk,m⟩=rtOk rf rb p rk m:=rfl
 cases h1:rtOk rf rb p rk m with
 | false =>
  have hf:=hstop (by simp only [gotOk,hokR,h1,Bool.false_and])
  refine Aw_se hE [0,1,2,3,4,5,6,7,8,9,10,11,12,13,14,15,16,17,18,19,20,21,22,23,24,25,26,27,28,29,30,31,32,33,34,35,36,37,38,39,40,41,42] [0,1,3,7,15,31,63,127,255,511,31,1055,4095,8191,16383,32767,65535,131071,262143,524287,1048575,2097151,4194303,8388607,16777215,33554431,67108863,134217727,268435455,536870911,268435455,1342177279,4294967295,8589934591,17179869183,34359738367,268435455,68987912191,206426865663,549755813887,1099511627775,2199023255551,4398046511103] [1,3,59] [1] (by kernel_rfl) fun K hK=>?_
  refine daopsE_cut 6 fun K1 hK1=>?_
  simp only [go_sem,seval,h1]
  repeat refine sd0 ?_
  refine hK1 _ ?_
  clear hK1
  refine daopsE_cut 6 fun K1 hK1=>?_
  simp only [go_sem,seval,h1]
  repeat refine sd0 ?_
  refine hK1 _ ?_
  clear hK1
  refine daopsE_cut 6 fun K1 hK1=>?_
  simp only [go_sem,seval,h1]
  repeat refine sd0 ?_
  refine hK1 _ ?_
  clear hK1
  refine daopsE_cut 6 fun K1 hK1=>?_
  simp only [go_sem,seval,h1]
  repeat refine sd0 ?_
  refine hK1 _ ?_
  clear hK1
  refine daopsE_cut 6 fun K1 hK1=>?_
  simp only [go_sem,seval,h1]
  repeat refine sd0 ?_
  refine hK1 _ ?_
  clear hK1
  refine daopsE_cut 6 fun K1 hK1=>?_
  simp only [go_sem,seval,h1]
  repeat refine sd0 ?_
  refine hK1 _ ?_
  clear hK1
  refine daopsE_cut 6 fun K1 hK1=>?_
  simp only [go_sem,seval,h1]
  repeat refine sd0 ?_
  refine hK1 _ ?_
  clear hK1
  simp only [go_sem,seval,h1]
  repeat refine sd0 ?_
  refine hK _ (Aw_yes rfl ?_)
  refine Aw_st hE [2] [] fun K hK=>?_
  simp only [go_sem,seval]
  refine hK _ (Aw_ret (hR7 _ (hR6 _ (hR3 _ (hR2 _ (hR1 _ (hQ _ ?_)))))))
  simp only [go_sem,seval,hf]
 | true =>
 obtain ⟨p0,p',rfl⟩:∃ p0 p',p=p0::p':=by
  have:=(okR_parts (hokR.trans h1)).2.1
  cases p with
  | nil=>simp at this
  | cons a b=>exact ⟨a,b,rfl⟩
 obtain ⟨hln1,hln2⟩:=hln
 have hpl:p'.length≤1000:=by simp at hln1;omega
 have hp0:(rows (p0::p'))[0]? = some [.v (.int .i64 p0)]:=rfl
 by_cases h2:p0=h0
 rotate_left
 ·have hf:=hstop (by simp [gotOk,h2])
  have h2d:decide (p0=h0)=false:=decide_eq_false h2
  refine Aw_se hE [0,1,2,3,4,5,6,7,8,9,10,11,12,13,14,15,16,17,18,19,20,21,22,23,24,25,26,27,28,29,30,31,32,33,34,35,36,37,38,39,40,41,42] [0,1,3,7,15,31,63,127,255,511,31,1055,4095,8191,16383,32767,65535,131071,262143,524287,1048575,2097151,4194303,8388607,16777215,33554431,67108863,134217727,268435455,536870911,268435455,1342177279,4294967295,8589934591,17179869183,34359738367,268435455,68987912191,206426865663,549755813887,1099511627775,2199023255551,4398046511103] [1,3,59] [1] (by kernel_rfl) fun K hK=>?_
  refine daopsE_cut 6 fun K1 hK1=>?_
  simp only [go_sem,seval,h1,hp0,h2d]
  repeat refine sd0 ?_
  refine hK1 _ ?_
  clear hK1
  refine daopsE_cut 6 fun K1 hK1=>?_
  simp only [go_sem,seval,h1,hp0,h2d]
  repeat refine sd0 ?_
  refine hK1 _ ?_
  clear hK1
  refine daopsE_cut 6 fun K1 hK1=>?_
  simp only [go_sem,seval,h1,hp0,h2d]
  repeat refine sd0 ?_
  refine hK1 _ ?_
  clear hK1
  refine daopsE_cut 6 fun K1 hK1=>?_
  simp only [go_sem,seval,h1,hp0,h2d]
  repeat refine sd0 ?_
  refine hK1 _ ?_
  clear hK1
  refine daopsE_cut 6 fun K1 hK1=>?_
  simp only [go_sem,seval,h1,hp0,h2d]
  repeat refine sd0 ?_
  refine hK1 _ ?_
  clear hK1
  refine daopsE_cut 6 fun K1 hK1=>?_
  simp only [go_sem,seval,h1,hp0,h2d]
  repeat refine sd0 ?_
  refine hK1 _ ?_
  clear hK1
  refine daopsE_cut 6 fun K1 hK1=>?_
  simp only [go_sem,seval,h1,hp0,h2d]
  repeat refine sd0 ?_
  refine hK1 _ ?_
  clear hK1
  simp only [go_sem,seval,h1,hp0,h2d]
  repeat refine sd0 ?_
  refine hK _ (Aw_yes rfl ?_)
  refine Aw_st hE [2] [] fun K hK=>?_
  simp only [go_sem,seval]
  refine hK _ (Aw_ret (hR7 _ (hR6 _ (hR3 _ (hR2 _ (hR1 _ (hQ _ ?_)))))))
  simp only [go_sem,seval,hf]
 have h2d:decide (p0=h0)=true:=decide_eq_true h2
 cases h3:(up || old) with
 | false =>
  have hf:=hstop (by simp only [gotOk,h3,Bool.false_and,Bool.and_false])
  simp only [Bool.or_eq_false_iff] at h3
  refine Aw_se hE [0,1,2,3,4,5,6,7,8,9,10,11,12,13,14,15,16,17,18,19,20,21,22,23,24,25,26,27,28,29,30,31,32,33,34,35,36,37,38,39,40,41,42] [0,1,3,7,15,31,63,127,255,511,31,1055,4095,8191,16383,32767,65535,131071,262143,524287,1048575,2097151,4194303,8388607,16777215,33554431,67108863,134217727,268435455,536870911,268435455,1342177279,4294967295,8589934591,17179869183,34359738367,268435455,68987912191,206426865663,549755813887,1099511627775,2199023255551,4398046511103] [1,3,59] [1] (by kernel_rfl) fun K hK=>?_
  refine daopsE_cut 6 fun K1 hK1=>?_
  simp only [go_sem,seval,h1,hp0,h2d,h3.1,h3.2]
  repeat refine sd0 ?_
  refine hK1 _ ?_
  clear hK1
  refine daopsE_cut 6 fun K1 hK1=>?_
  simp only [go_sem,seval,h1,hp0,h2d,h3.1,h3.2]
  repeat refine sd0 ?_
  refine hK1 _ ?_
  clear hK1
  refine daopsE_cut 6 fun K1 hK1=>?_
  simp only [go_sem,seval,h1,hp0,h2d,h3.1,h3.2]
  repeat refine sd0 ?_
  refine hK1 _ ?_
  clear hK1
  refine daopsE_cut 6 fun K1 hK1=>?_
  simp only [go_sem,seval,h1,hp0,h2d,h3.1,h3.2]
  repeat refine sd0 ?_
  refine hK1 _ ?_
  clear hK1
  refine daopsE_cut 6 fun K1 hK1=>?_
  simp only [go_sem,seval,h1,hp0,h2d,h3.1,h3.2]
  repeat refine sd0 ?_
  refine hK1 _ ?_
  clear hK1
  refine daopsE_cut 6 fun K1 hK1=>?_
  simp only [go_sem,seval,h1,hp0,h2d,h3.1,h3.2]
  repeat refine sd0 ?_
  refine hK1 _ ?_
  clear hK1
  refine daopsE_cut 6 fun K1 hK1=>?_
  simp only [go_sem,seval,h1,hp0,h2d,h3.1,h3.2]
  repeat refine sd0 ?_
  refine hK1 _ ?_
  clear hK1
  simp only [go_sem,seval,h1,hp0,h2d,h3.1,h3.2]
  repeat refine sd0 ?_
  refine hK _ (Aw_yes rfl ?_)
  refine Aw_st hE [2] [] fun K hK=>?_
  simp only [go_sem,seval]
  refine hK _ (Aw_ret (hR7 _ (hR6 _ (hR3 _ (hR2 _ (hR1 _ (hQ _ ?_)))))))
  simp only [go_sem,seval,hf]
 | true =>
 have e1:okR ⟨rf,rb,h0::p',rk,m⟩=true:=by rw [← h2];exact hokR.trans h1
 have hgo2:gotOk h0 up (prevG l i) ⟨⟨rf,rb,p0::p',rk,m⟩,old⟩=(match prevG l i with | none=>true | some q=>decide (rCmp q.r.f q.r.b rf rb < 0)):=by
  simp only [gotOk,e1,h3,h2,List.head?_cons,Bool.true_and,decide_true]
  all_goals (cases prevG l i<;>rfl)
 rw [hgo2] at hst hstop
 have hupo:up=true∨(up=false∧old=true):=by
  cases up<;>simp_all
 by_cases hi0:i=0
 ·have hz:decide ((0:Int) < (i:Int))=false:=decide_eq_false (by omega)
  have hpv:prevG l i=none:=by rw [hi0];rfl
  rw [hpv] at hst
  simp only [Bool.true_and] at hst
  have hst:allG h0 up none l=allG h0 up (prevG l (i + 1)) (l.drop (i + 1)):=hst
  rcases hupo with hu | ⟨hu,ho⟩
  ·subst hu
   refine Aw_se hE [0,1,2,3,4,5,6,7,8,9,10,11,12,13,14,15,16,17,18,19,20,21,22,23,24,25,26,27,28,29,30,31,32,33,34,35,36,37,38,39,40,41,42] [0,1,3,7,15,31,63,127,255,511,31,1055,4095,8191,16383,32767,65535,131071,262143,524287,1048575,2097151,4194303,8388607,16777215,33554431,67108863,134217727,268435455,536870911,268435455,1342177279,4294967295,8589934591,17179869183,34359738367,268435455,68987912191,206426865663,549755813887,1099511627775,2199023255551,4398046511103] [1,3,59] [1] (by kernel_rfl) fun K hK=>?_
   refine daopsE_cut 6 fun K1 hK1=>?_
   simp only [go_sem,seval,h1,hp0,h2d,hz]
   repeat refine sd0 ?_
   refine hK1 _ ?_
   clear hK1
   refine daopsE_cut 6 fun K1 hK1=>?_
   simp only [go_sem,seval,h1,hp0,h2d,hz]
   repeat refine sd0 ?_
   refine hK1 _ ?_
   clear hK1
   refine daopsE_cut 6 fun K1 hK1=>?_
   simp only [go_sem,seval,h1,hp0,h2d,hz]
   repeat refine sd0 ?_
   refine hK1 _ ?_
   clear hK1
   refine daopsE_cut 6 fun K1 hK1=>?_
   simp only [go_sem,seval,h1,hp0,h2d,hz]
   repeat refine sd0 ?_
   refine hK1 _ ?_
   clear hK1
   refine daopsE_cut 6 fun K1 hK1=>?_
   simp only [go_sem,seval,h1,hp0,h2d,hz]
   repeat refine sd0 ?_
   refine hK1 _ ?_
   clear hK1
   refine daopsE_cut 6 fun K1 hK1=>?_
   simp only [go_sem,seval,h1,hp0,h2d,hz]
   repeat refine sd0 ?_
   refine hK1 _ ?_
   clear hK1
   refine daopsE_cut 6 fun K1 hK1=>?_
   simp only [go_sem,seval,h1,hp0,h2d,hz]
   repeat refine sd0 ?_
   refine hK1 _ ?_
   clear hK1
   simp only [go_sem,seval,h1,hp0,h2d,hz]
   repeat refine sd0 ?_
   refine hK _ (Aw_no rfl (Aw_skip (hN7 _ (hB6 _ ?_))))
   refine Aw_tx hE [1,3] [1] fun K hK=>?_
   simp only [go_sem,seval]
   repeat refine sd0 ?_
   refine hK _ (hN3 (i + 1) _ ⟨by omega,hst⟩ (by omega) (Le.refl _))
  ·subst hu ho
   refine Aw_se hE [0,1,2,3,4,5,6,7,8,9,10,11,12,13,14,15,16,17,18,19,20,21,22,23,24,25,26,27,28,29,30,31,32,33,34,35,36,37,38,39,40,41,42] [0,1,3,7,15,31,63,127,255,511,31,1055,4095,8191,16383,32767,65535,131071,262143,524287,1048575,2097151,4194303,8388607,16777215,33554431,67108863,134217727,268435455,536870911,268435455,1342177279,4294967295,8589934591,17179869183,34359738367,268435455,68987912191,206426865663,549755813887,1099511627775,2199023255551,4398046511103] [1,3,59] [1] (by kernel_rfl) fun K hK=>?_
   refine daopsE_cut 6 fun K1 hK1=>?_
   simp only [go_sem,seval,h1,hp0,h2d,hz]
   repeat refine sd0 ?_
   refine hK1 _ ?_
   clear hK1
   refine daopsE_cut 6 fun K1 hK1=>?_
   simp only [go_sem,seval,h1,hp0,h2d,hz]
   repeat refine sd0 ?_
   refine hK1 _ ?_
   clear hK1
   refine daopsE_cut 6 fun K1 hK1=>?_
   simp only [go_sem,seval,h1,hp0,h2d,hz]
   repeat refine sd0 ?_
   refine hK1 _ ?_
   clear hK1
   refine daopsE_cut 6 fun K1 hK1=>?_
   simp only [go_sem,seval,h1,hp0,h2d,hz]
   repeat refine sd0 ?_
   refine hK1 _ ?_
   clear hK1
   refine daopsE_cut 6 fun K1 hK1=>?_
   simp only [go_sem,seval,h1,hp0,h2d,hz]
   repeat refine sd0 ?_
   refine hK1 _ ?_
   clear hK1
   refine daopsE_cut 6 fun K1 hK1=>?_
   simp only [go_sem,seval,h1,hp0,h2d,hz]
   repeat refine sd0 ?_
   refine hK1 _ ?_
   clear hK1
   refine daopsE_cut 6 fun K1 hK1=>?_
   simp only [go_sem,seval,h1,hp0,h2d,hz]
   repeat refine sd0 ?_
   refine hK1 _ ?_
   clear hK1
   simp only [go_sem,seval,h1,hp0,h2d,hz]
   repeat refine sd0 ?_
   refine hK _ (Aw_no rfl (Aw_skip (hN7 _ (hB6 _ ?_))))
   refine Aw_tx hE [1,3] [1] fun K hK=>?_
   simp only [go_sem,seval]
   repeat refine sd0 ?_
   refine hK _ (hN3 (i + 1) _ ⟨by omega,hst⟩ (by omega) (Le.refl _))
 have hz:decide ((0:Int) < (i:Int))=true:=decide_eq_true (by omega)
 have et:((i:Int) - 1).toNat=i - 1:=by omega
 have hget2:=grows_get l (i - 1) (by omega)
 have hpv:prevG l i=some l[i - 1]:=by
  cases i with
  | zero=>exact absurd rfl hi0
  | succ j=>exact List.getElem?_eq_getElem (by omega)
 rw [hpv] at hst hstop
 generalize l[i - 1]=y at hget2 hst hstop
 obtain ⟨⟨qf,qb,qp,qk,qm⟩,qo⟩:=y
 simp only at hst hstop
 cases hq:decide (rCmp qf qb rf rb < 0) with
 | true =>
  rw [hq,Bool.true_and] at hst
  have hq2:decide (0≤rCmp qf qb rf rb)=false:=by
   simp only [dte] at hq
   exact decide_eq_false (by omega)
  rcases hupo with hu | ⟨hu,ho⟩
  ·subst hu
   refine Aw_se hE [0,1,2,3,4,5,6,7,8,9,10,11,12,13,14,15,16,17,18,19,20,21,22,23,24,25,26,27,28,29,30,31,32,33,34,35,36,37,38,39,40,41,42] [0,1,3,7,15,31,63,127,255,511,31,1055,4095,8191,16383,32767,65535,131071,262143,524287,1048575,2097151,4194303,8388607,16777215,33554431,67108863,134217727,268435455,536870911,268435455,1342177279,4294967295,8589934591,17179869183,34359738367,268435455,68987912191,206426865663,549755813887,1099511627775,2199023255551,4398046511103] [1,3,59] [1] (by kernel_rfl) fun K hK=>?_
   refine daopsE_cut 6 fun K1 hK1=>?_
   simp only [go_sem,seval,h1,hp0,h2d,hz,et,hget2,hq2]
   repeat refine sd0 ?_
   refine hK1 _ ?_
   clear hK1
   refine daopsE_cut 6 fun K1 hK1=>?_
   simp only [go_sem,seval,h1,hp0,h2d,hz,et,hget2,hq2]
   repeat refine sd0 ?_
   refine hK1 _ ?_
   clear hK1
   refine daopsE_cut 6 fun K1 hK1=>?_
   simp only [go_sem,seval,h1,hp0,h2d,hz,et,hget2,hq2]
   repeat refine sd0 ?_
   refine hK1 _ ?_
   clear hK1
   refine daopsE_cut 6 fun K1 hK1=>?_
   simp only [go_sem,seval,h1,hp0,h2d,hz,et,hget2,hq2]
   repeat refine sd0 ?_
   refine hK1 _ ?_
   clear hK1
   refine daopsE_cut 6 fun K1 hK1=>?_
   simp only [go_sem,seval,h1,hp0,h2d,hz,et,hget2,hq2]
   repeat refine sd0 ?_
   refine hK1 _ ?_
   clear hK1
   refine daopsE_cut 6 fun K1 hK1=>?_
   simp only [go_sem,seval,h1,hp0,h2d,hz,et,hget2,hq2]
   repeat refine sd0 ?_
   refine hK1 _ ?_
   clear hK1
   refine daopsE_cut 6 fun K1 hK1=>?_
   simp only [go_sem,seval,h1,hp0,h2d,hz,et,hget2,hq2]
   repeat refine sd0 ?_
   refine hK1 _ ?_
   clear hK1
   simp only [go_sem,seval,h1,hp0,h2d,hz,et,hget2,hq2]
   repeat refine sd0 ?_
   refine hK _ (Aw_no rfl (Aw_skip (hN7 _ (hB6 _ ?_))))
   refine Aw_tx hE [1,3] [1] fun K hK=>?_
   simp only [go_sem,seval]
   repeat refine sd0 ?_
   refine hK _ (hN3 (i + 1) _ ⟨by omega,hst⟩ (by omega) (Le.refl _))
  ·subst hu ho
   refine Aw_se hE [0,1,2,3,4,5,6,7,8,9,10,11,12,13,14,15,16,17,18,19,20,21,22,23,24,25,26,27,28,29,30,31,32,33,34,35,36,37,38,39,40,41,42] [0,1,3,7,15,31,63,127,255,511,31,1055,4095,8191,16383,32767,65535,131071,262143,524287,1048575,2097151,4194303,8388607,16777215,33554431,67108863,134217727,268435455,536870911,268435455,1342177279,4294967295,8589934591,17179869183,34359738367,268435455,68987912191,206426865663,549755813887,1099511627775,2199023255551,4398046511103] [1,3,59] [1] (by kernel_rfl) fun K hK=>?_
   refine daopsE_cut 6 fun K1 hK1=>?_
   simp only [go_sem,seval,h1,hp0,h2d,hz,et,hget2,hq2]
   repeat refine sd0 ?_
   refine hK1 _ ?_
   clear hK1
   refine daopsE_cut 6 fun K1 hK1=>?_
   simp only [go_sem,seval,h1,hp0,h2d,hz,et,hget2,hq2]
   repeat refine sd0 ?_
   refine hK1 _ ?_
   clear hK1
   refine daopsE_cut 6 fun K1 hK1=>?_
   simp only [go_sem,seval,h1,hp0,h2d,hz,et,hget2,hq2]
   repeat refine sd0 ?_
   refine hK1 _ ?_
   clear hK1
   refine daopsE_cut 6 fun K1 hK1=>?_
   simp only [go_sem,seval,h1,hp0,h2d,hz,et,hget2,hq2]
   repeat refine sd0 ?_
   refine hK1 _ ?_
   clear hK1
   refine daopsE_cut 6 fun K1 hK1=>?_
   simp only [go_sem,seval,h1,hp0,h2d,hz,et,hget2,hq2]
   repeat refine sd0 ?_
   refine hK1 _ ?_
   clear hK1
   refine daopsE_cut 6 fun K1 hK1=>?_
   simp only [go_sem,seval,h1,hp0,h2d,hz,et,hget2,hq2]
   repeat refine sd0 ?_
   refine hK1 _ ?_
   clear hK1
   refine daopsE_cut 6 fun K1 hK1=>?_
   simp only [go_sem,seval,h1,hp0,h2d,hz,et,hget2,hq2]
   repeat refine sd0 ?_
   refine hK1 _ ?_
   clear hK1
   simp only [go_sem,seval,h1,hp0,h2d,hz,et,hget2,hq2]
   repeat refine sd0 ?_
   refine hK _ (Aw_no rfl (Aw_skip (hN7 _ (hB6 _ ?_))))
   refine Aw_tx hE [1,3] [1] fun K hK=>?_
   simp only [go_sem,seval]
   repeat refine sd0 ?_
   refine hK _ (hN3 (i + 1) _ ⟨by omega,hst⟩ (by omega) (Le.refl _))
 | false =>
  have hf:=hstop hq
  have hq2:decide (0≤rCmp qf qb rf rb)=true:=by
   simp only [dfn] at hq
   exact decide_eq_true (by omega)
  rcases hupo with hu | ⟨hu,ho⟩
  ·subst hu
   refine Aw_se hE [0,1,2,3,4,5,6,7,8,9,10,11,12,13,14,15,16,17,18,19,20,21,22,23,24,25,26,27,28,29,30,31,32,33,34,35,36,37,38,39,40,41,42] [0,1,3,7,15,31,63,127,255,511,31,1055,4095,8191,16383,32767,65535,131071,262143,524287,1048575,2097151,4194303,8388607,16777215,33554431,67108863,134217727,268435455,536870911,268435455,1342177279,4294967295,8589934591,17179869183,34359738367,268435455,68987912191,206426865663,549755813887,1099511627775,2199023255551,4398046511103] [1,3,59] [1] (by kernel_rfl) fun K hK=>?_
   refine daopsE_cut 6 fun K1 hK1=>?_
   simp only [go_sem,seval,h1,hp0,h2d,hz,et,hget2,hq2]
   repeat refine sd0 ?_
   refine hK1 _ ?_
   clear hK1
   refine daopsE_cut 6 fun K1 hK1=>?_
   simp only [go_sem,seval,h1,hp0,h2d,hz,et,hget2,hq2]
   repeat refine sd0 ?_
   refine hK1 _ ?_
   clear hK1
   refine daopsE_cut 6 fun K1 hK1=>?_
   simp only [go_sem,seval,h1,hp0,h2d,hz,et,hget2,hq2]
   repeat refine sd0 ?_
   refine hK1 _ ?_
   clear hK1
   refine daopsE_cut 6 fun K1 hK1=>?_
   simp only [go_sem,seval,h1,hp0,h2d,hz,et,hget2,hq2]
   repeat refine sd0 ?_
   refine hK1 _ ?_
   clear hK1
   refine daopsE_cut 6 fun K1 hK1=>?_
   simp only [go_sem,seval,h1,hp0,h2d,hz,et,hget2,hq2]
   repeat refine sd0 ?_
   refine hK1 _ ?_
   clear hK1
   refine daopsE_cut 6 fun K1 hK1=>?_
   simp only [go_sem,seval,h1,hp0,h2d,hz,et,hget2,hq2]
   repeat refine sd0 ?_
   refine hK1 _ ?_
   clear hK1
   refine daopsE_cut 6 fun K1 hK1=>?_
   simp only [go_sem,seval,h1,hp0,h2d,hz,et,hget2,hq2]
   repeat refine sd0 ?_
   refine hK1 _ ?_
   clear hK1
   simp only [go_sem,seval,h1,hp0,h2d,hz,et,hget2,hq2]
   repeat refine sd0 ?_
   refine hK _ (Aw_yes rfl ?_)
   refine Aw_st hE [2] [] fun K hK=>?_
   simp only [go_sem,seval]
   refine hK _ (Aw_ret (hR7 _ (hR6 _ (hR3 _ (hR2 _ (hR1 _ (hQ _ ?_)))))))
   simp only [go_sem,seval,hf]
  ·subst hu ho
   refine Aw_se hE [0,1,2,3,4,5,6,7,8,9,10,11,12,13,14,15,16,17,18,19,20,21,22,23,24,25,26,27,28,29,30,31,32,33,34,35,36,37,38,39,40,41,42] [0,1,3,7,15,31,63,127,255,511,31,1055,4095,8191,16383,32767,65535,131071,262143,524287,1048575,2097151,4194303,8388607,16777215,33554431,67108863,134217727,268435455,536870911,268435455,1342177279,4294967295,8589934591,17179869183,34359738367,268435455,68987912191,206426865663,549755813887,1099511627775,2199023255551,4398046511103] [1,3,59] [1] (by kernel_rfl) fun K hK=>?_
   refine daopsE_cut 6 fun K1 hK1=>?_
   simp only [go_sem,seval,h1,hp0,h2d,hz,et,hget2,hq2]
   repeat refine sd0 ?_
   refine hK1 _ ?_
   clear hK1
   refine daopsE_cut 6 fun K1 hK1=>?_
   simp only [go_sem,seval,h1,hp0,h2d,hz,et,hget2,hq2]
   repeat refine sd0 ?_
   refine hK1 _ ?_
   clear hK1
   refine daopsE_cut 6 fun K1 hK1=>?_
   simp only [go_sem,seval,h1,hp0,h2d,hz,et,hget2,hq2]
   repeat refine sd0 ?_
   refine hK1 _ ?_
   clear hK1
   refine daopsE_cut 6 fun K1 hK1=>?_
   simp only [go_sem,seval,h1,hp0,h2d,hz,et,hget2,hq2]
   repeat refine sd0 ?_
   refine hK1 _ ?_
   clear hK1
   refine daopsE_cut 6 fun K1 hK1=>?_
   simp only [go_sem,seval,h1,hp0,h2d,hz,et,hget2,hq2]
   repeat refine sd0 ?_
   refine hK1 _ ?_
   clear hK1
   refine daopsE_cut 6 fun K1 hK1=>?_
   simp only [go_sem,seval,h1,hp0,h2d,hz,et,hget2,hq2]
   repeat refine sd0 ?_
   refine hK1 _ ?_
   clear hK1
   refine daopsE_cut 6 fun K1 hK1=>?_
   simp only [go_sem,seval,h1,hp0,h2d,hz,et,hget2,hq2]
   repeat refine sd0 ?_
   refine hK1 _ ?_
   clear hK1
   simp only [go_sem,seval,h1,hp0,h2d,hz,et,hget2,hq2]
   repeat refine sd0 ?_
   refine hK _ (Aw_yes rfl ?_)
   refine Aw_st hE [2] [] fun K hK=>?_
   simp only [go_sem,seval]
   refine hK _ (Aw_ret (hR7 _ (hR6 _ (hR3 _ (hR2 _ (hR1 _ (hQ _ ?_)))))))
   simp only [go_sem,seval,hf]
def gcs (g:Gt):List AV:=[iv g.r.f,iv g.r.b,isl g.r.path,iv g.r.like,isl g.r.marks,bv g.old]
def cGs:List Gt→List AV
 | []=>[]
 | g::l=>gcs g++cGs l
theorem cGs_len:∀ l:List Gt,(cGs l).length=l.length * 6
 | []=>rfl
 | g::l=>by
  rw [cGs,List.length_append,cGs_len l,List.length_cons]
  simp [gcs]
  omega
theorem cGs_app:∀ a b:List Gt,cGs (a++b)=cGs a++cGs b
 | [],_=>rfl
 | g::a,b=>by rw [List.cons_append,cGs,cGs_app a b,cGs,List.append_assoc]
theorem setL_app:∀ (xs a b:List AV),xs.length≤b.length→setL (a++b) a.length xs=a++(xs++b.drop xs.length)
 | [],a,b,_=>rfl
 | x::xs,a,[],h=>by simp at h
 | x::xs,a,y::b,h=>by
  have e:(a++y::b).set a.length x=(a++[x])++b:=by simp
  have ih:=setL_app xs (a++[x]) b (by simpa using h)
  rw [List.length_append,List.length_singleton] at ih
  rw [setL,e,ih]
  simp
theorem gcs_flat (f b:Int) (p:List Int) (k:Int) (m:List Int) (o:Bool):List.take 6 (flatA [[DV.v (.int .i64 f),.v (.int .i64 b),.sl (rows p),.v (.int .i64 k),.sl (rows m),.v (.bool o)]])=gcs ⟨⟨f,b,p,k,m⟩,o⟩:=rfl
theorem gcs_leaf (g:Gt):allLeaf (gcs g)=true:=rfl
theorem gcs_strip (d:Nat) (g:Gt):AV.stripLAll d (gcs g)=gcs g:=rfl
theorem cGs_strip (d:Nat):∀ l:List Gt,AV.stripLAll d (cGs l)=cGs l
 | []=>rfl
 | g::l=>by
  rw [AV.stripLAll_eq,cGs,List.map_append,← AV.stripLAll_eq,← AV.stripLAll_eq,gcs_strip,cGs_strip d l]
theorem cGs_nt:∀ l:List Gt,AV.ntAll (cGs l)=cGs l
 | []=>rfl
 | g::l=>by
  rw [ntAll_eq,cGs,List.map_append,← ntAll_eq,← ntAll_eq,cGs_nt l]
  rfl
theorem cGs_take (l:List Gt) (r:List AV):List.take (l.length * 6) (cGs l++r)=cGs l:=by
 rw [List.take_left' (cGs_len l)]
theorem cGs_in (l:List Gt) (g:Gt) (n:Nat) (h:1≤n):setL (cGs l++jk (n * 6)) (l.length * 6) (gcs g)=cGs (l++[g])++jk ((n - 1) * 6):=by
 rw [← cGs_len l,setL_app _ _ _ (by simp [gcs];omega),cGs_app]
 simp only [cGs,List.append_nil,List.append_assoc]
 congr 2
 have:(gcs g).length=6:=rfl
 rw [this,List.drop_replicate]
 congr 1
 omega
def copyGs (h:Int) (up:Bool) (l:List Gt) (K:AV→List (Nat × List AV)→Prop):Prop :=
 (l=[]→K (.agg [iv h,bv up,.xs 9 0 0 0 6]) [(2,[iv h,bv up,.xs 9 0 0 0 6]),(9,[])])∧
 (l≠[]→∀ cap,l.length≤cap→K (.agg [iv h,bv up,.xs 35 0 l.length cap 6]) [(2,[iv h,bv up,.xs 35 0 l.length cap 6]),(9,[]),(35,cGs l++jk ((cap - l.length) * 6))])
def cL21:ConM:={
 pre:=fun args m1=>∃ (h:Int) (up:Bool) (l:List Gt),args=[.agg [iv h,bv up,.sl none (grows l)]]∧m1=[]∧l.length≤1000∧lensG l
 post:=fun args _ r m2=>∀ (h:Int) (up:Bool) (l:List Gt),args=[.agg [iv h,bv up,.sl none (grows l)]]→∀ K:AV→List (Nat × List AV)→Prop,copyGs h up l K→K r m2 }
theorem rbav_inj {h h':Int} {up up':Bool} {l l':List Gt} (e:[AV.agg [iv h,bv up,.sl none (grows l)]]=[AV.agg [iv h',bv up',.sl none (grows l')]]):h=h'∧up=up'∧l=l':=by
 simp only [List.cons.injEq,AV.agg.injEq,AV.v.injEq,Value.int.injEq,Value.bool.injEq,AV.sl.injEq,true_and,and_true] at e
 refine ⟨e.1,e.2.1,?_⟩
 have:=congrArg gotsL e.2.2
 rw [gotsL_rows,gotsL_rows] at this
 exact Option.some.inj this
def l21S (h0:Int) (up:Bool) (l:List Gt):Nat × Nat→St
 | (0,_)=>⟨38,[(1,.loc 1 0),(2,.loc 2 0),(3,.loc 3 0),(4,iv 0)],[(1,[iv h0,bv up,.sl none (grows l)]),(2,[iv 0,bv false,.nl]),(3,[iv h0,bv up,.xs 9 0 0 0 6]),(9,[])],0⟩
 | (i + 1,c)=>⟨38,[(1,.loc 1 0),(2,.loc 2 0),(3,.loc 3 0),(4,iv (i + 1:Nat))],[(1,[iv h0,bv up,.sl none (grows l)]),(2,[iv 0,bv false,.nl]),(3,[iv h0,bv up,.xs 35 0 (i + 1) c 6]),(9,[]),(35,cGs (l.take (i + 1))++jk ((c - (i + 1)) * 6))],0⟩
theorem l21Copy_ok:FineM Tryz.prog 59 cL21:=by
 refine fineM_of [] ms_nil [] mm_nil [9,35] [] ex_nil (T:=TT) Tryz.func59 rfl Tryz.ntmps59 (by rw [Tryz.results59]) rfl rfl tt gs_nil (ds_cons l4Copy_ok ds_nil) ?_
 rintro args m1 ⟨h0,up,l,rfl,rfl,hll,hlen⟩
 refine ⟨by simp,fun E hE Q hQ=>?_⟩
 refine Aw_st hE [1,2] [1,2,3,9,35] fun K hK=>?_
 simp only [go_sem,reduceIte,Nat.reduceLT,Nat.reduceLeDiff,Nat.reduceEqDiff,Nat.reduceAdd,Nat.reduceMul,Nat.reduceSub,Nat.reduceBEq,Int.reduceToNat,List.reduceReplicate,reduceCtorEq]
 refine hK _ ?_;clear hK K
 refine Aw_st hE [1,2,3] [1,2,3,9,35] fun K hK=>?_
 simp only [go_sem,reduceIte,Nat.reduceLT,Nat.reduceLeDiff,Nat.reduceEqDiff,Nat.reduceAdd,Nat.reduceMul,Nat.reduceSub,Nat.reduceBEq,Int.reduceToNat,List.reduceReplicate,reduceCtorEq]
 refine hK _ ?_;clear hK K
 refine Aw_sq fun B1 hB1 hR1 hX1=>?_
 refine Aw_st hE [1,2,3,4] [1,2,3,9,35] fun K hK=>?_
 simp only [go_sem,reduceIte,Nat.reduceLT,Nat.reduceLeDiff,Nat.reduceEqDiff,Nat.reduceAdd,Nat.reduceMul,Nat.reduceSub,Nat.reduceBEq,Int.reduceToNat,List.reduceReplicate,reduceCtorEq]
 refine hK _ ?_;clear hK K
 refine Aw_bk fun B2 hN2 hE2 hR2 hX2=>?_
 refine Aw_lp (fun i:Nat × Nat=>l21S h0 up l i) (fun i=>i.1≤l.length∧i.1≤i.2) (fun i=>l.length - i.1) (0,0) (Le.refl _) ⟨by simp,by simp⟩ fun i hi B3 hN3 hR3 hX3=>?_
 obtain ⟨i,c⟩:=i
 obtain ⟨hi1,hi2⟩:=hi
 simp only at hi1 hi2
 refine Aw_sq fun B4 hB4 hR4 hX4=>?_
 cases i with
 | zero =>
  simp only [l21S]
  refine Aw_st hE [1,2,3,4,15] [1,2,3,9,35] fun K hK=>?_
  simp only [go_sem,reduceIte,Nat.reduceLT,Nat.reduceLeDiff,Nat.reduceEqDiff,Nat.reduceAdd,Nat.reduceMul,Nat.reduceSub,Nat.reduceBEq,Int.reduceToNat,List.reduceReplicate,reduceCtorEq]
  refine hK _ (Aw_cond rfl (fun hc5=>?_) (fun hc5=>?_))
  ·simp only [dte] at hc5
   have hil:0 < l.length:=by omega
   have hget:=grows_get l 0 hil
   have hln:=hlen _ (List.getElem_mem hil)
   have htk:=List.take_succ_eq_append_getElem hil
   generalize l[0]=x at hget hln htk
   obtain ⟨⟨rf,rb,p,rk,m⟩,old⟩:=x
   simp only at hln
   refine Aw_skip (hB4 _ ?_)
   refine Aw_sq fun B6 hB6 hR6 hX6=>?_
   refine Aw_bk fun B7 hN7 hE7 hR7 hX7=>?_
   refine Aw_te hE [0,2,4,9,11,1,3,5,6,7,8,10,12,13,14,15,16,17,18,19] [0,1,0,4,0,28,60,124,252,0,512,0,3584,7680,15872,32764,65532,131071,262143,524287] [1,2,3,4] [1,2,3,9,35] (by kernel_rfl) fun K hK=>?_
   simp only [go_sem,reduceIte,Nat.reduceLT,Nat.reduceLeDiff,Nat.reduceEqDiff,Nat.reduceAdd,Nat.reduceMul,Nat.reduceSub,Nat.reduceBEq,Int.reduceToNat,List.reduceReplicate,reduceCtorEq,hget,gcs_flat,gcs_leaf,gcs_strip]
   refine ⟨by omega,⟨by omega,by omega⟩,by omega,by simp,fun cap hcap=>?_⟩
   refine hK _ (hN7 _ (hB6 _ ?_))
   refine Aw_tx hE [1,2,3,4] [1,2,3,9,35] fun K hK=>?_
   simp only [go_sem,reduceIte,Nat.reduceLT,Nat.reduceLeDiff,Nat.reduceEqDiff,Nat.reduceAdd,Nat.reduceMul,Nat.reduceSub,Nat.reduceBEq,Int.reduceToNat,List.reduceReplicate,reduceCtorEq]
   repeat refine sd0 ?_
   refine hK _ (hN3 (1,cap) _ ⟨by simp only;omega,by simp only;omega⟩ (by simp only;omega) ?_)
   simp only [l21S]
   rw [htk]
   exact Le.refl _
  ·simp only [dfn] at hc5
   have hl0:l=[]:=List.eq_nil_of_length_eq_zero (by omega)
   refine Aw_exit (hX4 _ _ (hX3 _ _ (hE2 _ (hB1 _ ?_))))
   refine Aw_st hE [2] [2,9,35] fun K hK=>?_
   simp only [go_sem,reduceIte,Nat.reduceLT,Nat.reduceLeDiff,Nat.reduceEqDiff,Nat.reduceAdd,Nat.reduceMul,Nat.reduceSub,Nat.reduceBEq,Int.reduceToNat,List.reduceReplicate,reduceCtorEq]
   refine hK _ (Aw_ret (hQ _ ?_))
   simp only [go_sem,reduceIte,Nat.reduceLT,Nat.reduceLeDiff,Nat.reduceEqDiff,Nat.reduceAdd,Nat.reduceMul,Nat.reduceSub,Nat.reduceBEq,Int.reduceToNat,List.reduceReplicate,reduceCtorEq]
   intro h' up' l' he K' hK'
   obtain ⟨rfl,rfl,rfl⟩:=rbav_inj he
   exact hK'.1 hl0
 | succ j =>
  simp only [l21S]
  refine Aw_st hE [1,2,3,4,15] [1,2,3,9,35] fun K hK=>?_
  simp only [go_sem,reduceIte,Nat.reduceLT,Nat.reduceLeDiff,Nat.reduceEqDiff,Nat.reduceAdd,Nat.reduceMul,Nat.reduceSub,Nat.reduceBEq,Int.reduceToNat,List.reduceReplicate,reduceCtorEq]
  refine hK _ (Aw_cond rfl (fun hc5=>?_) (fun hc5=>?_))
  ·simp only [dte] at hc5
   have hil:j + 1 < l.length:=by omega
   have hget:=grows_get l (j + 1) hil
   have hln:=hlen _ (List.getElem_mem hil)
   have htk:=List.take_succ_eq_append_getElem hil
   generalize l[j + 1]=x at hget hln htk
   obtain ⟨⟨rf,rb,p,rk,m⟩,old⟩:=x
   simp only at hln
   refine Aw_skip (hB4 _ ?_)
   refine Aw_sq fun B6 hB6 hR6 hX6=>?_
   refine Aw_bk fun B7 hN7 hE7 hR7 hX7=>?_
   have htl:(l.take (j + 1)).length=j + 1:=by rw [List.length_take];omega
   have hin:=cGs_in (l.take (j + 1)) ⟨⟨rf,rb,p,rk,m⟩,old⟩ (c - (j + 1))
   have htk2:=cGs_take (l.take (j + 1)) (jk ((c - (j + 1)) * 6))
   rw [htl] at hin htk2
   refine Aw_te hE [0,2,4,9,11,1,3,5,6,7,8,10,12,13,14,15,16,17,18,19] [0,1,0,4,0,28,60,124,252,0,512,0,3584,7680,15872,32764,65532,131071,262143,524287] [1,2,3,4] [1,2,3,9,35] (by kernel_rfl) fun K hK=>?_
   simp only [go_sem,reduceIte,Nat.reduceLT,Nat.reduceLeDiff,Nat.reduceEqDiff,Nat.reduceAdd,Nat.reduceMul,Nat.reduceSub,Nat.reduceBEq,Int.reduceToNat,List.reduceReplicate,reduceCtorEq,hget,gcs_flat,gcs_leaf,gcs_strip,htk2,cGs_strip]
   refine ⟨by omega,⟨by omega,by omega⟩,by omega,⟨by simp,by omega,by rw [List.length_append,cGs_len,htl,List.length_replicate];omega⟩,fun hle=>?_,fun hgt cap hcap=>?_⟩
   ·rw [hin (by omega)]
    refine hK _ (hN7 _ (hB6 _ ?_))
    refine Aw_tx hE [1,2,3,4] [1,2,3,9,35] fun K hK=>?_
    simp only [go_sem,reduceIte,Nat.reduceLT,Nat.reduceLeDiff,Nat.reduceEqDiff,Nat.reduceAdd,Nat.reduceMul,Nat.reduceSub,Nat.reduceBEq,Int.reduceToNat,List.reduceReplicate,reduceCtorEq]
    repeat refine sd0 ?_
    refine hK _ (hN3 (j + 1 + 1,c) _ ⟨by simp only;omega,by simp only;omega⟩ (by simp only;omega) ?_)
    simp only [l21S]
    rw [htk,show c - (j + 1) - 1=c - (j + 1 + 1) by omega]
    exact Le.refl _
   ·refine hK _ (hN7 _ (hB6 _ ?_))
    refine Aw_tx hE [1,2,3,4] [1,2,3,9,35] fun K hK=>?_
    simp only [go_sem,reduceIte,Nat.reduceLT,Nat.reduceLeDiff,Nat.reduceEqDiff,Nat.reduceAdd,Nat.reduceMul,Nat.reduceSub,Nat.reduceBEq,Int.reduceToNat,List.reduceReplicate,reduceCtorEq]
    repeat refine sd0 ?_
    refine hK _ (hN3 (j + 1 + 1,cap) _ ⟨by simp only;omega,by simp only;omega⟩ (by simp only;omega) ?_)
    simp only [l21S]
    rw [htk,cGs_app]
    simp only [cGs,List.append_nil]
    exact Le.refl _
  ·simp only [dfn] at hc5
   refine Aw_exit (hX4 _ _ (hX3 _ _ (hE2 _ (hB1 _ ?_))))
   have hj:j + 1=l.length:=by omega
   rw [hj,List.take_length]
   refine Aw_st hE [2] [2,9,35] fun K hK=>?_
   simp only [go_sem,reduceIte,Nat.reduceLT,Nat.reduceLeDiff,Nat.reduceEqDiff,Nat.reduceAdd,Nat.reduceMul,Nat.reduceSub,Nat.reduceBEq,Int.reduceToNat,List.reduceReplicate,reduceCtorEq]
   refine hK _ (Aw_ret (hQ _ ?_))
   simp only [go_sem,reduceIte,Nat.reduceLT,Nat.reduceLeDiff,Nat.reduceEqDiff,Nat.reduceAdd,Nat.reduceMul,Nat.reduceSub,Nat.reduceBEq,Int.reduceToNat,List.reduceReplicate,reduceCtorEq]
   intro h' up' l' he K' hK'
   obtain ⟨rfl,rfl,rfl⟩:=rbav_inj he
   rw [cGs_nt]
   exact hK'.2 (fun e=>by rw [e] at hj;simp at hj) c (by omega)
def gD:List Gt→List DV
 | []=>[]
 | g::l=>g.row++gD l
theorem gD_len:∀ l:List Gt,(gD l).length=l.length * 6
 | []=>rfl
 | g::l=>by
  rw [gD,List.length_append,gD_len l,List.length_cons]
  simp [Gt.row]
  omega
theorem ofAll_cGs:∀ l:List Gt,DV.ofAll (cGs l)=some (gD l)
 | []=>rfl
 | g::l=>by
  have ih:=ofAll_cGs l
  simp only [cGs,gcs,List.cons_append,List.nil_append,DV.ofAll,DV.ofAV,ih,gD,Gt.row]
theorem chunks_gD:∀ l:List Gt,chunks 6 l.length (gD l)=grows l
 | []=>rfl
 | g::l=>by
  have h6:g.row.length=6:=rfl
  rw [List.length_cons,chunks,gD,grows_cons,List.take_left' h6,List.drop_left' h6,chunks_gD l]
theorem frz_grows (l:List Gt):chunks 6 l.length (List.take (l.length * 6) (gD l))=grows l:=by
 rw [List.take_of_length_le (Nat.le_of_eq (gD_len l)),chunks_gD]
theorem cGs_mvn (f:Nat→Option Nat):∀ l:List Gt,AV.mvnAll f (cGs l)=cGs l
 | []=>rfl
 | g::l=>by
  have ih:=cGs_mvn f l
  simp only [cGs,gcs,List.cons_append,List.nil_append,AV.mvnAll,AV.mvn,ih]
theorem cGs_stripF (F:Nat→Bool):∀ l:List Gt,AV.stripFAll F (cGs l)=cGs l
 | []=>rfl
 | g::l=>by
  have ih:=cGs_stripF F l
  simp only [cGs,gcs,List.cons_append,List.nil_append,AV.stripFAll,AV.stripF,ih]
theorem Aw_fG {E:En} {tb:Tb} (hE:TbOk E tb) (ht:tb.lent=false) {c:Code} {st:St} {Q:Exit→St→Prop} (d:Nat) (L:List Gt) {rest:List AV} (hl:lkm d st.m=some (cGs L++rest)) (h:Aw E c (st.frz d (gD L)) Q) (hk0:bk d=0:=by decide):Aw E c st Q :=
 Aw_frz hE ht d (L.length * 6) hl (by rw [List.take_left' (cGs_len L)];exact ofAll_cGs L) h hk0
theorem l21_pre (h:Int) (up:Bool) (l:List Gt):cL21.pre [.agg [iv h,bv up,.sl none (grows l)]] []=(l.length≤1000∧lensG l):=by
 apply propext
 constructor
 ·rintro ⟨h',up',l',e,_,h2⟩
  obtain ⟨rfl,rfl,rfl⟩:=rbav_inj e
  exact h2
 ·exact fun hh=>⟨h,up,l,rfl,rfl,hh⟩
theorem l21_post (h:Int) (up:Bool) (l:List Gt) (m1:List (Nat × List AV)) (K:AV→List (Nat × List AV)→Prop):(∀ r m2,cL21.post [.agg [iv h,bv up,.sl none (grows l)]] m1 r m2→K r m2)=copyGs h up l K:=by
 apply propext
 constructor
 ·intro hh
  refine ⟨fun hl=>hh _ _ ?_,fun hl cap hc=>hh _ _ ?_⟩
  all_goals
   intro h' up' l' e K' hK'
   obtain ⟨rfl,rfl,rfl⟩:=rbav_inj e
   first | exact hK'.1 hl | exact hK'.2 hl cap hc
 ·exact fun hh r m2 hp=>hp h up l rfl K hh
attribute [go_sem] l21_pre l21_post copyGs
def gRibUp:List AV→Option (Prop × AV)
 | [.agg [.v (.int .i64 h),.v (.bool up),.sl _ els]]=>(match gotsL els with
  | some l=>some (l.length≤1000∧lensG l,if ribOk ⟨h,up,l⟩ then .agg [iv h,bv true,.sl none (grows l)] else .agg [iv 0,bv false,.sl none (grows [])])
  | none=>none)
 | _=>none
def dRibUp:DFn:={ g:=gRibUp }
attribute [go_sem] gRibUp dRibUp
def oldG (g:Gt):Gt:=⟨g.r,true⟩
def dnL (n:Nat) (l:List Gt):List Gt:=(l.take n).map oldG++l.drop n
theorem dnL_len (n:Nat) (l:List Gt):(dnL n l).length=l.length:=by
 rw [dnL,List.length_append,List.length_map,← List.length_append,List.take_append_drop]
theorem dnL_step {n:Nat} {l:List Gt} (h:n < l.length) (xs:List AV):(cGs (dnL n l)++xs).set (n * 6 + 5) (bv true)=cGs (dnL (n + 1) l)++xs:=by
 have h1:(cGs ((l.take n).map oldG)).length=n * 6:=by rw [cGs_len,List.length_map,List.length_take];congr 1;omega
 rw [dnL,dnL,cGs_app,cGs_app,List.take_succ_eq_append_getElem h,List.map_append,cGs_app,List.drop_eq_getElem_cons h,List.append_assoc,List.set_append_right _ _ (by omega)]
 simp only [cGs,List.map_cons,List.map_nil,List.append_nil,List.append_assoc]
 congr 1
 rw [h1,show n * 6 + 5 - n * 6=5 by omega]
 rfl
theorem dnL_all (l:List Gt):dnL l.length l=l.map oldG:=by
 rw [dnL,List.take_length,List.drop_length,List.append_nil]
def gRibDown:List AV→Option (Prop × AV)
 | [.agg [.v (.int .i64 h),.v (.bool up),.sl _ els],.v (.bool g)]=>(match gotsL els with
  | some l=>some (l.length≤1000∧lensG l,if ribOk ⟨h,up,l⟩ then .agg [iv h,bv false,.sl none (grows (if g then l.map oldG else []))] else .agg [iv 0,bv false,.sl none (grows [])])
  | none=>none)
 | _=>none
def dRibDown:DFn:={ g:=gRibDown }
attribute [go_sem] gRibDown dRibDown
def newG (g:Gt):Gt:=⟨g.r,false⟩
def endL:List Gt→List Gt
 | []=>[]
 | g::l=>(if g.old then [] else [newG g])++endL l
theorem endL_app:∀ a b:List Gt,endL (a++b)=endL a++endL b
 | [],_=>rfl
 | g::a,b=>by rw [List.cons_append,endL,endL_app a b,endL,List.append_assoc]
theorem endL_len:∀ l:List Gt,(endL l).length≤l.length
 | []=>Nat.le_refl _
 | g::l=>by
  have:=endL_len l
  rw [endL,List.length_append,List.length_cons]
  split<;>simp<;>omega
def endS (h0:Int) (up:Bool) (t:Option (Nat × Nat × TypeId)) (l:List Gt) (k:Nat) (i c:Nat):List Gt→St
 | []=>⟨43,[(1,.loc 1 0),(2,.loc 2 0),(3,.loc 3 0),(4,iv i)],[(1,[iv h0,bv up,.sl t (grows l)]),(2,[iv 0,bv false,.nl]),(3,[iv h0,bv up,.xs 13 0 0 0 6]),(13,[])],k⟩
 | g::o=>⟨43,[(1,.loc 1 0),(2,.loc 2 0),(3,.loc 3 0),(4,iv i)],[(1,[iv h0,bv up,.sl t (grows l)]),(2,[iv 0,bv false,.nl]),(3,[iv h0,bv up,.xs 40 0 (g::o).length c 6]),(13,[]),(40,cGs (g::o)++jk ((c - (g::o).length) * 6))],k⟩
theorem endS_some {h0:Int} {up:Bool} {t:Option (Nat × Nat × TypeId)} {l:List Gt} {k i c:Nat} {o:List Gt} (h:o≠[]):endS h0 up t l k i c o=⟨43,[(1,.loc 1 0),(2,.loc 2 0),(3,.loc 3 0),(4,iv i)],[(1,[iv h0,bv up,.sl t (grows l)]),(2,[iv 0,bv false,.nl]),(3,[iv h0,bv up,.xs 40 0 o.length c 6]),(13,[]),(40,cGs o++jk ((c - o.length) * 6))],k⟩:=by
 cases o with
 | nil=>exact absurd rfl h
 | cons g o=>rfl
def gRibEnd:List AV→Option (Prop × AV)
 | [.agg [.v (.int .i64 h),.v (.bool up),.sl _ els]]=>(match gotsL els with
  | some l=>some (l.length≤1000∧lensG l,if ribOk ⟨h,up,l⟩ then .agg [iv h,bv up,.sl none (grows (endL l))] else .agg [iv 0,bv false,.sl none (grows [])])
  | none=>none)
 | _=>none
def dRibEnd:DFn:={ g:=gRibEnd }
attribute [go_sem] gRibEnd dRibEnd
def telStep (x:Rt) (s:List Gt × Bool) (g:Gt):List Gt × Bool :=
 if !s.2 && decide (0 < rCmp g.r.f g.r.b x.f x.b) then (s.1++[⟨x,false⟩]++[g],true) else (s.1++[g],s.2)
def telG (x:Rt) (l:List Gt):List Gt × Bool:=l.foldl (telStep x) ([],false)
theorem telG_snoc (x:Rt) (l:List Gt) (g:Gt):telG x (l++[g])=telStep x (telG x l) g:=by
 rw [telG,List.foldl_append];rfl
def telL (x:Rt) (l:List Gt):List Gt:=if (telG x l).2 then (telG x l).1 else (telG x l).1++[⟨x,false⟩]
def telR (b : Rb) (x : Rt) : AV :=
  if ribOk b && (okR x && decide (x.path.head? = some b.h)) then
    (if !b.up || (decide (atG b.all x.f x.b < 0) && decide (6 ≤ b.all.length)) then .tup [b.av, bv false]
     else if decide (0 ≤ atG b.all x.f x.b) then .tup [(⟨b.h, b.up, b.all.set (atG b.all x.f x.b).toNat ⟨x, false⟩⟩ : Rb).av, bv true]
     else .tup [(⟨b.h, b.up, telL x b.all⟩ : Rb).av, bv true])
  else .tup [.agg [iv 0, bv false, .sl none (grows [])], bv false]
def gRibTell:List AV→Option (Prop × AV)
 | [.agg [.v (.int .i64 h),.v (.bool up),.sl _ els],.agg [.v (.int .i64 f),.v (.int .i64 b),.sl _ e1,.v (.int .i64 k),.sl _ e2]]=>(match gotsL els,intsL e1,intsL e2 with
  | some l,some p,some m=>some ((l.length≤1000∧lensG l)∧p.length≤1000∧m.length≤900,telR ⟨h,up,l⟩ ⟨f,b,p,k,m⟩)
  | _,_,_=>none)
 | _=>none
def dRibTell:DFn:={ g:=gRibTell }
attribute [go_sem] gRibTell dRibTell
theorem Le_ks {st:St} (Ls Lm:List Nat):Le st (st.keep Ls Lm) :=
 Le_of (fun x=>by rw [lk_kps];split;exact .inl rfl;exact .inr rfl) (fun k ls hk=>lkm_kpm k _ Lm ls hk)
theorem swbAll_app (d d':Nat) (a b:List AV):AV.swbAll d d' (a++b)=AV.swbAll d d' a++AV.swbAll d d' b:=by simp only [AV.swbAll_eq,List.map_append]
theorem swbAll_jk (d d' n:Nat):AV.swbAll d d' (List.replicate n .junk)=List.replicate n .junk:=by simp only [AV.swbAll_eq,List.map_replicate,AV.swb]
theorem gcs_swb (d d':Nat) (g:Gt):AV.swbAll d d' (gcs g)=gcs g:=rfl
theorem cGs_swb (d d':Nat):∀ l:List Gt,AV.swbAll d d' (cGs l)=cGs l
 | []=>rfl
 | g::l=>by rw [cGs,swbAll_app,gcs_swb,cGs_swb d d' l]
theorem atG_ge {l:List Gt} {f b:Int} (h:0≤atG l f b):∃ i,i < l.length∧atG l f b=(i:Nat):=by
 rcases idxB_some (f:=sameRg f b) (l:=l) (k:=0) with ⟨h1,_⟩ | ⟨i,h,h1,_⟩
 ·unfold atG at h;omega
 ·exact ⟨i,h,by unfold atG;rw [h1];simp⟩
theorem telF_len (x:Rt):∀ (l:List Gt) (s:List Gt × Bool),(l.foldl (telStep x) s).1.length≤s.1.length + l.length + (if s.2 then 0 else 1)
 | [],s=>by simp only [List.foldl_nil,List.length_nil];omega
 | g::l,s=>by
  have ih:=telF_len x l (telStep x s g)
  rw [List.foldl_cons,List.length_cons]
  refine Nat.le_trans ih ?_
  unfold telStep
  cases hs:s.2 with
  | true=>simp;omega
  | false =>
   simp only [Bool.not_false,Bool.true_and]
   split<;>simp<;>omega
theorem telG_len (x:Rt) (l:List Gt):(telG x l).1.length≤l.length + 1:=by
 have:=telF_len x l ([],false)
 simp only [List.length_nil,Bool.false_eq_true,if_false] at this
 unfold telG;omega
def telS (h0:Int) (up:Bool) (t:Option (Nat × Nat × TypeId)) (l:List Gt) (xf xb:Int) (t1:Option (Nat × Nat × TypeId)) (p:List Int) (xk:Int) (t2:Option (Nat × Nat × TypeId)) (m:List Int) (k:Nat) (i:Nat) (put:Bool) (c:Nat):List Gt→St
 | []=>⟨120,[(2,.loc 2 0),(3,.loc 3 0),(4,.loc 4 0),(6,.loc 6 0),(8,bv put),(9,iv i)],[(2,[iv h0,bv up,.sl t (grows l)]),(3,[iv xf,iv xb,.sl t1 (rows p),iv xk,.sl t2 (rows m)]),(4,[iv 0,bv false,.nl]),(6,[iv h0,bv up,.xs 58 0 0 0 6]),(58,[])],k⟩
 | g::o=>⟨120,[(2,.loc 2 0),(3,.loc 3 0),(4,.loc 4 0),(6,.loc 6 0),(8,bv put),(9,iv i)],[(2,[iv h0,bv up,.sl t (grows l)]),(3,[iv xf,iv xb,.sl t1 (rows p),iv xk,.sl t2 (rows m)]),(4,[iv 0,bv false,.nl]),(6,[iv h0,bv up,.xs 107 0 (g::o).length c 6]),(58,[]),(107,cGs (g::o)++jk ((c - (g::o).length) * 6))],k⟩
theorem telS_some {h0:Int} {up:Bool} {t:Option (Nat × Nat × TypeId)} {l:List Gt} {xf xb:Int} {t1:Option (Nat × Nat × TypeId)} {p:List Int} {xk:Int} {t2:Option (Nat × Nat × TypeId)} {m:List Int} {k i:Nat} {put:Bool} {c:Nat} {o:List Gt} (h:o≠[]):telS h0 up t l xf xb t1 p xk t2 m k i put c o=⟨120,[(2,.loc 2 0),(3,.loc 3 0),(4,.loc 4 0),(6,.loc 6 0),(8,bv put),(9,iv i)],[(2,[iv h0,bv up,.sl t (grows l)]),(3,[iv xf,iv xb,.sl t1 (rows p),iv xk,.sl t2 (rows m)]),(4,[iv 0,bv false,.nl]),(6,[iv h0,bv up,.xs 107 0 o.length c 6]),(58,[]),(107,cGs o++jk ((c - o.length) * 6))],k⟩:=by
 cases o with
 | nil=>exact absurd rfl h
 | cons g o=>rfl
theorem Le_kb {st st':St} (L:List Nat) (h:({ st with m:=kpm L st.m }:St)=st'):Le st st':=by
 subst h
 exact Le_of (fun x=>.inl rfl) (fun k ls hk=>lkm_kpm k _ L ls hk)
theorem setG (g:Gt) (r:List AV) (n:Nat) (v:AV):(gcs g++r).set (6 + n) v=gcs g++r.set n v:=by
 have h6:(gcs g).length=6:=rfl
 rw [List.set_append_right _ _ (by omega),h6,Nat.add_sub_cancel_left]
theorem set6 (f b:Int) (p:List Int) (k:Int) (m:List Int) (o:Bool) (xs:List AV):∀ (l:List Gt) (i:Nat),i < l.length→
  ((((((cGs l++xs).set (i * 6) (iv f)).set (i * 6 + 1) (iv b)).set (i * 6 + 1 + 1) (isl p)).set (i * 6 + 1 + 1 + 1) (iv k)).set (i * 6 + 1 + 1 + 1 + 1) (isl m)).set (i * 6 + 1 + 1 + 1 + 1 + 1) (bv o)=cGs (l.set i ⟨⟨f,b,p,k,m⟩,o⟩)++xs
 | [],i,h=>by simp at h
 | g::l,0,_=>rfl
 | g::l,i + 1,h=>by
  have ih:=set6 f b p k m o xs l i (by simpa using h)
  rw [show (i + 1) * 6=6 + i * 6 by omega,show 6 + i * 6 + 1=6 + (i * 6 + 1) by omega,show 6 + (i * 6 + 1) + 1=6 + (i * 6 + 1 + 1) by omega,show 6 + (i * 6 + 1 + 1) + 1=6 + (i * 6 + 1 + 1 + 1) by omega,show 6 + (i * 6 + 1 + 1 + 1) + 1=6 + (i * 6 + 1 + 1 + 1 + 1) by omega,show 6 + (i * 6 + 1 + 1 + 1 + 1) + 1=6 + (i * 6 + 1 + 1 + 1 + 1 + 1) by omega,cGs,List.append_assoc,setG,setG,setG,setG,setG,setG,ih,List.set_cons_succ,cGs,List.append_assoc]
theorem Le_E {E:En} {a b:St} (h:Le a b):LeE E a b:=fun x w r=>h E x w r
def cFromD:Con:={ pre:=fun args=>∃ h:Int,args=[.rd,iv h],post:=fun _ r=>∃ x:Rt,(x.path.length≤3∧x.marks.length≤9)∧r=x.av,cost:=30,draws:=true }
theorem cFromD_own:cFromD.own=false:=rfl
theorem cFromD_draws:cFromD.draws=true:=rfl
theorem cFromD_cost:cFromD.cost=30:=rfl
attribute [go_sem] cFromD_own cFromD_draws cFromD_cost
theorem l92From_ok:Fine Tryz.prog 42 cFromD:=by
 refine fine_of (T:=TT) Tryz.func42 rfl Tryz.ntmps42 (by rw [Tryz.results42]) rfl rfl tt (gs_cons l91Range_ok (gs_cons pick_ok (gs_cons l91Marks_ok gs_nil))) (ds_cons sRangeOk_ok (ds_cons has3_ok ds_nil)) ?_
 rintro args ⟨h0,rfl⟩
 refine ⟨by simp,fun k hk E hE Q hQ=>?_⟩
 have hk:=hk rfl
 simp only [go_sem] at hk
 refine Aw_st hE [0,1,4] [4] fun K hK=>?_
 simp only [go_sem,seval]
 repeat refine sd0 ?_
 refine hK _ ?_;clear hK K
 refine Aw_st hE [0,4,5] [4,5] fun K hK=>?_
 simp only [go_sem,seval,rows_one]
 repeat refine sd0 ?_
 repeat' (first | (refine And.intro (by first | omega | decide) ?_) | intro)
 rename_i f b hfb like hl1 hl2 ms hms
 refine hK _ ?_;clear hK K
 refine Aw_sqJ (fun q:Int × Int=>⟨52,[(0,.rd),(4,.loc 4 0),(5,.loc 5 0)],[(4,[iv 0,iv 0,.nl,iv 0,.nl]),(5,[iv q.1,iv q.2,.sl (some (11,0,3)) (rows [h0]),iv like,.sl (some (15,0,3)) (rows ms)])],k + 18⟩) (fun q:Int × Int=>True) (fun i hi=>?_) fun B1 hB1 hR1 hX1=>?_
 ·refine Aw_sqJ (fun q:Int × Int=>⟨52,[(0,.rd),(4,.loc 4 0),(5,.loc 5 0)],[(4,[iv 0,iv 0,.nl,iv 0,.nl]),(5,[iv q.1,iv q.2,.sl (some (11,0,3)) (rows [h0]),iv like,.sl (some (15,0,3)) (rows ms)])],k + 20⟩) (fun q:Int × Int=>True) (fun i hi=>?_) fun B2 hB2 hR2 hX2=>?_
  ·refine Aw_sq fun B3 hB3 hR3 hX3=>?_
   obtain ⟨rf,rb⟩:=i
   refine Aw_st hE [0,4,5,6] [4,5] fun K hK=>?_
   simp only [go_sem,seval]
   repeat refine sd0 ?_
   repeat' (first | (refine And.intro (by first | omega | decide) ?_) | intro)
   rename_i n0 hn1 hn2
   refine hK _ ?_;clear hK K
   refine Aw_bk fun B4 hN4 hE4 hR4 hX4=>?_
   refine Aw_lp (fun (i:List Int × Int)=>⟨52,[(0,.rd),(4,.loc 4 0),(5,.loc 5 0),(6,iv i.2)],[(4,[iv 0,iv 0,.nl,iv 0,.nl]),(5,[iv rf,iv rb,.sl (some (11,0,3)) (rows i.1),iv like,.sl (some (15,0,3)) (rows ms)])],k + 25 - i.2.toNat⟩) (fun (i:List Int × Int)=>i.1.length + i.2≤3∧0≤i.2) (fun (i:List Int × Int)=>i.2.toNat) (([h0],n0)) (Le_rn (by first | omega | (dsimp only;omega) | (simp only;omega) | (simp;omega))) (⟨by simp;omega,by simp;omega⟩) fun i hi B5 hN5 hR5 hX5=>?_
   refine Aw_sq fun B6 hB6 hR6 hX6=>?_
   refine Aw_st hE [0,4,5,6,34] [4,5] fun K hK=>?_
   simp only [go_sem,seval]
   repeat refine sd0 ?_
   refine hK _ (Aw_cond rfl (fun hc7=>?_) (fun hc7=>?_))
   ·simp only [dte] at hc7
    refine Aw_skip (hB6 _ ?_)
    refine Aw_sq fun B8 hB8 hR8 hX8=>?_
    refine Aw_bk fun B9 hN9 hE9 hR9 hX9=>?_
    refine Aw_st hE [0,4,5,6,7] [4,5] fun K hK=>?_
    simp only [go_sem,seval]
    repeat refine sd0 ?_
    repeat' (first | (refine And.intro (by first | omega | decide) ?_) | intro)
    rename_i x hx1 hx2
    refine hK _ ?_;clear hK K
    refine Aw_st hE [0,4,5,6,7,44] [4,5] fun K hK=>?_
    simp only [go_sem,seval]
    repeat refine sd0 ?_
    refine hK _ (Aw_cond rfl (fun hc10=>?_) (fun hc10=>?_))
    ·refine Aw_tx hE [0,4,5,6] [4,5] fun K hK=>?_
     simp only [go_sem,seval,rows_one]
     repeat refine sd0 ?_
     refine hK _ (hN9 _ (hB8 _ ?_))
     refine Aw_tx hE [0,4,5,6] [4,5] fun K hK=>?_
     simp only [go_sem,seval]
     repeat refine sd0 ?_
     refine hK _ (hN5 ((i.1++[1 + x],i.2 - 1)) _ (⟨by simp;omega,by first | omega | (dsimp only;omega) | (simp only;omega) | (simp;omega)⟩) (by first | omega | (dsimp only;omega) | (simp only;omega) | (simp;omega)) ((Le_tk 49 11 rfl).trans (Le_rn (by first | omega | (dsimp only;omega) | (simp only;omega) | (simp;omega)))))
    ·refine Aw_skip (hN9 _ (hB8 _ ?_))
     refine Aw_tx hE [0,4,5,6] [4,5] fun K hK=>?_
     simp only [go_sem,seval]
     repeat refine sd0 ?_
     refine hK _ (hN5 ((i.1,i.2 - 1)) _ (⟨by first | omega | (dsimp only;omega) | (simp only;omega) | (simp;omega),by first | omega | (dsimp only;omega) | (simp only;omega) | (simp;omega)⟩) (by first | omega | (dsimp only;omega) | (simp only;omega) | (simp;omega)) (Le_rn (by first | omega | (dsimp only;omega) | (simp only;omega) | (simp;omega))))
   ·simp only [dfn] at hc7
    refine Aw_exit (hX6 _ _ (hX5 _ _ (hE4 _ (hB3 _ ?_))))
    refine Aw_st hE [4] [4] fun K hK=>?_
    simp only [go_sem,seval]
    repeat refine sd0 ?_
    refine hK _ (Aw_ret (hQ _ ?_))
    simp only [go_sem,seval]
    exact ⟨by omega,⟨rf,rb,i.1,like,ms⟩,⟨by first | omega | (dsimp only;omega) | (simp only;omega) | (simp;omega),by first | omega | (dsimp only;omega) | (simp only;omega) | (simp;omega)⟩,rfl⟩
  refine Aw_st hE [0,4,5,25] [4,5] fun K hK=>?_
  simp only [go_sem,seval]
  repeat refine sd0 ?_
  repeat' (first | (refine And.intro (by first | omega | decide) ?_) | intro)
  rename_i u hu1 hu2
  refine hK _ (Aw_cond rfl (fun hc11=>?_) (fun hc11=>?_))
  ·refine Aw_tx hE [0,4,5] [4,5] fun K hK=>?_
   simp only [go_sem,seval]
   repeat refine sd0 ?_
   repeat' (first | (refine And.intro (by first | omega | decide) ?_) | intro)
   rename_i v hv1 hv2
   refine hK _ (hB2 ((32 * v,3)) _ (trivial) ((Le_wa) E))
  ·refine Aw_skip (hB2 (i) _ (trivial) ((Le_wa) E))
 refine Aw_st hE [0,4,5,20] [4,5] fun K hK=>?_
 simp only [go_sem,seval]
 repeat refine sd0 ?_
 refine hK _ (Aw_cond rfl (fun hc12=>?_) (fun hc12=>?_))
 ·refine Aw_tx hE [0,4,5] [4,5] fun K hK=>?_
  simp only [go_sem,seval]
  repeat refine sd0 ?_
  refine hK _ (hB1 ((0,1)) _ (trivial) ((Le_wa) E))
 ·refine Aw_skip (hB1 ((f,b)) _ (trivial) ((Le_wa) E))
def handG (r:Nat) (h:Int) (up:Bool) (l:List Gt) (K:AV→List (Nat × List AV)→Prop):Prop :=
 ∀ cap,l.length≤cap→K (.agg [iv h,bv up,.xs 900 0 l.length cap 6]) [(r,[iv h,bv up,.xs 900 0 l.length cap 6]),(900,cGs l++jk ((cap - l.length) * 6))]
def hand0 (r:Nat) (K:AV→List (Nat × List AV)→Prop):Prop:=K (.agg [iv 0,bv false,.nl]) [(r,[iv 0,bv false,.nl])]
def upC (h:Int) (up:Bool) (l:List Gt) (K:AV→List (Nat × List AV)→Prop):Prop :=
 (ribOk ⟨h,up,l⟩=false→hand0 2 K)∧(ribOk ⟨h,up,l⟩=true→handG 2 h true l K)
def cUpM:ConM:={
 pre:=fun args m1=>∃ (h:Int) (up:Bool) (l:List Gt),args=[.agg [iv h,bv up,.sl none (grows l)]]∧m1=[]∧l.length≤1000∧lensG l
 post:=fun args _ r m2=>∀ (h:Int) (up:Bool) (l:List Gt),args=[.agg [iv h,bv up,.sl none (grows l)]]→∀ K:AV→List (Nat × List AV)→Prop,upC h up l K→K r m2 }
theorem ribUpM_ok:FineM Tryz.prog 39 cUpM:=by
 refine fineM_of [] ms_nil [(59,(cL21,[],[(2,100),(9,200),(35,300)]))] (mm_cons l21Copy_ok (by decide) mm_nil) [] [] ex_nil (T:=TT) Tryz.func39 rfl Tryz.ntmps39 (by rw [Tryz.results39]) rfl rfl tt gs_nil (ds_cons sRibOk_ok ds_nil) ?_
 rintro args m1 ⟨h0,up,l,rfl,rfl,hc⟩
 refine ⟨by simp,fun E hE Q hQ=>?_⟩
 refine Aw_st hE [1,2] [1,2,3,209,309] fun K hK=>?_
 simp only [go_sem,seval]
 refine hK _ ?_;clear hK K
 refine Aw_sq fun B1 hB1 hR1 hX1=>?_
 refine Aw_st hE [1,2,6] [1,2,3,209,309] fun K hK=>?_
 simp only [go_sem,seval]
 refine ⟨⟨by omega,hc.2⟩,?_⟩
 refine hK _ (Aw_cond rfl (fun hc2=>?_) (fun hc2=>?_))
 ·have hok:ribOk ⟨h0,up,l⟩=false:=by simpa using hc2
  refine Aw_st hE [2] [2] fun K hK=>?_
  simp only [go_sem,seval]
  refine hK _ (Aw_ret (hR1 _ (hQ _ ?_)))
  simp only [go_sem,seval]
  intro h' up' l' he K' hK'
  obtain ⟨rfl,rfl,rfl⟩:=rbav_inj he
  exact hK'.1 hok
 ·have hok:ribOk ⟨h0,up,l⟩=true:=by simpa using hc2
  refine Aw_skip (hB1 _ ?_)
  refine Aw_st hE [2,3] [1,2,3,209,309] fun K hK=>?_
  simp only [go_sem,seval,cGs_mvn,cGs_strip]
  refine ⟨by decide,hc,fun hl0=>?_,fun hl0 cap hcap=>?_⟩
  ·subst hl0
   refine hK _ ?_;clear hK K
   refine Aw_st hE [2,3] [1,2,3,209,309] fun K hK=>?_
   simp only [go_sem,seval]
   refine hK _ ?_;clear hK K
   refine Aw_st hE [2] [1,2,3,209,309] fun K hK=>?_
   simp only [go_sem,seval]
   refine hK _ ?_
   refine Aw.leE (Le_E (Le_swb _ 209 900 (by decide) (by decide))) ?_
   simp only [St.swb,swbσ,swbm,AV.swb,AV.swbAll,swp,swbAll_app,swbAll_jk,gcs_swb,cGs_swb,Nat.reduceEqDiff,if_true,if_false,reduceIte]
   refine Aw.leE (Le_E (Le_ks [2] [2,900])) ?_
   refine Aw_ret (hQ _ ?_)
   simp only [go_sem,seval]
   intro h' up' l' he K' hK'
   obtain ⟨rfl,rfl,rfl⟩:=rbav_inj (l:=[]) he
   exact hK'.2 hok 0 (Nat.le_refl _)
  ·refine hK _ ?_;clear hK K
   refine Aw_st hE [2,3] [1,2,3,209,309] fun K hK=>?_
   simp only [go_sem,seval,cGs_nt,cGs_stripF]
   refine hK _ ?_;clear hK K
   refine Aw_st hE [2] [1,2,3,209,309] fun K hK=>?_
   simp only [go_sem,seval,cGs_nt,cGs_stripF]
   refine hK _ ?_
   refine Aw.leE (Le_E (Le_swb _ 309 900 (by decide) (by decide))) ?_
   simp only [St.swb,swbσ,swbm,AV.swb,AV.swbAll,swp,swbAll_app,swbAll_jk,gcs_swb,cGs_swb,Nat.reduceEqDiff,if_true,if_false,reduceIte]
   refine Aw.leE (Le_E (Le_ks [2] [2,900])) ?_
   refine Aw_ret (hQ _ ?_)
   simp only [go_sem,seval,cGs_nt,cGs_stripF]
   intro h' up' l' he K' hK'
   obtain ⟨rfl,rfl,rfl⟩:=rbav_inj he
   exact hK'.2 hok cap hcap
def dnC (h:Int) (up:Bool) (l:List Gt) (g:Bool) (K:AV→List (Nat × List AV)→Prop):Prop :=
 (ribOk ⟨h,up,l⟩=false→hand0 4 K)∧(ribOk ⟨h,up,l⟩=true→handG 4 h false (if g then l.map oldG else []) K)
def cDownM:ConM:={
 pre:=fun args m1=>∃ (h:Int) (up:Bool) (l:List Gt) (g:Bool),args=[.agg [iv h,bv up,.sl none (grows l)],bv g]∧m1=[]∧l.length≤1000∧lensG l
 post:=fun args _ r m2=>∀ (h:Int) (up:Bool) (l:List Gt) (g:Bool),args=[.agg [iv h,bv up,.sl none (grows l)],bv g]→∀ K:AV→List (Nat × List AV)→Prop,dnC h up l g K→K r m2 }
theorem rbav1_inj {h h':Int} {up up':Bool} {l l':List Gt} {g g':Bool} (e:[AV.agg [iv h,bv up,.sl none (grows l)],bv g]=[AV.agg [iv h',bv up',.sl none (grows l')],bv g']):h=h'∧up=up'∧l=l'∧g=g':=by
 obtain ⟨e1,e2⟩:=List.cons.inj e
 obtain ⟨a,b,c⟩:=rbav_inj (congrArg (fun z=>[z]) e1)
 refine ⟨a,b,c,?_⟩
 simpa using e2
theorem ribDownM_ok:FineM Tryz.prog 38 cDownM:=by
 refine fineM_of [] ms_nil [(59,(cL21,[],[(2,100),(9,200),(35,300)]))] (mm_cons l21Copy_ok (by decide) mm_nil) [16] [] ex_nil (T:=TT) Tryz.func38 rfl Tryz.ntmps38 (by rw [Tryz.results38]) rfl rfl tt gs_nil (ds_cons sRibOk_ok ds_nil) ?_
 rintro args m1 ⟨h0,up,l,g,rfl,rfl,hc⟩
 refine ⟨by simp,fun E hE Q hQ=>?_⟩
 refine Aw_st hE [1,2,4] [1,2,3,4,5,6,16,212,312] fun K hK=>?_
 simp only [go_sem,seval]
 refine hK _ ?_;clear hK K
 refine Aw_sq fun B1 hB1 hR1 hX1=>?_
 refine Aw_st hE [1,2,4,9] [1,2,3,4,5,6,16,212,312] fun K hK=>?_
 simp only [go_sem,seval]
 refine ⟨⟨by omega,hc.2⟩,?_⟩
 refine hK _ (Aw_cond rfl (fun hc2=>?_) (fun hc2=>?_))
 ·have hok:ribOk ⟨h0,up,l⟩=false:=by simpa using hc2
  refine Aw_st hE [4] [4] fun K hK=>?_
  simp only [go_sem,seval]
  refine hK _ (Aw_ret (hR1 _ (hQ _ ?_)))
  simp only [go_sem,seval]
  intro h' up' l' g' he K' hK'
  obtain ⟨rfl,rfl,rfl,rfl⟩:=rbav1_inj he
  exact hK'.1 hok
 ·have hok:ribOk ⟨h0,up,l⟩=true:=by simpa using hc2
  refine Aw_skip (hB1 _ ?_)
  refine Aw_st hE [1,4,5] [1,2,3,4,5,6,16,212,312] fun K hK=>?_
  simp only [go_sem,seval,cGs_mvn,cGs_strip]
  refine ⟨by decide,hc,fun hl0=>?_,fun hl0 cap hcap=>?_⟩
  ·subst hl0
   refine hK _ ?_;clear hK K
   refine Aw_st hE [1,4,5] [1,2,3,4,5,6,16,212,312] fun K hK=>?_
   simp only [go_sem,seval,cGs_nt,cGs_stripF]
   refine hK _ ?_;clear hK K
   refine Aw_sq fun B3 hB3 hR3 hX3=>?_
   refine Aw_st hE [4,5,15] [1,2,3,4,5,6,16,212,312] fun K hK=>?_
   simp only [go_sem,seval,cGs_nt,cGs_stripF]
   refine hK _ (Aw_cond rfl (fun hc4=>?_) (fun hc4=>?_))
   ·have hg:g=false:=by simpa using hc4
    subst hg
    refine Aw_tx hE [4,5] [1,2,3,4,5,6,16,212,312] fun K hK=>?_
    simp only [go_sem,seval]
    refine hK _ (hB3 _ ?_)
    refine Aw_sq fun B5 hB5 hR5 hX5=>?_
    refine Aw_st hE [4,5,6] [1,2,3,4,5,6,16,212,312] fun K hK=>?_
    simp only [go_sem,seval]
    refine hK _ ?_;clear hK K
    refine Aw_bk fun B6 hN6 hE6 hR6 hX6=>?_
    refine Aw_unr 1 (Aw_rd fun B7 hN7 hR7 hX7=>?_)
    refine Aw_sq fun B8 hB8 hR8 hX8=>?_
    refine Aw_st hE [4,5,6,22] [1,2,3,4,5,6,16,212,312] fun K hK=>?_
    simp only [go_sem,seval]
    refine hK _ (Aw_no rfl (Aw_exit (hX8 _ _ (hX7 _ _ (hE6 _ (hB5 _ ?_))))))
    refine Aw_st hE [4] [1,2,3,4,5,6,16,212,312] fun K hK=>?_
    simp only [go_sem,seval]
    refine hK _ ?_
    refine Aw.leE (Le_E (Le_swb _ 16 900 (by decide) (by decide))) ?_
    simp only [St.swb,swbσ,swbm,AV.swb,AV.swbAll,swp,swbAll_app,swbAll_jk,gcs_swb,cGs_swb,Nat.reduceEqDiff,if_true,if_false,reduceIte]
    refine Aw.leE (Le_E (Le_ks [4] [4,900])) ?_
    refine Aw_ret (hQ _ ?_)
    simp only [go_sem,seval,cGs_nt,cGs_stripF]
    intro h' up' l' g' he K' hK'
    obtain ⟨rfl,rfl,rfl,rfl⟩:=rbav1_inj (l:=[]) he
    exact hK'.2 hok 0 (Nat.le_refl _)
   ·have hg:g=true:=by simpa using hc4
    subst hg
    refine Aw_skip (hB3 _ ?_)
    refine Aw_sq fun B5 hB5 hR5 hX5=>?_
    refine Aw_st hE [4,5,6] [1,2,3,4,5,6,16,212,312] fun K hK=>?_
    simp only [go_sem,seval]
    refine hK _ ?_;clear hK K
    refine Aw_bk fun B6 hN6 hE6 hR6 hX6=>?_
    refine Aw_unr 1 (Aw_rd fun B7 hN7 hR7 hX7=>?_)
    refine Aw_sq fun B8 hB8 hR8 hX8=>?_
    refine Aw_st hE [4,5,6,22] [1,2,3,4,5,6,16,212,312] fun K hK=>?_
    simp only [go_sem,seval]
    refine hK _ (Aw_no rfl (Aw_exit (hX8 _ _ (hX7 _ _ (hE6 _ (hB5 _ ?_))))))
    refine Aw_st hE [4] [1,2,3,4,5,6,16,212,312] fun K hK=>?_
    simp only [go_sem,seval]
    refine hK _ ?_
    refine Aw.leE (Le_E (Le_swb _ 212 900 (by decide) (by decide))) ?_
    simp only [St.swb,swbσ,swbm,AV.swb,AV.swbAll,swp,swbAll_app,swbAll_jk,gcs_swb,cGs_swb,Nat.reduceEqDiff,if_true,if_false,reduceIte]
    refine Aw.leE (Le_E (Le_ks [4] [4,900])) ?_
    refine Aw_ret (hQ _ ?_)
    simp only [go_sem,seval,cGs_nt,cGs_stripF]
    intro h' up' l' g' he K' hK'
    obtain ⟨rfl,rfl,rfl,rfl⟩:=rbav1_inj (l:=[]) he
    exact hK'.2 hok 0 (Nat.le_refl _)
  ·refine hK _ ?_;clear hK K
   refine Aw_st hE [1,4,5] [1,2,3,4,5,6,16,212,312] fun K hK=>?_
   simp only [go_sem,seval,cGs_nt,cGs_stripF]
   refine hK _ ?_;clear hK K
   refine Aw_sq fun B3 hB3 hR3 hX3=>?_
   refine Aw_st hE [4,5,15] [1,2,3,4,5,6,16,212,312] fun K hK=>?_
   simp only [go_sem,seval,cGs_nt,cGs_stripF]
   refine hK _ (Aw_cond rfl (fun hc4=>?_) (fun hc4=>?_))
   ·have hg:g=false:=by simpa using hc4
    subst hg
    refine Aw_tx hE [4,5] [1,2,3,4,5,6,16,212,312] fun K hK=>?_
    simp only [go_sem,seval]
    refine hK _ (hB3 _ ?_)
    refine Aw_sq fun B5 hB5 hR5 hX5=>?_
    refine Aw_st hE [4,5,6] [1,2,3,4,5,6,16,212,312] fun K hK=>?_
    simp only [go_sem,seval]
    refine hK _ ?_;clear hK K
    refine Aw_bk fun B6 hN6 hE6 hR6 hX6=>?_
    refine Aw_unr 1 (Aw_rd fun B7 hN7 hR7 hX7=>?_)
    refine Aw_sq fun B8 hB8 hR8 hX8=>?_
    refine Aw_st hE [4,5,6,22] [1,2,3,4,5,6,16,212,312] fun K hK=>?_
    simp only [go_sem,seval]
    refine hK _ (Aw_no rfl (Aw_exit (hX8 _ _ (hX7 _ _ (hE6 _ (hB5 _ ?_))))))
    refine Aw_st hE [4] [1,2,3,4,5,6,16,212,312] fun K hK=>?_
    simp only [go_sem,seval]
    refine hK _ ?_
    refine Aw.leE (Le_E (Le_swb _ 16 900 (by decide) (by decide))) ?_
    simp only [St.swb,swbσ,swbm,AV.swb,AV.swbAll,swp,swbAll_app,swbAll_jk,gcs_swb,cGs_swb,Nat.reduceEqDiff,if_true,if_false,reduceIte]
    refine Aw.leE (Le_E (Le_ks [4] [4,900])) ?_
    refine Aw_ret (hQ _ ?_)
    simp only [go_sem,seval,cGs_nt,cGs_stripF]
    intro h' up' l' g' he K' hK'
    obtain ⟨rfl,rfl,rfl,rfl⟩:=rbav1_inj he
    exact hK'.2 hok 0 (Nat.le_refl _)
   ·have hg:g=true:=by simpa using hc4
    subst hg
    refine Aw_skip (hB3 _ ?_)
    refine Aw_sq fun B5 hB5 hR5 hX5=>?_
    refine Aw_st hE [4,5,6] [1,2,3,4,5,6,16,212,312] fun K hK=>?_
    simp only [go_sem,seval,cGs_nt,cGs_stripF]
    refine hK _ ?_;clear hK K
    refine Aw_bk fun B6 hN6 hE6 hR6 hX6=>?_
    refine Aw_lp (fun i:Nat=>⟨31,[(4,.loc 4 0),(5,.loc 5 0),(6,iv i)],[(2,[iv h0,bv up,.sl none (grows l)]),(4,[iv 0,bv false,.nl]),(5,[iv h0,bv false,.xs 312 0 l.length cap 6]),(212,[]),(312,cGs (dnL i l)++List.replicate ((cap - l.length) * 6) .junk)],0⟩) (fun i=>i≤l.length) (fun i=>l.length - i) 0 (Le.refl _) (by omega) fun i hi B7 hN7 hR7 hX7=>?_
    refine Aw_sq fun B8 hB8 hR8 hX8=>?_
    refine Aw_st hE [4,5,6,22] [1,2,3,4,5,6,16,212,312] fun K hK=>?_
    simp only [go_sem,seval,cGs_nt,cGs_stripF]
    refine hK _ (Aw_cond rfl (fun hc9=>?_) (fun hc9=>?_))
    ·have hil:i < l.length:=by simpa using hc9
     refine Aw_skip (hB8 _ ?_)
     refine Aw_sq fun B10 hB10 hR10 hX10=>?_
     refine Aw_bk fun B11 hN11 hE11 hR11 hX11=>?_
     have hst:=dnL_step hil (List.replicate ((cap - l.length) * 6) AV.junk)
     have hln:=dnL_len i l
     refine Aw_tx hE [4,5,6] [1,2,3,4,5,6,16,212,312] fun K hK=>?_
     simp only [go_sem,seval,cGs_nt,cGs_stripF]
     rw [hst]
     refine ⟨⟨by omega,by omega⟩,by rw [List.length_append,cGs_len,hln];omega,?_⟩
     refine hK _ (hN11 _ (hB10 _ ?_))
     refine Aw_tx hE [4,5,6] [1,2,3,4,5,6,16,212,312] fun K hK=>?_
     simp only [go_sem,seval,cGs_nt,cGs_stripF]
     repeat refine sd0 ?_
     refine hK _ (hN7 (i + 1) _ (by omega) (by omega) (Le.refl _))
    ·have hil:i=l.length:=by
      simp only [dfn] at hc9;omega
     subst hil
     refine Aw_exit (hX8 _ _ (hX7 _ _ (hE6 _ (hB5 _ ?_))))
     rw [dnL_all]
     refine Aw_st hE [4] [1,2,3,4,5,6,16,212,312] fun K hK=>?_
     simp only [go_sem,seval,cGs_nt,cGs_stripF]
     refine hK _ ?_
     refine Aw.leE (Le_E (Le_swb _ 312 900 (by decide) (by decide))) ?_
     simp only [St.swb,swbσ,swbm,AV.swb,AV.swbAll,swp,swbAll_app,swbAll_jk,gcs_swb,cGs_swb,Nat.reduceEqDiff,if_true,if_false,reduceIte]
     refine Aw.leE (Le_E (Le_ks [4] [4,900])) ?_
     refine Aw_ret (hQ _ ?_)
     simp only [go_sem,seval,cGs_nt,cGs_stripF]
     intro h' up' l' g' he K' hK'
     obtain ⟨rfl,rfl,rfl,rfl⟩:=rbav1_inj he
     have hz:=hK'.2 hok cap (by rw [if_pos rfl,List.length_map];exact hcap)
     rw [if_pos rfl,List.length_map] at hz
     exact hz
def enC (h:Int) (up:Bool) (l:List Gt) (K:AV→List (Nat × List AV)→Prop):Prop :=
 (ribOk ⟨h,up,l⟩=false→hand0 2 K)∧(ribOk ⟨h,up,l⟩=true→handG 2 h up (endL l) K)
def cEndM:ConM:={
 pre:=fun args m1=>∃ (h:Int) (up:Bool) (l:List Gt),args=[.agg [iv h,bv up,.sl none (grows l)]]∧m1=[]∧l.length≤1000∧lensG l
 post:=fun args _ r m2=>∀ (h:Int) (up:Bool) (l:List Gt),args=[.agg [iv h,bv up,.sl none (grows l)]]→∀ K:AV→List (Nat × List AV)→Prop,enC h up l K→K r m2 }
theorem ribEndM_ok:FineM Tryz.prog 40 cEndM:=by
 refine fineM_of [] ms_nil [] mm_nil [13,40] [] ex_nil (T:=TT) Tryz.func40 rfl Tryz.ntmps40 (by rw [Tryz.results40]) rfl rfl tt gs_nil (ds_cons sRibOk_ok (ds_cons l4Copy_ok ds_nil)) ?_
 rintro args m1 ⟨h0,up,l,rfl,rfl,hc⟩
 refine ⟨by simp,fun E hE Q hQ=>?_⟩
 refine Aw_st hE [1,2] [1,2,3,13,40] fun K hK=>?_
 simp only [go_sem,seval]
 refine hK _ ?_;clear hK K
 refine Aw_sq fun B1 hB1 hR1 hX1=>?_
 refine Aw_st hE [1,2,7] [1,2,3,13,40] fun K hK=>?_
 simp only [go_sem,seval]
 refine ⟨⟨by omega,hc.2⟩,?_⟩
 refine hK _ (Aw_cond rfl (fun hc2=>?_) (fun hc2=>?_))
 ·have hok:ribOk ⟨h0,up,l⟩=false:=by simpa using hc2
  refine Aw_st hE [2] [2] fun K hK=>?_
  simp only [go_sem,seval]
  refine hK _ (Aw_ret (hR1 _ (hQ _ ?_)))
  simp only [go_sem,seval]
  intro h' up' l' he K' hK'
  obtain ⟨rfl,rfl,rfl⟩:=rbav_inj he
  exact hK'.1 hok
 ·have hok:ribOk ⟨h0,up,l⟩=true:=by simpa using hc2
  obtain ⟨hll,hlen⟩:=hc
  refine Aw_skip (hB1 _ ?_)
  refine Aw_st hE [1,2,3] [1,2,3,13,40] fun K hK=>?_
  simp only [go_sem,seval]
  refine hK _ ?_;clear hK K
  refine Aw_sq fun B3 hB3 hR3 hX3=>?_
  refine Aw_st hE [1,2,3,4] [1,2,3,13,40] fun K hK=>?_
  simp only [go_sem,seval]
  refine hK _ ?_;clear hK K
  refine Aw_bk fun B4 hN4 hE4 hR4 hX4=>?_
  refine Aw_lp (fun i:Nat × Nat=>endS h0 up none l 0 i.1 i.2 (endL (l.take i.1))) (fun i=>i.1≤l.length∧(endL (l.take i.1)≠[]→(endL (l.take i.1)).length≤i.2)) (fun i=>l.length - i.1) (0,0) (Le.refl _) ⟨by simp,fun h=>absurd rfl h⟩ fun i hi B5 hN5 hR5 hX5=>?_
  obtain ⟨i,c⟩:=i
  obtain ⟨hi1,hi2⟩:=hi
  simp only at hi1 hi2
  refine Aw_sq fun B6 hB6 hR6 hX6=>?_
  have hol:=endL_len (l.take i)
  have hot:(l.take i).length≤i:=by rw [List.length_take];omega
  by_cases ho:endL (l.take i)=[]
  ·simp only [ho,endS]
   refine Aw_st hE [1,2,3,4,19] [1,2,3,13,40] fun K hK=>?_
   simp only [go_sem,seval]
   refine hK _ (Aw_cond rfl (fun hc7=>?_) (fun hc7=>?_))
   ·simp only [dte] at hc7
    have hil:i < l.length:=by omega
    have hget:=grows_get l i hil
    have hln:=hlen _ (List.getElem_mem hil)
    have htk:endL (l.take (i + 1))=endL (l.take i)++endL [l[i]]:=by rw [List.take_succ_eq_append_getElem hil,endL_app]
    generalize l[i]=x at hget hln htk
    obtain ⟨⟨rf,rb,p,rk,m⟩,old⟩:=x
    simp only at hln
    refine Aw_skip (hB6 _ ?_)
    refine Aw_sq fun B8 hB8 hR8 hX8=>?_
    refine Aw_bk fun B9 hN9 hE9 hR9 hX9=>?_
    refine Aw_st hE [1,2,3,4,28] [1,2,3,13,40] fun K hK=>?_
    simp only [go_sem,seval,hget]
    refine ⟨by omega,?_⟩
    refine hK _ (Aw_cond rfl (fun hc10=>?_) (fun hc10=>?_))
    ·have hod:old=false:=by simpa using hc10
     subst hod
     refine Aw_te hE [0,2,4,1,3,5,6,7,8,9,10,11,12,13] [0,1,0,4,0,28,60,124,252,508,1020,2047,4095,8191] [1,2,3,4] [1,2,3,13,40] (by kernel_rfl) fun K hK=>?_
     simp only [go_sem,seval,hget,gcs_flat,gcs_leaf,gcs_strip]
     refine ⟨by omega,⟨by omega,by omega⟩,by simp,fun cap hcap=>?_⟩
     refine hK _ (hN9 _ (hB8 _ ?_))
     refine Aw_tx hE [1,2,3,4] [1,2,3,13,40] fun K hK=>?_
     simp only [go_sem,seval]
     repeat refine sd0 ?_
     have hz:endL (l.take (i + 1))=[⟨⟨rf,rb,p,rk,m⟩,false⟩]:=by rw [htk,ho];rfl
     refine hK _ (hN5 (i + 1,cap) _ ⟨by simp only;omega,fun h=>by simp only [hz];exact hcap⟩ (by simp only;omega) ?_)
     simp only [hz,endS]
     exact Le.refl _
    ·have hod:old=true:=by simpa using hc10
     subst hod
     refine Aw_skip (hN9 _ (hB8 _ ?_))
     refine Aw_tx hE [1,2,3,4] [1,2,3,13,40] fun K hK=>?_
     simp only [go_sem,seval]
     repeat refine sd0 ?_
     have hz:endL (l.take (i + 1))=[]:=by rw [htk,ho];rfl
     refine hK _ (hN5 (i + 1,c) _ ⟨by simp only;omega,fun h=>absurd hz h⟩ (by simp only;omega) ?_)
     simp only [hz,endS]
     exact Le.refl _
   ·simp only [dfn] at hc7
    have hil:i=l.length:=by omega
    subst hil
    rw [List.take_length] at ho
    refine Aw_exit (hX6 _ _ (hX5 _ _ (hE4 _ (hB3 _ ?_))))
    refine Aw_st hE [2] [1,2,3,13,40] fun K hK=>?_
    simp only [go_sem,seval]
    refine hK _ ?_
    refine Aw.leE (Le_E (Le_swb _ 13 900 (by decide) (by decide))) ?_
    simp only [St.swb,swbσ,swbm,AV.swb,AV.swbAll,swp,swbAll_app,swbAll_jk,gcs_swb,cGs_swb,Nat.reduceEqDiff,if_true,if_false,reduceIte]
    refine Aw.leE (Le_E (Le_ks [2] [2,900])) ?_
    refine Aw_ret (hQ _ ?_)
    simp only [go_sem,seval,cGs_nt,cGs_stripF]
    intro h' up' l' he K' hK'
    obtain ⟨rfl,rfl,rfl⟩:=rbav_inj he
    have hz:=hK'.2 hok 0
    rw [ho] at hz
    exact hz (Nat.le_refl _)
  ·rw [endS_some ho]
   have hi2:=hi2 ho
   generalize hoo:endL (l.take i)=o at *
   refine Aw_st hE [1,2,3,4,19] [1,2,3,13,40] fun K hK=>?_
   simp only [go_sem,seval,cGs_nt,cGs_stripF]
   refine hK _ (Aw_cond rfl (fun hc7=>?_) (fun hc7=>?_))
   ·simp only [dte] at hc7
    have hil:i < l.length:=by omega
    have hget:=grows_get l i hil
    have hln:=hlen _ (List.getElem_mem hil)
    have htk:endL (l.take (i + 1))=o++endL [l[i]]:=by rw [List.take_succ_eq_append_getElem hil,endL_app,hoo]
    generalize l[i]=x at hget hln htk
    obtain ⟨⟨rf,rb,p,rk,m⟩,old⟩:=x
    simp only at hln
    refine Aw_skip (hB6 _ ?_)
    refine Aw_sq fun B8 hB8 hR8 hX8=>?_
    refine Aw_bk fun B9 hN9 hE9 hR9 hX9=>?_
    refine Aw_st hE [1,2,3,4,28] [1,2,3,13,40] fun K hK=>?_
    simp only [go_sem,seval,hget,cGs_nt,cGs_stripF]
    refine ⟨by omega,?_⟩
    refine hK _ (Aw_cond rfl (fun hc10=>?_) (fun hc10=>?_))
    ·have hod:old=false:=by simpa using hc10
     subst hod
     have hin:=cGs_in o ⟨⟨rf,rb,p,rk,m⟩,false⟩ (c - o.length)
     have htk2:=cGs_take o (jk ((c - o.length) * 6))
     have hz:endL (l.take (i + 1))=o++[⟨⟨rf,rb,p,rk,m⟩,false⟩]:=by rw [htk];rfl
     have hzn:endL (l.take (i + 1))≠[]:=by rw [hz];simp
     refine Aw_te hE [0,2,4,1,3,5,6,7,8,9,10,11,12,13] [0,1,0,4,0,28,60,124,252,508,1020,2047,4095,8191] [1,2,3,4] [1,2,3,13,40] (by kernel_rfl) fun K hK=>?_
     simp only [go_sem,seval,hget,gcs_flat,gcs_leaf,gcs_strip,htk2,cGs_strip,cGs_nt,cGs_stripF]
     refine ⟨by omega,⟨by omega,by omega⟩,⟨by simp,by omega,by rw [List.length_append,cGs_len,List.length_replicate];omega⟩,fun hle=>?_,fun hgt cap hcap=>?_⟩
     ·rw [hin (by omega)]
      refine hK _ (hN9 _ (hB8 _ ?_))
      refine Aw_tx hE [1,2,3,4] [1,2,3,13,40] fun K hK=>?_
      simp only [go_sem,seval,cGs_nt,cGs_stripF]
      repeat refine sd0 ?_
      refine hK _ (hN5 (i + 1,c) _ ⟨by simp only;omega,fun h=>by simp only [hz];simp only [List.length_append,List.length_singleton];omega⟩ (by simp only;omega) ?_)
      simp only [hz]
      rw [endS_some (by simp),List.length_append,List.length_singleton,show c - o.length - 1=c - (o.length + 1) by omega]
      exact Le.refl _
     ·refine hK _ (hN9 _ (hB8 _ ?_))
      refine Aw_tx hE [1,2,3,4] [1,2,3,13,40] fun K hK=>?_
      simp only [go_sem,seval,cGs_nt,cGs_stripF]
      repeat refine sd0 ?_
      refine hK _ (hN5 (i + 1,cap) _ ⟨by simp only;omega,fun h=>by simp only [hz];simp only [List.length_append,List.length_singleton];omega⟩ (by simp only;omega) ?_)
      simp only [hz]
      rw [endS_some (by simp),List.length_append,List.length_singleton,cGs_app]
      simp only [cGs,List.append_nil]
      exact Le.refl _
    ·have hod:old=true:=by simpa using hc10
     subst hod
     refine Aw_skip (hN9 _ (hB8 _ ?_))
     refine Aw_tx hE [1,2,3,4] [1,2,3,13,40] fun K hK=>?_
     simp only [go_sem,seval,cGs_nt,cGs_stripF]
     repeat refine sd0 ?_
     have hz:endL (l.take (i + 1))=o:=by rw [htk];exact List.append_nil o
     refine hK _ (hN5 (i + 1,c) _ ⟨by simp only;omega,fun h=>by simp only [hz];exact hi2⟩ (by simp only;omega) ?_)
     simp only [hz]
     rw [endS_some ho]
     exact Le.refl _
   ·simp only [dfn] at hc7
    have hil:i=l.length:=by omega
    subst hil
    rw [List.take_length] at hoo
    refine Aw_exit (hX6 _ _ (hX5 _ _ (hE4 _ (hB3 _ ?_))))
    refine Aw_st hE [2] [1,2,3,13,40] fun K hK=>?_
    simp only [go_sem,seval,cGs_nt,cGs_stripF]
    refine hK _ ?_
    refine Aw.leE (Le_E (Le_swb _ 40 900 (by decide) (by decide))) ?_
    simp only [St.swb,swbσ,swbm,AV.swb,AV.swbAll,swp,swbAll_app,swbAll_jk,gcs_swb,cGs_swb,Nat.reduceEqDiff,if_true,if_false,reduceIte]
    refine Aw.leE (Le_E (Le_ks [2] [2,900])) ?_
    refine Aw_ret (hQ _ ?_)
    simp only [go_sem,seval,cGs_nt,cGs_stripF]
    intro h' up' l' he K' hK'
    obtain ⟨rfl,rfl,rfl⟩:=rbav_inj he
    have hz:=hK'.2 hok c
    rw [hoo] at hz
    exact hz hi2
def telO (b : Rb) (x : Rt) : Option (Rb × Bool) :=
  if ribOk b && (okR x && decide (x.path.head? = some b.h)) then
    some (if !b.up || (decide (atG b.all x.f x.b < 0) && decide (6 ≤ b.all.length)) then (b, false)
     else if decide (0 ≤ atG b.all x.f x.b) then (⟨b.h, b.up, b.all.set (atG b.all x.f x.b).toNat ⟨x, false⟩⟩, true)
     else (⟨b.h, b.up, telL x b.all⟩, true))
  else none
def handT (z:Rb × Bool) (K:AV→List (Nat × List AV)→Prop):Prop :=
 ∀ cap,z.1.all.length≤cap→K (.tup [.agg [iv z.1.h,bv z.1.up,.xs 900 0 z.1.all.length cap 6],bv z.2]) [(4,[iv z.1.h,bv z.1.up,.xs 900 0 z.1.all.length cap 6]),(900,cGs z.1.all++jk ((cap - z.1.all.length) * 6))]
def tlC (b:Rb) (x:Rt) (K:AV→List (Nat × List AV)→Prop):Prop :=
 (telO b x=none→K (.tup [.agg [iv 0,bv false,.nl],bv false]) [(4,[iv 0,bv false,.nl])])∧(∀ z,telO b x=some z→handT z K)
def cTellM:ConM:={
 pre:=fun args m1=>∃ (h:Int) (up:Bool) (l:List Gt) (f b:Int) (p:List Int) (k:Int) (m:List Int),args=[.agg [iv h,bv up,.sl none (grows l)],.agg [iv f,iv b,isl p,iv k,isl m]]∧m1=[]∧(l.length≤1000∧lensG l)∧p.length≤1000∧m.length≤900
 post:=fun args _ r m2=>∀ (h:Int) (up:Bool) (l:List Gt) (f b:Int) (p:List Int) (k:Int) (m:List Int),args=[.agg [iv h,bv up,.sl none (grows l)],.agg [iv f,iv b,isl p,iv k,isl m]]→∀ K:AV→List (Nat × List AV)→Prop,tlC ⟨h,up,l⟩ ⟨f,b,p,k,m⟩ K→K r m2 }
theorem rbrt_inj {h h':Int} {up up':Bool} {l l':List Gt} {f b k f' b' k':Int} {p m p' m':List Int} (e:[AV.agg [iv h,bv up,.sl none (grows l)],.agg [iv f,iv b,isl p,iv k,isl m]]=[AV.agg [iv h',bv up',.sl none (grows l')],.agg [iv f',iv b',isl p',iv k',isl m']]):h=h'∧up=up'∧l=l'∧f=f'∧b=b'∧p=p'∧k=k'∧m=m':=by
 obtain ⟨e1,e2⟩:=List.cons.inj e
 obtain ⟨a,b,c⟩:=rbav_inj (congrArg (fun z=>[z]) e1)
 exact ⟨a,b,c,rav_inj e2⟩
theorem ribTellM_ok : FineM Tryz.prog 41 cTellM := by
  refine fineM_of [] ms_nil [(59, (cL21, [], [(2, 100), (9, 200), (35, 300)]))] (mm_cons l21Copy_ok (by decide) mm_nil) [58, 88, 107, 117] [] ex_nil (T := TT) Tryz.func41 rfl Tryz.ntmps41 (by rw [Tryz.results41]) rfl rfl tt gs_nil (ds_cons sRibOk_ok (ds_cons sRtOk_ok (ds_cons l21At_ok (ds_cons l4Copy_ok (ds_cons l1Cmp_ok ds_nil))))) ?_
  rintro args m1 ⟨h0, up, l, xf, xb, p, xk, m, rfl, rfl, ⟨hll, hlen⟩, hpl, hml⟩
  refine ⟨by simp, fun E hE Q hQ => ?_⟩
  refine Aw_st hE [2, 3, 4] [2, 3, 4, 6, 58, 88, 107, 117, 229, 329] fun K hK => ?_
  simp only [go_sem, seval]
  refine hK _ ?_; clear hK K
  refine Aw_sq fun B1 hB1 hR1 hX1 => ?_
  refine Aw_sd hE [2, 3, 4, 26] [2, 3, 4, 6, 58, 88, 107, 117, 229, 329] 6 (by kernel_rfl) fun K hK => ?_
  simp only [go_sem, seval]
  have hfal : (ribOk ⟨h0, up, l⟩ && (okR ⟨xf, xb, p, xk, m⟩ && decide (p.head? = some h0))) = false → telO ⟨h0, up, l⟩ ⟨xf, xb, p, xk, m⟩ = none := fun e => by
    simp only [telO, e, Bool.false_eq_true, if_false]
  refine ⟨⟨by omega, hlen⟩, fun hg3 => ?_, fun hg3 => ⟨⟨by omega, by omega⟩, fun hg4 => ?_, fun hg4 => ?_⟩⟩
  · have hok : ribOk ⟨h0, up, l⟩ = false := by simpa using hg3
    have hO := hfal (by rw [hok]; rfl)
    refine hK _ (Aw_yes rfl ?_)
    refine Aw_st hE [4, 5] [4] fun K hK => ?_
    simp only [go_sem, seval]
    refine hK _ (Aw_ret (hR1 _ (hQ _ ?_)))
    simp only [go_sem, seval]
    intro h' up' l' f' b' q' k' m' he K' hK'
    obtain ⟨rfl, rfl, rfl, rfl, rfl, rfl, rfl, rfl⟩ := rbrt_inj he
    exact hK'.1 hO
  · have hok : okR ⟨xf, xb, p, xk, m⟩ = false := by simpa [okR] using hg4
    have hO := hfal (by rw [hok]; simp)
    refine hK _ (Aw_yes rfl ?_)
    refine Aw_st hE [4, 5] [4] fun K hK => ?_
    simp only [go_sem, seval]
    refine hK _ (Aw_ret (hR1 _ (hQ _ ?_)))
    simp only [go_sem, seval]
    intro h' up' l' f' b' q' k' m' he K' hK'
    obtain ⟨rfl, rfl, rfl, rfl, rfl, rfl, rfl, rfl⟩ := rbrt_inj he
    exact hK'.1 hO
  · have hok1 : ribOk ⟨h0, up, l⟩ = true := by simpa using hg3
    have hok2 : okR ⟨xf, xb, p, xk, m⟩ = true := by simpa [okR] using hg4
    have hpp : ∃ q p', p = q :: p' := by
      cases p with
      | nil => simp [rtOk] at hg4
      | cons q p' => exact ⟨q, p', rfl⟩
    obtain ⟨q, p', hpq⟩ := hpp
    have hp0 : (rows p)[0]? = some [.v (.int .i64 q)] := by rw [hpq]; rfl
    simp only [go_sem, seval, hp0]
    try (refine ⟨by omega, ?_⟩)
    refine hK _ (Aw_cond rfl (fun hc5 => ?_) (fun hc5 => ?_))
    · have hq : ¬ q = h0 := by simpa using hc5
      have hO := hfal (by rw [hpq]; simp [hq])
      refine Aw_st hE [4, 5] [4] fun K hK => ?_
      simp only [go_sem, seval]
      refine hK _ (Aw_ret (hR1 _ (hQ _ ?_)))
      simp only [go_sem, seval]
      intro h' up' l' f' b' q' k' m' he K' hK'
      obtain ⟨rfl, rfl, rfl, rfl, rfl, rfl, rfl, rfl⟩ := rbrt_inj he
      exact hK'.1 hO
    · have hq : q = h0 := by simpa using hc5
      have htr : telO ⟨h0, up, l⟩ ⟨xf, xb, p, xk, m⟩ = some (if !up || (decide (atG l xf xb < 0) && decide (6 ≤ l.length)) then ((⟨h0, up, l⟩ : Rb), false)
     else if decide (0 ≤ atG l xf xb) then (⟨h0, up, l.set (atG l xf xb).toNat ⟨⟨xf, xb, p, xk, m⟩, false⟩⟩, true)
     else (⟨h0, up, telL ⟨xf, xb, p, xk, m⟩ l⟩, true)) := by
        have hd : decide (p.head? = some h0) = true := by rw [hpq, hq]; simp
        simp only [telO, hok1, hok2, hd, Bool.and_self, if_true]
      refine Aw_skip (hB1 _ ?_)
      refine Aw_sqJ (fun cap : Nat => ⟨120, [(2, .loc 2 0), (3, .loc 3 0), (4, .loc 4 0), (6, .loc 6 0)], [(2, [iv h0, bv up, .sl none (grows l)]), (3, [iv xf, iv xb, .sl none (rows p), iv xk, .sl none (rows m)]), (4, [iv 0, bv false, .nl]), (6, [iv h0, bv up, .xs 329 0 l.length cap 6]), (329, cGs l ++ List.replicate ((cap - l.length) * 6) .junk)], 0⟩) (fun cap => l.length ≤ cap) (fun cap hcap => ?_) fun B2 hN2 hR2 hX2 => ?_
      rotate_left
      · refine Aw_tx hE [2, 3, 4, 6] [2, 3, 4, 6, 58, 88, 107, 117, 229, 329] fun K hK => ?_
        simp only [go_sem, seval]
        simp only [go_sem, seval, cGs_mvn, cGs_strip]
        refine ⟨by decide, ⟨hll, hlen⟩, fun hl0 => ?_, fun hl0 cap hcap => ?_⟩
        · refine hK _ (hN2 0 _ (by rw [hl0]; exact Nat.le_refl _) ?_)
          subst hl0
          exact Le_E (Le_bx 229 329 (by decide) (by decide) rfl)
        · refine hK _ (hN2 cap _ hcap ?_)
          exact Le_E (Le_kb [2, 3, 4, 6, 329] rfl)
      · refine Aw_st hE [2, 3, 4, 6, 7] [2, 3, 4, 6, 58, 88, 107, 117, 229, 329] fun K hK => ?_
        simp only [go_sem, seval, cGs_nt, cGs_stripF]
        refine ⟨by omega, ?_⟩
        refine hK _ ?_; clear hK K
        refine Aw_sq fun B6 hB6 hR6 hX6 => ?_
        refine Aw_st hE [2, 3, 4, 6, 7, 46] [2, 3, 4, 6, 58, 88, 107, 117, 229, 329] fun K hK => ?_
        simp only [go_sem, seval, cGs_nt, cGs_stripF]
        refine ⟨fun hg8 => ?_, fun hg8 => ?_⟩
        · have hO := htr
          rw [if_pos (by rw [hg8]; rfl)] at hO
          refine hK _ (Aw_yes rfl ?_)
          refine Aw_st hE [4, 5] [2, 3, 4, 6, 58, 88, 107, 117, 229, 329] fun K hK => ?_
          simp only [go_sem, seval, cGs_nt, cGs_stripF]
          refine hK _ ?_
          refine Aw.leE (Le_E (Le_swb _ 329 900 (by decide) (by decide))) ?_
          simp only [St.swb, swbσ, swbm, AV.swb, AV.swbAll, swp, swbAll_app, swbAll_jk, gcs_swb, cGs_swb, Nat.reduceEqDiff, if_true, if_false, reduceIte]
          refine Aw.leE (Le_E (Le_ks [4, 5] [4, 900])) ?_
          refine Aw_ret (hR6 _ (hQ _ ?_))
          simp only [go_sem, seval, cGs_nt, cGs_stripF]
          intro h' up' l' f' b' q' k' m' he K' hK'
          obtain ⟨rfl, rfl, rfl, rfl, rfl, rfl, rfl, rfl⟩ := rbrt_inj he
          have hz := hK'.2 _ hO cap (by simp only [List.length_set, List.length_append, List.length_singleton, List.length_cons, List.length_nil]; omega)
          simp only [List.length_set, List.length_append, List.length_singleton, List.length_cons, List.length_nil] at hz
          exact hz
        · repeat refine sd0 ?_
          refine ⟨fun hg9 => ?_, fun hg9 => ?_⟩
          · repeat refine sd0 ?_
            refine hK _ (Aw_cond rfl (fun hc10 => ?_) (fun hc10 => ?_))
            · have hO := htr
              rw [if_pos (by simp only [dte] at hg9 hc10; simp only [Bool.or_eq_true, Bool.and_eq_true, dte]; exact .inr ⟨hg9, by omega⟩)] at hO
              refine Aw_st hE [4, 5] [2, 3, 4, 6, 58, 88, 107, 117, 229, 329] fun K hK => ?_
              simp only [go_sem, seval, cGs_nt, cGs_stripF]
              refine hK _ ?_
              refine Aw.leE (Le_E (Le_swb _ 329 900 (by decide) (by decide))) ?_
              simp only [St.swb, swbσ, swbm, AV.swb, AV.swbAll, swp, swbAll_app, swbAll_jk, gcs_swb, cGs_swb, Nat.reduceEqDiff, if_true, if_false, reduceIte]
              refine Aw.leE (Le_E (Le_ks [4, 5] [4, 900])) ?_
              refine Aw_ret (hR6 _ (hQ _ ?_))
              simp only [go_sem, seval, cGs_nt, cGs_stripF]
              intro h' up' l' f' b' q' k' m' he K' hK'
              obtain ⟨rfl, rfl, rfl, rfl, rfl, rfl, rfl, rfl⟩ := rbrt_inj he
              have hz := hK'.2 _ hO cap (by simp only [List.length_set, List.length_append, List.length_singleton, List.length_cons, List.length_nil]; omega)
              simp only [List.length_set, List.length_append, List.length_singleton, List.length_cons, List.length_nil] at hz
              exact hz
            · have h9 : atG l xf xb < 0 := by simpa using hg9
              have h10 : ¬ 6 ≤ l.length := by simp only [dfn] at hc10; omega
              have hO := htr
              rw [if_neg (by rw [hg8]; simp [h10]), if_neg (by simp only [dte]; omega)] at hO
              refine Aw_skip (hB6 _ ?_)
              refine Aw_sq fun B11 hB11 hR11 hX11 => ?_
              refine Aw_st hE [2, 3, 4, 6, 7, 49] [2, 3, 4, 6, 58, 88, 107, 117, 229, 329] fun K hK => ?_
              simp only [go_sem, seval, cGs_nt, cGs_stripF]
              refine hK _ (Aw_cond rfl (fun hc12 => ?_) (fun hc12 => ?_))
              · simp only [dte] at hc12; omega
              · refine Aw_skip (hB11 _ ?_)
                refine Aw_st hE [2, 3, 4, 6] [2, 3, 4, 6, 58] fun K hK => ?_
                simp only [go_sem, seval]
                refine hK _ ?_; clear hK K
                refine Aw_st hE [2, 3, 4, 6, 8] [2, 3, 4, 6, 58, 88, 107, 117, 229, 329] fun K hK => ?_
                simp only [go_sem, seval]
                refine hK _ ?_; clear hK K
                refine Aw_sq fun B13 hB13 hR13 hX13 => ?_
                refine Aw_st hE [2, 3, 4, 6, 8, 9] [2, 3, 4, 6, 58, 88, 107, 117, 229, 329] fun K hK => ?_
                simp only [go_sem, seval]
                refine hK _ ?_; clear hK K
                refine Aw_bk fun B14 hN14 hE14 hR14 hX14 => ?_
                generalize hx : (⟨xf, xb, p, xk, m⟩ : Rt) = x at hO
                refine Aw_lp (fun i : Nat × Nat => telS h0 up none l xf xb none p xk none m 0 i.1 (telG x (l.take i.1)).2 i.2 (telG x (l.take i.1)).1) (fun i => i.1 ≤ l.length ∧ ((telG x (l.take i.1)).1 ≠ [] → (telG x (l.take i.1)).1.length ≤ i.2)) (fun i => l.length - i.1) (0, 0) (Le.refl _) ⟨by simp, fun h => absurd rfl h⟩ fun i hi B15 hN15 hR15 hX15 => ?_
                obtain ⟨i, c⟩ := i
                obtain ⟨hi1, hi2⟩ := hi
                simp only at hi1 hi2
                refine Aw_sq fun B16 hB16 hR16 hX16 => ?_
                have hol := telG_len x (l.take i)
                have hot : (l.take i).length ≤ i := by rw [List.length_take]; omega
                have hput : ∀ z : List Gt × Bool, telG x (l.take i) = z → (telG x (l.take i)).1 = z.1 ∧ (telG x (l.take i)).2 = z.2 := fun z e => by rw [e]; exact ⟨rfl, rfl⟩
                generalize ho : telG x (l.take i) = s at *
                obtain ⟨o, put⟩ := s
                simp only at hi2 hol ⊢
                by_cases hoe : o = []
                · subst hoe
                  simp only [telS]
                  refine Aw_st hE [2, 3, 4, 6, 8, 9, 64] [2, 3, 4, 6, 58, 88, 107, 117, 229, 329] fun K hK => ?_
                  simp only [go_sem, seval]
                  refine hK _ (Aw_cond rfl (fun hc17 => ?_) (fun hc17 => ?_))
                  · simp only [dte] at hc17
                    have hil : i < l.length := by omega
                    have hget := grows_get l i hil
                    have hln := hlen _ (List.getElem_mem hil)
                    have htk : telG x (l.take (i + 1)) = telStep x (telG x (l.take i)) l[i] := by rw [List.take_succ_eq_append_getElem hil, telG_snoc]
                    rw [ho] at htk
                    generalize l[i] = g at hget hln htk
                    obtain ⟨⟨rf, rb, gp, rk, gm⟩, old⟩ := g
                    simp only at hln
                    refine Aw_skip (hB16 _ ?_)
                    refine Aw_sq fun B18 hB18 hR18 hX18 => ?_
                    refine Aw_bk fun B19 hN19 hE19 hR19 hX19 => ?_
                    refine Aw_sqJ (fun q : Bool × List Gt × Nat => telS h0 up none l xf xb none p xk none m 0 i q.1 q.2.2 q.2.1) (fun q => (q.2.1 ≠ [] → q.2.1.length ≤ q.2.2) ∧ q.2.1.length ≤ 2000 ∧ telG x (l.take (i + 1)) = (q.2.1 ++ [⟨⟨rf, rb, gp, rk, gm⟩, old⟩], q.1)) (fun q hq => ?_) fun B20 hN20 hR20 hX20 => ?_
                    rotate_left
                    · refine Aw_se hE [0, 1, 2, 3, 4, 5, 6, 7, 8, 9, 10, 11, 12, 13, 14] [0, 1, 3, 7, 15, 7, 63, 127, 255, 511, 7, 1031, 4095, 8191, 16383] [2, 3, 4, 6, 8, 9, 81] [2, 3, 4, 6, 58, 88, 107, 117, 229, 329] (by kernel_rfl) fun K hK => ?_
                      simp only [go_sem, seval, hget]
                      have hpo : ([] : List Gt) ≠ [] → ([] : List Gt).length ≤ c := fun h => absurd rfl h
                      refine ⟨fun hg22 => ⟨by omega, ?_⟩, fun hg22 => ?_⟩
                      · have hp : put = false := by simpa using hg22
                        refine hK _ (Aw_cond rfl (fun hc23 => ?_) (fun hc23 => ?_))
                        · have htk2 : telG x (l.take (i + 1)) = ([] ++ [⟨x, false⟩] ++ [⟨⟨rf, rb, gp, rk, gm⟩, old⟩], true) := by
                            rw [htk, ← hx]; unfold telStep; exact if_pos (by rw [hp]; simpa using hc23)
                          refine Aw_se hE [0, 1, 2, 3, 4, 5, 6, 7, 8] [0, 1, 0, 4, 12, 28, 63, 127, 255] [2, 3, 4, 6, 9] [2, 3, 4, 6, 58, 88, 107, 117, 229, 329] (by kernel_rfl) fun K hK => ?_
                          simp only [go_sem, seval, gcs_flat, gcs_leaf, gcs_strip]
                          refine ⟨⟨by omega, by omega⟩, by simp, fun cap hcap => ?_⟩
                          refine hK _ ?_; clear hK K
                          refine Aw_tx hE [2, 3, 4, 6, 8, 9] [2, 3, 4, 6, 58, 88, 107, 117, 229, 329] fun K hK => ?_
                          simp only [go_sem, seval]
                          refine hK _ (hN20 (true, [⟨x, false⟩], cap) _ ⟨fun _ => hcap, by simp, htk2⟩ ?_)
                          rw [telS_some (by simp), ← hx]
                          refine (Le_E (Le_swb _ 88 107 (by decide) (by decide))).trans ?_
                          simp only [St.swb, swbσ, swbm, AV.swb, AV.swbAll, swp, swbAll_app, swbAll_jk, gcs_swb, cGs_swb, Nat.reduceEqDiff, if_true, if_false, reduceIte]
                          exact Le_E (Le_ks [2, 3, 4, 6, 8, 9] [2, 3, 4, 6, 58, 107])
                        · have htk2 : telG x (l.take (i + 1)) = ([] ++ [⟨⟨rf, rb, gp, rk, gm⟩, old⟩], put) := by
                            rw [htk, ← hx]; unfold telStep; exact if_neg (by rw [hp]; simpa using hc23)
                          refine Aw_skip (hN20 (put, [], c) _ ⟨hpo, by simp only; omega, htk2⟩ ?_)
                          simp only [telS]
                          exact Le_E (Le_ks [2, 3, 4, 6, 8, 9] [2, 3, 4, 6, 58, 107])
                      · have hp : put = true := by simpa using hg22
                        have htk2 : telG x (l.take (i + 1)) = ([] ++ [⟨⟨rf, rb, gp, rk, gm⟩, old⟩], put) := by
                          rw [htk, ← hx]; unfold telStep; exact if_neg (by rw [hp]; simp)
                        refine hK _ (Aw_no rfl ?_)
                        refine Aw_skip (hN20 (put, [], c) _ ⟨hpo, by simp only; omega, htk2⟩ ?_)
                        simp only [telS]
                        exact Le_E (Le_ks [2, 3, 4, 6, 8, 9] [2, 3, 4, 6, 58, 107])
                    · obtain ⟨put', o', c'⟩ := q
                      obtain ⟨hq1, hq2, hq3⟩ := hq
                      simp only at hq1 hq2 hq3 ⊢
                      by_cases hoe' : o' = []
                      · subst hoe'
                        simp only [telS]
                        refine Aw_te hE [0, 2, 4, 9, 11, 1, 3, 5, 6, 7, 8, 10, 12, 13, 14, 15, 16, 17, 18, 19] [0, 1, 0, 4, 0, 28, 60, 124, 252, 0, 512, 0, 3584, 7680, 15872, 32764, 65532, 131071, 262143, 524287] [2, 3, 4, 6, 8, 9] [2, 3, 4, 6, 58, 88, 107, 117, 229, 329] (by kernel_rfl) fun K hK => ?_
                        simp only [go_sem, seval, hget, gcs_flat, gcs_leaf, gcs_strip]
                        refine ⟨by omega, ⟨by omega, by omega⟩, by omega, by simp, fun cap hcap => ?_⟩
                        refine hK _ (hN19 _ (hB18 _ ?_))
                        refine Aw_tx hE [2, 3, 4, 6, 8, 9] [2, 3, 4, 6, 58, 88, 107, 117, 229, 329] fun K hK => ?_
                        simp only [go_sem, seval]
                        repeat refine sd0 ?_
                        refine hK _ (hN15 (i + 1, cap) _ ⟨by simp only; omega, fun h => by simp only [hq3]; exact hcap⟩ (by simp only; omega) ?_)
                        simp only [hq3]
                        rw [telS_some (by simp)]
                        exact Le.refl _
                      · rw [telS_some hoe']
                        have hq1 := hq1 hoe'
                        have hin := cGs_in o' ⟨⟨rf, rb, gp, rk, gm⟩, old⟩ (c' - o'.length)
                        have htk3 := cGs_take o' (jk ((c' - o'.length) * 6))
                        refine Aw_te hE [0, 2, 4, 9, 11, 1, 3, 5, 6, 7, 8, 10, 12, 13, 14, 15, 16, 17, 18, 19] [0, 1, 0, 4, 0, 28, 60, 124, 252, 0, 512, 0, 3584, 7680, 15872, 32764, 65532, 131071, 262143, 524287] [2, 3, 4, 6, 8, 9] [2, 3, 4, 6, 58, 88, 107, 117, 229, 329] (by kernel_rfl) fun K hK => ?_
                        simp only [go_sem, seval, hget, gcs_flat, gcs_leaf, gcs_strip, htk3, cGs_strip, cGs_nt, cGs_stripF]
                        refine ⟨by omega, ⟨by omega, by omega⟩, by omega, ⟨by simp, by omega, by rw [List.length_append, cGs_len, List.length_replicate]; omega⟩, fun hle => ?_, fun hgt cap hcap => ?_⟩
                        · rw [hin (by omega)]
                          refine hK _ (hN19 _ (hB18 _ ?_))
                          refine Aw_tx hE [2, 3, 4, 6, 8, 9] [2, 3, 4, 6, 58, 88, 107, 117, 229, 329] fun K hK => ?_
                          simp only [go_sem, seval, cGs_nt, cGs_stripF]
                          repeat refine sd0 ?_
                          refine hK _ (hN15 (i + 1, c') _ ⟨by simp only; omega, fun h => by simp only [hq3, List.length_append, List.length_singleton]; omega⟩ (by simp only; omega) ?_)
                          simp only [hq3]
                          rw [telS_some (by simp), List.length_append, List.length_singleton, show c' - o'.length - 1 = c' - (o'.length + 1) by omega]
                          exact Le.refl _
                        · refine hK _ (hN19 _ (hB18 _ ?_))
                          refine Aw_tx hE [2, 3, 4, 6, 8, 9] [2, 3, 4, 6, 58, 88, 107, 117, 229, 329] fun K hK => ?_
                          simp only [go_sem, seval, cGs_nt, cGs_stripF]
                          repeat refine sd0 ?_
                          refine hK _ (hN15 (i + 1, cap) _ ⟨by simp only; omega, fun h => by simp only [hq3, List.length_append, List.length_singleton]; omega⟩ (by simp only; omega) ?_)
                          simp only [hq3]
                          rw [telS_some (by simp), List.length_append, List.length_singleton, cGs_app]
                          simp only [cGs, List.append_nil]
                          exact Le.refl _
                  · simp only [dfn] at hc17
                    have hil : i = l.length := by omega
                    subst hil
                    rw [List.take_length] at ho
                    refine Aw_exit (hX16 _ _ (hX15 _ _ (hE14 _ (hB13 _ ?_))))
                    refine Aw_sq fun B24 hB24 hR24 hX24 => ?_
                    refine Aw_st hE [3, 4, 6, 110] [2, 3, 4, 6, 58, 88, 107, 117, 229, 329] fun K hK => ?_
                    simp only [go_sem, seval]
                    refine hK _ (Aw_cond rfl (fun hc25 => ?_) (fun hc25 => ?_))
                    · have hp : put = false := by simpa using hc25
                      have hT : telL x l = [] ++ [⟨⟨xf, xb, p, xk, m⟩, false⟩] := by unfold telL; rw [ho, hp, hx]; rfl
                      rw [hT] at hO
                      refine Aw_te hE [0, 1, 2, 3, 4, 5, 6, 7, 8] [0, 1, 0, 4, 12, 28, 63, 127, 255] [4, 6] [2, 3, 4, 6, 58, 88, 107, 117, 229, 329] (by kernel_rfl) fun K hK => ?_
                      simp only [go_sem, seval, gcs_flat, gcs_leaf, gcs_strip]
                      refine ⟨⟨by omega, by omega⟩, by simp, fun cap hcap => ?_⟩
                      refine hK _ (hB24 _ ?_)
                      refine Aw_st hE [4, 5] [2, 3, 4, 6, 58, 88, 107, 117, 229, 329] fun K hK => ?_
                      simp only [go_sem, seval]
                      refine hK _ ?_
                      refine Aw.leE (Le_E (Le_swb _ 117 900 (by decide) (by decide))) ?_
                      simp only [St.swb, swbσ, swbm, AV.swb, AV.swbAll, swp, swbAll_app, swbAll_jk, gcs_swb, cGs_swb, Nat.reduceEqDiff, if_true, if_false, reduceIte]
                      refine Aw.leE (Le_E (Le_ks [4, 5] [4, 900])) ?_
                      refine Aw_ret (hQ _ ?_)
                      simp only [go_sem, seval, cGs_nt, cGs_stripF]
                      intro h' up' l' f' b' q' k' m' he K' hK'
                      obtain ⟨rfl, rfl, rfl, rfl, rfl, rfl, rfl, rfl⟩ := rbrt_inj he
                      rw [← hx] at hO
                      have hz := hK'.2 _ hO cap (by simp only [List.length_set, List.length_append, List.length_singleton, List.length_cons, List.length_nil]; omega)
                      simp only [List.length_set, List.length_append, List.length_singleton, List.length_cons, List.length_nil] at hz
                      exact hz
                    · have hp : put = true := by simpa using hc25
                      have hT : telL x l = [] := by unfold telL; rw [ho, hp]; rfl
                      rw [hT] at hO
                      refine Aw_skip (hB24 _ ?_)
                      refine Aw_st hE [4, 5] [2, 3, 4, 6, 58, 88, 107, 117, 229, 329] fun K hK => ?_
                      simp only [go_sem, seval]
                      refine hK _ ?_
                      refine Aw.leE (Le_E (Le_swb _ 58 900 (by decide) (by decide))) ?_
                      simp only [St.swb, swbσ, swbm, AV.swb, AV.swbAll, swp, swbAll_app, swbAll_jk, gcs_swb, cGs_swb, Nat.reduceEqDiff, if_true, if_false, reduceIte]
                      refine Aw.leE (Le_E (Le_ks [4, 5] [4, 900])) ?_
                      refine Aw_ret (hQ _ ?_)
                      simp only [go_sem, seval, cGs_nt, cGs_stripF]
                      intro h' up' l' f' b' q' k' m' he K' hK'
                      obtain ⟨rfl, rfl, rfl, rfl, rfl, rfl, rfl, rfl⟩ := rbrt_inj he
                      rw [← hx] at hO
                      have hz := hK'.2 _ hO 0 (by simp only [List.length_set, List.length_append, List.length_singleton, List.length_cons, List.length_nil]; omega)
                      simp only [List.length_set, List.length_append, List.length_singleton, List.length_cons, List.length_nil] at hz
                      exact hz
                · rw [telS_some hoe]
                  have hi2 := hi2 hoe
                  refine Aw_st hE [2, 3, 4, 6, 8, 9, 64] [2, 3, 4, 6, 58, 88, 107, 117, 229, 329] fun K hK => ?_
                  simp only [go_sem, seval, cGs_nt, cGs_stripF]
                  refine hK _ (Aw_cond rfl (fun hc17 => ?_) (fun hc17 => ?_))
                  · simp only [dte] at hc17
                    have hil : i < l.length := by omega
                    have hget := grows_get l i hil
                    have hln := hlen _ (List.getElem_mem hil)
                    have htk : telG x (l.take (i + 1)) = telStep x (telG x (l.take i)) l[i] := by rw [List.take_succ_eq_append_getElem hil, telG_snoc]
                    rw [ho] at htk
                    generalize l[i] = g at hget hln htk
                    obtain ⟨⟨rf, rb, gp, rk, gm⟩, old⟩ := g
                    simp only at hln
                    refine Aw_skip (hB16 _ ?_)
                    refine Aw_sq fun B18 hB18 hR18 hX18 => ?_
                    refine Aw_bk fun B19 hN19 hE19 hR19 hX19 => ?_
                    refine Aw_sqJ (fun q : Bool × List Gt × Nat => telS h0 up none l xf xb none p xk none m 0 i q.1 q.2.2 q.2.1) (fun q => (q.2.1 ≠ [] → q.2.1.length ≤ q.2.2) ∧ q.2.1.length ≤ 2000 ∧ telG x (l.take (i + 1)) = (q.2.1 ++ [⟨⟨rf, rb, gp, rk, gm⟩, old⟩], q.1)) (fun q hq => ?_) fun B20 hN20 hR20 hX20 => ?_
                    rotate_left
                    · refine Aw_se hE [0, 1, 2, 3, 4, 5, 6, 7, 8, 9, 10, 11, 12, 13, 14] [0, 1, 3, 7, 15, 7, 63, 127, 255, 511, 7, 1031, 4095, 8191, 16383] [2, 3, 4, 6, 8, 9, 81] [2, 3, 4, 6, 58, 88, 107, 117, 229, 329] (by kernel_rfl) fun K hK => ?_
                      simp only [go_sem, seval, hget, cGs_nt, cGs_stripF]
                      have hpo : o ≠ [] → o.length ≤ c := fun _ => hi2
                      refine ⟨fun hg22 => ⟨by omega, ?_⟩, fun hg22 => ?_⟩
                      · have hp : put = false := by simpa using hg22
                        refine hK _ (Aw_cond rfl (fun hc23 => ?_) (fun hc23 => ?_))
                        · have htk2 : telG x (l.take (i + 1)) = (o ++ [⟨x, false⟩] ++ [⟨⟨rf, rb, gp, rk, gm⟩, old⟩], true) := by
                            rw [htk, ← hx]; unfold telStep; exact if_pos (by rw [hp]; simpa using hc23)
                          have hin := cGs_in o ⟨⟨xf, xb, p, xk, m⟩, false⟩ (c - o.length)
                          have htk3 := cGs_take o (jk ((c - o.length) * 6))
                          refine Aw_se hE [0, 1, 2, 3, 4, 5, 6, 7, 8] [0, 1, 0, 4, 12, 28, 63, 127, 255] [2, 3, 4, 6, 9] [2, 3, 4, 6, 58, 88, 107, 117, 229, 329] (by kernel_rfl) fun K hK => ?_
                          simp only [go_sem, seval, gcs_flat, gcs_leaf, gcs_strip, htk3, cGs_strip, cGs_nt, cGs_stripF]
                          refine ⟨⟨by omega, by omega⟩, ⟨by simp, by omega, by rw [List.length_append, cGs_len, List.length_replicate]; omega⟩, fun hle => ?_, fun hgt cap hcap => ?_⟩
                          · rw [hin (by omega)]
                            refine hK _ ?_; clear hK K
                            refine Aw_tx hE [2, 3, 4, 6, 8, 9] [2, 3, 4, 6, 58, 88, 107, 117, 229, 329] fun K hK => ?_
                            simp only [go_sem, seval, cGs_nt, cGs_stripF]
                            refine hK _ (hN20 (true, o ++ [⟨x, false⟩], c) _ ⟨fun _ => by simp only [List.length_append, List.length_singleton]; omega, by simp only [List.length_append, List.length_singleton]; omega, htk2⟩ ?_)
                            rw [telS_some (by simp), ← hx, List.length_append, List.length_singleton, show c - o.length - 1 = c - (o.length + 1) by omega]
                            exact Le_E (Le_ks [2, 3, 4, 6, 8, 9] [2, 3, 4, 6, 58, 107])
                          · refine hK _ ?_; clear hK K
                            refine Aw_tx hE [2, 3, 4, 6, 8, 9] [2, 3, 4, 6, 58, 88, 107, 117, 229, 329] fun K hK => ?_
                            simp only [go_sem, seval, cGs_nt, cGs_stripF]
                            refine hK _ (hN20 (true, o ++ [⟨x, false⟩], cap) _ ⟨fun _ => by simp only [List.length_append, List.length_singleton]; omega, by simp only [List.length_append, List.length_singleton]; omega, htk2⟩ ?_)
                            rw [telS_some (by simp), ← hx, List.length_append, List.length_singleton, cGs_app]
                            simp only [cGs, List.append_nil]
                            refine (Le_E (Le_swb _ 88 107 (by decide) (by decide))).trans ?_
                            simp only [St.swb, swbσ, swbm, AV.swb, AV.swbAll, swp, swbAll_app, swbAll_jk, gcs_swb, cGs_swb, Nat.reduceEqDiff, if_true, if_false, reduceIte]
                            exact Le_E (Le_ks [2, 3, 4, 6, 8, 9] [2, 3, 4, 6, 58, 107])
                        · have htk2 : telG x (l.take (i + 1)) = (o ++ [⟨⟨rf, rb, gp, rk, gm⟩, old⟩], put) := by
                            rw [htk, ← hx]; unfold telStep; exact if_neg (by rw [hp]; simpa using hc23)
                          refine Aw_skip (hN20 (put, o, c) _ ⟨hpo, by simp only; omega, htk2⟩ ?_)
                          rw [telS_some hoe]
                          exact Le_E (Le_ks [2, 3, 4, 6, 8, 9] [2, 3, 4, 6, 58, 107])
                      · have hp : put = true := by simpa using hg22
                        have htk2 : telG x (l.take (i + 1)) = (o ++ [⟨⟨rf, rb, gp, rk, gm⟩, old⟩], put) := by
                          rw [htk, ← hx]; unfold telStep; exact if_neg (by rw [hp]; simp)
                        refine hK _ (Aw_no rfl ?_)
                        refine Aw_skip (hN20 (put, o, c) _ ⟨hpo, by simp only; omega, htk2⟩ ?_)
                        rw [telS_some hoe]
                        exact Le_E (Le_ks [2, 3, 4, 6, 8, 9] [2, 3, 4, 6, 58, 107])
                    · obtain ⟨put', o', c'⟩ := q
                      obtain ⟨hq1, hq2, hq3⟩ := hq
                      simp only at hq1 hq2 hq3 ⊢
                      by_cases hoe' : o' = []
                      · subst hoe'
                        simp only [telS]
                        refine Aw_te hE [0, 2, 4, 9, 11, 1, 3, 5, 6, 7, 8, 10, 12, 13, 14, 15, 16, 17, 18, 19] [0, 1, 0, 4, 0, 28, 60, 124, 252, 0, 512, 0, 3584, 7680, 15872, 32764, 65532, 131071, 262143, 524287] [2, 3, 4, 6, 8, 9] [2, 3, 4, 6, 58, 88, 107, 117, 229, 329] (by kernel_rfl) fun K hK => ?_
                        simp only [go_sem, seval, hget, gcs_flat, gcs_leaf, gcs_strip]
                        refine ⟨by omega, ⟨by omega, by omega⟩, by omega, by simp, fun cap hcap => ?_⟩
                        refine hK _ (hN19 _ (hB18 _ ?_))
                        refine Aw_tx hE [2, 3, 4, 6, 8, 9] [2, 3, 4, 6, 58, 88, 107, 117, 229, 329] fun K hK => ?_
                        simp only [go_sem, seval]
                        repeat refine sd0 ?_
                        refine hK _ (hN15 (i + 1, cap) _ ⟨by simp only; omega, fun h => by simp only [hq3]; exact hcap⟩ (by simp only; omega) ?_)
                        simp only [hq3]
                        rw [telS_some (by simp)]
                        exact Le.refl _
                      · rw [telS_some hoe']
                        have hq1 := hq1 hoe'
                        have hin := cGs_in o' ⟨⟨rf, rb, gp, rk, gm⟩, old⟩ (c' - o'.length)
                        have htk3 := cGs_take o' (jk ((c' - o'.length) * 6))
                        refine Aw_te hE [0, 2, 4, 9, 11, 1, 3, 5, 6, 7, 8, 10, 12, 13, 14, 15, 16, 17, 18, 19] [0, 1, 0, 4, 0, 28, 60, 124, 252, 0, 512, 0, 3584, 7680, 15872, 32764, 65532, 131071, 262143, 524287] [2, 3, 4, 6, 8, 9] [2, 3, 4, 6, 58, 88, 107, 117, 229, 329] (by kernel_rfl) fun K hK => ?_
                        simp only [go_sem, seval, hget, gcs_flat, gcs_leaf, gcs_strip, htk3, cGs_strip, cGs_nt, cGs_stripF]
                        refine ⟨by omega, ⟨by omega, by omega⟩, by omega, ⟨by simp, by omega, by rw [List.length_append, cGs_len, List.length_replicate]; omega⟩, fun hle => ?_, fun hgt cap hcap => ?_⟩
                        · rw [hin (by omega)]
                          refine hK _ (hN19 _ (hB18 _ ?_))
                          refine Aw_tx hE [2, 3, 4, 6, 8, 9] [2, 3, 4, 6, 58, 88, 107, 117, 229, 329] fun K hK => ?_
                          simp only [go_sem, seval, cGs_nt, cGs_stripF]
                          repeat refine sd0 ?_
                          refine hK _ (hN15 (i + 1, c') _ ⟨by simp only; omega, fun h => by simp only [hq3, List.length_append, List.length_singleton]; omega⟩ (by simp only; omega) ?_)
                          simp only [hq3]
                          rw [telS_some (by simp), List.length_append, List.length_singleton, show c' - o'.length - 1 = c' - (o'.length + 1) by omega]
                          exact Le.refl _
                        · refine hK _ (hN19 _ (hB18 _ ?_))
                          refine Aw_tx hE [2, 3, 4, 6, 8, 9] [2, 3, 4, 6, 58, 88, 107, 117, 229, 329] fun K hK => ?_
                          simp only [go_sem, seval, cGs_nt, cGs_stripF]
                          repeat refine sd0 ?_
                          refine hK _ (hN15 (i + 1, cap) _ ⟨by simp only; omega, fun h => by simp only [hq3, List.length_append, List.length_singleton]; omega⟩ (by simp only; omega) ?_)
                          simp only [hq3]
                          rw [telS_some (by simp), List.length_append, List.length_singleton, cGs_app]
                          simp only [cGs, List.append_nil]
                          exact Le.refl _
                  · simp only [dfn] at hc17
                    have hil : i = l.length := by omega
                    subst hil
                    rw [List.take_length] at ho
                    refine Aw_exit (hX16 _ _ (hX15 _ _ (hE14 _ (hB13 _ ?_))))
                    refine Aw_sq fun B24 hB24 hR24 hX24 => ?_
                    refine Aw_st hE [3, 4, 6, 110] [2, 3, 4, 6, 58, 88, 107, 117, 229, 329] fun K hK => ?_
                    simp only [go_sem, seval, cGs_nt, cGs_stripF]
                    refine hK _ (Aw_cond rfl (fun hc25 => ?_) (fun hc25 => ?_))
                    · have hp : put = false := by simpa using hc25
                      have hT : telL x l = o ++ [⟨⟨xf, xb, p, xk, m⟩, false⟩] := by unfold telL; rw [ho, hp, hx]; rfl
                      rw [hT] at hO
                      have hin := cGs_in o ⟨⟨xf, xb, p, xk, m⟩, false⟩ (c - o.length)
                      have htk3 := cGs_take o (jk ((c - o.length) * 6))
                      refine Aw_te hE [0, 1, 2, 3, 4, 5, 6, 7, 8] [0, 1, 0, 4, 12, 28, 63, 127, 255] [4, 6] [2, 3, 4, 6, 58, 88, 107, 117, 229, 329] (by kernel_rfl) fun K hK => ?_
                      simp only [go_sem, seval, gcs_flat, gcs_leaf, gcs_strip, htk3, cGs_strip, cGs_nt, cGs_stripF]
                      refine ⟨⟨by omega, by omega⟩, ⟨by simp, by omega, by rw [List.length_append, cGs_len, List.length_replicate]; omega⟩, fun hle => ?_, fun hgt cap hcap => ?_⟩
                      · rw [hin (by omega)]
                        refine hK _ (hB24 _ ?_)
                        refine Aw_st hE [4, 5] [2, 3, 4, 6, 58, 88, 107, 117, 229, 329] fun K hK => ?_
                        simp only [go_sem, seval, cGs_nt, cGs_stripF]
                        refine hK _ ?_
                        have hon : (o ++ [(⟨⟨xf, xb, p, xk, m⟩, false⟩ : Gt)]).length = o.length + 1 := by simp
                        have hfg := frz_grows (o ++ [⟨⟨xf, xb, p, xk, m⟩, false⟩])
                        rw [hon] at hfg
                        refine Aw.leE (Le_E (Le_swb _ 107 900 (by decide) (by decide))) ?_
                        simp only [St.swb, swbσ, swbm, AV.swb, AV.swbAll, swp, swbAll_app, swbAll_jk, gcs_swb, cGs_swb, Nat.reduceEqDiff, if_true, if_false, reduceIte]
                        refine Aw.leE (Le_E (Le_ks [4, 5] [4, 900])) ?_
                        refine Aw_ret (hQ _ ?_)
                        simp only [go_sem, seval, cGs_nt, cGs_stripF]
                        intro h' up' l' f' b' q' k' m' he K' hK'
                        obtain ⟨rfl, rfl, rfl, rfl, rfl, rfl, rfl, rfl⟩ := rbrt_inj he
                        rw [← hx] at hO
                        have hz := hK'.2 _ hO c (by simp only [List.length_set, List.length_append, List.length_singleton, List.length_cons, List.length_nil]; omega)
                        simp only [List.length_set, List.length_append, List.length_singleton, List.length_cons, List.length_nil] at hz
                        rw [show c - o.length - 1 = c - (o.length + 1) by omega]
                        exact hz
                      · have hca := cGs_app o [⟨⟨xf, xb, p, xk, m⟩, false⟩]
                        simp only [cGs, List.append_nil] at hca
                        rw [← hca]
                        refine hK _ (hB24 _ ?_)
                        refine Aw_st hE [4, 5] [2, 3, 4, 6, 58, 88, 107, 117, 229, 329] fun K hK => ?_
                        simp only [go_sem, seval, cGs_nt, cGs_stripF]
                        refine hK _ ?_
                        have hon : (o ++ [(⟨⟨xf, xb, p, xk, m⟩, false⟩ : Gt)]).length = o.length + 1 := by simp
                        have hfg := frz_grows (o ++ [⟨⟨xf, xb, p, xk, m⟩, false⟩])
                        rw [hon] at hfg
                        refine Aw.leE (Le_E (Le_swb _ 117 900 (by decide) (by decide))) ?_
                        simp only [St.swb, swbσ, swbm, AV.swb, AV.swbAll, swp, swbAll_app, swbAll_jk, gcs_swb, cGs_swb, Nat.reduceEqDiff, if_true, if_false, reduceIte]
                        refine Aw.leE (Le_E (Le_ks [4, 5] [4, 900])) ?_
                        refine Aw_ret (hQ _ ?_)
                        simp only [go_sem, seval, cGs_nt, cGs_stripF]
                        intro h' up' l' f' b' q' k' m' he K' hK'
                        obtain ⟨rfl, rfl, rfl, rfl, rfl, rfl, rfl, rfl⟩ := rbrt_inj he
                        rw [← hx] at hO
                        have hz := hK'.2 _ hO cap (by simp only [List.length_set, List.length_append, List.length_singleton, List.length_cons, List.length_nil]; omega)
                        simp only [List.length_set, List.length_append, List.length_singleton, List.length_cons, List.length_nil] at hz
                        exact hz
                    · have hp : put = true := by simpa using hc25
                      have hT : telL x l = o := by unfold telL; rw [ho, hp]; rfl
                      rw [hT] at hO
                      refine Aw_skip (hB24 _ ?_)
                      refine Aw_st hE [4, 5] [2, 3, 4, 6, 58, 88, 107, 117, 229, 329] fun K hK => ?_
                      simp only [go_sem, seval, cGs_nt, cGs_stripF]
                      refine hK _ ?_
                      refine Aw.leE (Le_E (Le_swb _ 107 900 (by decide) (by decide))) ?_
                      simp only [St.swb, swbσ, swbm, AV.swb, AV.swbAll, swp, swbAll_app, swbAll_jk, gcs_swb, cGs_swb, Nat.reduceEqDiff, if_true, if_false, reduceIte]
                      refine Aw.leE (Le_E (Le_ks [4, 5] [4, 900])) ?_
                      refine Aw_ret (hQ _ ?_)
                      simp only [go_sem, seval, cGs_nt, cGs_stripF]
                      intro h' up' l' f' b' q' k' m' he K' hK'
                      obtain ⟨rfl, rfl, rfl, rfl, rfl, rfl, rfl, rfl⟩ := rbrt_inj he
                      rw [← hx] at hO
                      have hz := hK'.2 _ hO c (by simp only [List.length_set, List.length_append, List.length_singleton, List.length_cons, List.length_nil]; omega)
                      simp only [List.length_set, List.length_append, List.length_singleton, List.length_cons, List.length_nil] at hz
                      exact hz
          · repeat refine sd0 ?_
            have h9 : 0 ≤ atG l xf xb := by simp only [dfn] at hg9; omega
            obtain ⟨i, hil, hie⟩ := atG_ge h9
            have hO := htr
            rw [if_neg (by rw [hg8]; simp [show ¬ atG l xf xb < 0 by omega]), if_pos (by simpa using h9), hie, Int.toNat_natCast] at hO
            refine hK _ (Aw_no rfl ?_)
            refine Aw_skip (hB6 _ ?_)
            refine Aw_sq fun B11 hB11 hR11 hX11 => ?_
            refine Aw_st hE [2, 3, 4, 6, 7, 49] [2, 3, 4, 6, 58, 88, 107, 117, 229, 329] fun K hK => ?_
            simp only [go_sem, seval, cGs_nt, cGs_stripF]
            refine hK _ (Aw_cond rfl (fun hc12 => ?_) (fun hc12 => ?_))
            · have hs6 := set6 xf xb p xk m false (List.replicate ((cap - l.length) * 6) .junk) l i hil
              have hsl : (l.set i ⟨⟨xf, xb, p, xk, m⟩, false⟩).length = l.length := List.length_set
              have hfg := frz_grows (l.set i ⟨⟨xf, xb, p, xk, m⟩, false⟩)
              rw [hsl] at hfg
              refine Aw_se hE [0, 2, 1, 3, 4, 5, 6, 7] [0, 1, 0, 0, 8, 24, 63, 127] [4, 6] [2, 3, 4, 6, 58, 88, 107, 117, 229, 329] (by kernel_rfl) fun K hK => ?_
              simp only [go_sem, seval, cGs_nt, cGs_stripF]
              simp only [hie, Int.toNat_natCast]
              rw [hs6]
              refine ⟨⟨by omega, by omega⟩, ⟨by omega, by omega⟩, by rw [List.length_append, cGs_len]; omega, ?_⟩
              refine hK _ ?_; clear hK K
              refine Aw_st hE [4, 5] [2, 3, 4, 6, 58, 88, 107, 117, 229, 329] fun K hK => ?_
              simp only [go_sem, seval, cGs_nt, cGs_stripF]
              refine hK _ ?_
              refine Aw.leE (Le_E (Le_swb _ 329 900 (by decide) (by decide))) ?_
              simp only [St.swb, swbσ, swbm, AV.swb, AV.swbAll, swp, swbAll_app, swbAll_jk, gcs_swb, cGs_swb, Nat.reduceEqDiff, if_true, if_false, reduceIte]
              refine Aw.leE (Le_E (Le_ks [4, 5] [4, 900])) ?_
              refine Aw_ret (hR11 _ (hQ _ ?_))
              simp only [go_sem, seval, cGs_nt, cGs_stripF]
              intro h' up' l' f' b' q' k' m' he K' hK'
              obtain ⟨rfl, rfl, rfl, rfl, rfl, rfl, rfl, rfl⟩ := rbrt_inj he
              have hz := hK'.2 _ hO cap (by simp only [List.length_set, List.length_append, List.length_singleton, List.length_cons, List.length_nil]; omega)
              simp only [List.length_set, List.length_append, List.length_singleton, List.length_cons, List.length_nil] at hz
              exact hz
            · simp only [dfn] at hc12; omega
theorem upM_pre (h:Int) (up:Bool) (l:List Gt):cUpM.pre [.agg [iv h,bv up,.sl none (grows l)]] []=(l.length≤1000∧lensG l):=by
 apply propext
 constructor
 ·rintro ⟨h',up',l',e,_,h2⟩
  obtain ⟨rfl,rfl,rfl⟩:=rbav_inj e
  exact h2
 ·exact fun hh=>⟨h,up,l,rfl,rfl,hh⟩
theorem upM_post (h:Int) (up:Bool) (l:List Gt) (m1:List (Nat × List AV)) (K:AV→List (Nat × List AV)→Prop):(∀ r m2,cUpM.post [.agg [iv h,bv up,.sl none (grows l)]] m1 r m2→K r m2)=upC h up l K:=by
 apply propext
 constructor
 ·intro hh
  refine ⟨fun ho=>hh _ _ ?_,fun ho cap hc=>hh _ _ ?_⟩
  all_goals
   intro h' up' l' e K' hK'
   obtain ⟨rfl,rfl,rfl⟩:=rbav_inj e
   first | exact hK'.1 ho | exact hK'.2 ho cap hc | exact hK'.2 z ho cap hc
 ·exact fun hh r m2 hp=>hp h up l rfl K hh
attribute [go_sem] upM_pre upM_post
theorem endM_pre (h:Int) (up:Bool) (l:List Gt):cEndM.pre [.agg [iv h,bv up,.sl none (grows l)]] []=(l.length≤1000∧lensG l):=by
 apply propext
 constructor
 ·rintro ⟨h',up',l',e,_,h2⟩
  obtain ⟨rfl,rfl,rfl⟩:=rbav_inj e
  exact h2
 ·exact fun hh=>⟨h,up,l,rfl,rfl,hh⟩
theorem endM_post (h:Int) (up:Bool) (l:List Gt) (m1:List (Nat × List AV)) (K:AV→List (Nat × List AV)→Prop):(∀ r m2,cEndM.post [.agg [iv h,bv up,.sl none (grows l)]] m1 r m2→K r m2)=enC h up l K:=by
 apply propext
 constructor
 ·intro hh
  refine ⟨fun ho=>hh _ _ ?_,fun ho cap hc=>hh _ _ ?_⟩
  all_goals
   intro h' up' l' e K' hK'
   obtain ⟨rfl,rfl,rfl⟩:=rbav_inj e
   first | exact hK'.1 ho | exact hK'.2 ho cap hc | exact hK'.2 z ho cap hc
 ·exact fun hh r m2 hp=>hp h up l rfl K hh
attribute [go_sem] endM_pre endM_post
theorem downM_pre (h:Int) (up:Bool) (l:List Gt) (g:Bool):cDownM.pre [.agg [iv h,bv up,.sl none (grows l)],bv g] []=(l.length≤1000∧lensG l):=by
 apply propext
 constructor
 ·rintro ⟨h',up',l',g',e,_,h2⟩
  obtain ⟨rfl,rfl,rfl,rfl⟩:=rbav1_inj e
  exact h2
 ·exact fun hh=>⟨h,up,l,g,rfl,rfl,hh⟩
theorem downM_post (h:Int) (up:Bool) (l:List Gt) (g:Bool) (m1:List (Nat × List AV)) (K:AV→List (Nat × List AV)→Prop):(∀ r m2,cDownM.post [.agg [iv h,bv up,.sl none (grows l)],bv g] m1 r m2→K r m2)=dnC h up l g K:=by
 apply propext
 constructor
 ·intro hh
  refine ⟨fun ho=>hh _ _ ?_,fun ho cap hc=>hh _ _ ?_⟩
  all_goals
   intro h' up' l' g' e K' hK'
   obtain ⟨rfl,rfl,rfl,rfl⟩:=rbav1_inj e
   first | exact hK'.1 ho | exact hK'.2 ho cap hc | exact hK'.2 z ho cap hc
 ·exact fun hh r m2 hp=>hp h up l g rfl K hh
attribute [go_sem] downM_pre downM_post
theorem tellM_pre (h:Int) (up:Bool) (l:List Gt) (f:Int) (b:Int) (p:List Int) (k:Int) (m:List Int):cTellM.pre [.agg [iv h,bv up,.sl none (grows l)],.agg [iv f,iv b,isl p,iv k,isl m]] []=((l.length≤1000∧lensG l)∧p.length≤1000∧m.length≤900):=by
 apply propext
 constructor
 ·rintro ⟨h',up',l',f',b',p',k',m',e,_,h2⟩
  obtain ⟨rfl,rfl,rfl,rfl,rfl,rfl,rfl,rfl⟩:=rbrt_inj e
  exact h2
 ·exact fun hh=>⟨h,up,l,f,b,p,k,m,rfl,rfl,hh⟩
theorem tellM_post (h:Int) (up:Bool) (l:List Gt) (f:Int) (b:Int) (p:List Int) (k:Int) (m:List Int) (m1:List (Nat × List AV)) (K:AV→List (Nat × List AV)→Prop):(∀ r m2,cTellM.post [.agg [iv h,bv up,.sl none (grows l)],.agg [iv f,iv b,isl p,iv k,isl m]] m1 r m2→K r m2)=tlC ⟨h,up,l⟩ ⟨f,b,p,k,m⟩ K:=by
 apply propext
 constructor
 ·intro hh
  refine ⟨fun ho=>hh _ _ ?_,fun z ho cap hc=>hh _ _ ?_⟩
  all_goals
   intro h' up' l' f' b' p' k' m' e K' hK'
   obtain ⟨rfl,rfl,rfl,rfl,rfl,rfl,rfl,rfl⟩:=rbrt_inj e
   first | exact hK'.1 ho | exact hK'.2 ho cap hc | exact hK'.2 z ho cap hc
 ·exact fun hh r m2 hp=>hp h up l f b p k m rfl K hh
attribute [go_sem] tellM_pre tellM_post
theorem lensG_app {a b:List Gt} (ha:lensG a) (hb:lensG b):lensG (a++b):=fun g hg=>(List.mem_append.1 hg).elim (ha g) (hb g)
theorem lensG_old {l:List Gt} (h:lensG l):lensG (l.map oldG):=by
 intro g hg
 obtain ⟨x,hx,rfl⟩:=List.mem_map.1 hg
 exact h x hx
theorem lensG_end:∀ {l:List Gt},lensG l→lensG (endL l)
 | [],_=>by intro g hg;cases hg
 | x::l,h=>by
  refine lensG_app ?_ (lensG_end fun g hg=>h g (List.mem_cons_of_mem _ hg))
  intro g hg
  split at hg
  ·cases hg
  ·rw [List.mem_singleton] at hg;rw [hg];exact h x List.mem_cons_self
theorem rCmp_neg {f b f' b':Int}:rCmp f b f' b' < 0↔(f < f'∨(f=f'∧b < b')):=by
 unfold rCmp orL orL orL cmpI
 repeat' split
 all_goals omega
theorem rCmp_pos {f b f' b':Int}:0 < rCmp f b f' b'↔(f' < f∨(f'=f∧b' < b)):=by
 unfold rCmp orL orL orL cmpI
 repeat' split
 all_goals omega
def ltG (a b:Gt):Prop:=a.r.f < b.r.f∨(a.r.f=b.r.f∧a.r.b < b.r.b)
theorem ltG_trans {a b c:Gt} (h:ltG a b) (k:ltG b c):ltG a c:=by
 unfold ltG at *;omega
def bG (h:Int) (up:Bool) (g:Gt):Bool:=okR g.r && (decide (g.r.path.head? = some h) && (up || g.old))
theorem allG_iff {h:Int} {up:Bool}:∀ {q:Option Gt} {l:List Gt},allG h up q l=true↔(∀ g ∈ l,bG h up g=true)∧(∀ p,q=some p→∀ g ∈ l,ltG p g)∧l.Pairwise ltG
 | q,[]=>by simp [allG]
 | q,g::l=>by
  have ih:=allG_iff (h:=h) (up:=up) (q:=some g) (l:=l)
  have e:gotOk h up q g=(bG h up g && (match q with | none=>true | some q=>decide (rCmp q.r.f q.r.b g.r.f g.r.b < 0))):=by
   unfold gotOk bG
   cases q<;>simp [Bool.and_assoc]
  rw [allG,Bool.and_eq_true,ih,e,Bool.and_eq_true,List.pairwise_cons]
  constructor
  ·rintro ⟨⟨h1,h2⟩,h3,h4,h5⟩
   refine ⟨fun x hx=>?_,fun p hp x hx=>?_,fun x hx=>h4 g rfl x hx,h5⟩
   ·rcases List.mem_cons.1 hx with rfl | hx
    ·exact h1
    ·exact h3 x hx
   ·subst hp
    have hg:ltG p g:=rCmp_neg.1 (by simpa using h2)
    rcases List.mem_cons.1 hx with rfl | hx
    ·exact hg
    ·exact ltG_trans hg (h4 g rfl x hx)
  ·rintro ⟨h1,h2,h3,h4⟩
   refine ⟨⟨h1 g (by simp),?_⟩,fun x hx=>h1 x (List.mem_cons_of_mem _ hx),fun p hp x hx=>by obtain rfl:=Option.some.inj hp;exact h3 x hx,h4⟩
   cases q with
   | none=>rfl
   | some p=>simpa using rCmp_neg.2 (h2 p rfl g (by simp))
theorem ribOk_iff {h:Int} {up:Bool} {l:List Gt}:ribOk ⟨h,up,l⟩=true↔isH h=true∧l.length≤6∧(∀ g ∈ l,bG h up g=true)∧l.Pairwise ltG:=by
 unfold ribOk
 rw [Bool.and_eq_true,Bool.and_eq_true,allG_iff]
 simp
theorem bG_up {h:Int} {up:Bool} {g:Gt} (hg:bG h up g=true):bG h true g=true:=by
 simp only [bG,Bool.and_eq_true] at *
 exact ⟨hg.1,hg.2.1,rfl⟩
theorem ribOk_up {h:Int} {up:Bool} {l:List Gt} (hb:ribOk ⟨h,up,l⟩=true):ribOk ⟨h,true,l⟩=true:=by
 rw [ribOk_iff] at *
 exact ⟨hb.1,hb.2.1,fun g hg=>bG_up (hb.2.2.1 g hg),hb.2.2.2⟩
theorem ribOk_nil {h:Int} {up:Bool} (hh:isH h=true):ribOk ⟨h,up,[]⟩=true:=by
 rw [ribOk_iff]
 exact ⟨hh,by simp,by simp,.nil⟩
theorem ribOk_down {h:Int} {up g:Bool} {l:List Gt} (hb:ribOk ⟨h,up,l⟩=true):ribOk ⟨h,false,if g then l.map oldG else []⟩=true:=by
 cases g with
 | false=>exact ribOk_nil (ribOk_iff.1 hb).1
 | true =>
  rw [if_pos rfl]
  rw [ribOk_iff] at *
  obtain ⟨h1,h2,h3,h4⟩:=hb
  refine ⟨h1,by simpa using h2,fun x hx=>?_,List.pairwise_map.2 (h4.imp fun h=>h)⟩
  obtain ⟨y,hy,rfl⟩:=List.mem_map.1 hx
  have:=h3 y hy
  simp only [bG,Bool.and_eq_true] at *
  exact ⟨this.1,this.2.1,by simp [oldG]⟩
theorem endL_eq:∀ l:List Gt,endL l=(l.filter fun g=>!g.old).map newG
 | []=>rfl
 | g::l=>by
  rw [endL,endL_eq l,List.filter_cons]
  cases g.old<;>rfl
theorem ribOk_end {h:Int} {up:Bool} {l:List Gt} (hb:ribOk ⟨h,up,l⟩=true):ribOk ⟨h,up,endL l⟩=true:=by
 rw [ribOk_iff] at *
 obtain ⟨h1,h2,h3,h4⟩:=hb
 refine ⟨h1,Nat.le_trans (endL_len l) h2,fun x hx=>?_,?_⟩
 ·rw [endL_eq] at hx
  obtain ⟨y,hy,rfl⟩:=List.mem_map.1 hx
  obtain ⟨hy1,hy2⟩:=List.mem_filter.1 hy
  have:=h3 y hy1
  simp only [bG,Bool.and_eq_true,newG,Bool.or_false] at *
  simp only [Bool.not_eq_true'] at hy2
  exact ⟨this.1,this.2.1,by simpa [hy2] using this.2.2⟩
 ·rw [endL_eq]
  exact List.pairwise_map.2 ((h4.sublist List.filter_sublist).imp fun h=>h)
def insG (x:Rt):List Gt→List Gt
 | []=>[⟨x,false⟩]
 | g::l=>if 0 < rCmp g.r.f g.r.b x.f x.b then ⟨x,false⟩::g::l else g::insG x l
theorem telF_true (x:Rt):∀ (l a:List Gt),l.foldl (telStep x) (a,true)=(a++l,true)
 | [],a=>by simp
 | g::l,a=>by
  rw [List.foldl_cons]
  have:telStep x (a,true) g=(a++[g],true):=rfl
  rw [this,telF_true x l]
  simp
theorem telF_false (x:Rt):∀ (l a:List Gt),(if (l.foldl (telStep x) (a,false)).2 then (l.foldl (telStep x) (a,false)).1 else (l.foldl (telStep x) (a,false)).1++[⟨x,false⟩])=a++insG x l
 | [],a=>rfl
 | g::l,a=>by
  rw [List.foldl_cons,insG]
  by_cases hc:0 < rCmp g.r.f g.r.b x.f x.b
  ·have:telStep x (a,false) g=(a++[⟨x,false⟩]++[g],true):=by unfold telStep;simp [hc]
   rw [this,telF_true,if_pos hc,if_pos rfl]
   simp
  ·have:telStep x (a,false) g=(a++[g],false):=by unfold telStep;simp [hc]
   rw [this,telF_false x l,if_neg hc]
   simp
theorem telL_ins (x:Rt) (l:List Gt):telL x l=insG x l:=by
 exact (telF_false x l []).trans (List.nil_append _)
theorem insG_mem {x:Rt} {g:Gt}:∀ {l:List Gt},g ∈ insG x l↔g=⟨x,false⟩∨g ∈ l
 | []=>by simp [insG]
 | y::l=>by
  rw [insG]
  split
  ·simp
  ·simp only [List.mem_cons,insG_mem (l:=l)]
   constructor
   ·rintro (h | h | h)
    ·exact .inr (.inl h)
    ·exact .inl h
    ·exact .inr (.inr h)
   ·rintro (h | h | h)
    ·exact .inr (.inl h)
    ·exact .inl h
    ·exact .inr (.inr h)
theorem insG_len (x:Rt):∀ l:List Gt,(insG x l).length=l.length + 1
 | []=>rfl
 | y::l=>by
  rw [insG]
  split
  ·simp
  ·simp [insG_len x l]
theorem insG_pw {x:Rt}:∀ {l:List Gt},l.Pairwise ltG→(∀ g ∈ l,sameRg x.f x.b g=false)→(insG x l).Pairwise ltG
 | [],_,_=>by simp [insG]
 | y::l,hp,hs=>by
  obtain ⟨h1,h2⟩:=List.pairwise_cons.1 hp
  rw [insG]
  split
  ·rename_i hc
   rw [rCmp_pos] at hc
   have hxy:ltG ⟨x,false⟩ y:=by unfold ltG;exact hc
   refine List.pairwise_cons.2 ⟨fun z hz=>?_,hp⟩
   rcases List.mem_cons.1 hz with rfl | hz
   ·exact hxy
   ·exact ltG_trans hxy (h1 z hz)
  ·rename_i hc
   rw [rCmp_pos] at hc
   have hne:=hs y (by simp)
   simp only [sameRg,Bool.and_eq_false_iff,dfn] at hne
   refine List.pairwise_cons.2 ⟨fun z hz=>?_,insG_pw h2 fun g hg=>hs g (List.mem_cons_of_mem _ hg)⟩
   rcases insG_mem.1 hz with rfl | hz
   ·unfold ltG;simp only;omega
   ·exact h1 z hz
theorem atG_neg {l:List Gt} {f b:Int} (h:atG l f b < 0):∀ g ∈ l,sameRg f b g=false:=by
 rcases idxB_some (f:=sameRg f b) (l:=l) (k:=0) with ⟨_,h2⟩ | ⟨i,hi,h1,_⟩
 ·exact h2
 ·unfold atG at h;omega
theorem atG_at {l:List Gt} {f b:Int} (h:0≤atG l f b):∃ i,∃ hi:i < l.length,atG l f b=(i:Nat)∧l[i].r.f=f∧l[i].r.b=b:=by
 rcases idxB_some (f:=sameRg f b) (l:=l) (k:=0) with ⟨h1,_⟩ | ⟨i,hi,h1,h2,_⟩
 ·unfold atG at h;omega
 ·simp only [sameRg,Bool.and_eq_true,dte] at h2
  exact ⟨i,hi,by unfold atG;rw [h1];simp,h2.1,h2.2⟩
theorem set_pw {l:List Gt} {i:Nat} (hi:i < l.length) {x:Gt} (hf:l[i].r.f=x.r.f) (hb:l[i].r.b=x.r.b) (hp:l.Pairwise ltG):(l.set i x).Pairwise ltG:=by
 rw [List.pairwise_iff_getElem] at *
 intro a b ha hb' hab
 simp only [List.length_set] at ha hb'
 have:=hp a b ha hb' hab
 rw [List.getElem_set,List.getElem_set]
 unfold ltG at *
 split
 ·rename_i e;subst e
  rw [if_neg (by omega)]
  rw [← hf,← hb];exact this
 ·split
  ·rename_i e;subst e
   rw [← hf,← hb];exact this
  ·exact this
theorem telO_ok {b:Rb} {x:Rt} {z:Rb × Bool} (h:telO b x=some z):ribOk z.1=true∧z.1.h=b.h∧(z.2=false→z.1=b):=by
 unfold telO at h
 split at h
 ·rename_i hc
  simp only [Bool.and_eq_true,dte] at hc
  obtain ⟨hb,hx1,hx2⟩:=hc
  obtain ⟨bh,bu,bl⟩:=b
  simp only at hx2 h
  have hb2:=ribOk_iff.1 hb
  obtain rfl:=Option.some.inj h
  split
  ·exact ⟨hb,rfl,fun _=>rfl⟩
  ·rename_i hn
   simp only [Bool.or_eq_true,Bool.not_eq_true',Bool.and_eq_true,dte,not_or,Bool.not_eq_false] at hn
   obtain ⟨hu,hn⟩:=hn
   subst hu
   have hbx:bG bh true ⟨x,false⟩=true:=by simp [bG,hx1,hx2]
   split
   ·rename_i h0
    obtain ⟨i,hi,e1,e2,e3⟩:=atG_at (of_decide_eq_true h0)
    refine ⟨?_,rfl,fun h=>by cases h⟩
    rw [e1,Int.toNat_natCast,ribOk_iff]
    refine ⟨hb2.1,by simpa using hb2.2.1,fun g hg=>?_,set_pw hi e2 e3 hb2.2.2.2⟩
    rcases List.mem_or_eq_of_mem_set hg with hg | rfl
    ·exact hb2.2.2.1 g hg
    ·exact hbx
   ·rename_i h0
    simp only [dte] at h0
    refine ⟨?_,rfl,fun h=>by cases h⟩
    rw [telL_ins,ribOk_iff]
    refine ⟨hb2.1,by rw [insG_len];omega,fun g hg=>?_,insG_pw hb2.2.2.2 (atG_neg (by omega))⟩
    rcases insG_mem.1 hg with rfl | hg
    ·exact hbx
    ·exact hb2.2.2.1 g hg
 ·cases h
theorem lensG_tel {b:Rb} {x:Rt} {z:Rb × Bool} (hb:lensG b.all) (hx:x.path.length≤1000∧x.marks.length≤900) (h:telO b x=some z):lensG z.1.all:=by
 unfold telO at h
 split at h
 ·obtain rfl:=Option.some.inj h
  split
  ·exact hb
  ·split
   ·intro g hg
    rcases List.mem_or_eq_of_mem_set hg with hg | rfl
    ·exact hb g hg
    ·exact hx
   ·intro g hg
    rw [telL_ins] at hg
    rcases insG_mem.1 hg with rfl | hg
    ·exact hx
    ·exact hb g hg
 ·cases h
theorem lensG_down {l:List Gt} {g:Bool} (h:lensG l):lensG (if g then l.map oldG else []):=by
 cases g
 ·intro x hx;cases hx
 ·exact lensG_old h
end Go.Proofs.W
end
