/- YtgfclgpljhiicaaDoorCardSho: part of the proof that laws hold, for every input that the row speaks of (no condition of ours). -/
import Derived.Test.YtgfclgpljhiicaaDoorWc
import Derived.Test.YtgfclgpljhiicaaDoorWd
import Derived.Test.YtgfclgpljhiicaaDoorWb
import Derived.Test.YtgfclgpljhiicaaDoorWa
import Derived.Test.YtgfclgpljhiicaaDoorEc
import Derived.ChangeVars
import Derived.RowKitTokens
import Derived.Test.YtgfclgpljhiicaaDoorCards
import Derived.Test.YtgfclgpljhiicaaDoorTie
set_option linter.unusedVariables false
set_option linter.unusedSimpArgs false
section
namespace Go.Proofs.W
open Go Go.Eng Go.RowKit
set_option linter.unusedSimpArgs false
set_option maxRecDepth 100000
/-! where nets come to -/
def endR (R:List (List Int)) (x:Int):List (List Int):=if relsOk R && hIb R.length x then endL R.length (ofR R) x else []
theorem endR_big {R:List (List Int)} {x:Int}:bigM (endR R x)∧(endR R x).length≤5:=by
 unfold endR
 split
 ·rename_i h
  rw [Bool.and_eq_true] at h
  have hn5:=(relsOk_iff.1 h.1).1.2
  have hx:=hIb_iff.1 h.2
  have hl:=(endL_S (of:=ofR R) hx).2
  have hv:=end_net (of:=ofR R) hn5 hx
  refine ⟨⟨by omega,fun w hw=>?_⟩,by omega⟩
  obtain ⟨i,hi,rfl⟩:=List.getElem_of_mem hw
  have:=hv.2 ((i:Int) + 1) ⟨by omega,by omega⟩
  rw [toS_succ,List.getD_eq_getElem?_getD,List.getElem?_eq_getElem hi,Option.getD_some] at this
  by_cases e:(endL R.length (ofR R) x)[i]=[]
  ·rw [e];simp
  ·have:=pathOk_len ((wayOk_iff e).1 this).2.2.1;omega
 ·exact ⟨⟨by simp,fun w hw=>by cases hw⟩,by simp⟩
theorem endR_bw {R:List (List Int)} {x:Int}:bigW (endR R x):=by
 obtain ⟨⟨h1,h2⟩,h3⟩:=endR_big (R:=R) (x:=x)
 exact ⟨by omega,fun w hw=>by have:=h2 w hw;omega⟩
/-- what is free of rings -/
structure FreeR (R:List (List Int)) (x:Int):Prop where
 ok:relsOk R=true
 home:hI R.length x
 n5:R.length≤5
 H:RelH R.length (ofR R)
 rk:∃ rk,Rk R.length (ofR R) rk
 eq:endR R x=endL R.length (ofR R) x
 len:(endR R x).length=R.length
theorem freeR {R:List (List Int)} {x:Int} (h:(endR R x).length≠0):relsOk R=true∧hI R.length x∧endR R x=endL R.length (ofR R) x:=by
 unfold endR at h ⊢
 cases hb:(relsOk R && hIb R.length x) with
 | false=>rw [hb] at h;exact absurd rfl h
 | true =>
  rw [Bool.and_eq_true] at hb
  exact ⟨hb.1,hIb_iff.1 hb.2,rfl⟩
theorem freeR_of {R:List (List Int)} {x:Int} (h:(endR R x).length≠0) (hf:(ordR R).isSome=true):FreeR R x:=by
 obtain ⟨h1,h2,h3⟩:=freeR h
 unfold ordR at hf
 rw [if_pos h1] at hf
 obtain ⟨l,hl⟩:=Option.isSome_iff_exists.1 hf
 exact ⟨h1,h2,(relsOk_iff.1 h1).1.2,relsOk_H h1,⟨_,ord_rk hl⟩,h3,by rw [h3];exact (endL_S h2).2⟩
theorem endR_def (R:List (List Int)) (x:Int):(if (relsOk R && hIb R.length x)=true then endL R.length (ofR R) x else [])=endR R x:=rfl
attribute [go_sem] endR_def
end Go.Proofs.W
end
section
namespace Go.Proofs.W
open Go Go.Eng Go.RowKit
set_option linter.unusedSimpArgs false
/-! the end of a net,by places -/
section
variable {R:List (List Int)} {x:Int}
theorem FreeR.net (F:FreeR R x):netS R.length (ofR R) x (toS (endR R x)):=by rw [F.eq];exact end_net F.n5 F.home
theorem FreeR.still (F:FreeR R x):stillS R.length (ofR R) x (toS (endR R x)):=by
 obtain ⟨rk,K⟩:=F.rk
 rw [F.eq];exact end_still F.H K F.home
theorem FreeR.hi (_:FreeR R x) {i:Nat} (hi:i < R.length):hI R.length ((i:Int) + 1):=⟨by omega,by omega⟩
theorem toS_at {W:List (List Int)} {y:Int} (h:1≤y):toS W y=W.getD (y - 1).toNat []:=if_pos h
theorem FreeR.alongI (F:FreeR R x) {i:Nat} (hi:i < R.length) (hl:1 < ((endR R x).getD i []).length) :
  (1≤((endR R x).getD i []).getD 1 0∧((endR R x).getD i []).getD 1 0≤R.length)∧((endR R x).getD i []).drop 1=(endR R x).getD (((endR R x).getD i []).getD 1 0 - 1).toNat []:=by
 have h:=along F.net F.still (F.hi hi) (by rw [toS_succ];exact hl)
 rw [toS_succ] at h
 have h1:hI R.length (((endR R x).getD i []).getD 1 0):=h.1
 refine ⟨h1,?_⟩
 rw [h.2]
 exact toS_at h1.1
theorem FreeR.noVI (F:FreeR R x) {i:Nat} (hi:i < R.length):noV (ofR R) false ((endR R x).getD i [])=true:=by
 have h:=(no_valley F.H F.net F.still _ _ (F.hi hi) (Nat.le_refl _)).1
 rwa [toS_succ] at h
theorem FreeR.home_i (F:FreeR R x) {i:Nat} (e:(i:Int) + 1=x):(endR R x).getD i []=[x]:=by
 have:=netS_home F.net
 rw [← e,toS_succ] at this
 rw [← e];exact this
theorem FreeR.len2 (F:FreeR R x) {i:Nat} (hi:i < R.length) (hne:(i:Int) + 1≠x) (hw:(endR R x).getD i []≠[]):2≤((endR R x).getD i []).length:=by
 have:=netS_len F.net (F.hi hi) hne (by rw [toS_succ];exact hw)
 rwa [toS_succ] at this
theorem FreeR.upWI (F:FreeR R x) {i:Nat} (hi:i < R.length) (hw:(endR R x).getD i []≠[]) :
  upW (ofR R) ((i:Int) + 1) ((endR R x).getD i [])=(decide ((i:Int) + 1=x) || decide (ofR R ((i:Int) + 1) (((endR R x).getD i []).getD 1 0)=1)):=by
 by_cases e:(i:Int) + 1=x
 ·rw [F.home_i e,decide_eq_true e];rfl
 ·have h2:=F.len2 hi e hw
  have h1:=(F.alongI hi (by omega)).1
  rw [decide_eq_false e,Bool.false_or]
  unfold Go.Proofs.W.upW nxt
  rw [show (((endR R x).getD i []).getD 1 0 == 0)=false from beq_false_of_ne (by omega),Bool.false_or]
  rfl
theorem FreeR.allUp (F:FreeR R x) {i j:Nat} (hi:i < R.length) (hj:j < R.length) (hw:(endR R x).getD i []≠[]) :
  (ofR R ((i:Int) + 1) ((j:Int) + 1)=1→(endR R x).getD j []≠[])∧
  (ofR R ((i:Int) + 1) ((j:Int) + 1)=3→((i:Int) + 1=x∨ofR R ((i:Int) + 1) (((endR R x).getD i []).getD 1 0)=1)→(endR R x).getD j []≠[]∧((j:Int) + 1≠x→ofR R ((j:Int) + 1) (((endR R x).getD j []).getD 1 0)=1)):=by
 obtain ⟨rk,K⟩:=F.rk
 have h:=all_up F.H K F.net F.still (F.hi hi) (F.hi hj) (by rw [toS_succ];exact hw)
 rw [toS_succ,toS_succ] at h
 refine ⟨h.1,fun h3 hu=>h.2 h3 ?_⟩
 rw [F.upWI hi hw]
 rcases hu with hu | hu
 ·rw [decide_eq_true hu];rfl
 ·rw [decide_eq_true hu,Bool.or_true]
theorem FreeR.short (F:FreeR R x) {i j:Nat} (hi:i < R.length) (hj:j < R.length) (hl:1 < ((endR R x).getD i []).length) (hrel:ofR R ((i:Int) + 1) ((j:Int) + 1)=1)
  (hne:(endR R x).getD j []≠[]) (hu:((endR R x).getD j []).length=1∨ofR R ((j:Int) + 1) (((endR R x).getD j []).getD 1 0)=1) :
  ((endR R x).getD i []).length≤((endR R x).getD j []).length + 1:=by
 obtain ⟨rk,K⟩:=F.rk
 have h:=shortest F.H K F.net F.still (F.hi hi) (F.hi hj) (by rw [toS_succ];exact hl) hrel (by rw [toS_succ];exact hne) (by
  rw [toS_succ,F.upWI hj hne]
  rcases hu with hu | hu
  ·by_cases e:(j:Int) + 1=x
   ·rw [decide_eq_true e];rfl
   ·have:=F.len2 hj e hne;omega
  ·rw [decide_eq_true hu,Bool.or_true])
 rwa [toS_succ,toS_succ] at h
end
/-- what a way's way is,place by place -/
theorem noV_drop {of:Rel} {d:Bool} {w:List Int} {k:Nat} (hk:k + 1 < w.length) (h:noV of d (w.drop k)=true) :
  (d=true→of (w.getD k 0) (w.getD (k + 1) 0)=1)∧noV of (d || decide (of (w.getD k 0) (w.getD (k + 1) 0)=1) || decide (of (w.getD k 0) (w.getD (k + 1) 0)=2)) (w.drop (k + 1))=true:=by
 rw [List.drop_eq_getElem_cons (show k < w.length by omega),List.drop_eq_getElem_cons hk] at h
 rw [List.getD_eq_getElem?_getD,List.getElem?_eq_getElem (show k < w.length by omega),Option.getD_some,List.getD_eq_getElem?_getD,List.getElem?_eq_getElem hk,Option.getD_some]
 unfold noV at h
 rw [Bool.and_eq_true] at h
 refine ⟨fun e=>?_,?_⟩
 ·subst e
  simpa using h.1
 ·rw [← List.drop_eq_getElem_cons hk] at h
  exact h.2
theorem bigM_of_net {R:List (List Int)} {x:Int} {W:List (List Int)} (h:netOk R x W=true):bigM W:=by
 have h5:=(relsOk_iff.1 (netOk_iff.1 h).1).1.2
 obtain ⟨_,hl,h2⟩:=netOk_in h
 exact ⟨by omega,fun w hw=>by have:=(h2 w hw).1;omega⟩
end Go.Proofs.W
end
section
namespace Go.Proofs.W
open Go Go.Eng Go.RowKit
set_option linter.unusedSimpArgs false
set_option maxRecDepth 100000
set_option maxHeartbeats 8000000 in
theorem fnShortest_ok (pb:Addr):Fine Tryd.prog 7 (cLawP pb):=by
 refine fine_of (T:=TT) Tryd.func7 rfl Tryd.ntmps7 (by rw [Tryd.results7]) rfl rfl tt (gs_cons drawNetEnd_ok gs_nil) (ds_cons (iNetEnd_ok pb) (ds_cons sNetEnd_ok (ds_cons lyWays_ok (ds_cons relsFree_ok (ds_cons lyInts_ok (ds_cons relOf_ok ds_nil))))) (wp_inh pb)) ?_
 rintro args ⟨bs,hbs,rfl⟩
 refine ⟨by simp,fun k hk E hE Q hQ=>?_⟩
 refine Aw_st hE [0] [] fun K hK=>?_
 simp only [go_sem,seval]
 refine hK _ ?_;clear hK K
 refine Aw_sq fun B1 hB1 hR1 hX1=>?_
 refine Aw_st hE [0,13] [] fun K hK=>?_
 simp only [go_sem,seval]
 refine hK _ (Aw_cond rfl (fun hc2=>?_) (fun hc2=>?_))
 ·refine Aw_st hE [2] [] fun K hK=>?_
  simp only [go_sem,seval]
  refine hK _ (Aw_ret (hR1 _ (hQ _ ?_)))
  simp only [go_sem,seval]
 refine Aw_skip (hB1 _ ?_)
 refine Aw_st hE [3,4] [] fun K hK=>?_
 simp only [go_sem,seval]
 refine ⟨dne_pre bs hbs,fun R x hR hx1 hx2=>?_⟩
 have hbR:=okRl_big hR
 have hbE:=endR_bw (R:=R) (x:=x)
 have hbF:=(endR_big (R:=R) (x:=x)).1
 refine hK _ ?_;clear hK K
 refine Aw_st hE [3,4,5] [] fun K hK=>?_
 simp only [go_sem,seval,hbR]
 repeat refine sd0 ?_
 refine hK _ ?_;clear hK K
 refine Aw_sq fun B3 hB3 hR3 hX3=>?_
 by_cases hn:(endR R x).length=0
 ·have hz:decide (((endR R x).length:Int)=0)=true:=decide_eq_true (by omega)
  refine Aw_st hE [3,4,5,37] [] fun K hK=>?_
  simp only [go_sem,seval,hbR,hbE,hz,decide_true,Bool.not_true,Bool.not_false]
  refine hK _ (Aw_yes rfl ?_)
  refine Aw_st hE [2] [] fun K hK=>?_
  simp only [go_sem,seval,hbR,hbE,decide_true]
  repeat (refine And.intro (by first | omega | assumption | (and_intros<;>first | omega | assumption | decide) | fail) ?_)
  refine hK _ (Aw_ret (hR3 _ (hQ _ ?_)))
  simp only [go_sem,seval]
 have hz:decide (((endR R x).length:Int)=0)=false:=decide_eq_false (by omega)
 cases hf:(ordR R).isSome with
 | false =>
  refine Aw_st hE [3,4,5,37] [] fun K hK=>?_
  simp only [go_sem,seval,hbR,hbE,hz,hf,decide_true,Bool.not_true,Bool.not_false]
  refine hK _ (Aw_yes rfl ?_)
  refine Aw_st hE [2] [] fun K hK=>?_
  simp only [go_sem,seval,hbR,hbE,decide_true]
  repeat (refine And.intro (by first | omega | assumption | (and_intros<;>first | omega | assumption | decide) | fail) ?_)
  refine hK _ (Aw_ret (hR3 _ (hQ _ ?_)))
  simp only [go_sem,seval]
 | true =>
  have F:=freeR_of hn hf
  have hok:=F.ok
  have hlen:=F.len
  have hn5:=F.n5
  have hhome:=F.home
  refine Aw_st hE [3,4,5,37] [] fun K hK=>?_
  simp only [go_sem,seval,hbR,hbE,hz,hf,decide_true,Bool.not_true,Bool.not_false]
  refine hK _ (Aw_no rfl (Aw_skip (hB3 _ ?_)))
  refine Aw_sq fun B8 hB8 hR8 hX8=>?_
  refine Aw_st hE [3,5,6] [] fun K hK=>?_
  simp only [go_sem,seval]
  refine hK _ ?_;clear hK K
  refine Aw_bk fun B9 hN9 hE9 hR9 hX9=>?_
  refine Aw_lp (fun i:Nat=>⟨108,[(3,wsl R),(5,wsl (endR R x)),(6,iv ((i:Int) + 1))],[],k⟩) (fun i=>i≤R.length) (fun i=>R.length - i) 0 (Le_wa) (by omega) fun i hi B10 hN10 hR10 hX10=>?_
  refine Aw_sq fun B11 hB11 hR11 hX11=>?_
  refine Aw_st hE [3,5,6,46] [] fun K hK=>?_
  simp only [go_sem,seval]
  refine hK _ (Aw_cond rfl (fun hc12=>?_) (fun hc12=>?_))
  ·simp only [decide_eq_true_eq] at hc12
   have hil:i < R.length:=by omega
   have hg:=wrows_get (endR R x) i (by omega)
   have hwl:((endR R x).getD i []).length≤1000000:=hbF.2 _ (getD_memL _ i (by omega))
   have hi1:((i:Int) + 1 - 1).toNat=i:=by omega
   refine Aw_skip (hB11 _ ?_)
   refine Aw_sq fun B13 hB13 hR13 hX13=>?_
   refine Aw_bk fun B14 hN14 hE14 hR14 hX14=>?_
   refine Aw_st hE [3,5,6,7] [] fun K hK=>?_
   simp only [go_sem,seval,hi1,hg]
   repeat refine sd0 ?_
   refine hK _ ?_;clear hK K
   refine Aw_sq fun B15 hB15 hR15 hX15=>?_
   by_cases hl:((endR R x).getD i []).length < 2
   ·have dl:decide ((((endR R x).getD i []).length:Int) < 2)=true:=decide_eq_true (by omega)
    refine Aw_st hE [3,5,6,7,65] [] fun K hK=>?_
    simp only [go_sem,seval,dl]
    repeat refine sd0 ?_
    refine hK _ (Aw_yes rfl ?_)
    refine Aw_exit (hX15 _ _ (hE14 _ (hB13 _ ?_)))
    refine Aw_tx hE [3,5,6] [] fun K hK=>?_
    simp only [go_sem,seval]
    repeat refine sd0 ?_
    refine hK _ (hN10 (i + 1) _ (by omega) (by omega) (Le_wb (by simp only [go_sem,seval,Int.natCast_add,Int.natCast_one])))
   have dl:decide ((((endR R x).getD i []).length:Int) < 2)=false:=decide_eq_false (by omega)
   have hr:=rows_get ((endR R x).getD i []) 1 (by omega)
   refine Aw_st hE [3,5,6,7,65] [] fun K hK=>?_
   simp only [go_sem,seval,dl,hr,hbR,hok]
   repeat refine sd0 ?_
   refine hK _ (Aw_cond rfl (fun hc16=>?_) (fun hc16=>?_))
   ·refine Aw_exit (hX15 _ _ (hE14 _ (hB13 _ ?_)))
    refine Aw_tx hE [3,5,6] [] fun K hK=>?_
    simp only [go_sem,seval]
    repeat refine sd0 ?_
    refine hK _ (hN10 (i + 1) _ (by omega) (by omega) (Le_wb (by simp only [go_sem,seval,Int.natCast_add,Int.natCast_one])))
   refine Aw_skip (hB15 _ ?_)
   refine Aw_st hE [3,5,6,7,8] [] fun K hK=>?_
   simp only [go_sem,seval]
   refine hK _ ?_;clear hK K
   refine Aw_bk fun B17 hN17 hE17 hR17 hX17=>?_
   refine Aw_lp (fun j:Nat=>⟨108,[(3,wsl R),(5,wsl (endR R x)),(6,iv ((i:Int) + 1)),(7,isl ((endR R x).getD i [])),(8,iv ((j:Int) + 1))],[],k⟩) (fun j=>j≤R.length) (fun j=>R.length - j) 0 (Le_wa) (by omega) fun j hj B18 hN18 hR18 hX18=>?_
   refine Aw_sq fun B19 hB19 hR19 hX19=>?_
   refine Aw_st hE [3,5,6,7,8,69] [] fun K hK=>?_
   simp only [go_sem,seval]
   repeat refine sd0 ?_
   refine hK _ (Aw_cond rfl (fun hc20=>?_) (fun hc20=>?_))
   ·simp only [decide_eq_true_eq] at hc20
    have hjl:j < R.length:=by omega
    have hgj:=wrows_get (endR R x) j (by omega)
    have hwj:((endR R x).getD j []).length≤1000000:=hbF.2 _ (getD_memL _ j (by omega))
    have hj1:((j:Int) + 1 - 1).toNat=j:=by omega
    refine Aw_skip (hB19 _ ?_)
    refine Aw_sq fun B21 hB21 hR21 hX21=>?_
    refine Aw_bk fun B22 hN22 hE22 hR22 hX22=>?_
    refine Aw_st hE [3,5,6,7,8,9] [] fun K hK=>?_
    simp only [go_sem,seval,hj1,hgj]
    repeat refine sd0 ?_
    refine hK _ ?_;clear hK K
    refine Aw_sq fun B23 hB23 hR23 hX23=>?_
    by_cases r1:ofR R ((i:Int) + 1) ((j:Int) + 1)=1
    ·have d1:decide (ofR R ((i:Int) + 1) ((j:Int) + 1)=1)=true:=decide_eq_true r1
     by_cases hv:(endR R x).getD j []=[]
     ·have dv:decide ((((endR R x).getD j []).length:Int)=0)=true:=decide_eq_true (by rw [hv];rfl)
      refine Aw_st hE [3,5,6,7,8,9,86] [] fun K hK=>?_
      refine aops_cut 6 fun K1 hK1=>?_
      simp only [go_sem,seval,d1,dv,hbR,hok,Bool.not_true]
      repeat refine sd0 ?_
      refine hK1 _ ?_
      clear hK1
      simp only [go_sem,seval,d1,dv,hbR,hok,Bool.not_true]
      repeat refine sd0 ?_
      refine hK _ (Aw_yes rfl ?_)
      refine Aw_exit (hX23 _ _ (hE22 _ (hB21 _ ?_)))
      refine Aw_tx hE [3,5,6,7,8] [] fun K hK=>?_
      simp only [go_sem,seval]
      repeat refine sd0 ?_
      refine hK _ (hN18 (j + 1) _ (by omega) (by omega) (Le_wb (by simp only [go_sem,seval,Int.natCast_add,Int.natCast_one])))
     have hv0:((endR R x).getD j []).length≠0:=fun e=>hv (List.length_eq_zero_iff.1 e)
     have dv:decide ((((endR R x).getD j []).length:Int)=0)=false:=decide_eq_false (by omega)
     refine Aw_st hE [3,5,6,7,8,9,86] [] fun K hK=>?_
     refine aops_cut 6 fun K1 hK1=>?_
     simp only [go_sem,seval,d1,dv,hbR,hok,Bool.not_true]
     repeat refine sd0 ?_
     refine hK1 _ ?_
     clear hK1
     simp only [go_sem,seval,d1,dv,hbR,hok,Bool.not_true]
     repeat refine sd0 ?_
     refine hK _ (Aw_no rfl (Aw_skip (hB23 _ ?_)))
     refine Aw_st hE [3,5,6,7,8,9,10] [] fun K hK=>?_
     have rest:∀ u:Bool,(u=true→((endR R x).getD j []).length=1∨ofR R ((j:Int) + 1) (((endR R x).getD j []).getD 1 0)=1)→K ⟨108,[(3,wsl R),(5,wsl (endR R x)),(6,iv ((i:Int) + 1)),(7,isl ((endR R x).getD i [])),(8,iv ((j:Int) + 1)),(9,isl ((endR R x).getD j [])),(10,bv u)],[],k⟩:=by
      intro u hu
      refine hK _ ?_;clear hK K
      cases u with
      | false =>
       refine Aw_st hE [3,5,6,7,8,107] [] fun K hK=>?_
       simp only [go_sem,seval]
       refine hK _ (Aw_no rfl ?_)
       refine Aw_skip (hN22 _ (hB21 _ ?_))
       refine Aw_tx hE [3,5,6,7,8] [] fun K hK=>?_
       simp only [go_sem,seval]
       repeat refine sd0 ?_
       refine hK _ (hN18 (j + 1) _ (by omega) (by omega) (Le_wb (by simp only [go_sem,seval,Int.natCast_add,Int.natCast_one])))
      | true =>
       have hs:=F.short hil hjl (by omega) r1 hv (hu rfl)
       have ds:decide (((((endR R x).getD j []).length:Int) + 1) < (((endR R x).getD i []).length:Int))=false:=decide_eq_false (by omega)
       refine Aw_st hE [3,5,6,7,8,107] [] fun K hK=>?_
       simp only [go_sem,seval,ds]
       repeat refine sd0 ?_
       refine hK _ (Aw_no rfl ?_)
       refine Aw_skip (hN22 _ (hB21 _ ?_))
       refine Aw_tx hE [3,5,6,7,8] [] fun K hK=>?_
       simp only [go_sem,seval]
       repeat refine sd0 ?_
       refine hK _ (hN18 (j + 1) _ (by omega) (by omega) (Le_wb (by simp only [go_sem,seval,Int.natCast_add,Int.natCast_one])))
     cases e0:decide ((((endR R x).getD j []).length:Int)=1) with
     | true =>
      simp only [go_sem,seval,e0]
      exact rest true (fun _=>.inl (by have:=of_decide_eq_true e0;omega))
     | false =>
      have h2:=of_decide_eq_false e0
      have hr2:=rows_get ((endR R x).getD j []) 1 (by omega)
      simp only [go_sem,seval,e0,hr2,hbR,hok]
      repeat refine sd0 ?_
      exact rest _ (fun h=>.inr (of_decide_eq_true h))
    ·have d1:decide (ofR R ((i:Int) + 1) ((j:Int) + 1)=1)=false:=decide_eq_false r1
     refine Aw_st hE [3,5,6,7,8,9,86] [] fun K hK=>?_
     refine aops_cut 6 fun K1 hK1=>?_
     simp only [go_sem,seval,d1,hbR,hok,Bool.not_false]
     repeat refine sd0 ?_
     refine hK1 _ ?_
     clear hK1
     simp only [go_sem,seval,d1,hbR,hok,Bool.not_false]
     repeat refine sd0 ?_
     refine hK _ (Aw_yes rfl ?_)
     refine Aw_exit (hX23 _ _ (hE22 _ (hB21 _ ?_)))
     refine Aw_tx hE [3,5,6,7,8] [] fun K hK=>?_
     simp only [go_sem,seval]
     repeat refine sd0 ?_
     refine hK _ (hN18 (j + 1) _ (by omega) (by omega) (Le_wb (by simp only [go_sem,seval,Int.natCast_add,Int.natCast_one])))
   ·refine Aw_exit (hX19 _ _ (hX18 _ _ (hE17 _ (hN14 _ (hB13 _ ?_)))))
    refine Aw_tx hE [3,5,6] [] fun K hK=>?_
    simp only [go_sem,seval]
    repeat refine sd0 ?_
    refine hK _ (hN10 (i + 1) _ (by omega) (by omega) (Le_wb (by simp only [go_sem,seval,Int.natCast_add,Int.natCast_one])))
  ·refine Aw_exit (hX11 _ _ (hX10 _ _ (hE9 _ (hB8 _ ?_))))
   refine Aw_st hE [2] [] fun K hK=>?_
   simp only [go_sem,seval]
   refine hK _ (Aw_ret (hQ _ ?_))
   simp only [go_sem,seval]
end Go.Proofs.W
end
section
namespace Go.Proofs.YtgfclgpljhiicaaDoor.cSho
open Go Go.Eng Go.RowKit Go.WideShapes Go.ChangeShapes Go.ChangeAt Go.Proofs.W
set_option maxRecDepth 100000
theorem own:ownKnob Tryd.prog.godebug=none:=by kernel_rfl
theorem star : "*"++ "errors.errorString" = "*errors.errorString" := by decide
theorem rowE (u:TypeId) (h:Tryd.prog.typeName? 3 u=some "*errors.errorString"):u=111 :=
 typeName_ptr_named (nm := "errors.errorString") (by rw [star];kernel_rfl) (by kernel_rfl) (by decide) u (by rw [star];exact h)
theorem gE:Tryd.prog.globalNamed "loop.example/wayboard/impl.errPath" = some 0:=by kernel_rfl
theorem gEType:(Tryd.prog.globals[0]?).map (·.type)=some 95:=by kernel_rfl
theorem w_of {W:World} (h:laidMet Tryd.prog Rows.fnShortestRow.laid W):∃ pb,WP pb W∧W.var? Tryd.prog "loop.example/wayboard/impl.errPath" = some #[errV pb]:=by
 have h0:=h
 have h1:=laidMet.tail h0
 have h2:=laidMet.tail h1
 have h3:=laidMet.tail h2
 obtain ⟨a0,s0,hv0,hc0,hs0,hz0⟩:=laid_sentinel h3 gE gEType Tryd.underlying95 rowE Tryd.underlying111 Tryd.underlying113 rfl rfl Tryd.underlying9 (by kernel_rfl) (by kernel_rfl)
 refine ⟨a0,⟨⟨?_⟩,?_⟩,hv0⟩
 ·exact Lib.tabIs_of_head (g:=1) (by kernel_rfl) (by kernel_rfl) Tryd.underlying132 Tryd.underlying126 (by kernel_rfl) (by kernel_rfl) h2
 ·simpa using World.var?_cell gE hv0 0
theorem contract (H:Type) (enc:TypeId × Value→H) (W:World) (base:Nat) (args:Array Value) (ds gs:List (DataW H)) (before:List MemPlace)
  (hval:∀ (j:Nat) t v,Tryd.f7.params[j]? = some t→args[j]? = some v→Value.okWide Tryd.prog W .any base t v)
  (hW:DataW.Whole enc Tryd.prog Tryd.f7.params.toList Rows.fnShortestSpec.vars false W args.toList ds gs before) (hL:laidMetH Tryd.prog Rows.fnShortestRow.laid W) :
  Calls Tryd.prog 7 args W fun e W'=>∃ v,e = .returned v∧Rows.fnShortestSpec.post enc Tryd.prog Tryd.f7 false true false false W args v W':=by
 have hW':=hW
 obtain ⟨p,q,hA0,hV0,rfl,hfz,hnd⟩:=hW
 have hA:DataW.TrodAll enc Tryd.prog W 0 (fun _=>true) true Tryd.f7.params.toList args.toList ds p:=hA0
 have hV:DataW.TrodVars enc Tryd.prog W (fun _=>true) ["loop.example/wayboard/impl.errPath"] gs q:=hV0
 rw [Tryd.params7] at hA hval
 obtain ⟨v0,vs0,d0,ds0,p0,q0,hargs,rfl,rfl,hd0,r0⟩:=trodAll_cons hA
 obtain ⟨rfl,rfl,rfl⟩:=trodAll_nil r0
 obtain rfl:args = #[v0]:=by cases args;simp_all
 obtain ⟨pb,hwp,hv0⟩:=w_of hL
 obtain ⟨rfl,rfl⟩:=hV.unique (vars_read1 enc gE gEType Tryd.underlying95 hv0 trivial _)
 obtain ⟨hin0,hback0⟩:=open_arg (hval 0 22 v0 rfl rfl) hd0
 clear hA0 hV0
 simp only [List.append_nil] at hW'
 refine (law_callsP (fnShortest_ok pb) W hwp v0 hin0).mono fun e W' ⟨he,hb⟩=>?_
 subst he
 have hv1:W'.var? Tryd.prog "loop.example/wayboard/impl.errPath" = some #[errV pb]:=var_below' hv0 gE hb
 exact ⟨_,rfl,post_below (pa:=p0++[]) (pv:=[.cell 0 0]) hW' (fun _ _ _=>trodAll_cons_mk (shut_bool Tryd.underlying4 _) trodAll_mk0) (fun sp hsp=>trodAll_cons_mk (hback0 W' hb sp (fun x hx=>hsp x (by simp only [List.mem_append];simp [hx]))) trodAll_mk0) (fun sp _=>vars_read1 enc gE gEType Tryd.underlying95 hv1 trivial sp) (by simp)
  hb (ok_one (by kernel_rfl) rfl (okWide_bool_mk Tryd.underlying4 _))⟩
noncomputable def laidWorld (os : Os) : World :=
  let N := (World.settled Tryd.prog os).heap.size
  let w0 := World.holding Tryd.prog os ⟨#[.cells #[.string ⟨#[110, 111, 116, 32, 97, 32, 112, 97, 116, 104]⟩] 113], #[], []⟩
  let put (h : Array Obj) (g : Nat) (cs : Array Value) : Array Obj := h.modify g fun
    | .cells _ t frozen => .cells cs t frozen
    | o => o
  let cellsOf : DataW Unit → Array Value := fun d => match d with
    | .agg ds => (ds.map fun x => match x with | .lit (.int k n) => Value.int k n | _ => .bool false).toArray
    | _ => #[]
  let h0 := put w0.heap 2 (cellsOf Rows.laid_math_bits_deBruijn32tab)
  let h1 := put h0 3 (cellsOf Rows.laid_math_bits_deBruijn64tab)
  let h2 := put h1 1 (cellsOf Rows.laid_internal_strconv_uint64pow10)
  let h3 := put h2 0 #[.iface 111 (.pointer (some ⟨N + 0, 0, none⟩))]
  { w0 with heap := h3 }

theorem laid_met (os:Os) (args:Array Value):laidMet Tryd.prog Rows.fnShortestRow.laid ((laidWorld os).forCall (fun _ _=>0) ⟨#[],args,[]⟩).memory :=
 laidMet_of_run' 8 (by kernel_rfl) (by kernel_rfl)
theorem witness_row (os:Os) {H:Type} (enc:TypeId × Value→H) :
  (OpenSpec.ofChange Rows.fnShortestSpec).preRow enc Tryd.prog Tryd.f7 Rows.fnShortestRow.domain false Rows.fnShortestRow.laid ((laidWorld os).forCall (fun _ _=>0) ⟨#[],#[.slice none 0 0],[]⟩).memory #[.slice none 0 0] :=
 OpenSpec.preRow_of_B rfl 8 (by kernel_rfl) (by kernel_rfl) (laid_met os _)
theorem lifted (os:Os) (started:os.Started) (H:Type) (enc:TypeId × Value→H) (F:Stop.Interp) :
  ReturnsInHanded {} Tryd.checked os 7 .any ((OpenSpec.ofChange Rows.fnShortestSpec).preRow enc Tryd.prog Tryd.f7 Rows.fnShortestRow.domain false Rows.fnShortestRow.laid) (((OpenSpec.ofChange Rows.fnShortestSpec).at F).post enc Tryd.prog Tryd.f7 false true false false):=by
 refine returnsInHanded_of_row (C:=Tryd.checked) (s:=OpenSpec.ofChange Rows.fnShortestSpec) own started (by kernel_rfl) Tryd.func7
  (witness_row_atRef (enc:=enc) (C:=Tryd.checked) false (laidWorld os) #[.slice none 0 0] rfl (by kernel_rfl) (by kernel_rfl) (by kernel_rfl) (witness_row os enc)) ?_
 intro W base args ds gs before hval hW _ _ _ hL hsh _
 exact contract H enc W base args ds gs before hval hW hL
theorem said:Rows.FnShortestSaid :=
 OpenClaim.holds_of_cond 7 Tryd.f7 rfl rfl rfl rfl rfl rfl rfl ⟨rfl,rfl,rfl,rfl,rfl⟩ rfl rfl rfl rfl rfl (by kernel_rfl) Tryd.func7 (by kernel_rfl)
  (of_decide_eq_true (by kernel_rfl)) (by unfold Func.isWrapper;first | (rw [if_pos (by decide +kernel)];kernel_rfl) | (rw [if_neg (by decide +kernel)];exact ⟨rfl,rfl⟩))
  (fun os started H enc _ F=>by rw [OpenClaim.pre_eq_preRow];exact lifted os started H enc F)
theorem plain (f:FuncId) (fn:Func) (hf:Tryd.pinned.checked.prog.funcNamed "loop.example/wayboard/laws.FnShortest" = some f) (hfn:Tryd.pinned.checked.prog.funcs[f]? = some fn) :
  true=Tryd.pinned.checked.prog.looks []∧∀ (j:Nat) t,fn.params[j]? = some t→Tryd.pinned.checked.prog.wantsStandIn t=false:=by
 obtain rfl:f=7:=Option.some.inj ((show Tryd.prog.funcNamed "loop.example/wayboard/laws.FnShortest" = some 7 by kernel_rfl).symm.trans hf) |>.symm
 obtain rfl:fn=Tryd.f7:=(Option.some.inj (Tryd.func7.symm.trans hfn)).symm
 refine ⟨by kernel_rfl,fun j t ht=>?_⟩
 rw [Tryd.params7] at ht
 obtain rfl:t=22:=by simpa using Array.mem_of_getElem? ht
 exact (show Tryd.prog.wantsStandIn 22=false by kernel_rfl)
theorem card:Rows.FnShortestCardSaid :=
 Claim7.holds_tied_plain_at .later [] _ _ _ _ said (fun _ h=>by cases h) (by kernel_rfl) (fun _ h=>by cases h) fnShortest_row_tie rfl ⟨rfl,rfl⟩ (by kernel_rfl) rfl plain (by kernel_rfl)
end Go.Proofs.YtgfclgpljhiicaaDoor.cSho
end
