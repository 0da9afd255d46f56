/- YtgfclgpljhiicaaDoorWc: part of the proof that laws hold, for every input that the row speaks of (no condition of ours). -/
import Derived.Test.YtgfclgpljhiicaaDoorWb
import Derived.Test.YtgfclgpljhiicaaDoorEc
set_option linter.unusedVariables false
set_option linter.unusedSimpArgs false
section
namespace Go.Proofs.W
open Go Go.Eng Go.RowKit
set_option maxRecDepth 100000
theorem find_none {p:Int→Bool}:∀ {N:Nat},(∀ j,j < N→p ((j:Int) + 1)=false)→(hs N).find? p=none
 | 0,_=>rfl
 | N + 1,h=>by
  rw [hs_snoc,List.find?_append,find_none (N:=N) fun j hj=>h j (by omega)]
  simp [h N (by omega)]
theorem find_hs {p:Int→Bool} {i:Nat} (h:∀ j,j < i→p ((j:Int) + 1)=false) (hp:p ((i:Int) + 1)=true):∀ {N:Nat},i < N→(hs N).find? p=some ((i:Int) + 1)
 | 0,hi=>absurd hi (by omega)
 | N + 1,hi=>by
  rw [hs_snoc,List.find?_append]
  by_cases e:i < N
  ·rw [find_hs h hp e];rfl
  ·obtain rfl:i=N:=by omega
   rw [find_none h]
   simp [hp]
def gOrd:List AV→Option (Prop × AV)
 | [.agg [.v (.int .i64 n),.dv (.mp t)]]=>some (mpI t∧0≤n∧n≤1000,match ordF n.toNat (lkF t) n.toNat [] with
  | some l=>.tup [isl l,bv true]
  | none=>.tup [isl [],bv false])
 | _=>none
def dOrd:DFn:={ g:=gOrd }
attribute [go_sem] gOrd dOrd
theorem ord_next {N:Nat} {of:Rel} {out:List Int} {h:Int} (hl:out.length < N) (hf:(hs N).find? (rdyB N of out)=some h):ordF N of (N - out.length) out=ordF N of (N - (out++[h]).length) (out++[h]):=by
 obtain ⟨q,hq⟩:∃ q,N - out.length=q + 1:=⟨N - out.length - 1,by omega⟩
 rw [hq,ordF,hf]
 show ordF N of q (out++[h])=_
 rw [show N - (out++[h]).length=q by simp only [List.length_append,List.length_singleton];omega]
theorem ord_stop {N:Nat} {of:Rel} {out:List Int} (hl:out.length < N) (hf:(hs N).find? (rdyB N of out)=none):ordF N of (N - out.length) out=none:=by
 obtain ⟨q,hq⟩:∃ q,N - out.length=q + 1:=⟨N - out.length - 1,by omega⟩
 rw [hq,ordF,hf]
set_option maxHeartbeats 4000000 in
theorem order_ok:Fine Tryd.prog 54 dOrd.con:=by
 refine fine_detX [] gl_nil [] ms_nil [(68,(cRdy,[(1000,1000)],[]))] (mm_cons rdy_ok (by decide) mm_nil) [7,32] [] ex_nil (T:=TT) Tryd.func54 rfl Tryd.ntmps54 (by rw [Tryd.results54]) rfl rfl tt gs_nil ds_nil ?_
 intro args c r h hc
 simp only [dOrd,gOrd] at h
 split at h
 rotate_left
 ·cases h
 rename_i n t
 obtain ⟨rfl,rfl⟩:=Prod.mk.inj (Option.some.inj h)
 refine ⟨by simp,fun k E hE Q hQ=>?_⟩
 obtain ⟨hmp,hn0,hn⟩:=hc
 refine Aw_st hE [1] [1,4,32,750] fun K hK=>?_
 simp only [go_sem,seval]
 refine hK _ ?_;clear hK K
 refine Aw_st hE [1,4] [1,4,32,750] fun K hK=>?_
 simp only [go_sem,seval]
 refine hK _ ?_;clear hK K
 refine Aw_st hE [1,4,5] [1,4,32,750] fun K hK=>?_
 simp only [go_sem,seval]
 refine hK _ ?_;clear hK K
 refine Aw_sq fun B1 hB1 hR1 hX1=>?_
 refine Aw_bk fun B2 hN2 hE2 hR2 hX2=>?_
 refine Aw_lp (fun o:Option (List Int × Nat)=>⟨34,[(1,.loc 1 0),(4,.loc 4 0),(5,.cl 68 false [.loc 4 0,.loc 1 0])],(1,[iv n,.dv (.mp t)])::(4,[vwA 750 o])::vwM 750 o,k⟩) (fun o=>(vwL o).length≤n.toNat∧ordF n.toNat (lkF t) n.toNat []=ordF n.toNat (lkF t) (n.toNat - (vwL o).length) (vwL o)) (fun o=>n.toNat - (vwL o).length) none (Le_wa) ⟨Nat.zero_le _,rfl⟩ fun o ho B3 hN3 hR3 hX3=>?_
 obtain ⟨hlen,heq⟩:=ho
 refine Aw_sq fun B4 hB4 hR4 hX4=>?_
 cases o with
 | none =>
  simp only [vwL] at hlen heq
  refine Aw_st hE [1,4,5,12] [1,4,32,750] fun K hK=>?_
  simp only [go_sem,seval]
  refine hK _ (Aw_cond rfl (fun hc5=>?_) (fun hc5=>?_))
  rotate_left
  ·simp only [dfn] at hc5
   have hN:n.toNat=0:=by omega
   have hord:ordF n.toNat (lkF t) n.toNat []=some []:=by rw [hN];rfl
   rw [hord] at hQ
   refine Aw_exit (hX4 _ _ (hX3 _ _ (hE2 _ (hB1 _ ?_))))
   refine Aw_st hE [2,3] [1,4,32,750] fun K hK=>?_
   simp only [go_sem,seval]
   refine hK _ (Aw_ret (hQ _ ?_))
   simp only [go_sem,seval]
   all_goals rfl
  simp only [dte] at hc5
  refine Aw_skip (hB4 _ ?_)
  refine Aw_bk fun B6 hN6 hE6 hR6 hX6=>?_
  refine Aw_st hE [1,4,5,6] [1,4,32,750] fun K hK=>?_
  simp only [go_sem,seval]
  refine hK _ ?_;clear hK K
  refine Aw_sq fun B7 hB7 hR7 hX7=>?_
  refine Aw_bk fun B8 hN8 hE8 hR8 hX8=>?_
  refine Aw_lp (fun i:Nat=>⟨34,[(1,.loc 1 0),(4,.loc 4 0),(5,.cl 68 false [.loc 4 0,.loc 1 0]),(6,iv ((i:Int) + 1))],(1,[iv n,.dv (.mp t)])::(4,[vwA 750 (none)])::vwM 750 (none),k⟩) (fun i=>(i:Int)≤n∧∀ j,j < i→rdyB n.toNat (lkF t) ([]:List Int) ((j:Int) + 1)=false) (fun i=>n.toNat - i) 0 (Le_wa) ⟨by omega,fun j h=>absurd h (by omega)⟩ fun i hi B9 hN9 hR9 hX9=>?_
  obtain ⟨hi,hno⟩:=hi
  have hl3:0≤1000:=by omega
  refine Aw_sq fun B10 hB10 hR10 hX10=>?_
  refine Aw_st hE [1,4,5,6,22] [1,4,32,750] fun K hK=>?_
  simp only [go_sem,seval,hmp,hn0,hn]
  refine ⟨fun hg=>⟨by decide,?_⟩,fun hg=>?_⟩
  ·simp only [dte] at hg
   refine hK _ (Aw_cond rfl (fun hc13=>?_) (fun hc13=>?_))
   ·simp only [Bool.not_eq_true'] at hc13
    refine Aw_skip (hB10 _ ?_)
    refine Aw_bk fun B14 hN14 hE14 hR14 hX14=>?_
    refine Aw_tx hE [1,4,5,6] [1,4,32,750] fun K hK=>?_
    simp only [go_sem,seval]
    repeat refine sd0 ?_
    refine hK _ (hN14 _ (hN9 (i + 1) _ ⟨by omega,fun j hj=>if e:j < i then hno j e else (by obtain rfl:j=i:=(by omega);exact hc13)⟩ (by omega) (Le.refl _)))
   ·simp only [Bool.not_eq_false'] at hc13
    have hfd:=find_hs (p:=rdyB n.toNat (lkF t) ([]:List Int)) hno hc13 (N:=n.toNat) (by omega)
    refine Aw_exit (hX10 _ _ (hX9 _ _ (hE8 _ (hB7 _ ?_))))
    refine Aw_sq fun B15 hB15 hR15 hX15=>?_
    refine Aw_st hE [1,4,5,6,28] [1,4,32,750] fun K hK=>?_
    simp only [go_sem,seval]
    refine hK _ (Aw_cond rfl (fun hc16=>absurd (of_decide_eq_true hc16) (by omega)) (fun hc16=>?_))
    refine Aw_skip (hB15 _ ?_)
    refine Aw_tx hE [1,4,5] [1,4,32,750] fun K hK=>?_
    simp only [go_sem,seval]
    have hnx:=ord_next (out:=([]:List Int)) (by simp only [List.length_nil];omega) hfd
    intro cap' hcap'
    obtain ⟨c',rfl⟩:∃ c',cap'=c' + 1:=⟨cap' - 1,by omega⟩
    rw [Nat.add_sub_cancel]
    refine hK _ (hN6 _ (hN3 (some ([(i:Int) + 1],c')) _ ⟨by simp only [vwL,List.length_singleton];omega,heq.trans hnx⟩ (by simp only [vwL,List.length_singleton,List.length_nil];omega) ?_))
    refine (Le_swb _ 32 750 (by decide) (by decide)).trans ?_
    simp only [St.swb,swbσ,swbm,AV.swb,AV.swbAll,swp,jN_swb,row_swb,Nat.reduceEqDiff,if_true,if_false,reduceIte]
    exact Le_wa
  ·simp only [dfn] at hg
   have hfd:=find_none (p:=rdyB n.toNat (lkF t) ([]:List Int)) (N:=n.toNat) fun j hj=>hno j (by omega)
   have hord:ordF n.toNat (lkF t) n.toNat []=none:=heq.trans (ord_stop (out:=([]:List Int)) (by first | omega | (simp only [List.length_nil];omega)) hfd)
   rw [hord] at hQ
   refine hK _ (Aw_no rfl ?_)
   refine Aw_exit (hX10 _ _ (hX9 _ _ (hE8 _ (hB7 _ ?_))))
   refine Aw_sq fun B17 hB17 hR17 hX17=>?_
   refine Aw_st hE [1,4,5,6,28] [1,4,32,750] fun K hK=>?_
   simp only [go_sem,seval]
   refine hK _ (Aw_cond rfl (fun hc18=>?_) (fun hc18=>absurd (of_decide_eq_false hc18) (by omega)))
   refine Aw_st hE [2,3] [1,4,32,750] fun K hK=>?_
   simp only [go_sem,seval]
   refine hK _ (Aw_ret (hR17 _ (hR6 _ (hR3 _ (hR2 _ (hR1 _ (hQ _ ?_)))))))
   simp only [go_sem,seval]
   all_goals rfl
 | some p =>
  obtain ⟨l,c⟩:=p
  simp only [vwL] at hlen heq
  refine Aw_st hE [1,4,5,12] [1,4,32,750] fun K hK=>?_
  simp only [go_sem,seval]
  refine hK _ (Aw_cond rfl (fun hc5=>?_) (fun hc5=>?_))
  rotate_left
  ·simp only [dfn] at hc5
   have hN:n.toNat - l.length=0:=by omega
   have hord:ordF n.toNat (lkF t) n.toNat []=some l:=by rw [heq,hN];rfl
   rw [hord] at hQ
   refine Aw_exit (hX4 _ _ (hX3 _ _ (hE2 _ (hB1 _ ?_))))
   refine Aw_st hE [2,3] [1,4,32,750] fun K hK=>?_
   simp only [go_sem,seval]
   refine hK _ ?_
   refine Aw_frz hE rfl 750 l.length (ls:=cI l++jN c) (ys:=iD l) rfl (ofAll_iD rfl) ?_
   simp only [go_sem,seval,↓frz_xs (d:=750) (cap:=c + l.length) (l:=l) rfl]
   refine Aw_ret (hQ _ ?_)
   simp only [go_sem,seval]
   all_goals rfl
  simp only [dte] at hc5
  refine Aw_skip (hB4 _ ?_)
  refine Aw_bk fun B6 hN6 hE6 hR6 hX6=>?_
  refine Aw_st hE [1,4,5,6] [1,4,32,750] fun K hK=>?_
  simp only [go_sem,seval]
  refine hK _ ?_;clear hK K
  refine Aw_sq fun B7 hB7 hR7 hX7=>?_
  refine Aw_bk fun B8 hN8 hE8 hR8 hX8=>?_
  refine Aw_lp (fun i:Nat=>⟨34,[(1,.loc 1 0),(4,.loc 4 0),(5,.cl 68 false [.loc 4 0,.loc 1 0]),(6,iv ((i:Int) + 1))],(1,[iv n,.dv (.mp t)])::(4,[vwA 750 (some (l,c))])::vwM 750 (some (l,c)),k⟩) (fun i=>(i:Int)≤n∧∀ j,j < i→rdyB n.toNat (lkF t) l ((j:Int) + 1)=false) (fun i=>n.toNat - i) 0 (Le_wa) ⟨by omega,fun j h=>absurd h (by omega)⟩ fun i hi B9 hN9 hR9 hX9=>?_
  obtain ⟨hi,hno⟩:=hi
  have hl3:l.length≤1000:=by omega
  refine Aw_sq fun B10 hB10 hR10 hX10=>?_
  refine Aw_st hE [1,4,5,6,22] [1,4,32,750] fun K hK=>?_
  simp only [go_sem,seval,hmp,hn0,hn,hl3]
  refine ⟨fun hg=>⟨by decide,?_⟩,fun hg=>?_⟩
  ·simp only [dte] at hg
   refine hK _ (Aw_cond rfl (fun hc13=>?_) (fun hc13=>?_))
   ·simp only [Bool.not_eq_true'] at hc13
    refine Aw_skip (hB10 _ ?_)
    refine Aw_bk fun B14 hN14 hE14 hR14 hX14=>?_
    refine Aw_tx hE [1,4,5,6] [1,4,32,750] fun K hK=>?_
    simp only [go_sem,seval]
    repeat refine sd0 ?_
    refine hK _ (hN14 _ (hN9 (i + 1) _ ⟨by omega,fun j hj=>if e:j < i then hno j e else (by obtain rfl:j=i:=(by omega);exact hc13)⟩ (by omega) (Le.refl _)))
   ·simp only [Bool.not_eq_false'] at hc13
    have hfd:=find_hs (p:=rdyB n.toNat (lkF t) l) hno hc13 (N:=n.toNat) (by omega)
    refine Aw_exit (hX10 _ _ (hX9 _ _ (hE8 _ (hB7 _ ?_))))
    refine Aw_sq fun B15 hB15 hR15 hX15=>?_
    refine Aw_st hE [1,4,5,6,28] [1,4,32,750] fun K hK=>?_
    simp only [go_sem,seval]
    refine hK _ (Aw_cond rfl (fun hc16=>absurd (of_decide_eq_true hc16) (by omega)) (fun hc16=>?_))
    refine Aw_skip (hB15 _ ?_)
    refine Aw_tx hE [1,4,5] [1,4,32,750] fun K hK=>?_
    simp only [go_sem,seval]
    have hnx:=ord_next (out:=l) (by omega) hfd
    have hl1:(l++[(i:Int) + 1]).length=l.length + 1:=by simp
    refine ⟨⟨by omega,by omega⟩,fun h=>?_,fun h cap' hcap'=>?_⟩
    ·obtain ⟨e',rfl⟩:∃ e',c=e' + 1:=⟨c - 1,by omega⟩
     rw [row_put]
     have hec:e' + 1 + l.length=e' + (l.length + 1):=by omega
     refine hK _ (hN6 _ (hN3 (some (l++[(i:Int) + 1],e')) _ ⟨by simp only [vwL,hl1];omega,heq.trans hnx⟩ (by simp only [vwL,hl1];omega) ?_))
     simp only [vwA,vwM,hl1,hec]
     exact Le_wa
    ·obtain ⟨e',rfl⟩:∃ e',cap'=e' + (l.length + 1):=⟨cap' - (l.length + 1),by omega⟩
     rw [Nat.add_sub_cancel,List.append_assoc,List.singleton_append,row_snoc]
     refine hK _ (hN6 _ (hN3 (some (l++[(i:Int) + 1],e')) _ ⟨by simp only [vwL,hl1];omega,heq.trans hnx⟩ (by simp only [vwL,hl1];omega) ?_))
     simp only [vwA,vwM,hl1]
     refine (Le_swb _ 32 750 (by decide) (by decide)).trans ?_
     simp only [St.swb,swbσ,swbm,AV.swb,AV.swbAll,swp,jN_swb,row_swb,Nat.reduceEqDiff,if_true,if_false,reduceIte]
     exact Le_wa
  ·simp only [dfn] at hg
   have hfd:=find_none (p:=rdyB n.toNat (lkF t) l) (N:=n.toNat) fun j hj=>hno j (by omega)
   have hord:ordF n.toNat (lkF t) n.toNat []=none:=heq.trans (ord_stop (out:=l) (by first | omega | (simp only [List.length_nil];omega)) hfd)
   rw [hord] at hQ
   refine hK _ (Aw_no rfl ?_)
   refine Aw_exit (hX10 _ _ (hX9 _ _ (hE8 _ (hB7 _ ?_))))
   refine Aw_sq fun B17 hB17 hR17 hX17=>?_
   refine Aw_st hE [1,4,5,6,28] [1,4,32,750] fun K hK=>?_
   simp only [go_sem,seval]
   refine hK _ (Aw_cond rfl (fun hc18=>?_) (fun hc18=>absurd (of_decide_eq_false hc18) (by omega)))
   refine Aw_st hE [2,3] [1,4,32,750] fun K hK=>?_
   simp only [go_sem,seval]
   refine hK _ (Aw_ret (hR17 _ (hR6 _ (hR3 _ (hR2 _ (hR1 _ (hQ _ ?_)))))))
   simp only [go_sem,seval]
   all_goals rfl
def ordR (R:List (List Int)):Option (List Int):=if relsOk R then ordF R.length (ofR R) R.length [] else none
def gRelsOrder:List AV→Option (Prop × AV)
 | [.sl _ els]=>(match waysL els with
  | some R=>some (bigM R,.tup [isl ((ordR R).getD []),bv (ordR R).isSome])
  | none=>none)
 | _=>none
def dRelsOrder:DFn:={ g:=gRelsOrder }
def gRelsFree:List AV→Option (Prop × AV)
 | [.sl _ els]=>(match waysL els with
  | some R=>some (bigM R,bv (ordR R).isSome)
  | none=>none)
 | _=>none
def dRelsFree:DFn:={ g:=gRelsFree }
attribute [go_sem] gRelsOrder dRelsOrder gRelsFree dRelsFree
theorem relsOrder_ok:Fine Tryd.prog 39 dRelsOrder.con:=by
 refine fine_det (T:=TT) Tryd.func39 rfl Tryd.ntmps39 (by rw [Tryd.results39]) rfl rfl tt (gs_cons readRels_ok gs_nil) (ds_cons order_ok ds_nil) ?_
 intro args c r h hc
 simp only [dRelsOrder,gRelsOrder] at h
 split at h
 rotate_left
 ·cases h
 split at h
 rotate_left
 ·cases h
 rename_i tt els _ R hiw
 obtain rfl:=waysL_eq hiw
 obtain ⟨rfl,rfl⟩:=Prod.mk.inj (Option.some.inj h)
 refine ⟨by simp,fun k E hE Q hQ=>?_⟩
 refine Aw_st hE [0] [4] fun K hK=>?_
 simp only [go_sem,seval]
 refine hK _ ?_;clear hK K
 refine Aw_st hE [4,5] [4] fun K hK=>?_
 simp only [go_sem,seval,hc]
 refine ⟨fun hno=>?_,fun hok t hmp hlk=>?_⟩
 ·have ho:ordR R=none:=by unfold ordR;rw [hno];rfl
  refine hK _ ?_;clear hK K
  refine Aw_sq fun B1 hB1 hR1 hX1=>?_
  refine Aw_st hE [4,12] [4] fun K hK=>?_
  simp only [go_sem,seval]
  refine hK _ (Aw_yes rfl ?_)
  refine Aw_st hE [2,3] [4] fun K hK=>?_
  simp only [go_sem,seval]
  refine hK _ (Aw_ret (hR1 _ (hQ _ ?_)))
  simp only [go_sem,seval,ho]
  all_goals rfl
 ·have ho:ordR R=ordF R.length (ofR R) R.length []:=by unfold ordR;rw [if_pos hok]
  have hn5:=(relsOk_iff.1 hok).1.2
  have h1:(0:Int)≤R.length:=by omega
  have h2:(R.length:Int)≤1000:=by omega
  refine hK _ ?_;clear hK K
  refine Aw_sq fun B1 hB1 hR1 hX1=>?_
  refine Aw_st hE [4,12] [4] fun K hK=>?_
  simp only [go_sem,seval]
  refine hK _ (Aw_no rfl (Aw_skip (hB1 _ ?_)))
  rw [ho] at hQ
  cases hord:ordF R.length (ofR R) R.length [] with
  | none =>
   rw [hord] at hQ
   refine Aw_st hE [2,3] [4] fun K hK=>?_
   simp only [go_sem,seval,hmp,h1,h2,hlk,Int.toNat_natCast,hord]
   refine hK _ (Aw_ret (hQ _ ?_))
   simp only [go_sem,seval]
   all_goals rfl
  | some l =>
   rw [hord] at hQ
   refine Aw_st hE [2,3] [4] fun K hK=>?_
   simp only [go_sem,seval,hmp,h1,h2,hlk,Int.toNat_natCast,hord]
   refine hK _ (Aw_ret (hQ _ ?_))
   simp only [go_sem,seval]
   all_goals rfl
theorem relsFree_ok:Fine Tryd.prog 16 dRelsFree.con:=by
 refine fine_det (T:=TT) Tryd.func16 rfl Tryd.ntmps16 (by rw [Tryd.results16]) rfl rfl tt (gs_nil) (ds_cons relsOrder_ok ds_nil) ?_
 intro args c r h hc
 simp only [dRelsFree,gRelsFree] at h
 split at h
 rotate_left
 ·cases h
 split at h
 rotate_left
 ·cases h
 rename_i tt els _ R hiw
 obtain rfl:=waysL_eq hiw
 obtain ⟨rfl,rfl⟩:=Prod.mk.inj (Option.some.inj h)
 refine ⟨by simp,fun k E hE Q hQ=>?_⟩
 refine Aw_st hE [0] [] fun K hK=>?_
 simp only [go_sem,seval]
 repeat refine sd0 ?_
 refine hK _ ?_;clear hK K
 refine Aw_st hE [4] [] fun K hK=>?_
 simp only [go_sem,seval,hc]
 repeat refine sd0 ?_
 refine hK _ ?_;clear hK K
 refine Aw_st hE [2] [] fun K hK=>?_
 simp only [go_sem,seval]
 repeat refine sd0 ?_
 refine hK _ (Aw_ret (hQ _ ?_))
 simp only [go_sem,seval]
theorem relsT2 {E:En} (hE:TbOk E tbRels) {k:Nat} (hk:k + 40≤1099511627776) {Q:Exit→St→Prop} (hQ:∀ (L:List (List Int)) (rn:Nat),(2≤L.length∧L.length≤5)→(∀ w ∈ L,w.length=L.length)→rn≤k + 40→Aw E .ret ⟨111,[(2,wsl L)],[],rn⟩ Q) {r:Nat→List Int} (hr:∀ q,(r q).length=2) {d:Nat→Nat} {c rn:Nat} (hrn:rn≤k + 30):Aw E (seqB (seqB (seqB (seqB (seqB (seqB (seqB (Tryd.f30.body.getD .skip)))))))) ⟨111,[(0,.rd),(4,.xs 700 0 2 (c + 2) 1)],(700,vws 2 d 710 2++jN c)::bxs 2 d r 710 2,rn⟩ Q:=by
 have hr0:=hr 0
 have hr1:=hr 1
 have fin:∀ (q:Nat→List Int) (rn:Nat),(∀ x,(q x).length=2)→rn≤k + 40→Aw E (seqB (seqB (seqB (seqB (seqB (seqB (seqB (seqB (Tryd.f30.body.getD .skip))))))))) ⟨111,[(4,.xs 700 0 2 (c + 2) 1)],(700,vws 2 d 710 2++jN c)::bxs 2 d q 710 2,rn⟩ Q:=by
  intro q rn hq hrn
  refine Aw_st hE [2] [700,701,710,711,712,713,714,720,721,722,723,724] fun K hK=>?_
  simp only [go_sem,seval]
  refine hK _ ?_
  refine Aw_frz hE rfl 710 2 (ls:=cI (q 0)++jN (d 0)) (ys:=iD (q 0)) rfl (ofAll_iD (hq 0)) ?_
  simp only [go_sem,seval,↓frz_xs (d:=710) (cap:=d 0 + 2) (hq 0)]
  refine Aw_frz hE rfl 711 2 (ls:=cI (q 1)++jN (d 1)) (ys:=iD (q 1)) rfl (ofAll_iD (hq 1)) ?_
  simp only [go_sem,seval,↓frz_xs (d:=711) (cap:=d 1 + 2) (hq 1)]
  refine Aw_frz hE rfl 700 2 (ls:=cWs [q 0,q 1]++jN c) (ys:=wD [q 0,q 1]) rfl (by rw [List.take_left' (by rfl)];exact ofAll_cWs _) ?_
  simp only [go_sem,seval,↓frz_xsW (d:=700) (n:=2) (cap:=c + 2) (L:=[q 0,q 1]) rfl]
  refine Aw.leE (LeE_of (show Le _ ⟨111,[(2,wsl [q 0,q 1])],[],_⟩ from Le_wa)) (hQ [q 0,q 1] rn ⟨by simp,by simp⟩ (fun w hw=>by simp only [List.mem_cons,List.not_mem_nil,or_false] at hw;rcases hw with rfl | rfl<;>exact hq _) hrn)
 refine Aw_sqJ (fun i:(Nat→List Int) × Nat=>⟨111,[(4,.xs 700 0 2 (c + 2) 1)],(700,vws 2 d 710 2++jN c)::bxs 2 d i.1 710 2,i.2⟩) (fun i=>(∀ x,(i.1 x).length=2)∧i.2≤k + 40) (fun i hi=>fin i.1 i.2 hi.1 hi.2) fun B1 hB1 hR1 hX1=>?_
 refine Aw_st hE [0,4,103] [700,701,710,711,712,713,714,720,721,722,723,724] fun K hK=>?_
 simp only [go_sem,seval]
 refine ⟨by omega,fun x hx1 hx2=>?_⟩
 refine hK _ (Aw_cond rfl (fun hc=>?_) (fun hc=>?_))
 ·have hset:=fun y=>cI_set (r 0) (d 0) 1 y (by omega)
  refine Aw_td hE [4] [700,701,710,711,712,713,714,720,721,722,723,724] 6 (by kernel_rfl) fun K hK=>?_
  simp only [go_sem,seval,hset]
  refine ⟨by omega,fun y hy1 hy2=>⟨by omega,?_⟩⟩
  exact hK _ (hB1 (upd r 0 1 y,rn + 2) _ ⟨upd_len hr,by omega⟩ (LeE_of (Le_wc (by simp only [go_sem,seval]) (by simp only [go_sem,seval,upd]))))
 ·exact Aw_skip (hB1 (r,rn + 1) _ ⟨hr,by omega⟩ (LeE_of (Le_wa)))
set_option maxHeartbeats 8000000 in
theorem relsT3 {E:En} (hE:TbOk E tbRels) {k:Nat} (hk:k + 40≤1099511627776) {Q:Exit→St→Prop} (hQ:∀ (L:List (List Int)) (rn:Nat),(2≤L.length∧L.length≤5)→(∀ w ∈ L,w.length=L.length)→rn≤k + 40→Aw E .ret ⟨111,[(2,wsl L)],[],rn⟩ Q) {r:Nat→List Int} (hr:∀ q,(r q).length=3) {d:Nat→Nat} {c rn:Nat} (hrn:rn≤k + 30):Aw E (seqB (seqB (seqB (seqB (seqB (seqB (seqB (Tryd.f30.body.getD .skip)))))))) ⟨111,[(0,.rd),(4,.xs 700 0 3 (c + 3) 1)],(700,vws 3 d 710 3++jN c)::bxs 3 d r 710 3,rn⟩ Q:=by
 have hr0:=hr 0
 have hr1:=hr 1
 have hr2:=hr 2
 have fin:∀ (q:Nat→List Int) (rn:Nat),(∀ x,(q x).length=3)→rn≤k + 40→Aw E (seqB (seqB (seqB (seqB (seqB (seqB (seqB (seqB (Tryd.f30.body.getD .skip))))))))) ⟨111,[(4,.xs 700 0 3 (c + 3) 1)],(700,vws 3 d 710 3++jN c)::bxs 3 d q 710 3,rn⟩ Q:=by
  intro q rn hq hrn
  refine Aw_st hE [2] [700,701,710,711,712,713,714,720,721,722,723,724] fun K hK=>?_
  simp only [go_sem,seval]
  refine hK _ ?_
  refine Aw_frz hE rfl 710 3 (ls:=cI (q 0)++jN (d 0)) (ys:=iD (q 0)) rfl (ofAll_iD (hq 0)) ?_
  simp only [go_sem,seval,↓frz_xs (d:=710) (cap:=d 0 + 3) (hq 0)]
  refine Aw_frz hE rfl 711 3 (ls:=cI (q 1)++jN (d 1)) (ys:=iD (q 1)) rfl (ofAll_iD (hq 1)) ?_
  simp only [go_sem,seval,↓frz_xs (d:=711) (cap:=d 1 + 3) (hq 1)]
  refine Aw_frz hE rfl 712 3 (ls:=cI (q 2)++jN (d 2)) (ys:=iD (q 2)) rfl (ofAll_iD (hq 2)) ?_
  simp only [go_sem,seval,↓frz_xs (d:=712) (cap:=d 2 + 3) (hq 2)]
  refine Aw_frz hE rfl 700 3 (ls:=cWs [q 0,q 1,q 2]++jN c) (ys:=wD [q 0,q 1,q 2]) rfl (by rw [List.take_left' (by rfl)];exact ofAll_cWs _) ?_
  simp only [go_sem,seval,↓frz_xsW (d:=700) (n:=3) (cap:=c + 3) (L:=[q 0,q 1,q 2]) rfl]
  refine Aw.leE (LeE_of (show Le _ ⟨111,[(2,wsl [q 0,q 1,q 2])],[],_⟩ from Le_wa)) (hQ [q 0,q 1,q 2] rn ⟨by simp,by simp⟩ (fun w hw=>by simp only [List.mem_cons,List.not_mem_nil,or_false] at hw;rcases hw with rfl | rfl | rfl<;>exact hq _) hrn)
 refine Aw_sqJ (fun i:(Nat→List Int) × Nat=>⟨111,[(4,.xs 700 0 3 (c + 3) 1)],(700,vws 3 d 710 3++jN c)::bxs 3 d i.1 710 3,i.2⟩) (fun i=>(∀ x,(i.1 x).length=3)∧i.2≤k + 40) (fun i hi=>fin i.1 i.2 hi.1 hi.2) fun B1 hB1 hR1 hX1=>?_
 refine Aw_st hE [0,4,103] [700,701,710,711,712,713,714,720,721,722,723,724] fun K hK=>?_
 simp only [go_sem,seval]
 refine ⟨by omega,fun x hx1 hx2=>?_⟩
 refine hK _ (Aw_cond rfl (fun hc=>?_) (fun hc=>?_))
 ·have hset:=fun y=>cI_set (r 0) (d 0) 1 y (by omega)
  refine Aw_td hE [4] [700,701,710,711,712,713,714,720,721,722,723,724] 6 (by kernel_rfl) fun K hK=>?_
  simp only [go_sem,seval,hset]
  refine ⟨by omega,fun y hy1 hy2=>⟨by omega,?_⟩⟩
  exact hK _ (hB1 (upd r 0 1 y,rn + 2) _ ⟨upd_len hr,by omega⟩ (LeE_of (Le_wc (by simp only [go_sem,seval]) (by simp only [go_sem,seval,upd]))))
 ·exact Aw_skip (hB1 (r,rn + 1) _ ⟨hr,by omega⟩ (LeE_of (Le_wa)))
set_option maxHeartbeats 8000000 in
theorem relsT4 {E:En} (hE:TbOk E tbRels) {k:Nat} (hk:k + 40≤1099511627776) {Q:Exit→St→Prop} (hQ:∀ (L:List (List Int)) (rn:Nat),(2≤L.length∧L.length≤5)→(∀ w ∈ L,w.length=L.length)→rn≤k + 40→Aw E .ret ⟨111,[(2,wsl L)],[],rn⟩ Q) {r:Nat→List Int} (hr:∀ q,(r q).length=4) {d:Nat→Nat} {c rn:Nat} (hrn:rn≤k + 30):Aw E (seqB (seqB (seqB (seqB (seqB (seqB (seqB (Tryd.f30.body.getD .skip)))))))) ⟨111,[(0,.rd),(4,.xs 700 0 4 (c + 4) 1)],(700,vws 4 d 710 4++jN c)::bxs 4 d r 710 4,rn⟩ Q:=by
 have hr0:=hr 0
 have hr1:=hr 1
 have hr2:=hr 2
 have hr3:=hr 3
 have fin:∀ (q:Nat→List Int) (rn:Nat),(∀ x,(q x).length=4)→rn≤k + 40→Aw E (seqB (seqB (seqB (seqB (seqB (seqB (seqB (seqB (Tryd.f30.body.getD .skip))))))))) ⟨111,[(4,.xs 700 0 4 (c + 4) 1)],(700,vws 4 d 710 4++jN c)::bxs 4 d q 710 4,rn⟩ Q:=by
  intro q rn hq hrn
  refine Aw_st hE [2] [700,701,710,711,712,713,714,720,721,722,723,724] fun K hK=>?_
  simp only [go_sem,seval]
  refine hK _ ?_
  refine Aw_frz hE rfl 710 4 (ls:=cI (q 0)++jN (d 0)) (ys:=iD (q 0)) rfl (ofAll_iD (hq 0)) ?_
  simp only [go_sem,seval,↓frz_xs (d:=710) (cap:=d 0 + 4) (hq 0)]
  refine Aw_frz hE rfl 711 4 (ls:=cI (q 1)++jN (d 1)) (ys:=iD (q 1)) rfl (ofAll_iD (hq 1)) ?_
  simp only [go_sem,seval,↓frz_xs (d:=711) (cap:=d 1 + 4) (hq 1)]
  refine Aw_frz hE rfl 712 4 (ls:=cI (q 2)++jN (d 2)) (ys:=iD (q 2)) rfl (ofAll_iD (hq 2)) ?_
  simp only [go_sem,seval,↓frz_xs (d:=712) (cap:=d 2 + 4) (hq 2)]
  refine Aw_frz hE rfl 713 4 (ls:=cI (q 3)++jN (d 3)) (ys:=iD (q 3)) rfl (ofAll_iD (hq 3)) ?_
  simp only [go_sem,seval,↓frz_xs (d:=713) (cap:=d 3 + 4) (hq 3)]
  refine Aw_frz hE rfl 700 4 (ls:=cWs [q 0,q 1,q 2,q 3]++jN c) (ys:=wD [q 0,q 1,q 2,q 3]) rfl (by rw [List.take_left' (by rfl)];exact ofAll_cWs _) ?_
  simp only [go_sem,seval,↓frz_xsW (d:=700) (n:=4) (cap:=c + 4) (L:=[q 0,q 1,q 2,q 3]) rfl]
  refine Aw.leE (LeE_of (show Le _ ⟨111,[(2,wsl [q 0,q 1,q 2,q 3])],[],_⟩ from Le_wa)) (hQ [q 0,q 1,q 2,q 3] rn ⟨by simp,by simp⟩ (fun w hw=>by simp only [List.mem_cons,List.not_mem_nil,or_false] at hw;rcases hw with rfl | rfl | rfl | rfl<;>exact hq _) hrn)
 refine Aw_sqJ (fun i:(Nat→List Int) × Nat=>⟨111,[(4,.xs 700 0 4 (c + 4) 1)],(700,vws 4 d 710 4++jN c)::bxs 4 d i.1 710 4,i.2⟩) (fun i=>(∀ x,(i.1 x).length=4)∧i.2≤k + 40) (fun i hi=>fin i.1 i.2 hi.1 hi.2) fun B1 hB1 hR1 hX1=>?_
 refine Aw_st hE [0,4,103] [700,701,710,711,712,713,714,720,721,722,723,724] fun K hK=>?_
 simp only [go_sem,seval]
 refine ⟨by omega,fun x hx1 hx2=>?_⟩
 refine hK _ (Aw_cond rfl (fun hc=>?_) (fun hc=>?_))
 ·have hset:=fun y=>cI_set (r 0) (d 0) 1 y (by omega)
  refine Aw_td hE [4] [700,701,710,711,712,713,714,720,721,722,723,724] 6 (by kernel_rfl) fun K hK=>?_
  simp only [go_sem,seval,hset]
  refine ⟨by omega,fun y hy1 hy2=>⟨by omega,?_⟩⟩
  exact hK _ (hB1 (upd r 0 1 y,rn + 2) _ ⟨upd_len hr,by omega⟩ (LeE_of (Le_wc (by simp only [go_sem,seval]) (by simp only [go_sem,seval,upd]))))
 ·exact Aw_skip (hB1 (r,rn + 1) _ ⟨hr,by omega⟩ (LeE_of (Le_wa)))
set_option maxHeartbeats 8000000 in
theorem relsT5 {E:En} (hE:TbOk E tbRels) {k:Nat} (hk:k + 40≤1099511627776) {Q:Exit→St→Prop} (hQ:∀ (L:List (List Int)) (rn:Nat),(2≤L.length∧L.length≤5)→(∀ w ∈ L,w.length=L.length)→rn≤k + 40→Aw E .ret ⟨111,[(2,wsl L)],[],rn⟩ Q) {r:Nat→List Int} (hr:∀ q,(r q).length=5) {d:Nat→Nat} {c rn:Nat} (hrn:rn≤k + 30):Aw E (seqB (seqB (seqB (seqB (seqB (seqB (seqB (Tryd.f30.body.getD .skip)))))))) ⟨111,[(0,.rd),(4,.xs 700 0 5 (c + 5) 1)],(700,vws 5 d 710 5++jN c)::bxs 5 d r 710 5,rn⟩ Q:=by
 have hr0:=hr 0
 have hr1:=hr 1
 have hr2:=hr 2
 have hr3:=hr 3
 have hr4:=hr 4
 have fin:∀ (q:Nat→List Int) (rn:Nat),(∀ x,(q x).length=5)→rn≤k + 40→Aw E (seqB (seqB (seqB (seqB (seqB (seqB (seqB (seqB (Tryd.f30.body.getD .skip))))))))) ⟨111,[(4,.xs 700 0 5 (c + 5) 1)],(700,vws 5 d 710 5++jN c)::bxs 5 d q 710 5,rn⟩ Q:=by
  intro q rn hq hrn
  refine Aw_st hE [2] [700,701,710,711,712,713,714,720,721,722,723,724] fun K hK=>?_
  simp only [go_sem,seval]
  refine hK _ ?_
  refine Aw_frz hE rfl 710 5 (ls:=cI (q 0)++jN (d 0)) (ys:=iD (q 0)) rfl (ofAll_iD (hq 0)) ?_
  simp only [go_sem,seval,↓frz_xs (d:=710) (cap:=d 0 + 5) (hq 0)]
  refine Aw_frz hE rfl 711 5 (ls:=cI (q 1)++jN (d 1)) (ys:=iD (q 1)) rfl (ofAll_iD (hq 1)) ?_
  simp only [go_sem,seval,↓frz_xs (d:=711) (cap:=d 1 + 5) (hq 1)]
  refine Aw_frz hE rfl 712 5 (ls:=cI (q 2)++jN (d 2)) (ys:=iD (q 2)) rfl (ofAll_iD (hq 2)) ?_
  simp only [go_sem,seval,↓frz_xs (d:=712) (cap:=d 2 + 5) (hq 2)]
  refine Aw_frz hE rfl 713 5 (ls:=cI (q 3)++jN (d 3)) (ys:=iD (q 3)) rfl (ofAll_iD (hq 3)) ?_
  simp only [go_sem,seval,↓frz_xs (d:=713) (cap:=d 3 + 5) (hq 3)]
  refine Aw_frz hE rfl 714 5 (ls:=cI (q 4)++jN (d 4)) (ys:=iD (q 4)) rfl (ofAll_iD (hq 4)) ?_
  simp only [go_sem,seval,↓frz_xs (d:=714) (cap:=d 4 + 5) (hq 4)]
  refine Aw_frz hE rfl 700 5 (ls:=cWs [q 0,q 1,q 2,q 3,q 4]++jN c) (ys:=wD [q 0,q 1,q 2,q 3,q 4]) rfl (by rw [List.take_left' (by rfl)];exact ofAll_cWs _) ?_
  simp only [go_sem,seval,↓frz_xsW (d:=700) (n:=5) (cap:=c + 5) (L:=[q 0,q 1,q 2,q 3,q 4]) rfl]
  refine Aw.leE (LeE_of (show Le _ ⟨111,[(2,wsl [q 0,q 1,q 2,q 3,q 4])],[],_⟩ from Le_wa)) (hQ [q 0,q 1,q 2,q 3,q 4] rn ⟨by simp,by simp⟩ (fun w hw=>by simp only [List.mem_cons,List.not_mem_nil,or_false] at hw;rcases hw with rfl | rfl | rfl | rfl | rfl<;>exact hq _) hrn)
 refine Aw_sqJ (fun i:(Nat→List Int) × Nat=>⟨111,[(4,.xs 700 0 5 (c + 5) 1)],(700,vws 5 d 710 5++jN c)::bxs 5 d i.1 710 5,i.2⟩) (fun i=>(∀ x,(i.1 x).length=5)∧i.2≤k + 40) (fun i hi=>fin i.1 i.2 hi.1 hi.2) fun B1 hB1 hR1 hX1=>?_
 refine Aw_st hE [0,4,103] [700,701,710,711,712,713,714,720,721,722,723,724] fun K hK=>?_
 simp only [go_sem,seval]
 refine ⟨by omega,fun x hx1 hx2=>?_⟩
 refine hK _ (Aw_cond rfl (fun hc=>?_) (fun hc=>?_))
 ·have hset:=fun y=>cI_set (r 0) (d 0) 1 y (by omega)
  refine Aw_td hE [4] [700,701,710,711,712,713,714,720,721,722,723,724] 6 (by kernel_rfl) fun K hK=>?_
  simp only [go_sem,seval,hset]
  refine ⟨by omega,fun y hy1 hy2=>⟨by omega,?_⟩⟩
  exact hK _ (hB1 (upd r 0 1 y,rn + 2) _ ⟨upd_len hr,by omega⟩ (LeE_of (Le_wc (by simp only [go_sem,seval]) (by simp only [go_sem,seval,upd]))))
 ·exact Aw_skip (hB1 (r,rn + 1) _ ⟨hr,by omega⟩ (LeE_of (Le_wa)))
theorem relsR2 {E:En} (hE:TbOk E tbRels) {k:Nat} (hk:k + 40≤1099511627776) {Q:Exit→St→Prop} (hQ:∀ (L:List (List Int)) (rn:Nat),(2≤L.length∧L.length≤5)→(∀ w ∈ L,w.length=L.length)→rn≤k + 40→Aw E .ret ⟨111,[(2,wsl L)],[],rn⟩ Q) {r:Nat→List Int} (hr:∀ q,(r q).length=2) {d:Nat→Nat} {c rn:Nat} (hrn:rn≤k + 29):Aw E (seqB (seqB (seqB (seqB (seqB (seqB (Tryd.f30.body.getD .skip))))))) ⟨111,[(0,.rd),(3,iv 2),(4,.xs 700 0 2 (c + 2) 1)],(700,vws 2 d 710 2++jN c)::bxs 2 d r 710 2,rn⟩ Q:=by
 have hr0:=hr 0
 have hr1:=hr 1
 refine Aw_sqJ (fun i:(Nat→Nat) × (Nat→List Int) × Nat × Nat=>⟨111,[(0,.rd),(4,.xs 700 0 2 (i.2.2.1 + 2) 1)],(700,vws 2 i.1 710 2++jN i.2.2.1)::bxs 2 i.1 i.2.1 710 2,i.2.2.2⟩) (fun i=>(∀ x,(i.2.1 x).length=2)∧i.2.2.2≤k + 30) (fun i hi=>relsT2 hE hk hQ hi.1 hi.2) fun B1 hB1 hR1 hX1=>?_
 refine Aw_st hE [0,3,4,71] [72,79,95,99,700,701,710,711,712,713,714,720,721,722,723,724,740] fun K hK=>?_
 simp only [go_sem,seval]
 refine ⟨by omega,fun x hx1 hx2=>?_⟩
 refine hK _ (Aw_cond rfl (fun hc=>?_) (fun hc=>?_))
 rotate_left
 ·exact Aw_skip (hB1 (d,r,c,rn + 1) _ ⟨hr,by simp only;omega⟩ (LeE_of (Le_wa)))
 refine Aw_st hE [0,3,4,10] [72,79,95,99,700,701,710,711,712,713,714,720,721,722,723,724,740] fun K hK=>?_
 simp only [go_sem,seval]
 refine hK _ ?_;clear hK K
 refine Aw_sq fun B2 hB2 hR2 hX2=>?_
 refine Aw_st hE [0,3,4,10,11] [72,79,95,99,700,701,710,711,712,713,714,720,721,722,723,724,740] fun K hK=>?_
 simp only [go_sem,seval]
 refine hK _ ?_;clear hK K
 refine Aw_bk fun B3 hN3 hE3 hR3 hX3=>?_
 refine Aw_lp (fun i:Nat × Nat × (Nat→Nat) × (Nat→List Int)=>⟨111,[(0,.rd),(3,iv 2),(4,.xs 700 0 2 (c + 2) 1),(10,.xs 701 0 i.1 (i.2.1 + i.1) 1),(11,iv ((2:Int) - 1 - (i.1:Int)))],(700,vws 2 d 710 2++jN c)::(701,vws 2 i.2.2.1 720 i.1++jN i.2.1)::(bxs 2 d r 710 2++bxs 2 i.2.2.1 i.2.2.2 720 i.1),rn + 1⟩) (fun i=>i.1≤2∧∀ x,(i.2.2.2 x).length=2) (fun i=>2 - i.1) (0,0,d,r) ?_ ⟨by omega,hr⟩ fun i hi B4 hN4 hR4 hX4=>?_
 ·refine (Le_swb _ 72 701 (by decide) (by decide)).trans ?_
  simp only [St.swb,swbσ,swbm,AV.swb,AV.swbAll,swp,jN_swb,row_swb,Nat.reduceEqDiff,if_true,if_false,reduceIte]
  exact Le_wa
 obtain ⟨i,c',d',r'⟩:=i
 obtain ⟨hi,hr'⟩:=hi
 simp only at hi hr'
 refine Aw_sq fun B5 hB5 hR5 hX5=>?_
 rcases (show i=2∨i=0∨i=1 by omega) with rfl | rfl | rfl
 ·refine Aw_st hE [0,3,4,10,11,76] [72,79,95,99,700,701,710,711,712,713,714,720,721,722,723,724,740] fun K hK=>?_
  simp only [go_sem,seval]
  refine hK _ (Aw_no rfl (Aw_exit (hX5 _ _ (hX4 _ _ (hE3 _ (hB2 _ ?_))))))
  refine Aw_tx hE [0,4] [72,79,95,99,700,701,710,711,712,713,714,720,721,722,723,724,740] fun K hK=>?_
  simp only [go_sem,seval]
  refine hK _ (hB1 (d',r',c',rn + 1) _ ⟨hr',by simp only;omega⟩ (LeE_of ?_))
  refine (Le_swb _ 701 700 (by decide) (by decide)).trans ((Le_swb _ 720 710 (by decide) (by decide)).trans ((Le_swb _ 721 711 (by decide) (by decide)).trans ?_))
  simp only [St.swb,swbσ,swbm,AV.swb,AV.swbAll,swp,jN_swb,row_swb,Nat.reduceEqDiff,if_true,if_false,reduceIte]
  exact Le_wa
 ·refine Aw_st hE [0,3,4,10,11,76] [72,79,95,99,700,701,710,711,712,713,714,720,721,722,723,724,740] fun K hK=>?_
  simp only [go_sem,seval]
  refine hK _ (Aw_yes rfl (Aw_skip (hB5 _ ?_)))
  refine Aw_sq fun B6 hB6 hR6 hX6=>?_
  refine Aw_bk fun B7 hN7 hE7 hR7 hX7=>?_
  refine Aw_st hE [0,3,4,10,11,12] [72,79,95,99,700,701,710,711,712,713,714,720,721,722,723,724,740] fun K hK=>?_
  simp only [go_sem,seval]
  refine hK _ ?_;clear hK K
  refine Aw_sq fun B8 hB8 hR8 hX8=>?_
  refine Aw_st hE [0,3,4,10,11,12,13] [72,79,95,99,700,701,710,711,712,713,714,720,721,722,723,724,740] fun K hK=>?_
  simp only [go_sem,seval]
  refine hK _ ?_;clear hK K
  refine Aw_bk fun B9 hN9 hE9 hR9 hX9=>?_
  refine Aw_lp (fun j:Nat × Nat × List Int=>⟨111,[(0,.rd),(3,iv 2),(4,.xs 700 0 2 (c + 2) 1),(10,.xs 701 0 0 (c' + 0) 1),(11,iv 1),(12,.xs 740 0 j.2.2.length (j.2.1 + j.2.2.length) 1),(13,iv ((j.1:Int) - 1))],(740,cI j.2.2++jN j.2.1)::(700,vws 2 d 710 2++jN c)::(701,vws 2 d' 720 0++jN c')::(bxs 2 d r 710 2++bxs 2 d' r' 720 0),rn + 1⟩) (fun j=>j.2.2.length + j.1=2) (fun j=>j.1) (2,0,[]) ?_ (by simp) fun j hj B10 hN10 hR10 hX10=>?_
  ·refine (Le_swb _ 79 740 (by decide) (by decide)).trans ?_
   simp only [St.swb,swbσ,swbm,AV.swb,AV.swbAll,swp,jN_swb,row_swb,Nat.reduceEqDiff,if_true,if_false,reduceIte]
   exact Le_wa
  obtain ⟨m,e,q⟩:=j
  simp only at hj
  refine Aw_sq fun B11 hB11 hR11 hX11=>?_
  refine Aw_st hE [0,3,4,10,11,12,13,83] [72,79,95,99,700,701,710,711,712,713,714,720,721,722,723,724,740] fun K hK=>?_
  simp only [go_sem,seval]
  refine hK _ (Aw_cond rfl (fun hc38=>?_) (fun hc38=>?_))
  ·simp only [dte] at hc38
   have hg:=rowI_drop (r 1) (d 1) ((m:Int) - 1).toNat (by omega)
   refine Aw_skip (hB11 _ ?_)
   refine Aw_sq fun B12 hB12 hR12 hX12=>?_
   refine Aw_bk fun B13 hN13 hE13 hR13 hX13=>?_
   refine Aw_tx hE [0,3,4,10,11,12,13] [72,79,95,99,700,701,710,711,712,713,714,720,721,722,723,724,740] fun K hK=>?_
   simp only [go_sem,seval,hg]
   refine ⟨⟨by omega,by omega⟩,⟨by omega,by omega⟩,fun h=>?_,fun h cap' hcap'=>?_⟩
   ·obtain ⟨e',rfl⟩:∃ e',e=e' + 1:=⟨e - 1,by omega⟩
    rw [row_put]
    refine hK _ (hN13 _ (hB12 _ ?_))
    refine Aw_tx hE [0,3,4,10,11,12,13] [72,79,95,99,700,701,710,711,712,713,714,720,721,722,723,724,740] fun K hK=>?_
    simp only [go_sem,seval]
    repeat refine sd0 ?_
    have hl1:(q++[(r 1).getD ((m:Int) - 1).toNat 0]).length=q.length + 1:=by simp
    have hmc:((m - 1:Nat):Int)=(m:Int) - 1:=by omega
    have hec:e' + 1 + q.length=e' + (q.length + 1):=by omega
    refine hK _ (hN10 (m - 1,e',q++[(r 1).getD ((m:Int) - 1).toNat 0]) _ (by simp only [hl1];omega) (by simp only;omega) ?_)
    simp only [hl1,hmc,hec]
    exact Le_wa
   ·obtain ⟨e',rfl⟩:∃ e',cap'=e' + (q.length + 1):=⟨cap' - (q.length + 1),by omega⟩
    rw [Nat.add_sub_cancel,List.append_assoc,List.singleton_append,row_snoc]
    refine hK _ (hN13 _ (hB12 _ ?_))
    refine Aw_tx hE [0,3,4,10,11,12,13] [72,79,95,99,700,701,710,711,712,713,714,720,721,722,723,724,740] fun K hK=>?_
    simp only [go_sem,seval]
    repeat refine sd0 ?_
    have hl1:(q++[(r 1).getD ((m:Int) - 1).toNat 0]).length=q.length + 1:=by simp
    have hmc:((m - 1:Nat):Int)=(m:Int) - 1:=by omega
    have hec:e' + 1 + q.length=e' + (q.length + 1):=by omega
    refine hK _ (hN10 (m - 1,e',q++[(r 1).getD ((m:Int) - 1).toNat 0]) _ (by simp only [hl1];omega) (by simp only;omega) ?_)
    simp only [hl1,hmc,hec]
    refine (Le_swb _ 95 740 (by decide) (by decide)).trans ?_
    simp only [St.swb,swbσ,swbm,AV.swb,AV.swbAll,swp,jN_swb,row_swb,Nat.reduceEqDiff,if_true,if_false,reduceIte]
    exact Le_wa
  ·simp only [dfn] at hc38
   have hq:q.length=2:=by omega
   refine Aw_exit (hX11 _ _ (hX10 _ _ (hE9 _ (hB8 _ ?_))))
   refine Aw_tx hE [0,3,4,10,11] [72,79,95,99,700,701,710,711,712,713,714,720,721,722,723,724,740] fun K hK=>?_
   simp only [go_sem,seval,hq]
   refine ⟨fun h=>?_,fun h cap' hcap'=>?_⟩
   ·obtain ⟨c1,rfl⟩:∃ c1,c'=c1 + 1:=⟨c' - 1,by omega⟩
    simp only [jN_s,List.set_cons_zero]
    refine hK _ (hN7 _ (hB6 _ ?_))
    refine Aw_tx hE [0,3,4,10,11] [72,79,95,99,700,701,710,711,712,713,714,720,721,722,723,724,740] fun K hK=>?_
    simp only [go_sem,seval]
    repeat refine sd0 ?_
    refine hK _ (hN4 (1,c1,put d' 0 e,put r' 0 q) _ ⟨by omega,put_len hr' hq⟩ (by simp only;omega) ?_)
    refine (Le_swb _ 740 720 (by decide) (by decide)).trans ?_
    simp only [St.swb,swbσ,swbm,AV.swb,AV.swbAll,swp,jN_swb,row_swb,Nat.reduceEqDiff,if_true,if_false,reduceIte]
    exact Le_wc (by simp only [go_sem,seval,put,Nat.add_assoc]) (by simp only [go_sem,seval,put])
   ·obtain ⟨c1,rfl⟩:∃ c1,cap'=c1 + 1:=⟨cap' - 1,by omega⟩
    rw [Nat.add_sub_cancel]
    refine hK _ (hN7 _ (hB6 _ ?_))
    refine Aw_tx hE [0,3,4,10,11] [72,79,95,99,700,701,710,711,712,713,714,720,721,722,723,724,740] fun K hK=>?_
    simp only [go_sem,seval]
    repeat refine sd0 ?_
    refine hK _ (hN4 (1,c1,put d' 0 e,put r' 0 q) _ ⟨by omega,put_len hr' hq⟩ (by simp only;omega) ?_)
    refine (Le_swb _ 740 720 (by decide) (by decide)).trans ?_
    simp only [St.swb,swbσ,swbm,AV.swb,AV.swbAll,swp,jN_swb,row_swb,Nat.reduceEqDiff,if_true,if_false,reduceIte]
    refine (Le_swb _ 99 701 (by decide) (by decide)).trans ?_
    simp only [St.swb,swbσ,swbm,AV.swb,AV.swbAll,swp,jN_swb,row_swb,Nat.reduceEqDiff,if_true,if_false,reduceIte]
    exact Le_wc (by simp only [go_sem,seval,put,Nat.add_assoc]) (by simp only [go_sem,seval,put])
 ·refine Aw_st hE [0,3,4,10,11,76] [72,79,95,99,700,701,710,711,712,713,714,720,721,722,723,724,740] fun K hK=>?_
  simp only [go_sem,seval]
  refine hK _ (Aw_yes rfl (Aw_skip (hB5 _ ?_)))
  refine Aw_sq fun B6 hB6 hR6 hX6=>?_
  refine Aw_bk fun B7 hN7 hE7 hR7 hX7=>?_
  refine Aw_st hE [0,3,4,10,11,12] [72,79,95,99,700,701,710,711,712,713,714,720,721,722,723,724,740] fun K hK=>?_
  simp only [go_sem,seval]
  refine hK _ ?_;clear hK K
  refine Aw_sq fun B8 hB8 hR8 hX8=>?_
  refine Aw_st hE [0,3,4,10,11,12,13] [72,79,95,99,700,701,710,711,712,713,714,720,721,722,723,724,740] fun K hK=>?_
  simp only [go_sem,seval]
  refine hK _ ?_;clear hK K
  refine Aw_bk fun B9 hN9 hE9 hR9 hX9=>?_
  refine Aw_lp (fun j:Nat × Nat × List Int=>⟨111,[(0,.rd),(3,iv 2),(4,.xs 700 0 2 (c + 2) 1),(10,.xs 701 0 1 (c' + 1) 1),(11,iv 0),(12,.xs 740 0 j.2.2.length (j.2.1 + j.2.2.length) 1),(13,iv ((j.1:Int) - 1))],(740,cI j.2.2++jN j.2.1)::(700,vws 2 d 710 2++jN c)::(701,vws 2 d' 720 1++jN c')::(bxs 2 d r 710 2++bxs 2 d' r' 720 1),rn + 1⟩) (fun j=>j.2.2.length + j.1=2) (fun j=>j.1) (2,0,[]) ?_ (by simp) fun j hj B10 hN10 hR10 hX10=>?_
  ·refine (Le_swb _ 79 740 (by decide) (by decide)).trans ?_
   simp only [St.swb,swbσ,swbm,AV.swb,AV.swbAll,swp,jN_swb,row_swb,Nat.reduceEqDiff,if_true,if_false,reduceIte]
   exact Le_wa
  obtain ⟨m,e,q⟩:=j
  simp only at hj
  refine Aw_sq fun B11 hB11 hR11 hX11=>?_
  refine Aw_st hE [0,3,4,10,11,12,13,83] [72,79,95,99,700,701,710,711,712,713,714,720,721,722,723,724,740] fun K hK=>?_
  simp only [go_sem,seval]
  refine hK _ (Aw_cond rfl (fun hc38=>?_) (fun hc38=>?_))
  ·simp only [dte] at hc38
   have hg:=rowI_drop (r 0) (d 0) ((m:Int) - 1).toNat (by omega)
   refine Aw_skip (hB11 _ ?_)
   refine Aw_sq fun B12 hB12 hR12 hX12=>?_
   refine Aw_bk fun B13 hN13 hE13 hR13 hX13=>?_
   refine Aw_tx hE [0,3,4,10,11,12,13] [72,79,95,99,700,701,710,711,712,713,714,720,721,722,723,724,740] fun K hK=>?_
   simp only [go_sem,seval,hg]
   refine ⟨⟨by omega,by omega⟩,⟨by omega,by omega⟩,fun h=>?_,fun h cap' hcap'=>?_⟩
   ·obtain ⟨e',rfl⟩:∃ e',e=e' + 1:=⟨e - 1,by omega⟩
    rw [row_put]
    refine hK _ (hN13 _ (hB12 _ ?_))
    refine Aw_tx hE [0,3,4,10,11,12,13] [72,79,95,99,700,701,710,711,712,713,714,720,721,722,723,724,740] fun K hK=>?_
    simp only [go_sem,seval]
    repeat refine sd0 ?_
    have hl1:(q++[(r 0).getD ((m:Int) - 1).toNat 0]).length=q.length + 1:=by simp
    have hmc:((m - 1:Nat):Int)=(m:Int) - 1:=by omega
    have hec:e' + 1 + q.length=e' + (q.length + 1):=by omega
    refine hK _ (hN10 (m - 1,e',q++[(r 0).getD ((m:Int) - 1).toNat 0]) _ (by simp only [hl1];omega) (by simp only;omega) ?_)
    simp only [hl1,hmc,hec]
    exact Le_wa
   ·obtain ⟨e',rfl⟩:∃ e',cap'=e' + (q.length + 1):=⟨cap' - (q.length + 1),by omega⟩
    rw [Nat.add_sub_cancel,List.append_assoc,List.singleton_append,row_snoc]
    refine hK _ (hN13 _ (hB12 _ ?_))
    refine Aw_tx hE [0,3,4,10,11,12,13] [72,79,95,99,700,701,710,711,712,713,714,720,721,722,723,724,740] fun K hK=>?_
    simp only [go_sem,seval]
    repeat refine sd0 ?_
    have hl1:(q++[(r 0).getD ((m:Int) - 1).toNat 0]).length=q.length + 1:=by simp
    have hmc:((m - 1:Nat):Int)=(m:Int) - 1:=by omega
    have hec:e' + 1 + q.length=e' + (q.length + 1):=by omega
    refine hK _ (hN10 (m - 1,e',q++[(r 0).getD ((m:Int) - 1).toNat 0]) _ (by simp only [hl1];omega) (by simp only;omega) ?_)
    simp only [hl1,hmc,hec]
    refine (Le_swb _ 95 740 (by decide) (by decide)).trans ?_
    simp only [St.swb,swbσ,swbm,AV.swb,AV.swbAll,swp,jN_swb,row_swb,Nat.reduceEqDiff,if_true,if_false,reduceIte]
    exact Le_wa
  ·simp only [dfn] at hc38
   have hq:q.length=2:=by omega
   refine Aw_exit (hX11 _ _ (hX10 _ _ (hE9 _ (hB8 _ ?_))))
   refine Aw_tx hE [0,3,4,10,11] [72,79,95,99,700,701,710,711,712,713,714,720,721,722,723,724,740] fun K hK=>?_
   simp only [go_sem,seval,hq]
   refine ⟨fun h=>?_,fun h cap' hcap'=>?_⟩
   ·obtain ⟨c1,rfl⟩:∃ c1,c'=c1 + 1:=⟨c' - 1,by omega⟩
    simp only [jN_s,List.set_cons_zero]
    refine hK _ (hN7 _ (hB6 _ ?_))
    refine Aw_tx hE [0,3,4,10,11] [72,79,95,99,700,701,710,711,712,713,714,720,721,722,723,724,740] fun K hK=>?_
    simp only [go_sem,seval]
    repeat refine sd0 ?_
    refine hK _ (hN4 (2,c1,put d' 1 e,put r' 1 q) _ ⟨by omega,put_len hr' hq⟩ (by simp only;omega) ?_)
    refine (Le_swb _ 740 721 (by decide) (by decide)).trans ?_
    simp only [St.swb,swbσ,swbm,AV.swb,AV.swbAll,swp,jN_swb,row_swb,Nat.reduceEqDiff,if_true,if_false,reduceIte]
    exact Le_wc (by simp only [go_sem,seval,put,Nat.add_assoc]) (by simp only [go_sem,seval,put])
   ·obtain ⟨c1,rfl⟩:∃ c1,cap'=c1 + 2:=⟨cap' - 2,by omega⟩
    rw [Nat.add_sub_cancel]
    refine hK _ (hN7 _ (hB6 _ ?_))
    refine Aw_tx hE [0,3,4,10,11] [72,79,95,99,700,701,710,711,712,713,714,720,721,722,723,724,740] fun K hK=>?_
    simp only [go_sem,seval]
    repeat refine sd0 ?_
    refine hK _ (hN4 (2,c1,put d' 1 e,put r' 1 q) _ ⟨by omega,put_len hr' hq⟩ (by simp only;omega) ?_)
    refine (Le_swb _ 740 721 (by decide) (by decide)).trans ?_
    simp only [St.swb,swbσ,swbm,AV.swb,AV.swbAll,swp,jN_swb,row_swb,Nat.reduceEqDiff,if_true,if_false,reduceIte]
    refine (Le_swb _ 99 701 (by decide) (by decide)).trans ?_
    simp only [St.swb,swbσ,swbm,AV.swb,AV.swbAll,swp,jN_swb,row_swb,Nat.reduceEqDiff,if_true,if_false,reduceIte]
    exact Le_wc (by simp only [go_sem,seval,put,Nat.add_assoc]) (by simp only [go_sem,seval,put])
set_option maxHeartbeats 16000000 in
theorem relsR3 {E:En} (hE:TbOk E tbRels) {k:Nat} (hk:k + 40≤1099511627776) {Q:Exit→St→Prop} (hQ:∀ (L:List (List Int)) (rn:Nat),(2≤L.length∧L.length≤5)→(∀ w ∈ L,w.length=L.length)→rn≤k + 40→Aw E .ret ⟨111,[(2,wsl L)],[],rn⟩ Q) {r:Nat→List Int} (hr:∀ q,(r q).length=3) {d:Nat→Nat} {c rn:Nat} (hrn:rn≤k + 29):Aw E (seqB (seqB (seqB (seqB (seqB (seqB (Tryd.f30.body.getD .skip))))))) ⟨111,[(0,.rd),(3,iv 3),(4,.xs 700 0 3 (c + 3) 1)],(700,vws 3 d 710 3++jN c)::bxs 3 d r 710 3,rn⟩ Q:=by
 have hr0:=hr 0
 have hr1:=hr 1
 have hr2:=hr 2
 refine Aw_sqJ (fun i:(Nat→Nat) × (Nat→List Int) × Nat × Nat=>⟨111,[(0,.rd),(4,.xs 700 0 3 (i.2.2.1 + 3) 1)],(700,vws 3 i.1 710 3++jN i.2.2.1)::bxs 3 i.1 i.2.1 710 3,i.2.2.2⟩) (fun i=>(∀ x,(i.2.1 x).length=3)∧i.2.2.2≤k + 30) (fun i hi=>relsT3 hE hk hQ hi.1 hi.2) fun B1 hB1 hR1 hX1=>?_
 refine Aw_st hE [0,3,4,71] [72,79,95,99,700,701,710,711,712,713,714,720,721,722,723,724,740] fun K hK=>?_
 simp only [go_sem,seval]
 refine ⟨by omega,fun x hx1 hx2=>?_⟩
 refine hK _ (Aw_cond rfl (fun hc=>?_) (fun hc=>?_))
 rotate_left
 ·exact Aw_skip (hB1 (d,r,c,rn + 1) _ ⟨hr,by simp only;omega⟩ (LeE_of (Le_wa)))
 refine Aw_st hE [0,3,4,10] [72,79,95,99,700,701,710,711,712,713,714,720,721,722,723,724,740] fun K hK=>?_
 simp only [go_sem,seval]
 refine hK _ ?_;clear hK K
 refine Aw_sq fun B2 hB2 hR2 hX2=>?_
 refine Aw_st hE [0,3,4,10,11] [72,79,95,99,700,701,710,711,712,713,714,720,721,722,723,724,740] fun K hK=>?_
 simp only [go_sem,seval]
 refine hK _ ?_;clear hK K
 refine Aw_bk fun B3 hN3 hE3 hR3 hX3=>?_
 refine Aw_lp (fun i:Nat × Nat × (Nat→Nat) × (Nat→List Int)=>⟨111,[(0,.rd),(3,iv 3),(4,.xs 700 0 3 (c + 3) 1),(10,.xs 701 0 i.1 (i.2.1 + i.1) 1),(11,iv ((3:Int) - 1 - (i.1:Int)))],(700,vws 3 d 710 3++jN c)::(701,vws 3 i.2.2.1 720 i.1++jN i.2.1)::(bxs 3 d r 710 3++bxs 3 i.2.2.1 i.2.2.2 720 i.1),rn + 1⟩) (fun i=>i.1≤3∧∀ x,(i.2.2.2 x).length=3) (fun i=>3 - i.1) (0,0,d,r) ?_ ⟨by omega,hr⟩ fun i hi B4 hN4 hR4 hX4=>?_
 ·refine (Le_swb _ 72 701 (by decide) (by decide)).trans ?_
  simp only [St.swb,swbσ,swbm,AV.swb,AV.swbAll,swp,jN_swb,row_swb,Nat.reduceEqDiff,if_true,if_false,reduceIte]
  exact Le_wa
 obtain ⟨i,c',d',r'⟩:=i
 obtain ⟨hi,hr'⟩:=hi
 simp only at hi hr'
 refine Aw_sq fun B5 hB5 hR5 hX5=>?_
 rcases (show i=3∨i=0∨i=1∨i=2 by omega) with rfl | rfl | rfl | rfl
 ·refine Aw_st hE [0,3,4,10,11,76] [72,79,95,99,700,701,710,711,712,713,714,720,721,722,723,724,740] fun K hK=>?_
  simp only [go_sem,seval]
  refine hK _ (Aw_no rfl (Aw_exit (hX5 _ _ (hX4 _ _ (hE3 _ (hB2 _ ?_))))))
  refine Aw_tx hE [0,4] [72,79,95,99,700,701,710,711,712,713,714,720,721,722,723,724,740] fun K hK=>?_
  simp only [go_sem,seval]
  refine hK _ (hB1 (d',r',c',rn + 1) _ ⟨hr',by simp only;omega⟩ (LeE_of ?_))
  refine (Le_swb _ 701 700 (by decide) (by decide)).trans ((Le_swb _ 720 710 (by decide) (by decide)).trans ((Le_swb _ 721 711 (by decide) (by decide)).trans ((Le_swb _ 722 712 (by decide) (by decide)).trans ?_)))
  simp only [St.swb,swbσ,swbm,AV.swb,AV.swbAll,swp,jN_swb,row_swb,Nat.reduceEqDiff,if_true,if_false,reduceIte]
  exact Le_wa
 ·refine Aw_st hE [0,3,4,10,11,76] [72,79,95,99,700,701,710,711,712,713,714,720,721,722,723,724,740] fun K hK=>?_
  simp only [go_sem,seval]
  refine hK _ (Aw_yes rfl (Aw_skip (hB5 _ ?_)))
  refine Aw_sq fun B6 hB6 hR6 hX6=>?_
  refine Aw_bk fun B7 hN7 hE7 hR7 hX7=>?_
  refine Aw_st hE [0,3,4,10,11,12] [72,79,95,99,700,701,710,711,712,713,714,720,721,722,723,724,740] fun K hK=>?_
  simp only [go_sem,seval]
  refine hK _ ?_;clear hK K
  refine Aw_sq fun B8 hB8 hR8 hX8=>?_
  refine Aw_st hE [0,3,4,10,11,12,13] [72,79,95,99,700,701,710,711,712,713,714,720,721,722,723,724,740] fun K hK=>?_
  simp only [go_sem,seval]
  refine hK _ ?_;clear hK K
  refine Aw_bk fun B9 hN9 hE9 hR9 hX9=>?_
  refine Aw_lp (fun j:Nat × Nat × List Int=>⟨111,[(0,.rd),(3,iv 3),(4,.xs 700 0 3 (c + 3) 1),(10,.xs 701 0 0 (c' + 0) 1),(11,iv 2),(12,.xs 740 0 j.2.2.length (j.2.1 + j.2.2.length) 1),(13,iv ((j.1:Int) - 1))],(740,cI j.2.2++jN j.2.1)::(700,vws 3 d 710 3++jN c)::(701,vws 3 d' 720 0++jN c')::(bxs 3 d r 710 3++bxs 3 d' r' 720 0),rn + 1⟩) (fun j=>j.2.2.length + j.1=3) (fun j=>j.1) (3,0,[]) ?_ (by simp) fun j hj B10 hN10 hR10 hX10=>?_
  ·refine (Le_swb _ 79 740 (by decide) (by decide)).trans ?_
   simp only [St.swb,swbσ,swbm,AV.swb,AV.swbAll,swp,jN_swb,row_swb,Nat.reduceEqDiff,if_true,if_false,reduceIte]
   exact Le_wa
  obtain ⟨m,e,q⟩:=j
  simp only at hj
  refine Aw_sq fun B11 hB11 hR11 hX11=>?_
  refine Aw_st hE [0,3,4,10,11,12,13,83] [72,79,95,99,700,701,710,711,712,713,714,720,721,722,723,724,740] fun K hK=>?_
  simp only [go_sem,seval]
  refine hK _ (Aw_cond rfl (fun hc38=>?_) (fun hc38=>?_))
  ·simp only [dte] at hc38
   have hg:=rowI_drop (r 2) (d 2) ((m:Int) - 1).toNat (by omega)
   refine Aw_skip (hB11 _ ?_)
   refine Aw_sq fun B12 hB12 hR12 hX12=>?_
   refine Aw_bk fun B13 hN13 hE13 hR13 hX13=>?_
   refine Aw_tx hE [0,3,4,10,11,12,13] [72,79,95,99,700,701,710,711,712,713,714,720,721,722,723,724,740] fun K hK=>?_
   simp only [go_sem,seval,hg]
   refine ⟨⟨by omega,by omega⟩,⟨by omega,by omega⟩,fun h=>?_,fun h cap' hcap'=>?_⟩
   ·obtain ⟨e',rfl⟩:∃ e',e=e' + 1:=⟨e - 1,by omega⟩
    rw [row_put]
    refine hK _ (hN13 _ (hB12 _ ?_))
    refine Aw_tx hE [0,3,4,10,11,12,13] [72,79,95,99,700,701,710,711,712,713,714,720,721,722,723,724,740] fun K hK=>?_
    simp only [go_sem,seval]
    repeat refine sd0 ?_
    have hl1:(q++[(r 2).getD ((m:Int) - 1).toNat 0]).length=q.length + 1:=by simp
    have hmc:((m - 1:Nat):Int)=(m:Int) - 1:=by omega
    have hec:e' + 1 + q.length=e' + (q.length + 1):=by omega
    refine hK _ (hN10 (m - 1,e',q++[(r 2).getD ((m:Int) - 1).toNat 0]) _ (by simp only [hl1];omega) (by simp only;omega) ?_)
    simp only [hl1,hmc,hec]
    exact Le_wa
   ·obtain ⟨e',rfl⟩:∃ e',cap'=e' + (q.length + 1):=⟨cap' - (q.length + 1),by omega⟩
    rw [Nat.add_sub_cancel,List.append_assoc,List.singleton_append,row_snoc]
    refine hK _ (hN13 _ (hB12 _ ?_))
    refine Aw_tx hE [0,3,4,10,11,12,13] [72,79,95,99,700,701,710,711,712,713,714,720,721,722,723,724,740] fun K hK=>?_
    simp only [go_sem,seval]
    repeat refine sd0 ?_
    have hl1:(q++[(r 2).getD ((m:Int) - 1).toNat 0]).length=q.length + 1:=by simp
    have hmc:((m - 1:Nat):Int)=(m:Int) - 1:=by omega
    have hec:e' + 1 + q.length=e' + (q.length + 1):=by omega
    refine hK _ (hN10 (m - 1,e',q++[(r 2).getD ((m:Int) - 1).toNat 0]) _ (by simp only [hl1];omega) (by simp only;omega) ?_)
    simp only [hl1,hmc,hec]
    refine (Le_swb _ 95 740 (by decide) (by decide)).trans ?_
    simp only [St.swb,swbσ,swbm,AV.swb,AV.swbAll,swp,jN_swb,row_swb,Nat.reduceEqDiff,if_true,if_false,reduceIte]
    exact Le_wa
  ·simp only [dfn] at hc38
   have hq:q.length=3:=by omega
   refine Aw_exit (hX11 _ _ (hX10 _ _ (hE9 _ (hB8 _ ?_))))
   refine Aw_tx hE [0,3,4,10,11] [72,79,95,99,700,701,710,711,712,713,714,720,721,722,723,724,740] fun K hK=>?_
   simp only [go_sem,seval,hq]
   refine ⟨fun h=>?_,fun h cap' hcap'=>?_⟩
   ·obtain ⟨c1,rfl⟩:∃ c1,c'=c1 + 1:=⟨c' - 1,by omega⟩
    simp only [jN_s,List.set_cons_zero]
    refine hK _ (hN7 _ (hB6 _ ?_))
    refine Aw_tx hE [0,3,4,10,11] [72,79,95,99,700,701,710,711,712,713,714,720,721,722,723,724,740] fun K hK=>?_
    simp only [go_sem,seval]
    repeat refine sd0 ?_
    refine hK _ (hN4 (1,c1,put d' 0 e,put r' 0 q) _ ⟨by omega,put_len hr' hq⟩ (by simp only;omega) ?_)
    refine (Le_swb _ 740 720 (by decide) (by decide)).trans ?_
    simp only [St.swb,swbσ,swbm,AV.swb,AV.swbAll,swp,jN_swb,row_swb,Nat.reduceEqDiff,if_true,if_false,reduceIte]
    exact Le_wc (by simp only [go_sem,seval,put,Nat.add_assoc]) (by simp only [go_sem,seval,put])
   ·obtain ⟨c1,rfl⟩:∃ c1,cap'=c1 + 1:=⟨cap' - 1,by omega⟩
    rw [Nat.add_sub_cancel]
    refine hK _ (hN7 _ (hB6 _ ?_))
    refine Aw_tx hE [0,3,4,10,11] [72,79,95,99,700,701,710,711,712,713,714,720,721,722,723,724,740] fun K hK=>?_
    simp only [go_sem,seval]
    repeat refine sd0 ?_
    refine hK _ (hN4 (1,c1,put d' 0 e,put r' 0 q) _ ⟨by omega,put_len hr' hq⟩ (by simp only;omega) ?_)
    refine (Le_swb _ 740 720 (by decide) (by decide)).trans ?_
    simp only [St.swb,swbσ,swbm,AV.swb,AV.swbAll,swp,jN_swb,row_swb,Nat.reduceEqDiff,if_true,if_false,reduceIte]
    refine (Le_swb _ 99 701 (by decide) (by decide)).trans ?_
    simp only [St.swb,swbσ,swbm,AV.swb,AV.swbAll,swp,jN_swb,row_swb,Nat.reduceEqDiff,if_true,if_false,reduceIte]
    exact Le_wc (by simp only [go_sem,seval,put,Nat.add_assoc]) (by simp only [go_sem,seval,put])
 ·refine Aw_st hE [0,3,4,10,11,76] [72,79,95,99,700,701,710,711,712,713,714,720,721,722,723,724,740] fun K hK=>?_
  simp only [go_sem,seval]
  refine hK _ (Aw_yes rfl (Aw_skip (hB5 _ ?_)))
  refine Aw_sq fun B6 hB6 hR6 hX6=>?_
  refine Aw_bk fun B7 hN7 hE7 hR7 hX7=>?_
  refine Aw_st hE [0,3,4,10,11,12] [72,79,95,99,700,701,710,711,712,713,714,720,721,722,723,724,740] fun K hK=>?_
  simp only [go_sem,seval]
  refine hK _ ?_;clear hK K
  refine Aw_sq fun B8 hB8 hR8 hX8=>?_
  refine Aw_st hE [0,3,4,10,11,12,13] [72,79,95,99,700,701,710,711,712,713,714,720,721,722,723,724,740] fun K hK=>?_
  simp only [go_sem,seval]
  refine hK _ ?_;clear hK K
  refine Aw_bk fun B9 hN9 hE9 hR9 hX9=>?_
  refine Aw_lp (fun j:Nat × Nat × List Int=>⟨111,[(0,.rd),(3,iv 3),(4,.xs 700 0 3 (c + 3) 1),(10,.xs 701 0 1 (c' + 1) 1),(11,iv 1),(12,.xs 740 0 j.2.2.length (j.2.1 + j.2.2.length) 1),(13,iv ((j.1:Int) - 1))],(740,cI j.2.2++jN j.2.1)::(700,vws 3 d 710 3++jN c)::(701,vws 3 d' 720 1++jN c')::(bxs 3 d r 710 3++bxs 3 d' r' 720 1),rn + 1⟩) (fun j=>j.2.2.length + j.1=3) (fun j=>j.1) (3,0,[]) ?_ (by simp) fun j hj B10 hN10 hR10 hX10=>?_
  ·refine (Le_swb _ 79 740 (by decide) (by decide)).trans ?_
   simp only [St.swb,swbσ,swbm,AV.swb,AV.swbAll,swp,jN_swb,row_swb,Nat.reduceEqDiff,if_true,if_false,reduceIte]
   exact Le_wa
  obtain ⟨m,e,q⟩:=j
  simp only at hj
  refine Aw_sq fun B11 hB11 hR11 hX11=>?_
  refine Aw_st hE [0,3,4,10,11,12,13,83] [72,79,95,99,700,701,710,711,712,713,714,720,721,722,723,724,740] fun K hK=>?_
  simp only [go_sem,seval]
  refine hK _ (Aw_cond rfl (fun hc38=>?_) (fun hc38=>?_))
  ·simp only [dte] at hc38
   have hg:=rowI_drop (r 1) (d 1) ((m:Int) - 1).toNat (by omega)
   refine Aw_skip (hB11 _ ?_)
   refine Aw_sq fun B12 hB12 hR12 hX12=>?_
   refine Aw_bk fun B13 hN13 hE13 hR13 hX13=>?_
   refine Aw_tx hE [0,3,4,10,11,12,13] [72,79,95,99,700,701,710,711,712,713,714,720,721,722,723,724,740] fun K hK=>?_
   simp only [go_sem,seval,hg]
   refine ⟨⟨by omega,by omega⟩,⟨by omega,by omega⟩,fun h=>?_,fun h cap' hcap'=>?_⟩
   ·obtain ⟨e',rfl⟩:∃ e',e=e' + 1:=⟨e - 1,by omega⟩
    rw [row_put]
    refine hK _ (hN13 _ (hB12 _ ?_))
    refine Aw_tx hE [0,3,4,10,11,12,13] [72,79,95,99,700,701,710,711,712,713,714,720,721,722,723,724,740] fun K hK=>?_
    simp only [go_sem,seval]
    repeat refine sd0 ?_
    have hl1:(q++[(r 1).getD ((m:Int) - 1).toNat 0]).length=q.length + 1:=by simp
    have hmc:((m - 1:Nat):Int)=(m:Int) - 1:=by omega
    have hec:e' + 1 + q.length=e' + (q.length + 1):=by omega
    refine hK _ (hN10 (m - 1,e',q++[(r 1).getD ((m:Int) - 1).toNat 0]) _ (by simp only [hl1];omega) (by simp only;omega) ?_)
    simp only [hl1,hmc,hec]
    exact Le_wa
   ·obtain ⟨e',rfl⟩:∃ e',cap'=e' + (q.length + 1):=⟨cap' - (q.length + 1),by omega⟩
    rw [Nat.add_sub_cancel,List.append_assoc,List.singleton_append,row_snoc]
    refine hK _ (hN13 _ (hB12 _ ?_))
    refine Aw_tx hE [0,3,4,10,11,12,13] [72,79,95,99,700,701,710,711,712,713,714,720,721,722,723,724,740] fun K hK=>?_
    simp only [go_sem,seval]
    repeat refine sd0 ?_
    have hl1:(q++[(r 1).getD ((m:Int) - 1).toNat 0]).length=q.length + 1:=by simp
    have hmc:((m - 1:Nat):Int)=(m:Int) - 1:=by omega
    have hec:e' + 1 + q.length=e' + (q.length + 1):=by omega
    refine hK _ (hN10 (m - 1,e',q++[(r 1).getD ((m:Int) - 1).toNat 0]) _ (by simp only [hl1];omega) (by simp only;omega) ?_)
    simp only [hl1,hmc,hec]
    refine (Le_swb _ 95 740 (by decide) (by decide)).trans ?_
    simp only [St.swb,swbσ,swbm,AV.swb,AV.swbAll,swp,jN_swb,row_swb,Nat.reduceEqDiff,if_true,if_false,reduceIte]
    exact Le_wa
  ·simp only [dfn] at hc38
   have hq:q.length=3:=by omega
   refine Aw_exit (hX11 _ _ (hX10 _ _ (hE9 _ (hB8 _ ?_))))
   refine Aw_tx hE [0,3,4,10,11] [72,79,95,99,700,701,710,711,712,713,714,720,721,722,723,724,740] fun K hK=>?_
   simp only [go_sem,seval,hq]
   refine ⟨fun h=>?_,fun h cap' hcap'=>?_⟩
   ·obtain ⟨c1,rfl⟩:∃ c1,c'=c1 + 1:=⟨c' - 1,by omega⟩
    simp only [jN_s,List.set_cons_zero]
    refine hK _ (hN7 _ (hB6 _ ?_))
    refine Aw_tx hE [0,3,4,10,11] [72,79,95,99,700,701,710,711,712,713,714,720,721,722,723,724,740] fun K hK=>?_
    simp only [go_sem,seval]
    repeat refine sd0 ?_
    refine hK _ (hN4 (2,c1,put d' 1 e,put r' 1 q) _ ⟨by omega,put_len hr' hq⟩ (by simp only;omega) ?_)
    refine (Le_swb _ 740 721 (by decide) (by decide)).trans ?_
    simp only [St.swb,swbσ,swbm,AV.swb,AV.swbAll,swp,jN_swb,row_swb,Nat.reduceEqDiff,if_true,if_false,reduceIte]
    exact Le_wc (by simp only [go_sem,seval,put,Nat.add_assoc]) (by simp only [go_sem,seval,put])
   ·obtain ⟨c1,rfl⟩:∃ c1,cap'=c1 + 2:=⟨cap' - 2,by omega⟩
    rw [Nat.add_sub_cancel]
    refine hK _ (hN7 _ (hB6 _ ?_))
    refine Aw_tx hE [0,3,4,10,11] [72,79,95,99,700,701,710,711,712,713,714,720,721,722,723,724,740] fun K hK=>?_
    simp only [go_sem,seval]
    repeat refine sd0 ?_
    refine hK _ (hN4 (2,c1,put d' 1 e,put r' 1 q) _ ⟨by omega,put_len hr' hq⟩ (by simp only;omega) ?_)
    refine (Le_swb _ 740 721 (by decide) (by decide)).trans ?_
    simp only [St.swb,swbσ,swbm,AV.swb,AV.swbAll,swp,jN_swb,row_swb,Nat.reduceEqDiff,if_true,if_false,reduceIte]
    refine (Le_swb _ 99 701 (by decide) (by decide)).trans ?_
    simp only [St.swb,swbσ,swbm,AV.swb,AV.swbAll,swp,jN_swb,row_swb,Nat.reduceEqDiff,if_true,if_false,reduceIte]
    exact Le_wc (by simp only [go_sem,seval,put,Nat.add_assoc]) (by simp only [go_sem,seval,put])
 ·refine Aw_st hE [0,3,4,10,11,76] [72,79,95,99,700,701,710,711,712,713,714,720,721,722,723,724,740] fun K hK=>?_
  simp only [go_sem,seval]
  refine hK _ (Aw_yes rfl (Aw_skip (hB5 _ ?_)))
  refine Aw_sq fun B6 hB6 hR6 hX6=>?_
  refine Aw_bk fun B7 hN7 hE7 hR7 hX7=>?_
  refine Aw_st hE [0,3,4,10,11,12] [72,79,95,99,700,701,710,711,712,713,714,720,721,722,723,724,740] fun K hK=>?_
  simp only [go_sem,seval]
  refine hK _ ?_;clear hK K
  refine Aw_sq fun B8 hB8 hR8 hX8=>?_
  refine Aw_st hE [0,3,4,10,11,12,13] [72,79,95,99,700,701,710,711,712,713,714,720,721,722,723,724,740] fun K hK=>?_
  simp only [go_sem,seval]
  refine hK _ ?_;clear hK K
  refine Aw_bk fun B9 hN9 hE9 hR9 hX9=>?_
  refine Aw_lp (fun j:Nat × Nat × List Int=>⟨111,[(0,.rd),(3,iv 3),(4,.xs 700 0 3 (c + 3) 1),(10,.xs 701 0 2 (c' + 2) 1),(11,iv 0),(12,.xs 740 0 j.2.2.length (j.2.1 + j.2.2.length) 1),(13,iv ((j.1:Int) - 1))],(740,cI j.2.2++jN j.2.1)::(700,vws 3 d 710 3++jN c)::(701,vws 3 d' 720 2++jN c')::(bxs 3 d r 710 3++bxs 3 d' r' 720 2),rn + 1⟩) (fun j=>j.2.2.length + j.1=3) (fun j=>j.1) (3,0,[]) ?_ (by simp) fun j hj B10 hN10 hR10 hX10=>?_
  ·refine (Le_swb _ 79 740 (by decide) (by decide)).trans ?_
   simp only [St.swb,swbσ,swbm,AV.swb,AV.swbAll,swp,jN_swb,row_swb,Nat.reduceEqDiff,if_true,if_false,reduceIte]
   exact Le_wa
  obtain ⟨m,e,q⟩:=j
  simp only at hj
  refine Aw_sq fun B11 hB11 hR11 hX11=>?_
  refine Aw_st hE [0,3,4,10,11,12,13,83] [72,79,95,99,700,701,710,711,712,713,714,720,721,722,723,724,740] fun K hK=>?_
  simp only [go_sem,seval]
  refine hK _ (Aw_cond rfl (fun hc38=>?_) (fun hc38=>?_))
  ·simp only [dte] at hc38
   have hg:=rowI_drop (r 0) (d 0) ((m:Int) - 1).toNat (by omega)
   refine Aw_skip (hB11 _ ?_)
   refine Aw_sq fun B12 hB12 hR12 hX12=>?_
   refine Aw_bk fun B13 hN13 hE13 hR13 hX13=>?_
   refine Aw_tx hE [0,3,4,10,11,12,13] [72,79,95,99,700,701,710,711,712,713,714,720,721,722,723,724,740] fun K hK=>?_
   simp only [go_sem,seval,hg]
   refine ⟨⟨by omega,by omega⟩,⟨by omega,by omega⟩,fun h=>?_,fun h cap' hcap'=>?_⟩
   ·obtain ⟨e',rfl⟩:∃ e',e=e' + 1:=⟨e - 1,by omega⟩
    rw [row_put]
    refine hK _ (hN13 _ (hB12 _ ?_))
    refine Aw_tx hE [0,3,4,10,11,12,13] [72,79,95,99,700,701,710,711,712,713,714,720,721,722,723,724,740] fun K hK=>?_
    simp only [go_sem,seval]
    repeat refine sd0 ?_
    have hl1:(q++[(r 0).getD ((m:Int) - 1).toNat 0]).length=q.length + 1:=by simp
    have hmc:((m - 1:Nat):Int)=(m:Int) - 1:=by omega
    have hec:e' + 1 + q.length=e' + (q.length + 1):=by omega
    refine hK _ (hN10 (m - 1,e',q++[(r 0).getD ((m:Int) - 1).toNat 0]) _ (by simp only [hl1];omega) (by simp only;omega) ?_)
    simp only [hl1,hmc,hec]
    exact Le_wa
   ·obtain ⟨e',rfl⟩:∃ e',cap'=e' + (q.length + 1):=⟨cap' - (q.length + 1),by omega⟩
    rw [Nat.add_sub_cancel,List.append_assoc,List.singleton_append,row_snoc]
    refine hK _ (hN13 _ (hB12 _ ?_))
    refine Aw_tx hE [0,3,4,10,11,12,13] [72,79,95,99,700,701,710,711,712,713,714,720,721,722,723,724,740] fun K hK=>?_
    simp only [go_sem,seval]
    repeat refine sd0 ?_
    have hl1:(q++[(r 0).getD ((m:Int) - 1).toNat 0]).length=q.length + 1:=by simp
    have hmc:((m - 1:Nat):Int)=(m:Int) - 1:=by omega
    have hec:e' + 1 + q.length=e' + (q.length + 1):=by omega
    refine hK _ (hN10 (m - 1,e',q++[(r 0).getD ((m:Int) - 1).toNat 0]) _ (by simp only [hl1];omega) (by simp only;omega) ?_)
    simp only [hl1,hmc,hec]
    refine (Le_swb _ 95 740 (by decide) (by decide)).trans ?_
    simp only [St.swb,swbσ,swbm,AV.swb,AV.swbAll,swp,jN_swb,row_swb,Nat.reduceEqDiff,if_true,if_false,reduceIte]
    exact Le_wa
  ·simp only [dfn] at hc38
   have hq:q.length=3:=by omega
   refine Aw_exit (hX11 _ _ (hX10 _ _ (hE9 _ (hB8 _ ?_))))
   refine Aw_tx hE [0,3,4,10,11] [72,79,95,99,700,701,710,711,712,713,714,720,721,722,723,724,740] fun K hK=>?_
   simp only [go_sem,seval,hq]
   refine ⟨fun h=>?_,fun h cap' hcap'=>?_⟩
   ·obtain ⟨c1,rfl⟩:∃ c1,c'=c1 + 1:=⟨c' - 1,by omega⟩
    simp only [jN_s,List.set_cons_zero]
    refine hK _ (hN7 _ (hB6 _ ?_))
    refine Aw_tx hE [0,3,4,10,11] [72,79,95,99,700,701,710,711,712,713,714,720,721,722,723,724,740] fun K hK=>?_
    simp only [go_sem,seval]
    repeat refine sd0 ?_
    refine hK _ (hN4 (3,c1,put d' 2 e,put r' 2 q) _ ⟨by omega,put_len hr' hq⟩ (by simp only;omega) ?_)
    refine (Le_swb _ 740 722 (by decide) (by decide)).trans ?_
    simp only [St.swb,swbσ,swbm,AV.swb,AV.swbAll,swp,jN_swb,row_swb,Nat.reduceEqDiff,if_true,if_false,reduceIte]
    exact Le_wc (by simp only [go_sem,seval,put,Nat.add_assoc]) (by simp only [go_sem,seval,put])
   ·obtain ⟨c1,rfl⟩:∃ c1,cap'=c1 + 3:=⟨cap' - 3,by omega⟩
    rw [Nat.add_sub_cancel]
    refine hK _ (hN7 _ (hB6 _ ?_))
    refine Aw_tx hE [0,3,4,10,11] [72,79,95,99,700,701,710,711,712,713,714,720,721,722,723,724,740] fun K hK=>?_
    simp only [go_sem,seval]
    repeat refine sd0 ?_
    refine hK _ (hN4 (3,c1,put d' 2 e,put r' 2 q) _ ⟨by omega,put_len hr' hq⟩ (by simp only;omega) ?_)
    refine (Le_swb _ 740 722 (by decide) (by decide)).trans ?_
    simp only [St.swb,swbσ,swbm,AV.swb,AV.swbAll,swp,jN_swb,row_swb,Nat.reduceEqDiff,if_true,if_false,reduceIte]
    refine (Le_swb _ 99 701 (by decide) (by decide)).trans ?_
    simp only [St.swb,swbσ,swbm,AV.swb,AV.swbAll,swp,jN_swb,row_swb,Nat.reduceEqDiff,if_true,if_false,reduceIte]
    exact Le_wc (by simp only [go_sem,seval,put,Nat.add_assoc]) (by simp only [go_sem,seval,put])
set_option maxHeartbeats 16000000 in
theorem relsR4 {E:En} (hE:TbOk E tbRels) {k:Nat} (hk:k + 40≤1099511627776) {Q:Exit→St→Prop} (hQ:∀ (L:List (List Int)) (rn:Nat),(2≤L.length∧L.length≤5)→(∀ w ∈ L,w.length=L.length)→rn≤k + 40→Aw E .ret ⟨111,[(2,wsl L)],[],rn⟩ Q) {r:Nat→List Int} (hr:∀ q,(r q).length=4) {d:Nat→Nat} {c rn:Nat} (hrn:rn≤k + 29):Aw E (seqB (seqB (seqB (seqB (seqB (seqB (Tryd.f30.body.getD .skip))))))) ⟨111,[(0,.rd),(3,iv 4),(4,.xs 700 0 4 (c + 4) 1)],(700,vws 4 d 710 4++jN c)::bxs 4 d r 710 4,rn⟩ Q:=by
 have hr0:=hr 0
 have hr1:=hr 1
 have hr2:=hr 2
 have hr3:=hr 3
 refine Aw_sqJ (fun i:(Nat→Nat) × (Nat→List Int) × Nat × Nat=>⟨111,[(0,.rd),(4,.xs 700 0 4 (i.2.2.1 + 4) 1)],(700,vws 4 i.1 710 4++jN i.2.2.1)::bxs 4 i.1 i.2.1 710 4,i.2.2.2⟩) (fun i=>(∀ x,(i.2.1 x).length=4)∧i.2.2.2≤k + 30) (fun i hi=>relsT4 hE hk hQ hi.1 hi.2) fun B1 hB1 hR1 hX1=>?_
 refine Aw_st hE [0,3,4,71] [72,79,95,99,700,701,710,711,712,713,714,720,721,722,723,724,740] fun K hK=>?_
 simp only [go_sem,seval]
 refine ⟨by omega,fun x hx1 hx2=>?_⟩
 refine hK _ (Aw_cond rfl (fun hc=>?_) (fun hc=>?_))
 rotate_left
 ·exact Aw_skip (hB1 (d,r,c,rn + 1) _ ⟨hr,by simp only;omega⟩ (LeE_of (Le_wa)))
 refine Aw_st hE [0,3,4,10] [72,79,95,99,700,701,710,711,712,713,714,720,721,722,723,724,740] fun K hK=>?_
 simp only [go_sem,seval]
 refine hK _ ?_;clear hK K
 refine Aw_sq fun B2 hB2 hR2 hX2=>?_
 refine Aw_st hE [0,3,4,10,11] [72,79,95,99,700,701,710,711,712,713,714,720,721,722,723,724,740] fun K hK=>?_
 simp only [go_sem,seval]
 refine hK _ ?_;clear hK K
 refine Aw_bk fun B3 hN3 hE3 hR3 hX3=>?_
 refine Aw_lp (fun i:Nat × Nat × (Nat→Nat) × (Nat→List Int)=>⟨111,[(0,.rd),(3,iv 4),(4,.xs 700 0 4 (c + 4) 1),(10,.xs 701 0 i.1 (i.2.1 + i.1) 1),(11,iv ((4:Int) - 1 - (i.1:Int)))],(700,vws 4 d 710 4++jN c)::(701,vws 4 i.2.2.1 720 i.1++jN i.2.1)::(bxs 4 d r 710 4++bxs 4 i.2.2.1 i.2.2.2 720 i.1),rn + 1⟩) (fun i=>i.1≤4∧∀ x,(i.2.2.2 x).length=4) (fun i=>4 - i.1) (0,0,d,r) ?_ ⟨by omega,hr⟩ fun i hi B4 hN4 hR4 hX4=>?_
 ·refine (Le_swb _ 72 701 (by decide) (by decide)).trans ?_
  simp only [St.swb,swbσ,swbm,AV.swb,AV.swbAll,swp,jN_swb,row_swb,Nat.reduceEqDiff,if_true,if_false,reduceIte]
  exact Le_wa
 obtain ⟨i,c',d',r'⟩:=i
 obtain ⟨hi,hr'⟩:=hi
 simp only at hi hr'
 refine Aw_sq fun B5 hB5 hR5 hX5=>?_
 rcases (show i=4∨i=0∨i=1∨i=2∨i=3 by omega) with rfl | rfl | rfl | rfl | rfl
 ·refine Aw_st hE [0,3,4,10,11,76] [72,79,95,99,700,701,710,711,712,713,714,720,721,722,723,724,740] fun K hK=>?_
  simp only [go_sem,seval]
  refine hK _ (Aw_no rfl (Aw_exit (hX5 _ _ (hX4 _ _ (hE3 _ (hB2 _ ?_))))))
  refine Aw_tx hE [0,4] [72,79,95,99,700,701,710,711,712,713,714,720,721,722,723,724,740] fun K hK=>?_
  simp only [go_sem,seval]
  refine hK _ (hB1 (d',r',c',rn + 1) _ ⟨hr',by simp only;omega⟩ (LeE_of ?_))
  refine (Le_swb _ 701 700 (by decide) (by decide)).trans ((Le_swb _ 720 710 (by decide) (by decide)).trans ((Le_swb _ 721 711 (by decide) (by decide)).trans ((Le_swb _ 722 712 (by decide) (by decide)).trans ((Le_swb _ 723 713 (by decide) (by decide)).trans ?_))))
  simp only [St.swb,swbσ,swbm,AV.swb,AV.swbAll,swp,jN_swb,row_swb,Nat.reduceEqDiff,if_true,if_false,reduceIte]
  exact Le_wa
 ·refine Aw_st hE [0,3,4,10,11,76] [72,79,95,99,700,701,710,711,712,713,714,720,721,722,723,724,740] fun K hK=>?_
  simp only [go_sem,seval]
  refine hK _ (Aw_yes rfl (Aw_skip (hB5 _ ?_)))
  refine Aw_sq fun B6 hB6 hR6 hX6=>?_
  refine Aw_bk fun B7 hN7 hE7 hR7 hX7=>?_
  refine Aw_st hE [0,3,4,10,11,12] [72,79,95,99,700,701,710,711,712,713,714,720,721,722,723,724,740] fun K hK=>?_
  simp only [go_sem,seval]
  refine hK _ ?_;clear hK K
  refine Aw_sq fun B8 hB8 hR8 hX8=>?_
  refine Aw_st hE [0,3,4,10,11,12,13] [72,79,95,99,700,701,710,711,712,713,714,720,721,722,723,724,740] fun K hK=>?_
  simp only [go_sem,seval]
  refine hK _ ?_;clear hK K
  refine Aw_bk fun B9 hN9 hE9 hR9 hX9=>?_
  refine Aw_lp (fun j:Nat × Nat × List Int=>⟨111,[(0,.rd),(3,iv 4),(4,.xs 700 0 4 (c + 4) 1),(10,.xs 701 0 0 (c' + 0) 1),(11,iv 3),(12,.xs 740 0 j.2.2.length (j.2.1 + j.2.2.length) 1),(13,iv ((j.1:Int) - 1))],(740,cI j.2.2++jN j.2.1)::(700,vws 4 d 710 4++jN c)::(701,vws 4 d' 720 0++jN c')::(bxs 4 d r 710 4++bxs 4 d' r' 720 0),rn + 1⟩) (fun j=>j.2.2.length + j.1=4) (fun j=>j.1) (4,0,[]) ?_ (by simp) fun j hj B10 hN10 hR10 hX10=>?_
  ·refine (Le_swb _ 79 740 (by decide) (by decide)).trans ?_
   simp only [St.swb,swbσ,swbm,AV.swb,AV.swbAll,swp,jN_swb,row_swb,Nat.reduceEqDiff,if_true,if_false,reduceIte]
   exact Le_wa
  obtain ⟨m,e,q⟩:=j
  simp only at hj
  refine Aw_sq fun B11 hB11 hR11 hX11=>?_
  refine Aw_st hE [0,3,4,10,11,12,13,83] [72,79,95,99,700,701,710,711,712,713,714,720,721,722,723,724,740] fun K hK=>?_
  simp only [go_sem,seval]
  refine hK _ (Aw_cond rfl (fun hc38=>?_) (fun hc38=>?_))
  ·simp only [dte] at hc38
   have hg:=rowI_drop (r 3) (d 3) ((m:Int) - 1).toNat (by omega)
   refine Aw_skip (hB11 _ ?_)
   refine Aw_sq fun B12 hB12 hR12 hX12=>?_
   refine Aw_bk fun B13 hN13 hE13 hR13 hX13=>?_
   refine Aw_tx hE [0,3,4,10,11,12,13] [72,79,95,99,700,701,710,711,712,713,714,720,721,722,723,724,740] fun K hK=>?_
   simp only [go_sem,seval,hg]
   refine ⟨⟨by omega,by omega⟩,⟨by omega,by omega⟩,fun h=>?_,fun h cap' hcap'=>?_⟩
   ·obtain ⟨e',rfl⟩:∃ e',e=e' + 1:=⟨e - 1,by omega⟩
    rw [row_put]
    refine hK _ (hN13 _ (hB12 _ ?_))
    refine Aw_tx hE [0,3,4,10,11,12,13] [72,79,95,99,700,701,710,711,712,713,714,720,721,722,723,724,740] fun K hK=>?_
    simp only [go_sem,seval]
    repeat refine sd0 ?_
    have hl1:(q++[(r 3).getD ((m:Int) - 1).toNat 0]).length=q.length + 1:=by simp
    have hmc:((m - 1:Nat):Int)=(m:Int) - 1:=by omega
    have hec:e' + 1 + q.length=e' + (q.length + 1):=by omega
    refine hK _ (hN10 (m - 1,e',q++[(r 3).getD ((m:Int) - 1).toNat 0]) _ (by simp only [hl1];omega) (by simp only;omega) ?_)
    simp only [hl1,hmc,hec]
    exact Le_wa
   ·obtain ⟨e',rfl⟩:∃ e',cap'=e' + (q.length + 1):=⟨cap' - (q.length + 1),by omega⟩
    rw [Nat.add_sub_cancel,List.append_assoc,List.singleton_append,row_snoc]
    refine hK _ (hN13 _ (hB12 _ ?_))
    refine Aw_tx hE [0,3,4,10,11,12,13] [72,79,95,99,700,701,710,711,712,713,714,720,721,722,723,724,740] fun K hK=>?_
    simp only [go_sem,seval]
    repeat refine sd0 ?_
    have hl1:(q++[(r 3).getD ((m:Int) - 1).toNat 0]).length=q.length + 1:=by simp
    have hmc:((m - 1:Nat):Int)=(m:Int) - 1:=by omega
    have hec:e' + 1 + q.length=e' + (q.length + 1):=by omega
    refine hK _ (hN10 (m - 1,e',q++[(r 3).getD ((m:Int) - 1).toNat 0]) _ (by simp only [hl1];omega) (by simp only;omega) ?_)
    simp only [hl1,hmc,hec]
    refine (Le_swb _ 95 740 (by decide) (by decide)).trans ?_
    simp only [St.swb,swbσ,swbm,AV.swb,AV.swbAll,swp,jN_swb,row_swb,Nat.reduceEqDiff,if_true,if_false,reduceIte]
    exact Le_wa
  ·simp only [dfn] at hc38
   have hq:q.length=4:=by omega
   refine Aw_exit (hX11 _ _ (hX10 _ _ (hE9 _ (hB8 _ ?_))))
   refine Aw_tx hE [0,3,4,10,11] [72,79,95,99,700,701,710,711,712,713,714,720,721,722,723,724,740] fun K hK=>?_
   simp only [go_sem,seval,hq]
   refine ⟨fun h=>?_,fun h cap' hcap'=>?_⟩
   ·obtain ⟨c1,rfl⟩:∃ c1,c'=c1 + 1:=⟨c' - 1,by omega⟩
    simp only [jN_s,List.set_cons_zero]
    refine hK _ (hN7 _ (hB6 _ ?_))
    refine Aw_tx hE [0,3,4,10,11] [72,79,95,99,700,701,710,711,712,713,714,720,721,722,723,724,740] fun K hK=>?_
    simp only [go_sem,seval]
    repeat refine sd0 ?_
    refine hK _ (hN4 (1,c1,put d' 0 e,put r' 0 q) _ ⟨by omega,put_len hr' hq⟩ (by simp only;omega) ?_)
    refine (Le_swb _ 740 720 (by decide) (by decide)).trans ?_
    simp only [St.swb,swbσ,swbm,AV.swb,AV.swbAll,swp,jN_swb,row_swb,Nat.reduceEqDiff,if_true,if_false,reduceIte]
    exact Le_wc (by simp only [go_sem,seval,put,Nat.add_assoc]) (by simp only [go_sem,seval,put])
   ·obtain ⟨c1,rfl⟩:∃ c1,cap'=c1 + 1:=⟨cap' - 1,by omega⟩
    rw [Nat.add_sub_cancel]
    refine hK _ (hN7 _ (hB6 _ ?_))
    refine Aw_tx hE [0,3,4,10,11] [72,79,95,99,700,701,710,711,712,713,714,720,721,722,723,724,740] fun K hK=>?_
    simp only [go_sem,seval]
    repeat refine sd0 ?_
    refine hK _ (hN4 (1,c1,put d' 0 e,put r' 0 q) _ ⟨by omega,put_len hr' hq⟩ (by simp only;omega) ?_)
    refine (Le_swb _ 740 720 (by decide) (by decide)).trans ?_
    simp only [St.swb,swbσ,swbm,AV.swb,AV.swbAll,swp,jN_swb,row_swb,Nat.reduceEqDiff,if_true,if_false,reduceIte]
    refine (Le_swb _ 99 701 (by decide) (by decide)).trans ?_
    simp only [St.swb,swbσ,swbm,AV.swb,AV.swbAll,swp,jN_swb,row_swb,Nat.reduceEqDiff,if_true,if_false,reduceIte]
    exact Le_wc (by simp only [go_sem,seval,put,Nat.add_assoc]) (by simp only [go_sem,seval,put])
 ·refine Aw_st hE [0,3,4,10,11,76] [72,79,95,99,700,701,710,711,712,713,714,720,721,722,723,724,740] fun K hK=>?_
  simp only [go_sem,seval]
  refine hK _ (Aw_yes rfl (Aw_skip (hB5 _ ?_)))
  refine Aw_sq fun B6 hB6 hR6 hX6=>?_
  refine Aw_bk fun B7 hN7 hE7 hR7 hX7=>?_
  refine Aw_st hE [0,3,4,10,11,12] [72,79,95,99,700,701,710,711,712,713,714,720,721,722,723,724,740] fun K hK=>?_
  simp only [go_sem,seval]
  refine hK _ ?_;clear hK K
  refine Aw_sq fun B8 hB8 hR8 hX8=>?_
  refine Aw_st hE [0,3,4,10,11,12,13] [72,79,95,99,700,701,710,711,712,713,714,720,721,722,723,724,740] fun K hK=>?_
  simp only [go_sem,seval]
  refine hK _ ?_;clear hK K
  refine Aw_bk fun B9 hN9 hE9 hR9 hX9=>?_
  refine Aw_lp (fun j:Nat × Nat × List Int=>⟨111,[(0,.rd),(3,iv 4),(4,.xs 700 0 4 (c + 4) 1),(10,.xs 701 0 1 (c' + 1) 1),(11,iv 2),(12,.xs 740 0 j.2.2.length (j.2.1 + j.2.2.length) 1),(13,iv ((j.1:Int) - 1))],(740,cI j.2.2++jN j.2.1)::(700,vws 4 d 710 4++jN c)::(701,vws 4 d' 720 1++jN c')::(bxs 4 d r 710 4++bxs 4 d' r' 720 1),rn + 1⟩) (fun j=>j.2.2.length + j.1=4) (fun j=>j.1) (4,0,[]) ?_ (by simp) fun j hj B10 hN10 hR10 hX10=>?_
  ·refine (Le_swb _ 79 740 (by decide) (by decide)).trans ?_
   simp only [St.swb,swbσ,swbm,AV.swb,AV.swbAll,swp,jN_swb,row_swb,Nat.reduceEqDiff,if_true,if_false,reduceIte]
   exact Le_wa
  obtain ⟨m,e,q⟩:=j
  simp only at hj
  refine Aw_sq fun B11 hB11 hR11 hX11=>?_
  refine Aw_st hE [0,3,4,10,11,12,13,83] [72,79,95,99,700,701,710,711,712,713,714,720,721,722,723,724,740] fun K hK=>?_
  simp only [go_sem,seval]
  refine hK _ (Aw_cond rfl (fun hc38=>?_) (fun hc38=>?_))
  ·simp only [dte] at hc38
   have hg:=rowI_drop (r 2) (d 2) ((m:Int) - 1).toNat (by omega)
   refine Aw_skip (hB11 _ ?_)
   refine Aw_sq fun B12 hB12 hR12 hX12=>?_
   refine Aw_bk fun B13 hN13 hE13 hR13 hX13=>?_
   refine Aw_tx hE [0,3,4,10,11,12,13] [72,79,95,99,700,701,710,711,712,713,714,720,721,722,723,724,740] fun K hK=>?_
   simp only [go_sem,seval,hg]
   refine ⟨⟨by omega,by omega⟩,⟨by omega,by omega⟩,fun h=>?_,fun h cap' hcap'=>?_⟩
   ·obtain ⟨e',rfl⟩:∃ e',e=e' + 1:=⟨e - 1,by omega⟩
    rw [row_put]
    refine hK _ (hN13 _ (hB12 _ ?_))
    refine Aw_tx hE [0,3,4,10,11,12,13] [72,79,95,99,700,701,710,711,712,713,714,720,721,722,723,724,740] fun K hK=>?_
    simp only [go_sem,seval]
    repeat refine sd0 ?_
    have hl1:(q++[(r 2).getD ((m:Int) - 1).toNat 0]).length=q.length + 1:=by simp
    have hmc:((m - 1:Nat):Int)=(m:Int) - 1:=by omega
    have hec:e' + 1 + q.length=e' + (q.length + 1):=by omega
    refine hK _ (hN10 (m - 1,e',q++[(r 2).getD ((m:Int) - 1).toNat 0]) _ (by simp only [hl1];omega) (by simp only;omega) ?_)
    simp only [hl1,hmc,hec]
    exact Le_wa
   ·obtain ⟨e',rfl⟩:∃ e',cap'=e' + (q.length + 1):=⟨cap' - (q.length + 1),by omega⟩
    rw [Nat.add_sub_cancel,List.append_assoc,List.singleton_append,row_snoc]
    refine hK _ (hN13 _ (hB12 _ ?_))
    refine Aw_tx hE [0,3,4,10,11,12,13] [72,79,95,99,700,701,710,711,712,713,714,720,721,722,723,724,740] fun K hK=>?_
    simp only [go_sem,seval]
    repeat refine sd0 ?_
    have hl1:(q++[(r 2).getD ((m:Int) - 1).toNat 0]).length=q.length + 1:=by simp
    have hmc:((m - 1:Nat):Int)=(m:Int) - 1:=by omega
    have hec:e' + 1 + q.length=e' + (q.length + 1):=by omega
    refine hK _ (hN10 (m - 1,e',q++[(r 2).getD ((m:Int) - 1).toNat 0]) _ (by simp only [hl1];omega) (by simp only;omega) ?_)
    simp only [hl1,hmc,hec]
    refine (Le_swb _ 95 740 (by decide) (by decide)).trans ?_
    simp only [St.swb,swbσ,swbm,AV.swb,AV.swbAll,swp,jN_swb,row_swb,Nat.reduceEqDiff,if_true,if_false,reduceIte]
    exact Le_wa
  ·simp only [dfn] at hc38
   have hq:q.length=4:=by omega
   refine Aw_exit (hX11 _ _ (hX10 _ _ (hE9 _ (hB8 _ ?_))))
   refine Aw_tx hE [0,3,4,10,11] [72,79,95,99,700,701,710,711,712,713,714,720,721,722,723,724,740] fun K hK=>?_
   simp only [go_sem,seval,hq]
   refine ⟨fun h=>?_,fun h cap' hcap'=>?_⟩
   ·obtain ⟨c1,rfl⟩:∃ c1,c'=c1 + 1:=⟨c' - 1,by omega⟩
    simp only [jN_s,List.set_cons_zero]
    refine hK _ (hN7 _ (hB6 _ ?_))
    refine Aw_tx hE [0,3,4,10,11] [72,79,95,99,700,701,710,711,712,713,714,720,721,722,723,724,740] fun K hK=>?_
    simp only [go_sem,seval]
    repeat refine sd0 ?_
    refine hK _ (hN4 (2,c1,put d' 1 e,put r' 1 q) _ ⟨by omega,put_len hr' hq⟩ (by simp only;omega) ?_)
    refine (Le_swb _ 740 721 (by decide) (by decide)).trans ?_
    simp only [St.swb,swbσ,swbm,AV.swb,AV.swbAll,swp,jN_swb,row_swb,Nat.reduceEqDiff,if_true,if_false,reduceIte]
    exact Le_wc (by simp only [go_sem,seval,put,Nat.add_assoc]) (by simp only [go_sem,seval,put])
   ·obtain ⟨c1,rfl⟩:∃ c1,cap'=c1 + 2:=⟨cap' - 2,by omega⟩
    rw [Nat.add_sub_cancel]
    refine hK _ (hN7 _ (hB6 _ ?_))
    refine Aw_tx hE [0,3,4,10,11] [72,79,95,99,700,701,710,711,712,713,714,720,721,722,723,724,740] fun K hK=>?_
    simp only [go_sem,seval]
    repeat refine sd0 ?_
    refine hK _ (hN4 (2,c1,put d' 1 e,put r' 1 q) _ ⟨by omega,put_len hr' hq⟩ (by simp only;omega) ?_)
    refine (Le_swb _ 740 721 (by decide) (by decide)).trans ?_
    simp only [St.swb,swbσ,swbm,AV.swb,AV.swbAll,swp,jN_swb,row_swb,Nat.reduceEqDiff,if_true,if_false,reduceIte]
    refine (Le_swb _ 99 701 (by decide) (by decide)).trans ?_
    simp only [St.swb,swbσ,swbm,AV.swb,AV.swbAll,swp,jN_swb,row_swb,Nat.reduceEqDiff,if_true,if_false,reduceIte]
    exact Le_wc (by simp only [go_sem,seval,put,Nat.add_assoc]) (by simp only [go_sem,seval,put])
 ·refine Aw_st hE [0,3,4,10,11,76] [72,79,95,99,700,701,710,711,712,713,714,720,721,722,723,724,740] fun K hK=>?_
  simp only [go_sem,seval]
  refine hK _ (Aw_yes rfl (Aw_skip (hB5 _ ?_)))
  refine Aw_sq fun B6 hB6 hR6 hX6=>?_
  refine Aw_bk fun B7 hN7 hE7 hR7 hX7=>?_
  refine Aw_st hE [0,3,4,10,11,12] [72,79,95,99,700,701,710,711,712,713,714,720,721,722,723,724,740] fun K hK=>?_
  simp only [go_sem,seval]
  refine hK _ ?_;clear hK K
  refine Aw_sq fun B8 hB8 hR8 hX8=>?_
  refine Aw_st hE [0,3,4,10,11,12,13] [72,79,95,99,700,701,710,711,712,713,714,720,721,722,723,724,740] fun K hK=>?_
  simp only [go_sem,seval]
  refine hK _ ?_;clear hK K
  refine Aw_bk fun B9 hN9 hE9 hR9 hX9=>?_
  refine Aw_lp (fun j:Nat × Nat × List Int=>⟨111,[(0,.rd),(3,iv 4),(4,.xs 700 0 4 (c + 4) 1),(10,.xs 701 0 2 (c' + 2) 1),(11,iv 1),(12,.xs 740 0 j.2.2.length (j.2.1 + j.2.2.length) 1),(13,iv ((j.1:Int) - 1))],(740,cI j.2.2++jN j.2.1)::(700,vws 4 d 710 4++jN c)::(701,vws 4 d' 720 2++jN c')::(bxs 4 d r 710 4++bxs 4 d' r' 720 2),rn + 1⟩) (fun j=>j.2.2.length + j.1=4) (fun j=>j.1) (4,0,[]) ?_ (by simp) fun j hj B10 hN10 hR10 hX10=>?_
  ·refine (Le_swb _ 79 740 (by decide) (by decide)).trans ?_
   simp only [St.swb,swbσ,swbm,AV.swb,AV.swbAll,swp,jN_swb,row_swb,Nat.reduceEqDiff,if_true,if_false,reduceIte]
   exact Le_wa
  obtain ⟨m,e,q⟩:=j
  simp only at hj
  refine Aw_sq fun B11 hB11 hR11 hX11=>?_
  refine Aw_st hE [0,3,4,10,11,12,13,83] [72,79,95,99,700,701,710,711,712,713,714,720,721,722,723,724,740] fun K hK=>?_
  simp only [go_sem,seval]
  refine hK _ (Aw_cond rfl (fun hc38=>?_) (fun hc38=>?_))
  ·simp only [dte] at hc38
   have hg:=rowI_drop (r 1) (d 1) ((m:Int) - 1).toNat (by omega)
   refine Aw_skip (hB11 _ ?_)
   refine Aw_sq fun B12 hB12 hR12 hX12=>?_
   refine Aw_bk fun B13 hN13 hE13 hR13 hX13=>?_
   refine Aw_tx hE [0,3,4,10,11,12,13] [72,79,95,99,700,701,710,711,712,713,714,720,721,722,723,724,740] fun K hK=>?_
   simp only [go_sem,seval,hg]
   refine ⟨⟨by omega,by omega⟩,⟨by omega,by omega⟩,fun h=>?_,fun h cap' hcap'=>?_⟩
   ·obtain ⟨e',rfl⟩:∃ e',e=e' + 1:=⟨e - 1,by omega⟩
    rw [row_put]
    refine hK _ (hN13 _ (hB12 _ ?_))
    refine Aw_tx hE [0,3,4,10,11,12,13] [72,79,95,99,700,701,710,711,712,713,714,720,721,722,723,724,740] fun K hK=>?_
    simp only [go_sem,seval]
    repeat refine sd0 ?_
    have hl1:(q++[(r 1).getD ((m:Int) - 1).toNat 0]).length=q.length + 1:=by simp
    have hmc:((m - 1:Nat):Int)=(m:Int) - 1:=by omega
    have hec:e' + 1 + q.length=e' + (q.length + 1):=by omega
    refine hK _ (hN10 (m - 1,e',q++[(r 1).getD ((m:Int) - 1).toNat 0]) _ (by simp only [hl1];omega) (by simp only;omega) ?_)
    simp only [hl1,hmc,hec]
    exact Le_wa
   ·obtain ⟨e',rfl⟩:∃ e',cap'=e' + (q.length + 1):=⟨cap' - (q.length + 1),by omega⟩
    rw [Nat.add_sub_cancel,List.append_assoc,List.singleton_append,row_snoc]
    refine hK _ (hN13 _ (hB12 _ ?_))
    refine Aw_tx hE [0,3,4,10,11,12,13] [72,79,95,99,700,701,710,711,712,713,714,720,721,722,723,724,740] fun K hK=>?_
    simp only [go_sem,seval]
    repeat refine sd0 ?_
    have hl1:(q++[(r 1).getD ((m:Int) - 1).toNat 0]).length=q.length + 1:=by simp
    have hmc:((m - 1:Nat):Int)=(m:Int) - 1:=by omega
    have hec:e' + 1 + q.length=e' + (q.length + 1):=by omega
    refine hK _ (hN10 (m - 1,e',q++[(r 1).getD ((m:Int) - 1).toNat 0]) _ (by simp only [hl1];omega) (by simp only;omega) ?_)
    simp only [hl1,hmc,hec]
    refine (Le_swb _ 95 740 (by decide) (by decide)).trans ?_
    simp only [St.swb,swbσ,swbm,AV.swb,AV.swbAll,swp,jN_swb,row_swb,Nat.reduceEqDiff,if_true,if_false,reduceIte]
    exact Le_wa
  ·simp only [dfn] at hc38
   have hq:q.length=4:=by omega
   refine Aw_exit (hX11 _ _ (hX10 _ _ (hE9 _ (hB8 _ ?_))))
   refine Aw_tx hE [0,3,4,10,11] [72,79,95,99,700,701,710,711,712,713,714,720,721,722,723,724,740] fun K hK=>?_
   simp only [go_sem,seval,hq]
   refine ⟨fun h=>?_,fun h cap' hcap'=>?_⟩
   ·obtain ⟨c1,rfl⟩:∃ c1,c'=c1 + 1:=⟨c' - 1,by omega⟩
    simp only [jN_s,List.set_cons_zero]
    refine hK _ (hN7 _ (hB6 _ ?_))
    refine Aw_tx hE [0,3,4,10,11] [72,79,95,99,700,701,710,711,712,713,714,720,721,722,723,724,740] fun K hK=>?_
    simp only [go_sem,seval]
    repeat refine sd0 ?_
    refine hK _ (hN4 (3,c1,put d' 2 e,put r' 2 q) _ ⟨by omega,put_len hr' hq⟩ (by simp only;omega) ?_)
    refine (Le_swb _ 740 722 (by decide) (by decide)).trans ?_
    simp only [St.swb,swbσ,swbm,AV.swb,AV.swbAll,swp,jN_swb,row_swb,Nat.reduceEqDiff,if_true,if_false,reduceIte]
    exact Le_wc (by simp only [go_sem,seval,put,Nat.add_assoc]) (by simp only [go_sem,seval,put])
   ·obtain ⟨c1,rfl⟩:∃ c1,cap'=c1 + 3:=⟨cap' - 3,by omega⟩
    rw [Nat.add_sub_cancel]
    refine hK _ (hN7 _ (hB6 _ ?_))
    refine Aw_tx hE [0,3,4,10,11] [72,79,95,99,700,701,710,711,712,713,714,720,721,722,723,724,740] fun K hK=>?_
    simp only [go_sem,seval]
    repeat refine sd0 ?_
    refine hK _ (hN4 (3,c1,put d' 2 e,put r' 2 q) _ ⟨by omega,put_len hr' hq⟩ (by simp only;omega) ?_)
    refine (Le_swb _ 740 722 (by decide) (by decide)).trans ?_
    simp only [St.swb,swbσ,swbm,AV.swb,AV.swbAll,swp,jN_swb,row_swb,Nat.reduceEqDiff,if_true,if_false,reduceIte]
    refine (Le_swb _ 99 701 (by decide) (by decide)).trans ?_
    simp only [St.swb,swbσ,swbm,AV.swb,AV.swbAll,swp,jN_swb,row_swb,Nat.reduceEqDiff,if_true,if_false,reduceIte]
    exact Le_wc (by simp only [go_sem,seval,put,Nat.add_assoc]) (by simp only [go_sem,seval,put])
 ·refine Aw_st hE [0,3,4,10,11,76] [72,79,95,99,700,701,710,711,712,713,714,720,721,722,723,724,740] fun K hK=>?_
  simp only [go_sem,seval]
  refine hK _ (Aw_yes rfl (Aw_skip (hB5 _ ?_)))
  refine Aw_sq fun B6 hB6 hR6 hX6=>?_
  refine Aw_bk fun B7 hN7 hE7 hR7 hX7=>?_
  refine Aw_st hE [0,3,4,10,11,12] [72,79,95,99,700,701,710,711,712,713,714,720,721,722,723,724,740] fun K hK=>?_
  simp only [go_sem,seval]
  refine hK _ ?_;clear hK K
  refine Aw_sq fun B8 hB8 hR8 hX8=>?_
  refine Aw_st hE [0,3,4,10,11,12,13] [72,79,95,99,700,701,710,711,712,713,714,720,721,722,723,724,740] fun K hK=>?_
  simp only [go_sem,seval]
  refine hK _ ?_;clear hK K
  refine Aw_bk fun B9 hN9 hE9 hR9 hX9=>?_
  refine Aw_lp (fun j:Nat × Nat × List Int=>⟨111,[(0,.rd),(3,iv 4),(4,.xs 700 0 4 (c + 4) 1),(10,.xs 701 0 3 (c' + 3) 1),(11,iv 0),(12,.xs 740 0 j.2.2.length (j.2.1 + j.2.2.length) 1),(13,iv ((j.1:Int) - 1))],(740,cI j.2.2++jN j.2.1)::(700,vws 4 d 710 4++jN c)::(701,vws 4 d' 720 3++jN c')::(bxs 4 d r 710 4++bxs 4 d' r' 720 3),rn + 1⟩) (fun j=>j.2.2.length + j.1=4) (fun j=>j.1) (4,0,[]) ?_ (by simp) fun j hj B10 hN10 hR10 hX10=>?_
  ·refine (Le_swb _ 79 740 (by decide) (by decide)).trans ?_
   simp only [St.swb,swbσ,swbm,AV.swb,AV.swbAll,swp,jN_swb,row_swb,Nat.reduceEqDiff,if_true,if_false,reduceIte]
   exact Le_wa
  obtain ⟨m,e,q⟩:=j
  simp only at hj
  refine Aw_sq fun B11 hB11 hR11 hX11=>?_
  refine Aw_st hE [0,3,4,10,11,12,13,83] [72,79,95,99,700,701,710,711,712,713,714,720,721,722,723,724,740] fun K hK=>?_
  simp only [go_sem,seval]
  refine hK _ (Aw_cond rfl (fun hc38=>?_) (fun hc38=>?_))
  ·simp only [dte] at hc38
   have hg:=rowI_drop (r 0) (d 0) ((m:Int) - 1).toNat (by omega)
   refine Aw_skip (hB11 _ ?_)
   refine Aw_sq fun B12 hB12 hR12 hX12=>?_
   refine Aw_bk fun B13 hN13 hE13 hR13 hX13=>?_
   refine Aw_tx hE [0,3,4,10,11,12,13] [72,79,95,99,700,701,710,711,712,713,714,720,721,722,723,724,740] fun K hK=>?_
   simp only [go_sem,seval,hg]
   refine ⟨⟨by omega,by omega⟩,⟨by omega,by omega⟩,fun h=>?_,fun h cap' hcap'=>?_⟩
   ·obtain ⟨e',rfl⟩:∃ e',e=e' + 1:=⟨e - 1,by omega⟩
    rw [row_put]
    refine hK _ (hN13 _ (hB12 _ ?_))
    refine Aw_tx hE [0,3,4,10,11,12,13] [72,79,95,99,700,701,710,711,712,713,714,720,721,722,723,724,740] fun K hK=>?_
    simp only [go_sem,seval]
    repeat refine sd0 ?_
    have hl1:(q++[(r 0).getD ((m:Int) - 1).toNat 0]).length=q.length + 1:=by simp
    have hmc:((m - 1:Nat):Int)=(m:Int) - 1:=by omega
    have hec:e' + 1 + q.length=e' + (q.length + 1):=by omega
    refine hK _ (hN10 (m - 1,e',q++[(r 0).getD ((m:Int) - 1).toNat 0]) _ (by simp only [hl1];omega) (by simp only;omega) ?_)
    simp only [hl1,hmc,hec]
    exact Le_wa
   ·obtain ⟨e',rfl⟩:∃ e',cap'=e' + (q.length + 1):=⟨cap' - (q.length + 1),by omega⟩
    rw [Nat.add_sub_cancel,List.append_assoc,List.singleton_append,row_snoc]
    refine hK _ (hN13 _ (hB12 _ ?_))
    refine Aw_tx hE [0,3,4,10,11,12,13] [72,79,95,99,700,701,710,711,712,713,714,720,721,722,723,724,740] fun K hK=>?_
    simp only [go_sem,seval]
    repeat refine sd0 ?_
    have hl1:(q++[(r 0).getD ((m:Int) - 1).toNat 0]).length=q.length + 1:=by simp
    have hmc:((m - 1:Nat):Int)=(m:Int) - 1:=by omega
    have hec:e' + 1 + q.length=e' + (q.length + 1):=by omega
    refine hK _ (hN10 (m - 1,e',q++[(r 0).getD ((m:Int) - 1).toNat 0]) _ (by simp only [hl1];omega) (by simp only;omega) ?_)
    simp only [hl1,hmc,hec]
    refine (Le_swb _ 95 740 (by decide) (by decide)).trans ?_
    simp only [St.swb,swbσ,swbm,AV.swb,AV.swbAll,swp,jN_swb,row_swb,Nat.reduceEqDiff,if_true,if_false,reduceIte]
    exact Le_wa
  ·simp only [dfn] at hc38
   have hq:q.length=4:=by omega
   refine Aw_exit (hX11 _ _ (hX10 _ _ (hE9 _ (hB8 _ ?_))))
   refine Aw_tx hE [0,3,4,10,11] [72,79,95,99,700,701,710,711,712,713,714,720,721,722,723,724,740] fun K hK=>?_
   simp only [go_sem,seval,hq]
   refine ⟨fun h=>?_,fun h cap' hcap'=>?_⟩
   ·obtain ⟨c1,rfl⟩:∃ c1,c'=c1 + 1:=⟨c' - 1,by omega⟩
    simp only [jN_s,List.set_cons_zero]
    refine hK _ (hN7 _ (hB6 _ ?_))
    refine Aw_tx hE [0,3,4,10,11] [72,79,95,99,700,701,710,711,712,713,714,720,721,722,723,724,740] fun K hK=>?_
    simp only [go_sem,seval]
    repeat refine sd0 ?_
    refine hK _ (hN4 (4,c1,put d' 3 e,put r' 3 q) _ ⟨by omega,put_len hr' hq⟩ (by simp only;omega) ?_)
    refine (Le_swb _ 740 723 (by decide) (by decide)).trans ?_
    simp only [St.swb,swbσ,swbm,AV.swb,AV.swbAll,swp,jN_swb,row_swb,Nat.reduceEqDiff,if_true,if_false,reduceIte]
    exact Le_wc (by simp only [go_sem,seval,put,Nat.add_assoc]) (by simp only [go_sem,seval,put])
   ·obtain ⟨c1,rfl⟩:∃ c1,cap'=c1 + 4:=⟨cap' - 4,by omega⟩
    rw [Nat.add_sub_cancel]
    refine hK _ (hN7 _ (hB6 _ ?_))
    refine Aw_tx hE [0,3,4,10,11] [72,79,95,99,700,701,710,711,712,713,714,720,721,722,723,724,740] fun K hK=>?_
    simp only [go_sem,seval]
    repeat refine sd0 ?_
    refine hK _ (hN4 (4,c1,put d' 3 e,put r' 3 q) _ ⟨by omega,put_len hr' hq⟩ (by simp only;omega) ?_)
    refine (Le_swb _ 740 723 (by decide) (by decide)).trans ?_
    simp only [St.swb,swbσ,swbm,AV.swb,AV.swbAll,swp,jN_swb,row_swb,Nat.reduceEqDiff,if_true,if_false,reduceIte]
    refine (Le_swb _ 99 701 (by decide) (by decide)).trans ?_
    simp only [St.swb,swbσ,swbm,AV.swb,AV.swbAll,swp,jN_swb,row_swb,Nat.reduceEqDiff,if_true,if_false,reduceIte]
    exact Le_wc (by simp only [go_sem,seval,put,Nat.add_assoc]) (by simp only [go_sem,seval,put])
set_option maxHeartbeats 16000000 in
theorem relsR5 {E:En} (hE:TbOk E tbRels) {k:Nat} (hk:k + 40≤1099511627776) {Q:Exit→St→Prop} (hQ:∀ (L:List (List Int)) (rn:Nat),(2≤L.length∧L.length≤5)→(∀ w ∈ L,w.length=L.length)→rn≤k + 40→Aw E .ret ⟨111,[(2,wsl L)],[],rn⟩ Q) {r:Nat→List Int} (hr:∀ q,(r q).length=5) {d:Nat→Nat} {c rn:Nat} (hrn:rn≤k + 29):Aw E (seqB (seqB (seqB (seqB (seqB (seqB (Tryd.f30.body.getD .skip))))))) ⟨111,[(0,.rd),(3,iv 5),(4,.xs 700 0 5 (c + 5) 1)],(700,vws 5 d 710 5++jN c)::bxs 5 d r 710 5,rn⟩ Q:=by
 have hr0:=hr 0
 have hr1:=hr 1
 have hr2:=hr 2
 have hr3:=hr 3
 have hr4:=hr 4
 refine Aw_sqJ (fun i:(Nat→Nat) × (Nat→List Int) × Nat × Nat=>⟨111,[(0,.rd),(4,.xs 700 0 5 (i.2.2.1 + 5) 1)],(700,vws 5 i.1 710 5++jN i.2.2.1)::bxs 5 i.1 i.2.1 710 5,i.2.2.2⟩) (fun i=>(∀ x,(i.2.1 x).length=5)∧i.2.2.2≤k + 30) (fun i hi=>relsT5 hE hk hQ hi.1 hi.2) fun B1 hB1 hR1 hX1=>?_
 refine Aw_st hE [0,3,4,71] [72,79,95,99,700,701,710,711,712,713,714,720,721,722,723,724,740] fun K hK=>?_
 simp only [go_sem,seval]
 refine ⟨by omega,fun x hx1 hx2=>?_⟩
 refine hK _ (Aw_cond rfl (fun hc=>?_) (fun hc=>?_))
 rotate_left
 ·exact Aw_skip (hB1 (d,r,c,rn + 1) _ ⟨hr,by simp only;omega⟩ (LeE_of (Le_wa)))
 refine Aw_st hE [0,3,4,10] [72,79,95,99,700,701,710,711,712,713,714,720,721,722,723,724,740] fun K hK=>?_
 simp only [go_sem,seval]
 refine hK _ ?_;clear hK K
 refine Aw_sq fun B2 hB2 hR2 hX2=>?_
 refine Aw_st hE [0,3,4,10,11] [72,79,95,99,700,701,710,711,712,713,714,720,721,722,723,724,740] fun K hK=>?_
 simp only [go_sem,seval]
 refine hK _ ?_;clear hK K
 refine Aw_bk fun B3 hN3 hE3 hR3 hX3=>?_
 refine Aw_lp (fun i:Nat × Nat × (Nat→Nat) × (Nat→List Int)=>⟨111,[(0,.rd),(3,iv 5),(4,.xs 700 0 5 (c + 5) 1),(10,.xs 701 0 i.1 (i.2.1 + i.1) 1),(11,iv ((5:Int) - 1 - (i.1:Int)))],(700,vws 5 d 710 5++jN c)::(701,vws 5 i.2.2.1 720 i.1++jN i.2.1)::(bxs 5 d r 710 5++bxs 5 i.2.2.1 i.2.2.2 720 i.1),rn + 1⟩) (fun i=>i.1≤5∧∀ x,(i.2.2.2 x).length=5) (fun i=>5 - i.1) (0,0,d,r) ?_ ⟨by omega,hr⟩ fun i hi B4 hN4 hR4 hX4=>?_
 ·refine (Le_swb _ 72 701 (by decide) (by decide)).trans ?_
  simp only [St.swb,swbσ,swbm,AV.swb,AV.swbAll,swp,jN_swb,row_swb,Nat.reduceEqDiff,if_true,if_false,reduceIte]
  exact Le_wa
 obtain ⟨i,c',d',r'⟩:=i
 obtain ⟨hi,hr'⟩:=hi
 simp only at hi hr'
 refine Aw_sq fun B5 hB5 hR5 hX5=>?_
 rcases (show i=5∨i=0∨i=1∨i=2∨i=3∨i=4 by omega) with rfl | rfl | rfl | rfl | rfl | rfl
 ·refine Aw_st hE [0,3,4,10,11,76] [72,79,95,99,700,701,710,711,712,713,714,720,721,722,723,724,740] fun K hK=>?_
  simp only [go_sem,seval]
  refine hK _ (Aw_no rfl (Aw_exit (hX5 _ _ (hX4 _ _ (hE3 _ (hB2 _ ?_))))))
  refine Aw_tx hE [0,4] [72,79,95,99,700,701,710,711,712,713,714,720,721,722,723,724,740] fun K hK=>?_
  simp only [go_sem,seval]
  refine hK _ (hB1 (d',r',c',rn + 1) _ ⟨hr',by simp only;omega⟩ (LeE_of ?_))
  refine (Le_swb _ 701 700 (by decide) (by decide)).trans ((Le_swb _ 720 710 (by decide) (by decide)).trans ((Le_swb _ 721 711 (by decide) (by decide)).trans ((Le_swb _ 722 712 (by decide) (by decide)).trans ((Le_swb _ 723 713 (by decide) (by decide)).trans ((Le_swb _ 724 714 (by decide) (by decide)).trans ?_)))))
  simp only [St.swb,swbσ,swbm,AV.swb,AV.swbAll,swp,jN_swb,row_swb,Nat.reduceEqDiff,if_true,if_false,reduceIte]
  exact Le_wa
 ·refine Aw_st hE [0,3,4,10,11,76] [72,79,95,99,700,701,710,711,712,713,714,720,721,722,723,724,740] fun K hK=>?_
  simp only [go_sem,seval]
  refine hK _ (Aw_yes rfl (Aw_skip (hB5 _ ?_)))
  refine Aw_sq fun B6 hB6 hR6 hX6=>?_
  refine Aw_bk fun B7 hN7 hE7 hR7 hX7=>?_
  refine Aw_st hE [0,3,4,10,11,12] [72,79,95,99,700,701,710,711,712,713,714,720,721,722,723,724,740] fun K hK=>?_
  simp only [go_sem,seval]
  refine hK _ ?_;clear hK K
  refine Aw_sq fun B8 hB8 hR8 hX8=>?_
  refine Aw_st hE [0,3,4,10,11,12,13] [72,79,95,99,700,701,710,711,712,713,714,720,721,722,723,724,740] fun K hK=>?_
  simp only [go_sem,seval]
  refine hK _ ?_;clear hK K
  refine Aw_bk fun B9 hN9 hE9 hR9 hX9=>?_
  refine Aw_lp (fun j:Nat × Nat × List Int=>⟨111,[(0,.rd),(3,iv 5),(4,.xs 700 0 5 (c + 5) 1),(10,.xs 701 0 0 (c' + 0) 1),(11,iv 4),(12,.xs 740 0 j.2.2.length (j.2.1 + j.2.2.length) 1),(13,iv ((j.1:Int) - 1))],(740,cI j.2.2++jN j.2.1)::(700,vws 5 d 710 5++jN c)::(701,vws 5 d' 720 0++jN c')::(bxs 5 d r 710 5++bxs 5 d' r' 720 0),rn + 1⟩) (fun j=>j.2.2.length + j.1=5) (fun j=>j.1) (5,0,[]) ?_ (by simp) fun j hj B10 hN10 hR10 hX10=>?_
  ·refine (Le_swb _ 79 740 (by decide) (by decide)).trans ?_
   simp only [St.swb,swbσ,swbm,AV.swb,AV.swbAll,swp,jN_swb,row_swb,Nat.reduceEqDiff,if_true,if_false,reduceIte]
   exact Le_wa
  obtain ⟨m,e,q⟩:=j
  simp only at hj
  refine Aw_sq fun B11 hB11 hR11 hX11=>?_
  refine Aw_st hE [0,3,4,10,11,12,13,83] [72,79,95,99,700,701,710,711,712,713,714,720,721,722,723,724,740] fun K hK=>?_
  simp only [go_sem,seval]
  refine hK _ (Aw_cond rfl (fun hc38=>?_) (fun hc38=>?_))
  ·simp only [dte] at hc38
   have hg:=rowI_drop (r 4) (d 4) ((m:Int) - 1).toNat (by omega)
   refine Aw_skip (hB11 _ ?_)
   refine Aw_sq fun B12 hB12 hR12 hX12=>?_
   refine Aw_bk fun B13 hN13 hE13 hR13 hX13=>?_
   refine Aw_tx hE [0,3,4,10,11,12,13] [72,79,95,99,700,701,710,711,712,713,714,720,721,722,723,724,740] fun K hK=>?_
   simp only [go_sem,seval,hg]
   refine ⟨⟨by omega,by omega⟩,⟨by omega,by omega⟩,fun h=>?_,fun h cap' hcap'=>?_⟩
   ·obtain ⟨e',rfl⟩:∃ e',e=e' + 1:=⟨e - 1,by omega⟩
    rw [row_put]
    refine hK _ (hN13 _ (hB12 _ ?_))
    refine Aw_tx hE [0,3,4,10,11,12,13] [72,79,95,99,700,701,710,711,712,713,714,720,721,722,723,724,740] fun K hK=>?_
    simp only [go_sem,seval]
    repeat refine sd0 ?_
    have hl1:(q++[(r 4).getD ((m:Int) - 1).toNat 0]).length=q.length + 1:=by simp
    have hmc:((m - 1:Nat):Int)=(m:Int) - 1:=by omega
    have hec:e' + 1 + q.length=e' + (q.length + 1):=by omega
    refine hK _ (hN10 (m - 1,e',q++[(r 4).getD ((m:Int) - 1).toNat 0]) _ (by simp only [hl1];omega) (by simp only;omega) ?_)
    simp only [hl1,hmc,hec]
    exact Le_wa
   ·obtain ⟨e',rfl⟩:∃ e',cap'=e' + (q.length + 1):=⟨cap' - (q.length + 1),by omega⟩
    rw [Nat.add_sub_cancel,List.append_assoc,List.singleton_append,row_snoc]
    refine hK _ (hN13 _ (hB12 _ ?_))
    refine Aw_tx hE [0,3,4,10,11,12,13] [72,79,95,99,700,701,710,711,712,713,714,720,721,722,723,724,740] fun K hK=>?_
    simp only [go_sem,seval]
    repeat refine sd0 ?_
    have hl1:(q++[(r 4).getD ((m:Int) - 1).toNat 0]).length=q.length + 1:=by simp
    have hmc:((m - 1:Nat):Int)=(m:Int) - 1:=by omega
    have hec:e' + 1 + q.length=e' + (q.length + 1):=by omega
    refine hK _ (hN10 (m - 1,e',q++[(r 4).getD ((m:Int) - 1).toNat 0]) _ (by simp only [hl1];omega) (by simp only;omega) ?_)
    simp only [hl1,hmc,hec]
    refine (Le_swb _ 95 740 (by decide) (by decide)).trans ?_
    simp only [St.swb,swbσ,swbm,AV.swb,AV.swbAll,swp,jN_swb,row_swb,Nat.reduceEqDiff,if_true,if_false,reduceIte]
    exact Le_wa
  ·simp only [dfn] at hc38
   have hq:q.length=5:=by omega
   refine Aw_exit (hX11 _ _ (hX10 _ _ (hE9 _ (hB8 _ ?_))))
   refine Aw_tx hE [0,3,4,10,11] [72,79,95,99,700,701,710,711,712,713,714,720,721,722,723,724,740] fun K hK=>?_
   simp only [go_sem,seval,hq]
   refine ⟨fun h=>?_,fun h cap' hcap'=>?_⟩
   ·obtain ⟨c1,rfl⟩:∃ c1,c'=c1 + 1:=⟨c' - 1,by omega⟩
    simp only [jN_s,List.set_cons_zero]
    refine hK _ (hN7 _ (hB6 _ ?_))
    refine Aw_tx hE [0,3,4,10,11] [72,79,95,99,700,701,710,711,712,713,714,720,721,722,723,724,740] fun K hK=>?_
    simp only [go_sem,seval]
    repeat refine sd0 ?_
    refine hK _ (hN4 (1,c1,put d' 0 e,put r' 0 q) _ ⟨by omega,put_len hr' hq⟩ (by simp only;omega) ?_)
    refine (Le_swb _ 740 720 (by decide) (by decide)).trans ?_
    simp only [St.swb,swbσ,swbm,AV.swb,AV.swbAll,swp,jN_swb,row_swb,Nat.reduceEqDiff,if_true,if_false,reduceIte]
    exact Le_wc (by simp only [go_sem,seval,put,Nat.add_assoc]) (by simp only [go_sem,seval,put])
   ·obtain ⟨c1,rfl⟩:∃ c1,cap'=c1 + 1:=⟨cap' - 1,by omega⟩
    rw [Nat.add_sub_cancel]
    refine hK _ (hN7 _ (hB6 _ ?_))
    refine Aw_tx hE [0,3,4,10,11] [72,79,95,99,700,701,710,711,712,713,714,720,721,722,723,724,740] fun K hK=>?_
    simp only [go_sem,seval]
    repeat refine sd0 ?_
    refine hK _ (hN4 (1,c1,put d' 0 e,put r' 0 q) _ ⟨by omega,put_len hr' hq⟩ (by simp only;omega) ?_)
    refine (Le_swb _ 740 720 (by decide) (by decide)).trans ?_
    simp only [St.swb,swbσ,swbm,AV.swb,AV.swbAll,swp,jN_swb,row_swb,Nat.reduceEqDiff,if_true,if_false,reduceIte]
    refine (Le_swb _ 99 701 (by decide) (by decide)).trans ?_
    simp only [St.swb,swbσ,swbm,AV.swb,AV.swbAll,swp,jN_swb,row_swb,Nat.reduceEqDiff,if_true,if_false,reduceIte]
    exact Le_wc (by simp only [go_sem,seval,put,Nat.add_assoc]) (by simp only [go_sem,seval,put])
 ·refine Aw_st hE [0,3,4,10,11,76] [72,79,95,99,700,701,710,711,712,713,714,720,721,722,723,724,740] fun K hK=>?_
  simp only [go_sem,seval]
  refine hK _ (Aw_yes rfl (Aw_skip (hB5 _ ?_)))
  refine Aw_sq fun B6 hB6 hR6 hX6=>?_
  refine Aw_bk fun B7 hN7 hE7 hR7 hX7=>?_
  refine Aw_st hE [0,3,4,10,11,12] [72,79,95,99,700,701,710,711,712,713,714,720,721,722,723,724,740] fun K hK=>?_
  simp only [go_sem,seval]
  refine hK _ ?_;clear hK K
  refine Aw_sq fun B8 hB8 hR8 hX8=>?_
  refine Aw_st hE [0,3,4,10,11,12,13] [72,79,95,99,700,701,710,711,712,713,714,720,721,722,723,724,740] fun K hK=>?_
  simp only [go_sem,seval]
  refine hK _ ?_;clear hK K
  refine Aw_bk fun B9 hN9 hE9 hR9 hX9=>?_
  refine Aw_lp (fun j:Nat × Nat × List Int=>⟨111,[(0,.rd),(3,iv 5),(4,.xs 700 0 5 (c + 5) 1),(10,.xs 701 0 1 (c' + 1) 1),(11,iv 3),(12,.xs 740 0 j.2.2.length (j.2.1 + j.2.2.length) 1),(13,iv ((j.1:Int) - 1))],(740,cI j.2.2++jN j.2.1)::(700,vws 5 d 710 5++jN c)::(701,vws 5 d' 720 1++jN c')::(bxs 5 d r 710 5++bxs 5 d' r' 720 1),rn + 1⟩) (fun j=>j.2.2.length + j.1=5) (fun j=>j.1) (5,0,[]) ?_ (by simp) fun j hj B10 hN10 hR10 hX10=>?_
  ·refine (Le_swb _ 79 740 (by decide) (by decide)).trans ?_
   simp only [St.swb,swbσ,swbm,AV.swb,AV.swbAll,swp,jN_swb,row_swb,Nat.reduceEqDiff,if_true,if_false,reduceIte]
   exact Le_wa
  obtain ⟨m,e,q⟩:=j
  simp only at hj
  refine Aw_sq fun B11 hB11 hR11 hX11=>?_
  refine Aw_st hE [0,3,4,10,11,12,13,83] [72,79,95,99,700,701,710,711,712,713,714,720,721,722,723,724,740] fun K hK=>?_
  simp only [go_sem,seval]
  refine hK _ (Aw_cond rfl (fun hc38=>?_) (fun hc38=>?_))
  ·simp only [dte] at hc38
   have hg:=rowI_drop (r 3) (d 3) ((m:Int) - 1).toNat (by omega)
   refine Aw_skip (hB11 _ ?_)
   refine Aw_sq fun B12 hB12 hR12 hX12=>?_
   refine Aw_bk fun B13 hN13 hE13 hR13 hX13=>?_
   refine Aw_tx hE [0,3,4,10,11,12,13] [72,79,95,99,700,701,710,711,712,713,714,720,721,722,723,724,740] fun K hK=>?_
   simp only [go_sem,seval,hg]
   refine ⟨⟨by omega,by omega⟩,⟨by omega,by omega⟩,fun h=>?_,fun h cap' hcap'=>?_⟩
   ·obtain ⟨e',rfl⟩:∃ e',e=e' + 1:=⟨e - 1,by omega⟩
    rw [row_put]
    refine hK _ (hN13 _ (hB12 _ ?_))
    refine Aw_tx hE [0,3,4,10,11,12,13] [72,79,95,99,700,701,710,711,712,713,714,720,721,722,723,724,740] fun K hK=>?_
    simp only [go_sem,seval]
    repeat refine sd0 ?_
    have hl1:(q++[(r 3).getD ((m:Int) - 1).toNat 0]).length=q.length + 1:=by simp
    have hmc:((m - 1:Nat):Int)=(m:Int) - 1:=by omega
    have hec:e' + 1 + q.length=e' + (q.length + 1):=by omega
    refine hK _ (hN10 (m - 1,e',q++[(r 3).getD ((m:Int) - 1).toNat 0]) _ (by simp only [hl1];omega) (by simp only;omega) ?_)
    simp only [hl1,hmc,hec]
    exact Le_wa
   ·obtain ⟨e',rfl⟩:∃ e',cap'=e' + (q.length + 1):=⟨cap' - (q.length + 1),by omega⟩
    rw [Nat.add_sub_cancel,List.append_assoc,List.singleton_append,row_snoc]
    refine hK _ (hN13 _ (hB12 _ ?_))
    refine Aw_tx hE [0,3,4,10,11,12,13] [72,79,95,99,700,701,710,711,712,713,714,720,721,722,723,724,740] fun K hK=>?_
    simp only [go_sem,seval]
    repeat refine sd0 ?_
    have hl1:(q++[(r 3).getD ((m:Int) - 1).toNat 0]).length=q.length + 1:=by simp
    have hmc:((m - 1:Nat):Int)=(m:Int) - 1:=by omega
    have hec:e' + 1 + q.length=e' + (q.length + 1):=by omega
    refine hK _ (hN10 (m - 1,e',q++[(r 3).getD ((m:Int) - 1).toNat 0]) _ (by simp only [hl1];omega) (by simp only;omega) ?_)
    simp only [hl1,hmc,hec]
    refine (Le_swb _ 95 740 (by decide) (by decide)).trans ?_
    simp only [St.swb,swbσ,swbm,AV.swb,AV.swbAll,swp,jN_swb,row_swb,Nat.reduceEqDiff,if_true,if_false,reduceIte]
    exact Le_wa
  ·simp only [dfn] at hc38
   have hq:q.length=5:=by omega
   refine Aw_exit (hX11 _ _ (hX10 _ _ (hE9 _ (hB8 _ ?_))))
   refine Aw_tx hE [0,3,4,10,11] [72,79,95,99,700,701,710,711,712,713,714,720,721,722,723,724,740] fun K hK=>?_
   simp only [go_sem,seval,hq]
   refine ⟨fun h=>?_,fun h cap' hcap'=>?_⟩
   ·obtain ⟨c1,rfl⟩:∃ c1,c'=c1 + 1:=⟨c' - 1,by omega⟩
    simp only [jN_s,List.set_cons_zero]
    refine hK _ (hN7 _ (hB6 _ ?_))
    refine Aw_tx hE [0,3,4,10,11] [72,79,95,99,700,701,710,711,712,713,714,720,721,722,723,724,740] fun K hK=>?_
    simp only [go_sem,seval]
    repeat refine sd0 ?_
    refine hK _ (hN4 (2,c1,put d' 1 e,put r' 1 q) _ ⟨by omega,put_len hr' hq⟩ (by simp only;omega) ?_)
    refine (Le_swb _ 740 721 (by decide) (by decide)).trans ?_
    simp only [St.swb,swbσ,swbm,AV.swb,AV.swbAll,swp,jN_swb,row_swb,Nat.reduceEqDiff,if_true,if_false,reduceIte]
    exact Le_wc (by simp only [go_sem,seval,put,Nat.add_assoc]) (by simp only [go_sem,seval,put])
   ·obtain ⟨c1,rfl⟩:∃ c1,cap'=c1 + 2:=⟨cap' - 2,by omega⟩
    rw [Nat.add_sub_cancel]
    refine hK _ (hN7 _ (hB6 _ ?_))
    refine Aw_tx hE [0,3,4,10,11] [72,79,95,99,700,701,710,711,712,713,714,720,721,722,723,724,740] fun K hK=>?_
    simp only [go_sem,seval]
    repeat refine sd0 ?_
    refine hK _ (hN4 (2,c1,put d' 1 e,put r' 1 q) _ ⟨by omega,put_len hr' hq⟩ (by simp only;omega) ?_)
    refine (Le_swb _ 740 721 (by decide) (by decide)).trans ?_
    simp only [St.swb,swbσ,swbm,AV.swb,AV.swbAll,swp,jN_swb,row_swb,Nat.reduceEqDiff,if_true,if_false,reduceIte]
    refine (Le_swb _ 99 701 (by decide) (by decide)).trans ?_
    simp only [St.swb,swbσ,swbm,AV.swb,AV.swbAll,swp,jN_swb,row_swb,Nat.reduceEqDiff,if_true,if_false,reduceIte]
    exact Le_wc (by simp only [go_sem,seval,put,Nat.add_assoc]) (by simp only [go_sem,seval,put])
 ·refine Aw_st hE [0,3,4,10,11,76] [72,79,95,99,700,701,710,711,712,713,714,720,721,722,723,724,740] fun K hK=>?_
  simp only [go_sem,seval]
  refine hK _ (Aw_yes rfl (Aw_skip (hB5 _ ?_)))
  refine Aw_sq fun B6 hB6 hR6 hX6=>?_
  refine Aw_bk fun B7 hN7 hE7 hR7 hX7=>?_
  refine Aw_st hE [0,3,4,10,11,12] [72,79,95,99,700,701,710,711,712,713,714,720,721,722,723,724,740] fun K hK=>?_
  simp only [go_sem,seval]
  refine hK _ ?_;clear hK K
  refine Aw_sq fun B8 hB8 hR8 hX8=>?_
  refine Aw_st hE [0,3,4,10,11,12,13] [72,79,95,99,700,701,710,711,712,713,714,720,721,722,723,724,740] fun K hK=>?_
  simp only [go_sem,seval]
  refine hK _ ?_;clear hK K
  refine Aw_bk fun B9 hN9 hE9 hR9 hX9=>?_
  refine Aw_lp (fun j:Nat × Nat × List Int=>⟨111,[(0,.rd),(3,iv 5),(4,.xs 700 0 5 (c + 5) 1),(10,.xs 701 0 2 (c' + 2) 1),(11,iv 2),(12,.xs 740 0 j.2.2.length (j.2.1 + j.2.2.length) 1),(13,iv ((j.1:Int) - 1))],(740,cI j.2.2++jN j.2.1)::(700,vws 5 d 710 5++jN c)::(701,vws 5 d' 720 2++jN c')::(bxs 5 d r 710 5++bxs 5 d' r' 720 2),rn + 1⟩) (fun j=>j.2.2.length + j.1=5) (fun j=>j.1) (5,0,[]) ?_ (by simp) fun j hj B10 hN10 hR10 hX10=>?_
  ·refine (Le_swb _ 79 740 (by decide) (by decide)).trans ?_
   simp only [St.swb,swbσ,swbm,AV.swb,AV.swbAll,swp,jN_swb,row_swb,Nat.reduceEqDiff,if_true,if_false,reduceIte]
   exact Le_wa
  obtain ⟨m,e,q⟩:=j
  simp only at hj
  refine Aw_sq fun B11 hB11 hR11 hX11=>?_
  refine Aw_st hE [0,3,4,10,11,12,13,83] [72,79,95,99,700,701,710,711,712,713,714,720,721,722,723,724,740] fun K hK=>?_
  simp only [go_sem,seval]
  refine hK _ (Aw_cond rfl (fun hc38=>?_) (fun hc38=>?_))
  ·simp only [dte] at hc38
   have hg:=rowI_drop (r 2) (d 2) ((m:Int) - 1).toNat (by omega)
   refine Aw_skip (hB11 _ ?_)
   refine Aw_sq fun B12 hB12 hR12 hX12=>?_
   refine Aw_bk fun B13 hN13 hE13 hR13 hX13=>?_
   refine Aw_tx hE [0,3,4,10,11,12,13] [72,79,95,99,700,701,710,711,712,713,714,720,721,722,723,724,740] fun K hK=>?_
   simp only [go_sem,seval,hg]
   refine ⟨⟨by omega,by omega⟩,⟨by omega,by omega⟩,fun h=>?_,fun h cap' hcap'=>?_⟩
   ·obtain ⟨e',rfl⟩:∃ e',e=e' + 1:=⟨e - 1,by omega⟩
    rw [row_put]
    refine hK _ (hN13 _ (hB12 _ ?_))
    refine Aw_tx hE [0,3,4,10,11,12,13] [72,79,95,99,700,701,710,711,712,713,714,720,721,722,723,724,740] fun K hK=>?_
    simp only [go_sem,seval]
    repeat refine sd0 ?_
    have hl1:(q++[(r 2).getD ((m:Int) - 1).toNat 0]).length=q.length + 1:=by simp
    have hmc:((m - 1:Nat):Int)=(m:Int) - 1:=by omega
    have hec:e' + 1 + q.length=e' + (q.length + 1):=by omega
    refine hK _ (hN10 (m - 1,e',q++[(r 2).getD ((m:Int) - 1).toNat 0]) _ (by simp only [hl1];omega) (by simp only;omega) ?_)
    simp only [hl1,hmc,hec]
    exact Le_wa
   ·obtain ⟨e',rfl⟩:∃ e',cap'=e' + (q.length + 1):=⟨cap' - (q.length + 1),by omega⟩
    rw [Nat.add_sub_cancel,List.append_assoc,List.singleton_append,row_snoc]
    refine hK _ (hN13 _ (hB12 _ ?_))
    refine Aw_tx hE [0,3,4,10,11,12,13] [72,79,95,99,700,701,710,711,712,713,714,720,721,722,723,724,740] fun K hK=>?_
    simp only [go_sem,seval]
    repeat refine sd0 ?_
    have hl1:(q++[(r 2).getD ((m:Int) - 1).toNat 0]).length=q.length + 1:=by simp
    have hmc:((m - 1:Nat):Int)=(m:Int) - 1:=by omega
    have hec:e' + 1 + q.length=e' + (q.length + 1):=by omega
    refine hK _ (hN10 (m - 1,e',q++[(r 2).getD ((m:Int) - 1).toNat 0]) _ (by simp only [hl1];omega) (by simp only;omega) ?_)
    simp only [hl1,hmc,hec]
    refine (Le_swb _ 95 740 (by decide) (by decide)).trans ?_
    simp only [St.swb,swbσ,swbm,AV.swb,AV.swbAll,swp,jN_swb,row_swb,Nat.reduceEqDiff,if_true,if_false,reduceIte]
    exact Le_wa
  ·simp only [dfn] at hc38
   have hq:q.length=5:=by omega
   refine Aw_exit (hX11 _ _ (hX10 _ _ (hE9 _ (hB8 _ ?_))))
   refine Aw_tx hE [0,3,4,10,11] [72,79,95,99,700,701,710,711,712,713,714,720,721,722,723,724,740] fun K hK=>?_
   simp only [go_sem,seval,hq]
   refine ⟨fun h=>?_,fun h cap' hcap'=>?_⟩
   ·obtain ⟨c1,rfl⟩:∃ c1,c'=c1 + 1:=⟨c' - 1,by omega⟩
    simp only [jN_s,List.set_cons_zero]
    refine hK _ (hN7 _ (hB6 _ ?_))
    refine Aw_tx hE [0,3,4,10,11] [72,79,95,99,700,701,710,711,712,713,714,720,721,722,723,724,740] fun K hK=>?_
    simp only [go_sem,seval]
    repeat refine sd0 ?_
    refine hK _ (hN4 (3,c1,put d' 2 e,put r' 2 q) _ ⟨by omega,put_len hr' hq⟩ (by simp only;omega) ?_)
    refine (Le_swb _ 740 722 (by decide) (by decide)).trans ?_
    simp only [St.swb,swbσ,swbm,AV.swb,AV.swbAll,swp,jN_swb,row_swb,Nat.reduceEqDiff,if_true,if_false,reduceIte]
    exact Le_wc (by simp only [go_sem,seval,put,Nat.add_assoc]) (by simp only [go_sem,seval,put])
   ·obtain ⟨c1,rfl⟩:∃ c1,cap'=c1 + 3:=⟨cap' - 3,by omega⟩
    rw [Nat.add_sub_cancel]
    refine hK _ (hN7 _ (hB6 _ ?_))
    refine Aw_tx hE [0,3,4,10,11] [72,79,95,99,700,701,710,711,712,713,714,720,721,722,723,724,740] fun K hK=>?_
    simp only [go_sem,seval]
    repeat refine sd0 ?_
    refine hK _ (hN4 (3,c1,put d' 2 e,put r' 2 q) _ ⟨by omega,put_len hr' hq⟩ (by simp only;omega) ?_)
    refine (Le_swb _ 740 722 (by decide) (by decide)).trans ?_
    simp only [St.swb,swbσ,swbm,AV.swb,AV.swbAll,swp,jN_swb,row_swb,Nat.reduceEqDiff,if_true,if_false,reduceIte]
    refine (Le_swb _ 99 701 (by decide) (by decide)).trans ?_
    simp only [St.swb,swbσ,swbm,AV.swb,AV.swbAll,swp,jN_swb,row_swb,Nat.reduceEqDiff,if_true,if_false,reduceIte]
    exact Le_wc (by simp only [go_sem,seval,put,Nat.add_assoc]) (by simp only [go_sem,seval,put])
 ·refine Aw_st hE [0,3,4,10,11,76] [72,79,95,99,700,701,710,711,712,713,714,720,721,722,723,724,740] fun K hK=>?_
  simp only [go_sem,seval]
  refine hK _ (Aw_yes rfl (Aw_skip (hB5 _ ?_)))
  refine Aw_sq fun B6 hB6 hR6 hX6=>?_
  refine Aw_bk fun B7 hN7 hE7 hR7 hX7=>?_
  refine Aw_st hE [0,3,4,10,11,12] [72,79,95,99,700,701,710,711,712,713,714,720,721,722,723,724,740] fun K hK=>?_
  simp only [go_sem,seval]
  refine hK _ ?_;clear hK K
  refine Aw_sq fun B8 hB8 hR8 hX8=>?_
  refine Aw_st hE [0,3,4,10,11,12,13] [72,79,95,99,700,701,710,711,712,713,714,720,721,722,723,724,740] fun K hK=>?_
  simp only [go_sem,seval]
  refine hK _ ?_;clear hK K
  refine Aw_bk fun B9 hN9 hE9 hR9 hX9=>?_
  refine Aw_lp (fun j:Nat × Nat × List Int=>⟨111,[(0,.rd),(3,iv 5),(4,.xs 700 0 5 (c + 5) 1),(10,.xs 701 0 3 (c' + 3) 1),(11,iv 1),(12,.xs 740 0 j.2.2.length (j.2.1 + j.2.2.length) 1),(13,iv ((j.1:Int) - 1))],(740,cI j.2.2++jN j.2.1)::(700,vws 5 d 710 5++jN c)::(701,vws 5 d' 720 3++jN c')::(bxs 5 d r 710 5++bxs 5 d' r' 720 3),rn + 1⟩) (fun j=>j.2.2.length + j.1=5) (fun j=>j.1) (5,0,[]) ?_ (by simp) fun j hj B10 hN10 hR10 hX10=>?_
  ·refine (Le_swb _ 79 740 (by decide) (by decide)).trans ?_
   simp only [St.swb,swbσ,swbm,AV.swb,AV.swbAll,swp,jN_swb,row_swb,Nat.reduceEqDiff,if_true,if_false,reduceIte]
   exact Le_wa
  obtain ⟨m,e,q⟩:=j
  simp only at hj
  refine Aw_sq fun B11 hB11 hR11 hX11=>?_
  refine Aw_st hE [0,3,4,10,11,12,13,83] [72,79,95,99,700,701,710,711,712,713,714,720,721,722,723,724,740] fun K hK=>?_
  simp only [go_sem,seval]
  refine hK _ (Aw_cond rfl (fun hc38=>?_) (fun hc38=>?_))
  ·simp only [dte] at hc38
   have hg:=rowI_drop (r 1) (d 1) ((m:Int) - 1).toNat (by omega)
   refine Aw_skip (hB11 _ ?_)
   refine Aw_sq fun B12 hB12 hR12 hX12=>?_
   refine Aw_bk fun B13 hN13 hE13 hR13 hX13=>?_
   refine Aw_tx hE [0,3,4,10,11,12,13] [72,79,95,99,700,701,710,711,712,713,714,720,721,722,723,724,740] fun K hK=>?_
   simp only [go_sem,seval,hg]
   refine ⟨⟨by omega,by omega⟩,⟨by omega,by omega⟩,fun h=>?_,fun h cap' hcap'=>?_⟩
   ·obtain ⟨e',rfl⟩:∃ e',e=e' + 1:=⟨e - 1,by omega⟩
    rw [row_put]
    refine hK _ (hN13 _ (hB12 _ ?_))
    refine Aw_tx hE [0,3,4,10,11,12,13] [72,79,95,99,700,701,710,711,712,713,714,720,721,722,723,724,740] fun K hK=>?_
    simp only [go_sem,seval]
    repeat refine sd0 ?_
    have hl1:(q++[(r 1).getD ((m:Int) - 1).toNat 0]).length=q.length + 1:=by simp
    have hmc:((m - 1:Nat):Int)=(m:Int) - 1:=by omega
    have hec:e' + 1 + q.length=e' + (q.length + 1):=by omega
    refine hK _ (hN10 (m - 1,e',q++[(r 1).getD ((m:Int) - 1).toNat 0]) _ (by simp only [hl1];omega) (by simp only;omega) ?_)
    simp only [hl1,hmc,hec]
    exact Le_wa
   ·obtain ⟨e',rfl⟩:∃ e',cap'=e' + (q.length + 1):=⟨cap' - (q.length + 1),by omega⟩
    rw [Nat.add_sub_cancel,List.append_assoc,List.singleton_append,row_snoc]
    refine hK _ (hN13 _ (hB12 _ ?_))
    refine Aw_tx hE [0,3,4,10,11,12,13] [72,79,95,99,700,701,710,711,712,713,714,720,721,722,723,724,740] fun K hK=>?_
    simp only [go_sem,seval]
    repeat refine sd0 ?_
    have hl1:(q++[(r 1).getD ((m:Int) - 1).toNat 0]).length=q.length + 1:=by simp
    have hmc:((m - 1:Nat):Int)=(m:Int) - 1:=by omega
    have hec:e' + 1 + q.length=e' + (q.length + 1):=by omega
    refine hK _ (hN10 (m - 1,e',q++[(r 1).getD ((m:Int) - 1).toNat 0]) _ (by simp only [hl1];omega) (by simp only;omega) ?_)
    simp only [hl1,hmc,hec]
    refine (Le_swb _ 95 740 (by decide) (by decide)).trans ?_
    simp only [St.swb,swbσ,swbm,AV.swb,AV.swbAll,swp,jN_swb,row_swb,Nat.reduceEqDiff,if_true,if_false,reduceIte]
    exact Le_wa
  ·simp only [dfn] at hc38
   have hq:q.length=5:=by omega
   refine Aw_exit (hX11 _ _ (hX10 _ _ (hE9 _ (hB8 _ ?_))))
   refine Aw_tx hE [0,3,4,10,11] [72,79,95,99,700,701,710,711,712,713,714,720,721,722,723,724,740] fun K hK=>?_
   simp only [go_sem,seval,hq]
   refine ⟨fun h=>?_,fun h cap' hcap'=>?_⟩
   ·obtain ⟨c1,rfl⟩:∃ c1,c'=c1 + 1:=⟨c' - 1,by omega⟩
    simp only [jN_s,List.set_cons_zero]
    refine hK _ (hN7 _ (hB6 _ ?_))
    refine Aw_tx hE [0,3,4,10,11] [72,79,95,99,700,701,710,711,712,713,714,720,721,722,723,724,740] fun K hK=>?_
    simp only [go_sem,seval]
    repeat refine sd0 ?_
    refine hK _ (hN4 (4,c1,put d' 3 e,put r' 3 q) _ ⟨by omega,put_len hr' hq⟩ (by simp only;omega) ?_)
    refine (Le_swb _ 740 723 (by decide) (by decide)).trans ?_
    simp only [St.swb,swbσ,swbm,AV.swb,AV.swbAll,swp,jN_swb,row_swb,Nat.reduceEqDiff,if_true,if_false,reduceIte]
    exact Le_wc (by simp only [go_sem,seval,put,Nat.add_assoc]) (by simp only [go_sem,seval,put])
   ·obtain ⟨c1,rfl⟩:∃ c1,cap'=c1 + 4:=⟨cap' - 4,by omega⟩
    rw [Nat.add_sub_cancel]
    refine hK _ (hN7 _ (hB6 _ ?_))
    refine Aw_tx hE [0,3,4,10,11] [72,79,95,99,700,701,710,711,712,713,714,720,721,722,723,724,740] fun K hK=>?_
    simp only [go_sem,seval]
    repeat refine sd0 ?_
    refine hK _ (hN4 (4,c1,put d' 3 e,put r' 3 q) _ ⟨by omega,put_len hr' hq⟩ (by simp only;omega) ?_)
    refine (Le_swb _ 740 723 (by decide) (by decide)).trans ?_
    simp only [St.swb,swbσ,swbm,AV.swb,AV.swbAll,swp,jN_swb,row_swb,Nat.reduceEqDiff,if_true,if_false,reduceIte]
    refine (Le_swb _ 99 701 (by decide) (by decide)).trans ?_
    simp only [St.swb,swbσ,swbm,AV.swb,AV.swbAll,swp,jN_swb,row_swb,Nat.reduceEqDiff,if_true,if_false,reduceIte]
    exact Le_wc (by simp only [go_sem,seval,put,Nat.add_assoc]) (by simp only [go_sem,seval,put])
 ·refine Aw_st hE [0,3,4,10,11,76] [72,79,95,99,700,701,710,711,712,713,714,720,721,722,723,724,740] fun K hK=>?_
  simp only [go_sem,seval]
  refine hK _ (Aw_yes rfl (Aw_skip (hB5 _ ?_)))
  refine Aw_sq fun B6 hB6 hR6 hX6=>?_
  refine Aw_bk fun B7 hN7 hE7 hR7 hX7=>?_
  refine Aw_st hE [0,3,4,10,11,12] [72,79,95,99,700,701,710,711,712,713,714,720,721,722,723,724,740] fun K hK=>?_
  simp only [go_sem,seval]
  refine hK _ ?_;clear hK K
  refine Aw_sq fun B8 hB8 hR8 hX8=>?_
  refine Aw_st hE [0,3,4,10,11,12,13] [72,79,95,99,700,701,710,711,712,713,714,720,721,722,723,724,740] fun K hK=>?_
  simp only [go_sem,seval]
  refine hK _ ?_;clear hK K
  refine Aw_bk fun B9 hN9 hE9 hR9 hX9=>?_
  refine Aw_lp (fun j:Nat × Nat × List Int=>⟨111,[(0,.rd),(3,iv 5),(4,.xs 700 0 5 (c + 5) 1),(10,.xs 701 0 4 (c' + 4) 1),(11,iv 0),(12,.xs 740 0 j.2.2.length (j.2.1 + j.2.2.length) 1),(13,iv ((j.1:Int) - 1))],(740,cI j.2.2++jN j.2.1)::(700,vws 5 d 710 5++jN c)::(701,vws 5 d' 720 4++jN c')::(bxs 5 d r 710 5++bxs 5 d' r' 720 4),rn + 1⟩) (fun j=>j.2.2.length + j.1=5) (fun j=>j.1) (5,0,[]) ?_ (by simp) fun j hj B10 hN10 hR10 hX10=>?_
  ·refine (Le_swb _ 79 740 (by decide) (by decide)).trans ?_
   simp only [St.swb,swbσ,swbm,AV.swb,AV.swbAll,swp,jN_swb,row_swb,Nat.reduceEqDiff,if_true,if_false,reduceIte]
   exact Le_wa
  obtain ⟨m,e,q⟩:=j
  simp only at hj
  refine Aw_sq fun B11 hB11 hR11 hX11=>?_
  refine Aw_st hE [0,3,4,10,11,12,13,83] [72,79,95,99,700,701,710,711,712,713,714,720,721,722,723,724,740] fun K hK=>?_
  simp only [go_sem,seval]
  refine hK _ (Aw_cond rfl (fun hc38=>?_) (fun hc38=>?_))
  ·simp only [dte] at hc38
   have hg:=rowI_drop (r 0) (d 0) ((m:Int) - 1).toNat (by omega)
   refine Aw_skip (hB11 _ ?_)
   refine Aw_sq fun B12 hB12 hR12 hX12=>?_
   refine Aw_bk fun B13 hN13 hE13 hR13 hX13=>?_
   refine Aw_tx hE [0,3,4,10,11,12,13] [72,79,95,99,700,701,710,711,712,713,714,720,721,722,723,724,740] fun K hK=>?_
   simp only [go_sem,seval,hg]
   refine ⟨⟨by omega,by omega⟩,⟨by omega,by omega⟩,fun h=>?_,fun h cap' hcap'=>?_⟩
   ·obtain ⟨e',rfl⟩:∃ e',e=e' + 1:=⟨e - 1,by omega⟩
    rw [row_put]
    refine hK _ (hN13 _ (hB12 _ ?_))
    refine Aw_tx hE [0,3,4,10,11,12,13] [72,79,95,99,700,701,710,711,712,713,714,720,721,722,723,724,740] fun K hK=>?_
    simp only [go_sem,seval]
    repeat refine sd0 ?_
    have hl1:(q++[(r 0).getD ((m:Int) - 1).toNat 0]).length=q.length + 1:=by simp
    have hmc:((m - 1:Nat):Int)=(m:Int) - 1:=by omega
    have hec:e' + 1 + q.length=e' + (q.length + 1):=by omega
    refine hK _ (hN10 (m - 1,e',q++[(r 0).getD ((m:Int) - 1).toNat 0]) _ (by simp only [hl1];omega) (by simp only;omega) ?_)
    simp only [hl1,hmc,hec]
    exact Le_wa
   ·obtain ⟨e',rfl⟩:∃ e',cap'=e' + (q.length + 1):=⟨cap' - (q.length + 1),by omega⟩
    rw [Nat.add_sub_cancel,List.append_assoc,List.singleton_append,row_snoc]
    refine hK _ (hN13 _ (hB12 _ ?_))
    refine Aw_tx hE [0,3,4,10,11,12,13] [72,79,95,99,700,701,710,711,712,713,714,720,721,722,723,724,740] fun K hK=>?_
    simp only [go_sem,seval]
    repeat refine sd0 ?_
    have hl1:(q++[(r 0).getD ((m:Int) - 1).toNat 0]).length=q.length + 1:=by simp
    have hmc:((m - 1:Nat):Int)=(m:Int) - 1:=by omega
    have hec:e' + 1 + q.length=e' + (q.length + 1):=by omega
    refine hK _ (hN10 (m - 1,e',q++[(r 0).getD ((m:Int) - 1).toNat 0]) _ (by simp only [hl1];omega) (by simp only;omega) ?_)
    simp only [hl1,hmc,hec]
    refine (Le_swb _ 95 740 (by decide) (by decide)).trans ?_
    simp only [St.swb,swbσ,swbm,AV.swb,AV.swbAll,swp,jN_swb,row_swb,Nat.reduceEqDiff,if_true,if_false,reduceIte]
    exact Le_wa
  ·simp only [dfn] at hc38
   have hq:q.length=5:=by omega
   refine Aw_exit (hX11 _ _ (hX10 _ _ (hE9 _ (hB8 _ ?_))))
   refine Aw_tx hE [0,3,4,10,11] [72,79,95,99,700,701,710,711,712,713,714,720,721,722,723,724,740] fun K hK=>?_
   simp only [go_sem,seval,hq]
   refine ⟨fun h=>?_,fun h cap' hcap'=>?_⟩
   ·obtain ⟨c1,rfl⟩:∃ c1,c'=c1 + 1:=⟨c' - 1,by omega⟩
    simp only [jN_s,List.set_cons_zero]
    refine hK _ (hN7 _ (hB6 _ ?_))
    refine Aw_tx hE [0,3,4,10,11] [72,79,95,99,700,701,710,711,712,713,714,720,721,722,723,724,740] fun K hK=>?_
    simp only [go_sem,seval]
    repeat refine sd0 ?_
    refine hK _ (hN4 (5,c1,put d' 4 e,put r' 4 q) _ ⟨by omega,put_len hr' hq⟩ (by simp only;omega) ?_)
    refine (Le_swb _ 740 724 (by decide) (by decide)).trans ?_
    simp only [St.swb,swbσ,swbm,AV.swb,AV.swbAll,swp,jN_swb,row_swb,Nat.reduceEqDiff,if_true,if_false,reduceIte]
    exact Le_wc (by simp only [go_sem,seval,put,Nat.add_assoc]) (by simp only [go_sem,seval,put])
   ·obtain ⟨c1,rfl⟩:∃ c1,cap'=c1 + 5:=⟨cap' - 5,by omega⟩
    rw [Nat.add_sub_cancel]
    refine hK _ (hN7 _ (hB6 _ ?_))
    refine Aw_tx hE [0,3,4,10,11] [72,79,95,99,700,701,710,711,712,713,714,720,721,722,723,724,740] fun K hK=>?_
    simp only [go_sem,seval]
    repeat refine sd0 ?_
    refine hK _ (hN4 (5,c1,put d' 4 e,put r' 4 q) _ ⟨by omega,put_len hr' hq⟩ (by simp only;omega) ?_)
    refine (Le_swb _ 740 724 (by decide) (by decide)).trans ?_
    simp only [St.swb,swbσ,swbm,AV.swb,AV.swbAll,swp,jN_swb,row_swb,Nat.reduceEqDiff,if_true,if_false,reduceIte]
    refine (Le_swb _ 99 701 (by decide) (by decide)).trans ?_
    simp only [St.swb,swbσ,swbm,AV.swb,AV.swbAll,swp,jN_swb,row_swb,Nat.reduceEqDiff,if_true,if_false,reduceIte]
    exact Le_wc (by simp only [go_sem,seval,put,Nat.add_assoc]) (by simp only [go_sem,seval,put])
theorem relsB2 {E:En} (hE:TbOk E tbRels) {k:Nat} (hk:k + 40≤1099511627776) {Q:Exit→St→Prop} (hQ:∀ (L:List (List Int)) (rn:Nat),(2≤L.length∧L.length≤5)→(∀ w ∈ L,w.length=L.length)→rn≤k + 40→Aw E .ret ⟨111,[(2,wsl L)],[],rn⟩ Q) {r:Nat→List Int} (hr:∀ q,(r q).length=2) {d:Nat→Nat} {c:Nat}:Aw E (seqB (seqB (seqB (seqB (Tryd.f30.body.getD .skip))))) ⟨111,[(0,.rd),(3,iv 2),(4,.xs 700 0 2 (c + 2) 1)],(700,vws 2 d 710 2++jN c)::bxs 2 d r 710 2,k + 1⟩ Q:=by
 refine Aw_st hE [0,3,4,6] [700,701,710,711,712,713,714,720,721,722,723,724] fun K hK=>?_
 simp only [go_sem,seval]
 refine ⟨by omega,fun x hx1 hx2=>?_⟩
 generalize decide (x=0)=bb
 refine hK _ ?_;clear hK K
 refine Aw_sqJ (fun i:(Nat→List Int) × Nat=>⟨111,[(0,.rd),(3,iv 2),(4,.xs 700 0 2 (c + 2) 1)],(700,vws 2 d 710 2++jN c)::bxs 2 d i.1 710 2,i.2⟩) (fun i=>(∀ x,(i.1 x).length=2)∧i.2≤k + 29) (fun i hi=>relsR2 hE hk hQ hi.1 hi.2) fun B1 hB1 hR1 hX1=>?_
 refine Aw_st hE [0,3,4,6,7] [700,701,710,711,712,713,714,720,721,722,723,724] fun K hK=>?_
 simp only [go_sem,seval]
 refine hK _ ?_;clear hK K
 refine Aw_bk fun B2 hN2 hE2 hR2 hX2=>?_
 refine Aw_lp (fun i:Nat × (Nat→List Int)=>⟨111,[(0,.rd),(3,iv 2),(4,.xs 700 0 2 (c + 2) 1),(6,bv bb),(7,iv (i.1:Int))],(700,vws 2 d 710 2++jN c)::bxs 2 d i.2 710 2,k + 2 + i.1 * (3 - i.1)⟩) (fun i=>i.1≤2∧∀ x,(i.2 x).length=2) (fun i=>2 - i.1) (0,r) (Le_wa) ⟨by omega,hr⟩ fun i hi B3 hN3 hR3 hX3=>?_
 obtain ⟨a,r⟩:=i
 obtain ⟨hi,hr⟩:=hi
 simp only at hi hr
 refine Aw_sq fun B4 hB4 hR4 hX4=>?_
 rcases (show a=2∨a=0∨a=1 by omega) with rfl | rfl | rfl
 ·refine Aw_st hE [0,3,4,6,7,33] [700,701,710,711,712,713,714,720,721,722,723,724] fun K hK=>?_
  simp only [go_sem,seval]
  refine hK _ (Aw_no rfl (Aw_exit (hX4 _ _ (hX3 _ _ (hE2 _ (hB1 (r,k + 29) _ ⟨hr,by simp only;omega⟩ (LeE_of (Le_wa))))))))
 ·refine Aw_st hE [0,3,4,6,7,33] [700,701,710,711,712,713,714,720,721,722,723,724] fun K hK=>?_
  simp only [go_sem,seval]
  refine hK _ (Aw_yes rfl (Aw_skip (hB4 _ ?_)))
  refine Aw_sq fun B6 hB6 hR6 hX6=>?_
  refine Aw_bk fun B7 hN7 hE7 hR7 hX7=>?_
  refine Aw_st hE [0,3,4,6,7,8] [700,701,710,711,712,713,714,720,721,722,723,724] fun K hK=>?_
  simp only [go_sem,seval]
  refine hK _ ?_;clear hK K
  refine Aw_bk fun B8 hN8 hE8 hR8 hX8=>?_
  refine Aw_lp (fun i:Nat × (Nat→List Int)=>⟨111,[(0,.rd),(3,iv 2),(4,.xs 700 0 2 (c + 2) 1),(6,bv bb),(7,iv 0),(8,iv (i.1:Int))],(700,vws 2 d 710 2++jN c)::bxs 2 d i.2 710 2,k + 0 + 2 * i.1⟩) (fun i=>1≤i.1∧i.1≤2∧∀ x,(i.2 x).length=2) (fun i=>2 - i.1) (1,r) (Le_wa) ⟨by omega,by omega,hr⟩ fun i hi B9 hN9 hR9 hX9=>?_
  obtain ⟨b,r⟩:=i
  obtain ⟨hi1,hi2,hr⟩:=hi
  simp only at hi1 hi2 hr
  have hr0:=hr 0
  have hr1:=hr 1
  refine Aw_sq fun B10 hB10 hR10 hX10=>?_
  rcases (show b=2∨b=1 by omega) with rfl | rfl
  ·refine Aw_st hE [0,3,4,6,7,8,40] [700,701,710,711,712,713,714,720,721,722,723,724] fun K hK=>?_
   simp only [go_sem,seval]
   refine hK _ (Aw_no rfl (Aw_exit (hX10 _ _ (hX9 _ _ (hE8 _ ?_)))))
   refine hN7 _ (hB6 _ ?_)
   refine Aw_tx hE [0,3,4,6,7] [700,701,710,711,712,713,714,720,721,722,723,724] fun K hK=>?_
   simp only [go_sem,seval]
   repeat refine sd0 ?_
   refine hK _ (hN3 (1,r) _ ⟨by omega,hr⟩ (by simp only;omega) (Le_wa))
  ·refine Aw_st hE [0,3,4,6,7,8,40] [700,701,710,711,712,713,714,720,721,722,723,724] fun K hK=>?_
   simp only [go_sem,seval]
   refine hK _ (Aw_yes rfl (Aw_skip (hB10 _ ?_)))
   refine Aw_sq fun B11 hB11 hR11 hX11=>?_
   refine Aw_bk fun B12 hN12 hE12 hR12 hX12=>?_
   refine Aw_st hE [0,3,4,6,7,8,9] [700,701,710,711,712,713,714,720,721,722,723,724] fun K hK=>?_
   refine aops_cut 3 fun K1 hK1=>?_
   simp only [go_sem,seval]
   repeat refine sd0 ?_
   intro x hx1 hx2
   obtain ⟨v,hv,hv1,hv2⟩:=pick4 x hx1 hx2
   refine hK1 _ ?_
   clear hK1
   simp only [go_sem,seval,hv]
   repeat refine sd0 ?_
   refine hK _ ?_;clear hK K
   refine Aw_sqJ (fun v:Int=>⟨111,[(0,.rd),(3,iv 2),(4,.xs 700 0 2 (c + 2) 1),(6,bv bb),(7,iv 0),(8,iv 1),(9,iv v)],(700,vws 2 d 710 2++jN c)::bxs 2 d r 710 2,k + 4⟩) (fun v=>0≤v∧v≤3) (fun v hv=>?_) fun B13 hB13 hR13 hX13=>?_
   ·have hs1:=cI_set (r 0) (d 0) 1 v (by omega)
    have hs2:=fun y=>cI_set (r 1) (d 1) 0 y (by omega)
    obtain ⟨hv1,hv2⟩:=hv
    refine Aw_st hE [0,3,4,6,7,8,9] [700,701,710,711,712,713,714,720,721,722,723,724] fun K hK=>?_
    simp only [go_sem,seval,hs1]
    refine ⟨by omega,?_⟩
    refine hK _ ?_;clear hK K
    refine Aw_td hE [0,3,4,6,7,8] [700,701,710,711,712,713,714,720,721,722,723,724] 6 (by kernel_rfl) fun K hK=>?_
    simp only [go_sem,seval,hs2,hv1,hv2]
    refine ⟨by omega,hK _ (hN12 _ (hB11 _ ?_))⟩
    refine Aw_tx hE [0,3,4,6,7,8] [700,701,710,711,712,713,714,720,721,722,723,724] fun K hK=>?_
    simp only [go_sem,seval]
    repeat refine sd0 ?_
    refine hK _ (hN9 (2,upd (upd r 0 1 v) 1 0 (mirr v)) _ ⟨by omega,by omega,upd_len (upd_len hr)⟩ (by simp only;omega) (Le_wc (by simp only [go_sem,seval,upd]) (by simp only [go_sem,seval,upd])))
   ·refine Aw_st hE [0,3,4,6,7,8,9,53] [700,701,710,711,712,713,714,720,721,722,723,724] fun K hK=>?_
    simp only [go_sem,seval]
    refine ⟨fun hg23=>⟨by omega,fun y hy1 hy2=>?_⟩,fun hg23=>?_⟩
    ·refine hK _ (Aw_cond rfl (fun hc24=>?_) (fun hc24=>?_))
     ·refine Aw_tx hE [0,3,4,6,7,8,9] [700,701,710,711,712,713,714,720,721,722,723,724] fun K hK=>?_
      simp only [go_sem,seval]
      exact hK _ (hB13 3 _ ⟨by decide,by decide⟩ (LeE_of (Le_wa)))
     ·exact Aw_skip (hB13 v _ ⟨hv1,hv2⟩ (LeE_of (Le_wa)))
    ·exact hK _ (Aw_no rfl (Aw_skip (hB13 v _ ⟨hv1,hv2⟩ (LeE_of (Le_wa)))))
 ·refine Aw_st hE [0,3,4,6,7,33] [700,701,710,711,712,713,714,720,721,722,723,724] fun K hK=>?_
  simp only [go_sem,seval]
  refine hK _ (Aw_yes rfl (Aw_skip (hB4 _ ?_)))
  refine Aw_sq fun B6 hB6 hR6 hX6=>?_
  refine Aw_bk fun B7 hN7 hE7 hR7 hX7=>?_
  refine Aw_st hE [0,3,4,6,7,8] [700,701,710,711,712,713,714,720,721,722,723,724] fun K hK=>?_
  simp only [go_sem,seval]
  refine hK _ ?_;clear hK K
  refine Aw_bk fun B8 hN8 hE8 hR8 hX8=>?_
  refine Aw_lp (fun i:Nat × (Nat→List Int)=>⟨111,[(0,.rd),(3,iv 2),(4,.xs 700 0 2 (c + 2) 1),(6,bv bb),(7,iv 1),(8,iv (i.1:Int))],(700,vws 2 d 710 2++jN c)::bxs 2 d i.2 710 2,k + 0 + 2 * i.1⟩) (fun i=>2≤i.1∧i.1≤2∧∀ x,(i.2 x).length=2) (fun i=>2 - i.1) (2,r) (Le_wa) ⟨by omega,by omega,hr⟩ fun i hi B9 hN9 hR9 hX9=>?_
  obtain ⟨b,r⟩:=i
  obtain ⟨hi1,hi2,hr⟩:=hi
  simp only at hi1 hi2 hr
  have hr0:=hr 0
  have hr1:=hr 1
  refine Aw_sq fun B10 hB10 hR10 hX10=>?_
  obtain rfl:b=2:=by omega
  ·refine Aw_st hE [0,3,4,6,7,8,40] [700,701,710,711,712,713,714,720,721,722,723,724] fun K hK=>?_
   simp only [go_sem,seval]
   refine hK _ (Aw_no rfl (Aw_exit (hX10 _ _ (hX9 _ _ (hE8 _ ?_)))))
   refine hN7 _ (hB6 _ ?_)
   refine Aw_tx hE [0,3,4,6,7] [700,701,710,711,712,713,714,720,721,722,723,724] fun K hK=>?_
   simp only [go_sem,seval]
   repeat refine sd0 ?_
   refine hK _ (hN3 (2,r) _ ⟨by omega,hr⟩ (by simp only;omega) (Le_wa))
set_option maxHeartbeats 16000000 in
theorem relsB3 {E:En} (hE:TbOk E tbRels) {k:Nat} (hk:k + 40≤1099511627776) {Q:Exit→St→Prop} (hQ:∀ (L:List (List Int)) (rn:Nat),(2≤L.length∧L.length≤5)→(∀ w ∈ L,w.length=L.length)→rn≤k + 40→Aw E .ret ⟨111,[(2,wsl L)],[],rn⟩ Q) {r:Nat→List Int} (hr:∀ q,(r q).length=3) {d:Nat→Nat} {c:Nat}:Aw E (seqB (seqB (seqB (seqB (Tryd.f30.body.getD .skip))))) ⟨111,[(0,.rd),(3,iv 3),(4,.xs 700 0 3 (c + 3) 1)],(700,vws 3 d 710 3++jN c)::bxs 3 d r 710 3,k + 1⟩ Q:=by
 refine Aw_st hE [0,3,4,6] [700,701,710,711,712,713,714,720,721,722,723,724] fun K hK=>?_
 simp only [go_sem,seval]
 refine ⟨by omega,fun x hx1 hx2=>?_⟩
 generalize decide (x=0)=bb
 refine hK _ ?_;clear hK K
 refine Aw_sqJ (fun i:(Nat→List Int) × Nat=>⟨111,[(0,.rd),(3,iv 3),(4,.xs 700 0 3 (c + 3) 1)],(700,vws 3 d 710 3++jN c)::bxs 3 d i.1 710 3,i.2⟩) (fun i=>(∀ x,(i.1 x).length=3)∧i.2≤k + 29) (fun i hi=>relsR3 hE hk hQ hi.1 hi.2) fun B1 hB1 hR1 hX1=>?_
 refine Aw_st hE [0,3,4,6,7] [700,701,710,711,712,713,714,720,721,722,723,724] fun K hK=>?_
 simp only [go_sem,seval]
 refine hK _ ?_;clear hK K
 refine Aw_bk fun B2 hN2 hE2 hR2 hX2=>?_
 refine Aw_lp (fun i:Nat × (Nat→List Int)=>⟨111,[(0,.rd),(3,iv 3),(4,.xs 700 0 3 (c + 3) 1),(6,bv bb),(7,iv (i.1:Int))],(700,vws 3 d 710 3++jN c)::bxs 3 d i.2 710 3,k + 2 + i.1 * (5 - i.1)⟩) (fun i=>i.1≤3∧∀ x,(i.2 x).length=3) (fun i=>3 - i.1) (0,r) (Le_wa) ⟨by omega,hr⟩ fun i hi B3 hN3 hR3 hX3=>?_
 obtain ⟨a,r⟩:=i
 obtain ⟨hi,hr⟩:=hi
 simp only at hi hr
 refine Aw_sq fun B4 hB4 hR4 hX4=>?_
 rcases (show a=3∨a=0∨a=1∨a=2 by omega) with rfl | rfl | rfl | rfl
 ·refine Aw_st hE [0,3,4,6,7,33] [700,701,710,711,712,713,714,720,721,722,723,724] fun K hK=>?_
  simp only [go_sem,seval]
  refine hK _ (Aw_no rfl (Aw_exit (hX4 _ _ (hX3 _ _ (hE2 _ (hB1 (r,k + 29) _ ⟨hr,by simp only;omega⟩ (LeE_of (Le_wa))))))))
 ·refine Aw_st hE [0,3,4,6,7,33] [700,701,710,711,712,713,714,720,721,722,723,724] fun K hK=>?_
  simp only [go_sem,seval]
  refine hK _ (Aw_yes rfl (Aw_skip (hB4 _ ?_)))
  refine Aw_sq fun B6 hB6 hR6 hX6=>?_
  refine Aw_bk fun B7 hN7 hE7 hR7 hX7=>?_
  refine Aw_st hE [0,3,4,6,7,8] [700,701,710,711,712,713,714,720,721,722,723,724] fun K hK=>?_
  simp only [go_sem,seval]
  refine hK _ ?_;clear hK K
  refine Aw_bk fun B8 hN8 hE8 hR8 hX8=>?_
  refine Aw_lp (fun i:Nat × (Nat→List Int)=>⟨111,[(0,.rd),(3,iv 3),(4,.xs 700 0 3 (c + 3) 1),(6,bv bb),(7,iv 0),(8,iv (i.1:Int))],(700,vws 3 d 710 3++jN c)::bxs 3 d i.2 710 3,k + 0 + 2 * i.1⟩) (fun i=>1≤i.1∧i.1≤3∧∀ x,(i.2 x).length=3) (fun i=>3 - i.1) (1,r) (Le_wa) ⟨by omega,by omega,hr⟩ fun i hi B9 hN9 hR9 hX9=>?_
  obtain ⟨b,r⟩:=i
  obtain ⟨hi1,hi2,hr⟩:=hi
  simp only at hi1 hi2 hr
  have hr0:=hr 0
  have hr1:=hr 1
  have hr2:=hr 2
  refine Aw_sq fun B10 hB10 hR10 hX10=>?_
  rcases (show b=3∨b=1∨b=2 by omega) with rfl | rfl | rfl
  ·refine Aw_st hE [0,3,4,6,7,8,40] [700,701,710,711,712,713,714,720,721,722,723,724] fun K hK=>?_
   simp only [go_sem,seval]
   refine hK _ (Aw_no rfl (Aw_exit (hX10 _ _ (hX9 _ _ (hE8 _ ?_)))))
   refine hN7 _ (hB6 _ ?_)
   refine Aw_tx hE [0,3,4,6,7] [700,701,710,711,712,713,714,720,721,722,723,724] fun K hK=>?_
   simp only [go_sem,seval]
   repeat refine sd0 ?_
   refine hK _ (hN3 (1,r) _ ⟨by omega,hr⟩ (by simp only;omega) (Le_wa))
  ·refine Aw_st hE [0,3,4,6,7,8,40] [700,701,710,711,712,713,714,720,721,722,723,724] fun K hK=>?_
   simp only [go_sem,seval]
   refine hK _ (Aw_yes rfl (Aw_skip (hB10 _ ?_)))
   refine Aw_sq fun B11 hB11 hR11 hX11=>?_
   refine Aw_bk fun B12 hN12 hE12 hR12 hX12=>?_
   refine Aw_st hE [0,3,4,6,7,8,9] [700,701,710,711,712,713,714,720,721,722,723,724] fun K hK=>?_
   refine aops_cut 3 fun K1 hK1=>?_
   simp only [go_sem,seval]
   repeat refine sd0 ?_
   intro x hx1 hx2
   obtain ⟨v,hv,hv1,hv2⟩:=pick4 x hx1 hx2
   refine hK1 _ ?_
   clear hK1
   simp only [go_sem,seval,hv]
   repeat refine sd0 ?_
   refine hK _ ?_;clear hK K
   refine Aw_sqJ (fun v:Int=>⟨111,[(0,.rd),(3,iv 3),(4,.xs 700 0 3 (c + 3) 1),(6,bv bb),(7,iv 0),(8,iv 1),(9,iv v)],(700,vws 3 d 710 3++jN c)::bxs 3 d r 710 3,k + 4⟩) (fun v=>0≤v∧v≤3) (fun v hv=>?_) fun B13 hB13 hR13 hX13=>?_
   ·have hs1:=cI_set (r 0) (d 0) 1 v (by omega)
    have hs2:=fun y=>cI_set (r 1) (d 1) 0 y (by omega)
    obtain ⟨hv1,hv2⟩:=hv
    refine Aw_st hE [0,3,4,6,7,8,9] [700,701,710,711,712,713,714,720,721,722,723,724] fun K hK=>?_
    simp only [go_sem,seval,hs1]
    refine ⟨by omega,?_⟩
    refine hK _ ?_;clear hK K
    refine Aw_td hE [0,3,4,6,7,8] [700,701,710,711,712,713,714,720,721,722,723,724] 6 (by kernel_rfl) fun K hK=>?_
    simp only [go_sem,seval,hs2,hv1,hv2]
    refine ⟨by omega,hK _ (hN12 _ (hB11 _ ?_))⟩
    refine Aw_tx hE [0,3,4,6,7,8] [700,701,710,711,712,713,714,720,721,722,723,724] fun K hK=>?_
    simp only [go_sem,seval]
    repeat refine sd0 ?_
    refine hK _ (hN9 (2,upd (upd r 0 1 v) 1 0 (mirr v)) _ ⟨by omega,by omega,upd_len (upd_len hr)⟩ (by simp only;omega) (Le_wc (by simp only [go_sem,seval,upd]) (by simp only [go_sem,seval,upd])))
   ·refine Aw_st hE [0,3,4,6,7,8,9,53] [700,701,710,711,712,713,714,720,721,722,723,724] fun K hK=>?_
    simp only [go_sem,seval]
    refine ⟨fun hg23=>⟨by omega,fun y hy1 hy2=>?_⟩,fun hg23=>?_⟩
    ·refine hK _ (Aw_cond rfl (fun hc24=>?_) (fun hc24=>?_))
     ·refine Aw_tx hE [0,3,4,6,7,8,9] [700,701,710,711,712,713,714,720,721,722,723,724] fun K hK=>?_
      simp only [go_sem,seval]
      exact hK _ (hB13 3 _ ⟨by decide,by decide⟩ (LeE_of (Le_wa)))
     ·exact Aw_skip (hB13 v _ ⟨hv1,hv2⟩ (LeE_of (Le_wa)))
    ·exact hK _ (Aw_no rfl (Aw_skip (hB13 v _ ⟨hv1,hv2⟩ (LeE_of (Le_wa)))))
  ·refine Aw_st hE [0,3,4,6,7,8,40] [700,701,710,711,712,713,714,720,721,722,723,724] fun K hK=>?_
   simp only [go_sem,seval]
   refine hK _ (Aw_yes rfl (Aw_skip (hB10 _ ?_)))
   refine Aw_sq fun B11 hB11 hR11 hX11=>?_
   refine Aw_bk fun B12 hN12 hE12 hR12 hX12=>?_
   refine Aw_st hE [0,3,4,6,7,8,9] [700,701,710,711,712,713,714,720,721,722,723,724] fun K hK=>?_
   refine aops_cut 3 fun K1 hK1=>?_
   simp only [go_sem,seval]
   repeat refine sd0 ?_
   intro x hx1 hx2
   obtain ⟨v,hv,hv1,hv2⟩:=pick4 x hx1 hx2
   refine hK1 _ ?_
   clear hK1
   simp only [go_sem,seval,hv]
   repeat refine sd0 ?_
   refine hK _ ?_;clear hK K
   refine Aw_sqJ (fun v:Int=>⟨111,[(0,.rd),(3,iv 3),(4,.xs 700 0 3 (c + 3) 1),(6,bv bb),(7,iv 0),(8,iv 2),(9,iv v)],(700,vws 3 d 710 3++jN c)::bxs 3 d r 710 3,k + 6⟩) (fun v=>0≤v∧v≤3) (fun v hv=>?_) fun B13 hB13 hR13 hX13=>?_
   ·have hs1:=cI_set (r 0) (d 0) 2 v (by omega)
    have hs2:=fun y=>cI_set (r 2) (d 2) 0 y (by omega)
    obtain ⟨hv1,hv2⟩:=hv
    refine Aw_st hE [0,3,4,6,7,8,9] [700,701,710,711,712,713,714,720,721,722,723,724] fun K hK=>?_
    simp only [go_sem,seval,hs1]
    refine ⟨by omega,?_⟩
    refine hK _ ?_;clear hK K
    refine Aw_td hE [0,3,4,6,7,8] [700,701,710,711,712,713,714,720,721,722,723,724] 6 (by kernel_rfl) fun K hK=>?_
    simp only [go_sem,seval,hs2,hv1,hv2]
    refine ⟨by omega,hK _ (hN12 _ (hB11 _ ?_))⟩
    refine Aw_tx hE [0,3,4,6,7,8] [700,701,710,711,712,713,714,720,721,722,723,724] fun K hK=>?_
    simp only [go_sem,seval]
    repeat refine sd0 ?_
    refine hK _ (hN9 (3,upd (upd r 0 2 v) 2 0 (mirr v)) _ ⟨by omega,by omega,upd_len (upd_len hr)⟩ (by simp only;omega) (Le_wc (by simp only [go_sem,seval,upd]) (by simp only [go_sem,seval,upd])))
   ·refine Aw_st hE [0,3,4,6,7,8,9,53] [700,701,710,711,712,713,714,720,721,722,723,724] fun K hK=>?_
    simp only [go_sem,seval]
    refine ⟨fun hg23=>⟨by omega,fun y hy1 hy2=>?_⟩,fun hg23=>?_⟩
    ·refine hK _ (Aw_cond rfl (fun hc24=>?_) (fun hc24=>?_))
     ·refine Aw_tx hE [0,3,4,6,7,8,9] [700,701,710,711,712,713,714,720,721,722,723,724] fun K hK=>?_
      simp only [go_sem,seval]
      exact hK _ (hB13 3 _ ⟨by decide,by decide⟩ (LeE_of (Le_wa)))
     ·exact Aw_skip (hB13 v _ ⟨hv1,hv2⟩ (LeE_of (Le_wa)))
    ·exact hK _ (Aw_no rfl (Aw_skip (hB13 v _ ⟨hv1,hv2⟩ (LeE_of (Le_wa)))))
 ·refine Aw_st hE [0,3,4,6,7,33] [700,701,710,711,712,713,714,720,721,722,723,724] fun K hK=>?_
  simp only [go_sem,seval]
  refine hK _ (Aw_yes rfl (Aw_skip (hB4 _ ?_)))
  refine Aw_sq fun B6 hB6 hR6 hX6=>?_
  refine Aw_bk fun B7 hN7 hE7 hR7 hX7=>?_
  refine Aw_st hE [0,3,4,6,7,8] [700,701,710,711,712,713,714,720,721,722,723,724] fun K hK=>?_
  simp only [go_sem,seval]
  refine hK _ ?_;clear hK K
  refine Aw_bk fun B8 hN8 hE8 hR8 hX8=>?_
  refine Aw_lp (fun i:Nat × (Nat→List Int)=>⟨111,[(0,.rd),(3,iv 3),(4,.xs 700 0 3 (c + 3) 1),(6,bv bb),(7,iv 1),(8,iv (i.1:Int))],(700,vws 3 d 710 3++jN c)::bxs 3 d i.2 710 3,k + 2 + 2 * i.1⟩) (fun i=>2≤i.1∧i.1≤3∧∀ x,(i.2 x).length=3) (fun i=>3 - i.1) (2,r) (Le_wa) ⟨by omega,by omega,hr⟩ fun i hi B9 hN9 hR9 hX9=>?_
  obtain ⟨b,r⟩:=i
  obtain ⟨hi1,hi2,hr⟩:=hi
  simp only at hi1 hi2 hr
  have hr0:=hr 0
  have hr1:=hr 1
  have hr2:=hr 2
  refine Aw_sq fun B10 hB10 hR10 hX10=>?_
  rcases (show b=3∨b=2 by omega) with rfl | rfl
  ·refine Aw_st hE [0,3,4,6,7,8,40] [700,701,710,711,712,713,714,720,721,722,723,724] fun K hK=>?_
   simp only [go_sem,seval]
   refine hK _ (Aw_no rfl (Aw_exit (hX10 _ _ (hX9 _ _ (hE8 _ ?_)))))
   refine hN7 _ (hB6 _ ?_)
   refine Aw_tx hE [0,3,4,6,7] [700,701,710,711,712,713,714,720,721,722,723,724] fun K hK=>?_
   simp only [go_sem,seval]
   repeat refine sd0 ?_
   refine hK _ (hN3 (2,r) _ ⟨by omega,hr⟩ (by simp only;omega) (Le_wa))
  ·refine Aw_st hE [0,3,4,6,7,8,40] [700,701,710,711,712,713,714,720,721,722,723,724] fun K hK=>?_
   simp only [go_sem,seval]
   refine hK _ (Aw_yes rfl (Aw_skip (hB10 _ ?_)))
   refine Aw_sq fun B11 hB11 hR11 hX11=>?_
   refine Aw_bk fun B12 hN12 hE12 hR12 hX12=>?_
   refine Aw_st hE [0,3,4,6,7,8,9] [700,701,710,711,712,713,714,720,721,722,723,724] fun K hK=>?_
   refine aops_cut 3 fun K1 hK1=>?_
   simp only [go_sem,seval]
   repeat refine sd0 ?_
   intro x hx1 hx2
   obtain ⟨v,hv,hv1,hv2⟩:=pick4 x hx1 hx2
   refine hK1 _ ?_
   clear hK1
   simp only [go_sem,seval,hv]
   repeat refine sd0 ?_
   refine hK _ ?_;clear hK K
   refine Aw_sqJ (fun v:Int=>⟨111,[(0,.rd),(3,iv 3),(4,.xs 700 0 3 (c + 3) 1),(6,bv bb),(7,iv 1),(8,iv 2),(9,iv v)],(700,vws 3 d 710 3++jN c)::bxs 3 d r 710 3,k + 8⟩) (fun v=>0≤v∧v≤3) (fun v hv=>?_) fun B13 hB13 hR13 hX13=>?_
   ·have hs1:=cI_set (r 1) (d 1) 2 v (by omega)
    have hs2:=fun y=>cI_set (r 2) (d 2) 1 y (by omega)
    obtain ⟨hv1,hv2⟩:=hv
    refine Aw_st hE [0,3,4,6,7,8,9] [700,701,710,711,712,713,714,720,721,722,723,724] fun K hK=>?_
    simp only [go_sem,seval,hs1]
    refine ⟨by omega,?_⟩
    refine hK _ ?_;clear hK K
    refine Aw_td hE [0,3,4,6,7,8] [700,701,710,711,712,713,714,720,721,722,723,724] 6 (by kernel_rfl) fun K hK=>?_
    simp only [go_sem,seval,hs2,hv1,hv2]
    refine ⟨by omega,hK _ (hN12 _ (hB11 _ ?_))⟩
    refine Aw_tx hE [0,3,4,6,7,8] [700,701,710,711,712,713,714,720,721,722,723,724] fun K hK=>?_
    simp only [go_sem,seval]
    repeat refine sd0 ?_
    refine hK _ (hN9 (3,upd (upd r 1 2 v) 2 1 (mirr v)) _ ⟨by omega,by omega,upd_len (upd_len hr)⟩ (by simp only;omega) (Le_wc (by simp only [go_sem,seval,upd]) (by simp only [go_sem,seval,upd])))
   ·refine Aw_st hE [0,3,4,6,7,8,9,53] [700,701,710,711,712,713,714,720,721,722,723,724] fun K hK=>?_
    simp only [go_sem,seval]
    refine ⟨fun hg23=>⟨by omega,fun y hy1 hy2=>?_⟩,fun hg23=>?_⟩
    ·refine hK _ (Aw_cond rfl (fun hc24=>?_) (fun hc24=>?_))
     ·refine Aw_tx hE [0,3,4,6,7,8,9] [700,701,710,711,712,713,714,720,721,722,723,724] fun K hK=>?_
      simp only [go_sem,seval]
      exact hK _ (hB13 3 _ ⟨by decide,by decide⟩ (LeE_of (Le_wa)))
     ·exact Aw_skip (hB13 v _ ⟨hv1,hv2⟩ (LeE_of (Le_wa)))
    ·exact hK _ (Aw_no rfl (Aw_skip (hB13 v _ ⟨hv1,hv2⟩ (LeE_of (Le_wa)))))
 ·refine Aw_st hE [0,3,4,6,7,33] [700,701,710,711,712,713,714,720,721,722,723,724] fun K hK=>?_
  simp only [go_sem,seval]
  refine hK _ (Aw_yes rfl (Aw_skip (hB4 _ ?_)))
  refine Aw_sq fun B6 hB6 hR6 hX6=>?_
  refine Aw_bk fun B7 hN7 hE7 hR7 hX7=>?_
  refine Aw_st hE [0,3,4,6,7,8] [700,701,710,711,712,713,714,720,721,722,723,724] fun K hK=>?_
  simp only [go_sem,seval]
  refine hK _ ?_;clear hK K
  refine Aw_bk fun B8 hN8 hE8 hR8 hX8=>?_
  refine Aw_lp (fun i:Nat × (Nat→List Int)=>⟨111,[(0,.rd),(3,iv 3),(4,.xs 700 0 3 (c + 3) 1),(6,bv bb),(7,iv 2),(8,iv (i.1:Int))],(700,vws 3 d 710 3++jN c)::bxs 3 d i.2 710 3,k + 2 + 2 * i.1⟩) (fun i=>3≤i.1∧i.1≤3∧∀ x,(i.2 x).length=3) (fun i=>3 - i.1) (3,r) (Le_wa) ⟨by omega,by omega,hr⟩ fun i hi B9 hN9 hR9 hX9=>?_
  obtain ⟨b,r⟩:=i
  obtain ⟨hi1,hi2,hr⟩:=hi
  simp only at hi1 hi2 hr
  have hr0:=hr 0
  have hr1:=hr 1
  have hr2:=hr 2
  refine Aw_sq fun B10 hB10 hR10 hX10=>?_
  obtain rfl:b=3:=by omega
  ·refine Aw_st hE [0,3,4,6,7,8,40] [700,701,710,711,712,713,714,720,721,722,723,724] fun K hK=>?_
   simp only [go_sem,seval]
   refine hK _ (Aw_no rfl (Aw_exit (hX10 _ _ (hX9 _ _ (hE8 _ ?_)))))
   refine hN7 _ (hB6 _ ?_)
   refine Aw_tx hE [0,3,4,6,7] [700,701,710,711,712,713,714,720,721,722,723,724] fun K hK=>?_
   simp only [go_sem,seval]
   repeat refine sd0 ?_
   refine hK _ (hN3 (3,r) _ ⟨by omega,hr⟩ (by simp only;omega) (Le_wa))
set_option maxHeartbeats 16000000 in
theorem relsB4 {E:En} (hE:TbOk E tbRels) {k:Nat} (hk:k + 40≤1099511627776) {Q:Exit→St→Prop} (hQ:∀ (L:List (List Int)) (rn:Nat),(2≤L.length∧L.length≤5)→(∀ w ∈ L,w.length=L.length)→rn≤k + 40→Aw E .ret ⟨111,[(2,wsl L)],[],rn⟩ Q) {r:Nat→List Int} (hr:∀ q,(r q).length=4) {d:Nat→Nat} {c:Nat}:Aw E (seqB (seqB (seqB (seqB (Tryd.f30.body.getD .skip))))) ⟨111,[(0,.rd),(3,iv 4),(4,.xs 700 0 4 (c + 4) 1)],(700,vws 4 d 710 4++jN c)::bxs 4 d r 710 4,k + 1⟩ Q:=by
 refine Aw_st hE [0,3,4,6] [700,701,710,711,712,713,714,720,721,722,723,724] fun K hK=>?_
 simp only [go_sem,seval]
 refine ⟨by omega,fun x hx1 hx2=>?_⟩
 generalize decide (x=0)=bb
 refine hK _ ?_;clear hK K
 refine Aw_sqJ (fun i:(Nat→List Int) × Nat=>⟨111,[(0,.rd),(3,iv 4),(4,.xs 700 0 4 (c + 4) 1)],(700,vws 4 d 710 4++jN c)::bxs 4 d i.1 710 4,i.2⟩) (fun i=>(∀ x,(i.1 x).length=4)∧i.2≤k + 29) (fun i hi=>relsR4 hE hk hQ hi.1 hi.2) fun B1 hB1 hR1 hX1=>?_
 refine Aw_st hE [0,3,4,6,7] [700,701,710,711,712,713,714,720,721,722,723,724] fun K hK=>?_
 simp only [go_sem,seval]
 refine hK _ ?_;clear hK K
 refine Aw_bk fun B2 hN2 hE2 hR2 hX2=>?_
 refine Aw_lp (fun i:Nat × (Nat→List Int)=>⟨111,[(0,.rd),(3,iv 4),(4,.xs 700 0 4 (c + 4) 1),(6,bv bb),(7,iv (i.1:Int))],(700,vws 4 d 710 4++jN c)::bxs 4 d i.2 710 4,k + 2 + i.1 * (7 - i.1)⟩) (fun i=>i.1≤4∧∀ x,(i.2 x).length=4) (fun i=>4 - i.1) (0,r) (Le_wa) ⟨by omega,hr⟩ fun i hi B3 hN3 hR3 hX3=>?_
 obtain ⟨a,r⟩:=i
 obtain ⟨hi,hr⟩:=hi
 simp only at hi hr
 refine Aw_sq fun B4 hB4 hR4 hX4=>?_
 rcases (show a=4∨a=0∨a=1∨a=2∨a=3 by omega) with rfl | rfl | rfl | rfl | rfl
 ·refine Aw_st hE [0,3,4,6,7,33] [700,701,710,711,712,713,714,720,721,722,723,724] fun K hK=>?_
  simp only [go_sem,seval]
  refine hK _ (Aw_no rfl (Aw_exit (hX4 _ _ (hX3 _ _ (hE2 _ (hB1 (r,k + 29) _ ⟨hr,by simp only;omega⟩ (LeE_of (Le_wa))))))))
 ·refine Aw_st hE [0,3,4,6,7,33] [700,701,710,711,712,713,714,720,721,722,723,724] fun K hK=>?_
  simp only [go_sem,seval]
  refine hK _ (Aw_yes rfl (Aw_skip (hB4 _ ?_)))
  refine Aw_sq fun B6 hB6 hR6 hX6=>?_
  refine Aw_bk fun B7 hN7 hE7 hR7 hX7=>?_
  refine Aw_st hE [0,3,4,6,7,8] [700,701,710,711,712,713,714,720,721,722,723,724] fun K hK=>?_
  simp only [go_sem,seval]
  refine hK _ ?_;clear hK K
  refine Aw_bk fun B8 hN8 hE8 hR8 hX8=>?_
  refine Aw_lp (fun i:Nat × (Nat→List Int)=>⟨111,[(0,.rd),(3,iv 4),(4,.xs 700 0 4 (c + 4) 1),(6,bv bb),(7,iv 0),(8,iv (i.1:Int))],(700,vws 4 d 710 4++jN c)::bxs 4 d i.2 710 4,k + 0 + 2 * i.1⟩) (fun i=>1≤i.1∧i.1≤4∧∀ x,(i.2 x).length=4) (fun i=>4 - i.1) (1,r) (Le_wa) ⟨by omega,by omega,hr⟩ fun i hi B9 hN9 hR9 hX9=>?_
  obtain ⟨b,r⟩:=i
  obtain ⟨hi1,hi2,hr⟩:=hi
  simp only at hi1 hi2 hr
  have hr0:=hr 0
  have hr1:=hr 1
  have hr2:=hr 2
  have hr3:=hr 3
  refine Aw_sq fun B10 hB10 hR10 hX10=>?_
  rcases (show b=4∨b=1∨b=2∨b=3 by omega) with rfl | rfl | rfl | rfl
  ·refine Aw_st hE [0,3,4,6,7,8,40] [700,701,710,711,712,713,714,720,721,722,723,724] fun K hK=>?_
   simp only [go_sem,seval]
   refine hK _ (Aw_no rfl (Aw_exit (hX10 _ _ (hX9 _ _ (hE8 _ ?_)))))
   refine hN7 _ (hB6 _ ?_)
   refine Aw_tx hE [0,3,4,6,7] [700,701,710,711,712,713,714,720,721,722,723,724] fun K hK=>?_
   simp only [go_sem,seval]
   repeat refine sd0 ?_
   refine hK _ (hN3 (1,r) _ ⟨by omega,hr⟩ (by simp only;omega) (Le_wa))
  ·refine Aw_st hE [0,3,4,6,7,8,40] [700,701,710,711,712,713,714,720,721,722,723,724] fun K hK=>?_
   simp only [go_sem,seval]
   refine hK _ (Aw_yes rfl (Aw_skip (hB10 _ ?_)))
   refine Aw_sq fun B11 hB11 hR11 hX11=>?_
   refine Aw_bk fun B12 hN12 hE12 hR12 hX12=>?_
   refine Aw_st hE [0,3,4,6,7,8,9] [700,701,710,711,712,713,714,720,721,722,723,724] fun K hK=>?_
   refine aops_cut 3 fun K1 hK1=>?_
   simp only [go_sem,seval]
   repeat refine sd0 ?_
   intro x hx1 hx2
   obtain ⟨v,hv,hv1,hv2⟩:=pick4 x hx1 hx2
   refine hK1 _ ?_
   clear hK1
   simp only [go_sem,seval,hv]
   repeat refine sd0 ?_
   refine hK _ ?_;clear hK K
   refine Aw_sqJ (fun v:Int=>⟨111,[(0,.rd),(3,iv 4),(4,.xs 700 0 4 (c + 4) 1),(6,bv bb),(7,iv 0),(8,iv 1),(9,iv v)],(700,vws 4 d 710 4++jN c)::bxs 4 d r 710 4,k + 4⟩) (fun v=>0≤v∧v≤3) (fun v hv=>?_) fun B13 hB13 hR13 hX13=>?_
   ·have hs1:=cI_set (r 0) (d 0) 1 v (by omega)
    have hs2:=fun y=>cI_set (r 1) (d 1) 0 y (by omega)
    obtain ⟨hv1,hv2⟩:=hv
    refine Aw_st hE [0,3,4,6,7,8,9] [700,701,710,711,712,713,714,720,721,722,723,724] fun K hK=>?_
    simp only [go_sem,seval,hs1]
    refine ⟨by omega,?_⟩
    refine hK _ ?_;clear hK K
    refine Aw_td hE [0,3,4,6,7,8] [700,701,710,711,712,713,714,720,721,722,723,724] 6 (by kernel_rfl) fun K hK=>?_
    simp only [go_sem,seval,hs2,hv1,hv2]
    refine ⟨by omega,hK _ (hN12 _ (hB11 _ ?_))⟩
    refine Aw_tx hE [0,3,4,6,7,8] [700,701,710,711,712,713,714,720,721,722,723,724] fun K hK=>?_
    simp only [go_sem,seval]
    repeat refine sd0 ?_
    refine hK _ (hN9 (2,upd (upd r 0 1 v) 1 0 (mirr v)) _ ⟨by omega,by omega,upd_len (upd_len hr)⟩ (by simp only;omega) (Le_wc (by simp only [go_sem,seval,upd]) (by simp only [go_sem,seval,upd])))
   ·refine Aw_st hE [0,3,4,6,7,8,9,53] [700,701,710,711,712,713,714,720,721,722,723,724] fun K hK=>?_
    simp only [go_sem,seval]
    refine ⟨fun hg23=>⟨by omega,fun y hy1 hy2=>?_⟩,fun hg23=>?_⟩
    ·refine hK _ (Aw_cond rfl (fun hc24=>?_) (fun hc24=>?_))
     ·refine Aw_tx hE [0,3,4,6,7,8,9] [700,701,710,711,712,713,714,720,721,722,723,724] fun K hK=>?_
      simp only [go_sem,seval]
      exact hK _ (hB13 3 _ ⟨by decide,by decide⟩ (LeE_of (Le_wa)))
     ·exact Aw_skip (hB13 v _ ⟨hv1,hv2⟩ (LeE_of (Le_wa)))
    ·exact hK _ (Aw_no rfl (Aw_skip (hB13 v _ ⟨hv1,hv2⟩ (LeE_of (Le_wa)))))
  ·refine Aw_st hE [0,3,4,6,7,8,40] [700,701,710,711,712,713,714,720,721,722,723,724] fun K hK=>?_
   simp only [go_sem,seval]
   refine hK _ (Aw_yes rfl (Aw_skip (hB10 _ ?_)))
   refine Aw_sq fun B11 hB11 hR11 hX11=>?_
   refine Aw_bk fun B12 hN12 hE12 hR12 hX12=>?_
   refine Aw_st hE [0,3,4,6,7,8,9] [700,701,710,711,712,713,714,720,721,722,723,724] fun K hK=>?_
   refine aops_cut 3 fun K1 hK1=>?_
   simp only [go_sem,seval]
   repeat refine sd0 ?_
   intro x hx1 hx2
   obtain ⟨v,hv,hv1,hv2⟩:=pick4 x hx1 hx2
   refine hK1 _ ?_
   clear hK1
   simp only [go_sem,seval,hv]
   repeat refine sd0 ?_
   refine hK _ ?_;clear hK K
   refine Aw_sqJ (fun v:Int=>⟨111,[(0,.rd),(3,iv 4),(4,.xs 700 0 4 (c + 4) 1),(6,bv bb),(7,iv 0),(8,iv 2),(9,iv v)],(700,vws 4 d 710 4++jN c)::bxs 4 d r 710 4,k + 6⟩) (fun v=>0≤v∧v≤3) (fun v hv=>?_) fun B13 hB13 hR13 hX13=>?_
   ·have hs1:=cI_set (r 0) (d 0) 2 v (by omega)
    have hs2:=fun y=>cI_set (r 2) (d 2) 0 y (by omega)
    obtain ⟨hv1,hv2⟩:=hv
    refine Aw_st hE [0,3,4,6,7,8,9] [700,701,710,711,712,713,714,720,721,722,723,724] fun K hK=>?_
    simp only [go_sem,seval,hs1]
    refine ⟨by omega,?_⟩
    refine hK _ ?_;clear hK K
    refine Aw_td hE [0,3,4,6,7,8] [700,701,710,711,712,713,714,720,721,722,723,724] 6 (by kernel_rfl) fun K hK=>?_
    simp only [go_sem,seval,hs2,hv1,hv2]
    refine ⟨by omega,hK _ (hN12 _ (hB11 _ ?_))⟩
    refine Aw_tx hE [0,3,4,6,7,8] [700,701,710,711,712,713,714,720,721,722,723,724] fun K hK=>?_
    simp only [go_sem,seval]
    repeat refine sd0 ?_
    refine hK _ (hN9 (3,upd (upd r 0 2 v) 2 0 (mirr v)) _ ⟨by omega,by omega,upd_len (upd_len hr)⟩ (by simp only;omega) (Le_wc (by simp only [go_sem,seval,upd]) (by simp only [go_sem,seval,upd])))
   ·refine Aw_st hE [0,3,4,6,7,8,9,53] [700,701,710,711,712,713,714,720,721,722,723,724] fun K hK=>?_
    simp only [go_sem,seval]
    refine ⟨fun hg23=>⟨by omega,fun y hy1 hy2=>?_⟩,fun hg23=>?_⟩
    ·refine hK _ (Aw_cond rfl (fun hc24=>?_) (fun hc24=>?_))
     ·refine Aw_tx hE [0,3,4,6,7,8,9] [700,701,710,711,712,713,714,720,721,722,723,724] fun K hK=>?_
      simp only [go_sem,seval]
      exact hK _ (hB13 3 _ ⟨by decide,by decide⟩ (LeE_of (Le_wa)))
     ·exact Aw_skip (hB13 v _ ⟨hv1,hv2⟩ (LeE_of (Le_wa)))
    ·exact hK _ (Aw_no rfl (Aw_skip (hB13 v _ ⟨hv1,hv2⟩ (LeE_of (Le_wa)))))
  ·refine Aw_st hE [0,3,4,6,7,8,40] [700,701,710,711,712,713,714,720,721,722,723,724] fun K hK=>?_
   simp only [go_sem,seval]
   refine hK _ (Aw_yes rfl (Aw_skip (hB10 _ ?_)))
   refine Aw_sq fun B11 hB11 hR11 hX11=>?_
   refine Aw_bk fun B12 hN12 hE12 hR12 hX12=>?_
   refine Aw_st hE [0,3,4,6,7,8,9] [700,701,710,711,712,713,714,720,721,722,723,724] fun K hK=>?_
   refine aops_cut 3 fun K1 hK1=>?_
   simp only [go_sem,seval]
   repeat refine sd0 ?_
   intro x hx1 hx2
   obtain ⟨v,hv,hv1,hv2⟩:=pick4 x hx1 hx2
   refine hK1 _ ?_
   clear hK1
   simp only [go_sem,seval,hv]
   repeat refine sd0 ?_
   refine hK _ ?_;clear hK K
   refine Aw_sqJ (fun v:Int=>⟨111,[(0,.rd),(3,iv 4),(4,.xs 700 0 4 (c + 4) 1),(6,bv bb),(7,iv 0),(8,iv 3),(9,iv v)],(700,vws 4 d 710 4++jN c)::bxs 4 d r 710 4,k + 8⟩) (fun v=>0≤v∧v≤3) (fun v hv=>?_) fun B13 hB13 hR13 hX13=>?_
   ·have hs1:=cI_set (r 0) (d 0) 3 v (by omega)
    have hs2:=fun y=>cI_set (r 3) (d 3) 0 y (by omega)
    obtain ⟨hv1,hv2⟩:=hv
    refine Aw_st hE [0,3,4,6,7,8,9] [700,701,710,711,712,713,714,720,721,722,723,724] fun K hK=>?_
    simp only [go_sem,seval,hs1]
    refine ⟨by omega,?_⟩
    refine hK _ ?_;clear hK K
    refine Aw_td hE [0,3,4,6,7,8] [700,701,710,711,712,713,714,720,721,722,723,724] 6 (by kernel_rfl) fun K hK=>?_
    simp only [go_sem,seval,hs2,hv1,hv2]
    refine ⟨by omega,hK _ (hN12 _ (hB11 _ ?_))⟩
    refine Aw_tx hE [0,3,4,6,7,8] [700,701,710,711,712,713,714,720,721,722,723,724] fun K hK=>?_
    simp only [go_sem,seval]
    repeat refine sd0 ?_
    refine hK _ (hN9 (4,upd (upd r 0 3 v) 3 0 (mirr v)) _ ⟨by omega,by omega,upd_len (upd_len hr)⟩ (by simp only;omega) (Le_wc (by simp only [go_sem,seval,upd]) (by simp only [go_sem,seval,upd])))
   ·refine Aw_st hE [0,3,4,6,7,8,9,53] [700,701,710,711,712,713,714,720,721,722,723,724] fun K hK=>?_
    simp only [go_sem,seval]
    refine ⟨fun hg23=>⟨by omega,fun y hy1 hy2=>?_⟩,fun hg23=>?_⟩
    ·refine hK _ (Aw_cond rfl (fun hc24=>?_) (fun hc24=>?_))
     ·refine Aw_tx hE [0,3,4,6,7,8,9] [700,701,710,711,712,713,714,720,721,722,723,724] fun K hK=>?_
      simp only [go_sem,seval]
      exact hK _ (hB13 3 _ ⟨by decide,by decide⟩ (LeE_of (Le_wa)))
     ·exact Aw_skip (hB13 v _ ⟨hv1,hv2⟩ (LeE_of (Le_wa)))
    ·exact hK _ (Aw_no rfl (Aw_skip (hB13 v _ ⟨hv1,hv2⟩ (LeE_of (Le_wa)))))
 ·refine Aw_st hE [0,3,4,6,7,33] [700,701,710,711,712,713,714,720,721,722,723,724] fun K hK=>?_
  simp only [go_sem,seval]
  refine hK _ (Aw_yes rfl (Aw_skip (hB4 _ ?_)))
  refine Aw_sq fun B6 hB6 hR6 hX6=>?_
  refine Aw_bk fun B7 hN7 hE7 hR7 hX7=>?_
  refine Aw_st hE [0,3,4,6,7,8] [700,701,710,711,712,713,714,720,721,722,723,724] fun K hK=>?_
  simp only [go_sem,seval]
  refine hK _ ?_;clear hK K
  refine Aw_bk fun B8 hN8 hE8 hR8 hX8=>?_
  refine Aw_lp (fun i:Nat × (Nat→List Int)=>⟨111,[(0,.rd),(3,iv 4),(4,.xs 700 0 4 (c + 4) 1),(6,bv bb),(7,iv 1),(8,iv (i.1:Int))],(700,vws 4 d 710 4++jN c)::bxs 4 d i.2 710 4,k + 4 + 2 * i.1⟩) (fun i=>2≤i.1∧i.1≤4∧∀ x,(i.2 x).length=4) (fun i=>4 - i.1) (2,r) (Le_wa) ⟨by omega,by omega,hr⟩ fun i hi B9 hN9 hR9 hX9=>?_
  obtain ⟨b,r⟩:=i
  obtain ⟨hi1,hi2,hr⟩:=hi
  simp only at hi1 hi2 hr
  have hr0:=hr 0
  have hr1:=hr 1
  have hr2:=hr 2
  have hr3:=hr 3
  refine Aw_sq fun B10 hB10 hR10 hX10=>?_
  rcases (show b=4∨b=2∨b=3 by omega) with rfl | rfl | rfl
  ·refine Aw_st hE [0,3,4,6,7,8,40] [700,701,710,711,712,713,714,720,721,722,723,724] fun K hK=>?_
   simp only [go_sem,seval]
   refine hK _ (Aw_no rfl (Aw_exit (hX10 _ _ (hX9 _ _ (hE8 _ ?_)))))
   refine hN7 _ (hB6 _ ?_)
   refine Aw_tx hE [0,3,4,6,7] [700,701,710,711,712,713,714,720,721,722,723,724] fun K hK=>?_
   simp only [go_sem,seval]
   repeat refine sd0 ?_
   refine hK _ (hN3 (2,r) _ ⟨by omega,hr⟩ (by simp only;omega) (Le_wa))
  ·refine Aw_st hE [0,3,4,6,7,8,40] [700,701,710,711,712,713,714,720,721,722,723,724] fun K hK=>?_
   simp only [go_sem,seval]
   refine hK _ (Aw_yes rfl (Aw_skip (hB10 _ ?_)))
   refine Aw_sq fun B11 hB11 hR11 hX11=>?_
   refine Aw_bk fun B12 hN12 hE12 hR12 hX12=>?_
   refine Aw_st hE [0,3,4,6,7,8,9] [700,701,710,711,712,713,714,720,721,722,723,724] fun K hK=>?_
   refine aops_cut 3 fun K1 hK1=>?_
   simp only [go_sem,seval]
   repeat refine sd0 ?_
   intro x hx1 hx2
   obtain ⟨v,hv,hv1,hv2⟩:=pick4 x hx1 hx2
   refine hK1 _ ?_
   clear hK1
   simp only [go_sem,seval,hv]
   repeat refine sd0 ?_
   refine hK _ ?_;clear hK K
   refine Aw_sqJ (fun v:Int=>⟨111,[(0,.rd),(3,iv 4),(4,.xs 700 0 4 (c + 4) 1),(6,bv bb),(7,iv 1),(8,iv 2),(9,iv v)],(700,vws 4 d 710 4++jN c)::bxs 4 d r 710 4,k + 10⟩) (fun v=>0≤v∧v≤3) (fun v hv=>?_) fun B13 hB13 hR13 hX13=>?_
   ·have hs1:=cI_set (r 1) (d 1) 2 v (by omega)
    have hs2:=fun y=>cI_set (r 2) (d 2) 1 y (by omega)
    obtain ⟨hv1,hv2⟩:=hv
    refine Aw_st hE [0,3,4,6,7,8,9] [700,701,710,711,712,713,714,720,721,722,723,724] fun K hK=>?_
    simp only [go_sem,seval,hs1]
    refine ⟨by omega,?_⟩
    refine hK _ ?_;clear hK K
    refine Aw_td hE [0,3,4,6,7,8] [700,701,710,711,712,713,714,720,721,722,723,724] 6 (by kernel_rfl) fun K hK=>?_
    simp only [go_sem,seval,hs2,hv1,hv2]
    refine ⟨by omega,hK _ (hN12 _ (hB11 _ ?_))⟩
    refine Aw_tx hE [0,3,4,6,7,8] [700,701,710,711,712,713,714,720,721,722,723,724] fun K hK=>?_
    simp only [go_sem,seval]
    repeat refine sd0 ?_
    refine hK _ (hN9 (3,upd (upd r 1 2 v) 2 1 (mirr v)) _ ⟨by omega,by omega,upd_len (upd_len hr)⟩ (by simp only;omega) (Le_wc (by simp only [go_sem,seval,upd]) (by simp only [go_sem,seval,upd])))
   ·refine Aw_st hE [0,3,4,6,7,8,9,53] [700,701,710,711,712,713,714,720,721,722,723,724] fun K hK=>?_
    simp only [go_sem,seval]
    refine ⟨fun hg23=>⟨by omega,fun y hy1 hy2=>?_⟩,fun hg23=>?_⟩
    ·refine hK _ (Aw_cond rfl (fun hc24=>?_) (fun hc24=>?_))
     ·refine Aw_tx hE [0,3,4,6,7,8,9] [700,701,710,711,712,713,714,720,721,722,723,724] fun K hK=>?_
      simp only [go_sem,seval]
      exact hK _ (hB13 3 _ ⟨by decide,by decide⟩ (LeE_of (Le_wa)))
     ·exact Aw_skip (hB13 v _ ⟨hv1,hv2⟩ (LeE_of (Le_wa)))
    ·exact hK _ (Aw_no rfl (Aw_skip (hB13 v _ ⟨hv1,hv2⟩ (LeE_of (Le_wa)))))
  ·refine Aw_st hE [0,3,4,6,7,8,40] [700,701,710,711,712,713,714,720,721,722,723,724] fun K hK=>?_
   simp only [go_sem,seval]
   refine hK _ (Aw_yes rfl (Aw_skip (hB10 _ ?_)))
   refine Aw_sq fun B11 hB11 hR11 hX11=>?_
   refine Aw_bk fun B12 hN12 hE12 hR12 hX12=>?_
   refine Aw_st hE [0,3,4,6,7,8,9] [700,701,710,711,712,713,714,720,721,722,723,724] fun K hK=>?_
   refine aops_cut 3 fun K1 hK1=>?_
   simp only [go_sem,seval]
   repeat refine sd0 ?_
   intro x hx1 hx2
   obtain ⟨v,hv,hv1,hv2⟩:=pick4 x hx1 hx2
   refine hK1 _ ?_
   clear hK1
   simp only [go_sem,seval,hv]
   repeat refine sd0 ?_
   refine hK _ ?_;clear hK K
   refine Aw_sqJ (fun v:Int=>⟨111,[(0,.rd),(3,iv 4),(4,.xs 700 0 4 (c + 4) 1),(6,bv bb),(7,iv 1),(8,iv 3),(9,iv v)],(700,vws 4 d 710 4++jN c)::bxs 4 d r 710 4,k + 12⟩) (fun v=>0≤v∧v≤3) (fun v hv=>?_) fun B13 hB13 hR13 hX13=>?_
   ·have hs1:=cI_set (r 1) (d 1) 3 v (by omega)
    have hs2:=fun y=>cI_set (r 3) (d 3) 1 y (by omega)
    obtain ⟨hv1,hv2⟩:=hv
    refine Aw_st hE [0,3,4,6,7,8,9] [700,701,710,711,712,713,714,720,721,722,723,724] fun K hK=>?_
    simp only [go_sem,seval,hs1]
    refine ⟨by omega,?_⟩
    refine hK _ ?_;clear hK K
    refine Aw_td hE [0,3,4,6,7,8] [700,701,710,711,712,713,714,720,721,722,723,724] 6 (by kernel_rfl) fun K hK=>?_
    simp only [go_sem,seval,hs2,hv1,hv2]
    refine ⟨by omega,hK _ (hN12 _ (hB11 _ ?_))⟩
    refine Aw_tx hE [0,3,4,6,7,8] [700,701,710,711,712,713,714,720,721,722,723,724] fun K hK=>?_
    simp only [go_sem,seval]
    repeat refine sd0 ?_
    refine hK _ (hN9 (4,upd (upd r 1 3 v) 3 1 (mirr v)) _ ⟨by omega,by omega,upd_len (upd_len hr)⟩ (by simp only;omega) (Le_wc (by simp only [go_sem,seval,upd]) (by simp only [go_sem,seval,upd])))
   ·refine Aw_st hE [0,3,4,6,7,8,9,53] [700,701,710,711,712,713,714,720,721,722,723,724] fun K hK=>?_
    simp only [go_sem,seval]
    refine ⟨fun hg23=>⟨by omega,fun y hy1 hy2=>?_⟩,fun hg23=>?_⟩
    ·refine hK _ (Aw_cond rfl (fun hc24=>?_) (fun hc24=>?_))
     ·refine Aw_tx hE [0,3,4,6,7,8,9] [700,701,710,711,712,713,714,720,721,722,723,724] fun K hK=>?_
      simp only [go_sem,seval]
      exact hK _ (hB13 3 _ ⟨by decide,by decide⟩ (LeE_of (Le_wa)))
     ·exact Aw_skip (hB13 v _ ⟨hv1,hv2⟩ (LeE_of (Le_wa)))
    ·exact hK _ (Aw_no rfl (Aw_skip (hB13 v _ ⟨hv1,hv2⟩ (LeE_of (Le_wa)))))
 ·refine Aw_st hE [0,3,4,6,7,33] [700,701,710,711,712,713,714,720,721,722,723,724] fun K hK=>?_
  simp only [go_sem,seval]
  refine hK _ (Aw_yes rfl (Aw_skip (hB4 _ ?_)))
  refine Aw_sq fun B6 hB6 hR6 hX6=>?_
  refine Aw_bk fun B7 hN7 hE7 hR7 hX7=>?_
  refine Aw_st hE [0,3,4,6,7,8] [700,701,710,711,712,713,714,720,721,722,723,724] fun K hK=>?_
  simp only [go_sem,seval]
  refine hK _ ?_;clear hK K
  refine Aw_bk fun B8 hN8 hE8 hR8 hX8=>?_
  refine Aw_lp (fun i:Nat × (Nat→List Int)=>⟨111,[(0,.rd),(3,iv 4),(4,.xs 700 0 4 (c + 4) 1),(6,bv bb),(7,iv 2),(8,iv (i.1:Int))],(700,vws 4 d 710 4++jN c)::bxs 4 d i.2 710 4,k + 6 + 2 * i.1⟩) (fun i=>3≤i.1∧i.1≤4∧∀ x,(i.2 x).length=4) (fun i=>4 - i.1) (3,r) (Le_wa) ⟨by omega,by omega,hr⟩ fun i hi B9 hN9 hR9 hX9=>?_
  obtain ⟨b,r⟩:=i
  obtain ⟨hi1,hi2,hr⟩:=hi
  simp only at hi1 hi2 hr
  have hr0:=hr 0
  have hr1:=hr 1
  have hr2:=hr 2
  have hr3:=hr 3
  refine Aw_sq fun B10 hB10 hR10 hX10=>?_
  rcases (show b=4∨b=3 by omega) with rfl | rfl
  ·refine Aw_st hE [0,3,4,6,7,8,40] [700,701,710,711,712,713,714,720,721,722,723,724] fun K hK=>?_
   simp only [go_sem,seval]
   refine hK _ (Aw_no rfl (Aw_exit (hX10 _ _ (hX9 _ _ (hE8 _ ?_)))))
   refine hN7 _ (hB6 _ ?_)
   refine Aw_tx hE [0,3,4,6,7] [700,701,710,711,712,713,714,720,721,722,723,724] fun K hK=>?_
   simp only [go_sem,seval]
   repeat refine sd0 ?_
   refine hK _ (hN3 (3,r) _ ⟨by omega,hr⟩ (by simp only;omega) (Le_wa))
  ·refine Aw_st hE [0,3,4,6,7,8,40] [700,701,710,711,712,713,714,720,721,722,723,724] fun K hK=>?_
   simp only [go_sem,seval]
   refine hK _ (Aw_yes rfl (Aw_skip (hB10 _ ?_)))
   refine Aw_sq fun B11 hB11 hR11 hX11=>?_
   refine Aw_bk fun B12 hN12 hE12 hR12 hX12=>?_
   refine Aw_st hE [0,3,4,6,7,8,9] [700,701,710,711,712,713,714,720,721,722,723,724] fun K hK=>?_
   refine aops_cut 3 fun K1 hK1=>?_
   simp only [go_sem,seval]
   repeat refine sd0 ?_
   intro x hx1 hx2
   obtain ⟨v,hv,hv1,hv2⟩:=pick4 x hx1 hx2
   refine hK1 _ ?_
   clear hK1
   simp only [go_sem,seval,hv]
   repeat refine sd0 ?_
   refine hK _ ?_;clear hK K
   refine Aw_sqJ (fun v:Int=>⟨111,[(0,.rd),(3,iv 4),(4,.xs 700 0 4 (c + 4) 1),(6,bv bb),(7,iv 2),(8,iv 3),(9,iv v)],(700,vws 4 d 710 4++jN c)::bxs 4 d r 710 4,k + 14⟩) (fun v=>0≤v∧v≤3) (fun v hv=>?_) fun B13 hB13 hR13 hX13=>?_
   ·have hs1:=cI_set (r 2) (d 2) 3 v (by omega)
    have hs2:=fun y=>cI_set (r 3) (d 3) 2 y (by omega)
    obtain ⟨hv1,hv2⟩:=hv
    refine Aw_st hE [0,3,4,6,7,8,9] [700,701,710,711,712,713,714,720,721,722,723,724] fun K hK=>?_
    simp only [go_sem,seval,hs1]
    refine ⟨by omega,?_⟩
    refine hK _ ?_;clear hK K
    refine Aw_td hE [0,3,4,6,7,8] [700,701,710,711,712,713,714,720,721,722,723,724] 6 (by kernel_rfl) fun K hK=>?_
    simp only [go_sem,seval,hs2,hv1,hv2]
    refine ⟨by omega,hK _ (hN12 _ (hB11 _ ?_))⟩
    refine Aw_tx hE [0,3,4,6,7,8] [700,701,710,711,712,713,714,720,721,722,723,724] fun K hK=>?_
    simp only [go_sem,seval]
    repeat refine sd0 ?_
    refine hK _ (hN9 (4,upd (upd r 2 3 v) 3 2 (mirr v)) _ ⟨by omega,by omega,upd_len (upd_len hr)⟩ (by simp only;omega) (Le_wc (by simp only [go_sem,seval,upd]) (by simp only [go_sem,seval,upd])))
   ·refine Aw_st hE [0,3,4,6,7,8,9,53] [700,701,710,711,712,713,714,720,721,722,723,724] fun K hK=>?_
    simp only [go_sem,seval]
    refine ⟨fun hg23=>⟨by omega,fun y hy1 hy2=>?_⟩,fun hg23=>?_⟩
    ·refine hK _ (Aw_cond rfl (fun hc24=>?_) (fun hc24=>?_))
     ·refine Aw_tx hE [0,3,4,6,7,8,9] [700,701,710,711,712,713,714,720,721,722,723,724] fun K hK=>?_
      simp only [go_sem,seval]
      exact hK _ (hB13 3 _ ⟨by decide,by decide⟩ (LeE_of (Le_wa)))
     ·exact Aw_skip (hB13 v _ ⟨hv1,hv2⟩ (LeE_of (Le_wa)))
    ·exact hK _ (Aw_no rfl (Aw_skip (hB13 v _ ⟨hv1,hv2⟩ (LeE_of (Le_wa)))))
 ·refine Aw_st hE [0,3,4,6,7,33] [700,701,710,711,712,713,714,720,721,722,723,724] fun K hK=>?_
  simp only [go_sem,seval]
  refine hK _ (Aw_yes rfl (Aw_skip (hB4 _ ?_)))
  refine Aw_sq fun B6 hB6 hR6 hX6=>?_
  refine Aw_bk fun B7 hN7 hE7 hR7 hX7=>?_
  refine Aw_st hE [0,3,4,6,7,8] [700,701,710,711,712,713,714,720,721,722,723,724] fun K hK=>?_
  simp only [go_sem,seval]
  refine hK _ ?_;clear hK K
  refine Aw_bk fun B8 hN8 hE8 hR8 hX8=>?_
  refine Aw_lp (fun i:Nat × (Nat→List Int)=>⟨111,[(0,.rd),(3,iv 4),(4,.xs 700 0 4 (c + 4) 1),(6,bv bb),(7,iv 3),(8,iv (i.1:Int))],(700,vws 4 d 710 4++jN c)::bxs 4 d i.2 710 4,k + 6 + 2 * i.1⟩) (fun i=>4≤i.1∧i.1≤4∧∀ x,(i.2 x).length=4) (fun i=>4 - i.1) (4,r) (Le_wa) ⟨by omega,by omega,hr⟩ fun i hi B9 hN9 hR9 hX9=>?_
  obtain ⟨b,r⟩:=i
  obtain ⟨hi1,hi2,hr⟩:=hi
  simp only at hi1 hi2 hr
  have hr0:=hr 0
  have hr1:=hr 1
  have hr2:=hr 2
  have hr3:=hr 3
  refine Aw_sq fun B10 hB10 hR10 hX10=>?_
  obtain rfl:b=4:=by omega
  ·refine Aw_st hE [0,3,4,6,7,8,40] [700,701,710,711,712,713,714,720,721,722,723,724] fun K hK=>?_
   simp only [go_sem,seval]
   refine hK _ (Aw_no rfl (Aw_exit (hX10 _ _ (hX9 _ _ (hE8 _ ?_)))))
   refine hN7 _ (hB6 _ ?_)
   refine Aw_tx hE [0,3,4,6,7] [700,701,710,711,712,713,714,720,721,722,723,724] fun K hK=>?_
   simp only [go_sem,seval]
   repeat refine sd0 ?_
   refine hK _ (hN3 (4,r) _ ⟨by omega,hr⟩ (by simp only;omega) (Le_wa))
set_option maxHeartbeats 16000000 in
theorem relsB5 {E:En} (hE:TbOk E tbRels) {k:Nat} (hk:k + 40≤1099511627776) {Q:Exit→St→Prop} (hQ:∀ (L:List (List Int)) (rn:Nat),(2≤L.length∧L.length≤5)→(∀ w ∈ L,w.length=L.length)→rn≤k + 40→Aw E .ret ⟨111,[(2,wsl L)],[],rn⟩ Q) {r:Nat→List Int} (hr:∀ q,(r q).length=5) {d:Nat→Nat} {c:Nat}:Aw E (seqB (seqB (seqB (seqB (Tryd.f30.body.getD .skip))))) ⟨111,[(0,.rd),(3,iv 5),(4,.xs 700 0 5 (c + 5) 1)],(700,vws 5 d 710 5++jN c)::bxs 5 d r 710 5,k + 1⟩ Q:=by
 refine Aw_st hE [0,3,4,6] [700,701,710,711,712,713,714,720,721,722,723,724] fun K hK=>?_
 simp only [go_sem,seval]
 refine ⟨by omega,fun x hx1 hx2=>?_⟩
 generalize decide (x=0)=bb
 refine hK _ ?_;clear hK K
 refine Aw_sqJ (fun i:(Nat→List Int) × Nat=>⟨111,[(0,.rd),(3,iv 5),(4,.xs 700 0 5 (c + 5) 1)],(700,vws 5 d 710 5++jN c)::bxs 5 d i.1 710 5,i.2⟩) (fun i=>(∀ x,(i.1 x).length=5)∧i.2≤k + 29) (fun i hi=>relsR5 hE hk hQ hi.1 hi.2) fun B1 hB1 hR1 hX1=>?_
 refine Aw_st hE [0,3,4,6,7] [700,701,710,711,712,713,714,720,721,722,723,724] fun K hK=>?_
 simp only [go_sem,seval]
 refine hK _ ?_;clear hK K
 refine Aw_bk fun B2 hN2 hE2 hR2 hX2=>?_
 refine Aw_lp (fun i:Nat × (Nat→List Int)=>⟨111,[(0,.rd),(3,iv 5),(4,.xs 700 0 5 (c + 5) 1),(6,bv bb),(7,iv (i.1:Int))],(700,vws 5 d 710 5++jN c)::bxs 5 d i.2 710 5,k + 2 + i.1 * (9 - i.1)⟩) (fun i=>i.1≤5∧∀ x,(i.2 x).length=5) (fun i=>5 - i.1) (0,r) (Le_wa) ⟨by omega,hr⟩ fun i hi B3 hN3 hR3 hX3=>?_
 obtain ⟨a,r⟩:=i
 obtain ⟨hi,hr⟩:=hi
 simp only at hi hr
 refine Aw_sq fun B4 hB4 hR4 hX4=>?_
 rcases (show a=5∨a=0∨a=1∨a=2∨a=3∨a=4 by omega) with rfl | rfl | rfl | rfl | rfl | rfl
 ·refine Aw_st hE [0,3,4,6,7,33] [700,701,710,711,712,713,714,720,721,722,723,724] fun K hK=>?_
  simp only [go_sem,seval]
  refine hK _ (Aw_no rfl (Aw_exit (hX4 _ _ (hX3 _ _ (hE2 _ (hB1 (r,k + 29) _ ⟨hr,by simp only;omega⟩ (LeE_of (Le_wa))))))))
 ·refine Aw_st hE [0,3,4,6,7,33] [700,701,710,711,712,713,714,720,721,722,723,724] fun K hK=>?_
  simp only [go_sem,seval]
  refine hK _ (Aw_yes rfl (Aw_skip (hB4 _ ?_)))
  refine Aw_sq fun B6 hB6 hR6 hX6=>?_
  refine Aw_bk fun B7 hN7 hE7 hR7 hX7=>?_
  refine Aw_st hE [0,3,4,6,7,8] [700,701,710,711,712,713,714,720,721,722,723,724] fun K hK=>?_
  simp only [go_sem,seval]
  refine hK _ ?_;clear hK K
  refine Aw_bk fun B8 hN8 hE8 hR8 hX8=>?_
  refine Aw_lp (fun i:Nat × (Nat→List Int)=>⟨111,[(0,.rd),(3,iv 5),(4,.xs 700 0 5 (c + 5) 1),(6,bv bb),(7,iv 0),(8,iv (i.1:Int))],(700,vws 5 d 710 5++jN c)::bxs 5 d i.2 710 5,k + 0 + 2 * i.1⟩) (fun i=>1≤i.1∧i.1≤5∧∀ x,(i.2 x).length=5) (fun i=>5 - i.1) (1,r) (Le_wa) ⟨by omega,by omega,hr⟩ fun i hi B9 hN9 hR9 hX9=>?_
  obtain ⟨b,r⟩:=i
  obtain ⟨hi1,hi2,hr⟩:=hi
  simp only at hi1 hi2 hr
  have hr0:=hr 0
  have hr1:=hr 1
  have hr2:=hr 2
  have hr3:=hr 3
  have hr4:=hr 4
  refine Aw_sq fun B10 hB10 hR10 hX10=>?_
  rcases (show b=5∨b=1∨b=2∨b=3∨b=4 by omega) with rfl | rfl | rfl | rfl | rfl
  ·refine Aw_st hE [0,3,4,6,7,8,40] [700,701,710,711,712,713,714,720,721,722,723,724] fun K hK=>?_
   simp only [go_sem,seval]
   refine hK _ (Aw_no rfl (Aw_exit (hX10 _ _ (hX9 _ _ (hE8 _ ?_)))))
   refine hN7 _ (hB6 _ ?_)
   refine Aw_tx hE [0,3,4,6,7] [700,701,710,711,712,713,714,720,721,722,723,724] fun K hK=>?_
   simp only [go_sem,seval]
   repeat refine sd0 ?_
   refine hK _ (hN3 (1,r) _ ⟨by omega,hr⟩ (by simp only;omega) (Le_wa))
  ·refine Aw_st hE [0,3,4,6,7,8,40] [700,701,710,711,712,713,714,720,721,722,723,724] fun K hK=>?_
   simp only [go_sem,seval]
   refine hK _ (Aw_yes rfl (Aw_skip (hB10 _ ?_)))
   refine Aw_sq fun B11 hB11 hR11 hX11=>?_
   refine Aw_bk fun B12 hN12 hE12 hR12 hX12=>?_
   refine Aw_st hE [0,3,4,6,7,8,9] [700,701,710,711,712,713,714,720,721,722,723,724] fun K hK=>?_
   refine aops_cut 3 fun K1 hK1=>?_
   simp only [go_sem,seval]
   repeat refine sd0 ?_
   intro x hx1 hx2
   obtain ⟨v,hv,hv1,hv2⟩:=pick4 x hx1 hx2
   refine hK1 _ ?_
   clear hK1
   simp only [go_sem,seval,hv]
   repeat refine sd0 ?_
   refine hK _ ?_;clear hK K
   refine Aw_sqJ (fun v:Int=>⟨111,[(0,.rd),(3,iv 5),(4,.xs 700 0 5 (c + 5) 1),(6,bv bb),(7,iv 0),(8,iv 1),(9,iv v)],(700,vws 5 d 710 5++jN c)::bxs 5 d r 710 5,k + 4⟩) (fun v=>0≤v∧v≤3) (fun v hv=>?_) fun B13 hB13 hR13 hX13=>?_
   ·have hs1:=cI_set (r 0) (d 0) 1 v (by omega)
    have hs2:=fun y=>cI_set (r 1) (d 1) 0 y (by omega)
    obtain ⟨hv1,hv2⟩:=hv
    refine Aw_st hE [0,3,4,6,7,8,9] [700,701,710,711,712,713,714,720,721,722,723,724] fun K hK=>?_
    simp only [go_sem,seval,hs1]
    refine ⟨by omega,?_⟩
    refine hK _ ?_;clear hK K
    refine Aw_td hE [0,3,4,6,7,8] [700,701,710,711,712,713,714,720,721,722,723,724] 6 (by kernel_rfl) fun K hK=>?_
    simp only [go_sem,seval,hs2,hv1,hv2]
    refine ⟨by omega,hK _ (hN12 _ (hB11 _ ?_))⟩
    refine Aw_tx hE [0,3,4,6,7,8] [700,701,710,711,712,713,714,720,721,722,723,724] fun K hK=>?_
    simp only [go_sem,seval]
    repeat refine sd0 ?_
    refine hK _ (hN9 (2,upd (upd r 0 1 v) 1 0 (mirr v)) _ ⟨by omega,by omega,upd_len (upd_len hr)⟩ (by simp only;omega) (Le_wc (by simp only [go_sem,seval,upd]) (by simp only [go_sem,seval,upd])))
   ·refine Aw_st hE [0,3,4,6,7,8,9,53] [700,701,710,711,712,713,714,720,721,722,723,724] fun K hK=>?_
    simp only [go_sem,seval]
    refine ⟨fun hg23=>⟨by omega,fun y hy1 hy2=>?_⟩,fun hg23=>?_⟩
    ·refine hK _ (Aw_cond rfl (fun hc24=>?_) (fun hc24=>?_))
     ·refine Aw_tx hE [0,3,4,6,7,8,9] [700,701,710,711,712,713,714,720,721,722,723,724] fun K hK=>?_
      simp only [go_sem,seval]
      exact hK _ (hB13 3 _ ⟨by decide,by decide⟩ (LeE_of (Le_wa)))
     ·exact Aw_skip (hB13 v _ ⟨hv1,hv2⟩ (LeE_of (Le_wa)))
    ·exact hK _ (Aw_no rfl (Aw_skip (hB13 v _ ⟨hv1,hv2⟩ (LeE_of (Le_wa)))))
  ·refine Aw_st hE [0,3,4,6,7,8,40] [700,701,710,711,712,713,714,720,721,722,723,724] fun K hK=>?_
   simp only [go_sem,seval]
   refine hK _ (Aw_yes rfl (Aw_skip (hB10 _ ?_)))
   refine Aw_sq fun B11 hB11 hR11 hX11=>?_
   refine Aw_bk fun B12 hN12 hE12 hR12 hX12=>?_
   refine Aw_st hE [0,3,4,6,7,8,9] [700,701,710,711,712,713,714,720,721,722,723,724] fun K hK=>?_
   refine aops_cut 3 fun K1 hK1=>?_
   simp only [go_sem,seval]
   repeat refine sd0 ?_
   intro x hx1 hx2
   obtain ⟨v,hv,hv1,hv2⟩:=pick4 x hx1 hx2
   refine hK1 _ ?_
   clear hK1
   simp only [go_sem,seval,hv]
   repeat refine sd0 ?_
   refine hK _ ?_;clear hK K
   refine Aw_sqJ (fun v:Int=>⟨111,[(0,.rd),(3,iv 5),(4,.xs 700 0 5 (c + 5) 1),(6,bv bb),(7,iv 0),(8,iv 2),(9,iv v)],(700,vws 5 d 710 5++jN c)::bxs 5 d r 710 5,k + 6⟩) (fun v=>0≤v∧v≤3) (fun v hv=>?_) fun B13 hB13 hR13 hX13=>?_
   ·have hs1:=cI_set (r 0) (d 0) 2 v (by omega)
    have hs2:=fun y=>cI_set (r 2) (d 2) 0 y (by omega)
    obtain ⟨hv1,hv2⟩:=hv
    refine Aw_st hE [0,3,4,6,7,8,9] [700,701,710,711,712,713,714,720,721,722,723,724] fun K hK=>?_
    simp only [go_sem,seval,hs1]
    refine ⟨by omega,?_⟩
    refine hK _ ?_;clear hK K
    refine Aw_td hE [0,3,4,6,7,8] [700,701,710,711,712,713,714,720,721,722,723,724] 6 (by kernel_rfl) fun K hK=>?_
    simp only [go_sem,seval,hs2,hv1,hv2]
    refine ⟨by omega,hK _ (hN12 _ (hB11 _ ?_))⟩
    refine Aw_tx hE [0,3,4,6,7,8] [700,701,710,711,712,713,714,720,721,722,723,724] fun K hK=>?_
    simp only [go_sem,seval]
    repeat refine sd0 ?_
    refine hK _ (hN9 (3,upd (upd r 0 2 v) 2 0 (mirr v)) _ ⟨by omega,by omega,upd_len (upd_len hr)⟩ (by simp only;omega) (Le_wc (by simp only [go_sem,seval,upd]) (by simp only [go_sem,seval,upd])))
   ·refine Aw_st hE [0,3,4,6,7,8,9,53] [700,701,710,711,712,713,714,720,721,722,723,724] fun K hK=>?_
    simp only [go_sem,seval]
    refine ⟨fun hg23=>⟨by omega,fun y hy1 hy2=>?_⟩,fun hg23=>?_⟩
    ·refine hK _ (Aw_cond rfl (fun hc24=>?_) (fun hc24=>?_))
     ·refine Aw_tx hE [0,3,4,6,7,8,9] [700,701,710,711,712,713,714,720,721,722,723,724] fun K hK=>?_
      simp only [go_sem,seval]
      exact hK _ (hB13 3 _ ⟨by decide,by decide⟩ (LeE_of (Le_wa)))
     ·exact Aw_skip (hB13 v _ ⟨hv1,hv2⟩ (LeE_of (Le_wa)))
    ·exact hK _ (Aw_no rfl (Aw_skip (hB13 v _ ⟨hv1,hv2⟩ (LeE_of (Le_wa)))))
  ·refine Aw_st hE [0,3,4,6,7,8,40] [700,701,710,711,712,713,714,720,721,722,723,724] fun K hK=>?_
   simp only [go_sem,seval]
   refine hK _ (Aw_yes rfl (Aw_skip (hB10 _ ?_)))
   refine Aw_sq fun B11 hB11 hR11 hX11=>?_
   refine Aw_bk fun B12 hN12 hE12 hR12 hX12=>?_
   refine Aw_st hE [0,3,4,6,7,8,9] [700,701,710,711,712,713,714,720,721,722,723,724] fun K hK=>?_
   refine aops_cut 3 fun K1 hK1=>?_
   simp only [go_sem,seval]
   repeat refine sd0 ?_
   intro x hx1 hx2
   obtain ⟨v,hv,hv1,hv2⟩:=pick4 x hx1 hx2
   refine hK1 _ ?_
   clear hK1
   simp only [go_sem,seval,hv]
   repeat refine sd0 ?_
   refine hK _ ?_;clear hK K
   refine Aw_sqJ (fun v:Int=>⟨111,[(0,.rd),(3,iv 5),(4,.xs 700 0 5 (c + 5) 1),(6,bv bb),(7,iv 0),(8,iv 3),(9,iv v)],(700,vws 5 d 710 5++jN c)::bxs 5 d r 710 5,k + 8⟩) (fun v=>0≤v∧v≤3) (fun v hv=>?_) fun B13 hB13 hR13 hX13=>?_
   ·have hs1:=cI_set (r 0) (d 0) 3 v (by omega)
    have hs2:=fun y=>cI_set (r 3) (d 3) 0 y (by omega)
    obtain ⟨hv1,hv2⟩:=hv
    refine Aw_st hE [0,3,4,6,7,8,9] [700,701,710,711,712,713,714,720,721,722,723,724] fun K hK=>?_
    simp only [go_sem,seval,hs1]
    refine ⟨by omega,?_⟩
    refine hK _ ?_;clear hK K
    refine Aw_td hE [0,3,4,6,7,8] [700,701,710,711,712,713,714,720,721,722,723,724] 6 (by kernel_rfl) fun K hK=>?_
    simp only [go_sem,seval,hs2,hv1,hv2]
    refine ⟨by omega,hK _ (hN12 _ (hB11 _ ?_))⟩
    refine Aw_tx hE [0,3,4,6,7,8] [700,701,710,711,712,713,714,720,721,722,723,724] fun K hK=>?_
    simp only [go_sem,seval]
    repeat refine sd0 ?_
    refine hK _ (hN9 (4,upd (upd r 0 3 v) 3 0 (mirr v)) _ ⟨by omega,by omega,upd_len (upd_len hr)⟩ (by simp only;omega) (Le_wc (by simp only [go_sem,seval,upd]) (by simp only [go_sem,seval,upd])))
   ·refine Aw_st hE [0,3,4,6,7,8,9,53] [700,701,710,711,712,713,714,720,721,722,723,724] fun K hK=>?_
    simp only [go_sem,seval]
    refine ⟨fun hg23=>⟨by omega,fun y hy1 hy2=>?_⟩,fun hg23=>?_⟩
    ·refine hK _ (Aw_cond rfl (fun hc24=>?_) (fun hc24=>?_))
     ·refine Aw_tx hE [0,3,4,6,7,8,9] [700,701,710,711,712,713,714,720,721,722,723,724] fun K hK=>?_
      simp only [go_sem,seval]
      exact hK _ (hB13 3 _ ⟨by decide,by decide⟩ (LeE_of (Le_wa)))
     ·exact Aw_skip (hB13 v _ ⟨hv1,hv2⟩ (LeE_of (Le_wa)))
    ·exact hK _ (Aw_no rfl (Aw_skip (hB13 v _ ⟨hv1,hv2⟩ (LeE_of (Le_wa)))))
  ·refine Aw_st hE [0,3,4,6,7,8,40] [700,701,710,711,712,713,714,720,721,722,723,724] fun K hK=>?_
   simp only [go_sem,seval]
   refine hK _ (Aw_yes rfl (Aw_skip (hB10 _ ?_)))
   refine Aw_sq fun B11 hB11 hR11 hX11=>?_
   refine Aw_bk fun B12 hN12 hE12 hR12 hX12=>?_
   refine Aw_st hE [0,3,4,6,7,8,9] [700,701,710,711,712,713,714,720,721,722,723,724] fun K hK=>?_
   refine aops_cut 3 fun K1 hK1=>?_
   simp only [go_sem,seval]
   repeat refine sd0 ?_
   intro x hx1 hx2
   obtain ⟨v,hv,hv1,hv2⟩:=pick4 x hx1 hx2
   refine hK1 _ ?_
   clear hK1
   simp only [go_sem,seval,hv]
   repeat refine sd0 ?_
   refine hK _ ?_;clear hK K
   refine Aw_sqJ (fun v:Int=>⟨111,[(0,.rd),(3,iv 5),(4,.xs 700 0 5 (c + 5) 1),(6,bv bb),(7,iv 0),(8,iv 4),(9,iv v)],(700,vws 5 d 710 5++jN c)::bxs 5 d r 710 5,k + 10⟩) (fun v=>0≤v∧v≤3) (fun v hv=>?_) fun B13 hB13 hR13 hX13=>?_
   ·have hs1:=cI_set (r 0) (d 0) 4 v (by omega)
    have hs2:=fun y=>cI_set (r 4) (d 4) 0 y (by omega)
    obtain ⟨hv1,hv2⟩:=hv
    refine Aw_st hE [0,3,4,6,7,8,9] [700,701,710,711,712,713,714,720,721,722,723,724] fun K hK=>?_
    simp only [go_sem,seval,hs1]
    refine ⟨by omega,?_⟩
    refine hK _ ?_;clear hK K
    refine Aw_td hE [0,3,4,6,7,8] [700,701,710,711,712,713,714,720,721,722,723,724] 6 (by kernel_rfl) fun K hK=>?_
    simp only [go_sem,seval,hs2,hv1,hv2]
    refine ⟨by omega,hK _ (hN12 _ (hB11 _ ?_))⟩
    refine Aw_tx hE [0,3,4,6,7,8] [700,701,710,711,712,713,714,720,721,722,723,724] fun K hK=>?_
    simp only [go_sem,seval]
    repeat refine sd0 ?_
    refine hK _ (hN9 (5,upd (upd r 0 4 v) 4 0 (mirr v)) _ ⟨by omega,by omega,upd_len (upd_len hr)⟩ (by simp only;omega) (Le_wc (by simp only [go_sem,seval,upd]) (by simp only [go_sem,seval,upd])))
   ·refine Aw_st hE [0,3,4,6,7,8,9,53] [700,701,710,711,712,713,714,720,721,722,723,724] fun K hK=>?_
    simp only [go_sem,seval]
    refine ⟨fun hg23=>⟨by omega,fun y hy1 hy2=>?_⟩,fun hg23=>?_⟩
    ·refine hK _ (Aw_cond rfl (fun hc24=>?_) (fun hc24=>?_))
     ·refine Aw_tx hE [0,3,4,6,7,8,9] [700,701,710,711,712,713,714,720,721,722,723,724] fun K hK=>?_
      simp only [go_sem,seval]
      exact hK _ (hB13 3 _ ⟨by decide,by decide⟩ (LeE_of (Le_wa)))
     ·exact Aw_skip (hB13 v _ ⟨hv1,hv2⟩ (LeE_of (Le_wa)))
    ·exact hK _ (Aw_no rfl (Aw_skip (hB13 v _ ⟨hv1,hv2⟩ (LeE_of (Le_wa)))))
 ·refine Aw_st hE [0,3,4,6,7,33] [700,701,710,711,712,713,714,720,721,722,723,724] fun K hK=>?_
  simp only [go_sem,seval]
  refine hK _ (Aw_yes rfl (Aw_skip (hB4 _ ?_)))
  refine Aw_sq fun B6 hB6 hR6 hX6=>?_
  refine Aw_bk fun B7 hN7 hE7 hR7 hX7=>?_
  refine Aw_st hE [0,3,4,6,7,8] [700,701,710,711,712,713,714,720,721,722,723,724] fun K hK=>?_
  simp only [go_sem,seval]
  refine hK _ ?_;clear hK K
  refine Aw_bk fun B8 hN8 hE8 hR8 hX8=>?_
  refine Aw_lp (fun i:Nat × (Nat→List Int)=>⟨111,[(0,.rd),(3,iv 5),(4,.xs 700 0 5 (c + 5) 1),(6,bv bb),(7,iv 1),(8,iv (i.1:Int))],(700,vws 5 d 710 5++jN c)::bxs 5 d i.2 710 5,k + 6 + 2 * i.1⟩) (fun i=>2≤i.1∧i.1≤5∧∀ x,(i.2 x).length=5) (fun i=>5 - i.1) (2,r) (Le_wa) ⟨by omega,by omega,hr⟩ fun i hi B9 hN9 hR9 hX9=>?_
  obtain ⟨b,r⟩:=i
  obtain ⟨hi1,hi2,hr⟩:=hi
  simp only at hi1 hi2 hr
  have hr0:=hr 0
  have hr1:=hr 1
  have hr2:=hr 2
  have hr3:=hr 3
  have hr4:=hr 4
  refine Aw_sq fun B10 hB10 hR10 hX10=>?_
  rcases (show b=5∨b=2∨b=3∨b=4 by omega) with rfl | rfl | rfl | rfl
  ·refine Aw_st hE [0,3,4,6,7,8,40] [700,701,710,711,712,713,714,720,721,722,723,724] fun K hK=>?_
   simp only [go_sem,seval]
   refine hK _ (Aw_no rfl (Aw_exit (hX10 _ _ (hX9 _ _ (hE8 _ ?_)))))
   refine hN7 _ (hB6 _ ?_)
   refine Aw_tx hE [0,3,4,6,7] [700,701,710,711,712,713,714,720,721,722,723,724] fun K hK=>?_
   simp only [go_sem,seval]
   repeat refine sd0 ?_
   refine hK _ (hN3 (2,r) _ ⟨by omega,hr⟩ (by simp only;omega) (Le_wa))
  ·refine Aw_st hE [0,3,4,6,7,8,40] [700,701,710,711,712,713,714,720,721,722,723,724] fun K hK=>?_
   simp only [go_sem,seval]
   refine hK _ (Aw_yes rfl (Aw_skip (hB10 _ ?_)))
   refine Aw_sq fun B11 hB11 hR11 hX11=>?_
   refine Aw_bk fun B12 hN12 hE12 hR12 hX12=>?_
   refine Aw_st hE [0,3,4,6,7,8,9] [700,701,710,711,712,713,714,720,721,722,723,724] fun K hK=>?_
   refine aops_cut 3 fun K1 hK1=>?_
   simp only [go_sem,seval]
   repeat refine sd0 ?_
   intro x hx1 hx2
   obtain ⟨v,hv,hv1,hv2⟩:=pick4 x hx1 hx2
   refine hK1 _ ?_
   clear hK1
   simp only [go_sem,seval,hv]
   repeat refine sd0 ?_
   refine hK _ ?_;clear hK K
   refine Aw_sqJ (fun v:Int=>⟨111,[(0,.rd),(3,iv 5),(4,.xs 700 0 5 (c + 5) 1),(6,bv bb),(7,iv 1),(8,iv 2),(9,iv v)],(700,vws 5 d 710 5++jN c)::bxs 5 d r 710 5,k + 12⟩) (fun v=>0≤v∧v≤3) (fun v hv=>?_) fun B13 hB13 hR13 hX13=>?_
   ·have hs1:=cI_set (r 1) (d 1) 2 v (by omega)
    have hs2:=fun y=>cI_set (r 2) (d 2) 1 y (by omega)
    obtain ⟨hv1,hv2⟩:=hv
    refine Aw_st hE [0,3,4,6,7,8,9] [700,701,710,711,712,713,714,720,721,722,723,724] fun K hK=>?_
    simp only [go_sem,seval,hs1]
    refine ⟨by omega,?_⟩
    refine hK _ ?_;clear hK K
    refine Aw_td hE [0,3,4,6,7,8] [700,701,710,711,712,713,714,720,721,722,723,724] 6 (by kernel_rfl) fun K hK=>?_
    simp only [go_sem,seval,hs2,hv1,hv2]
    refine ⟨by omega,hK _ (hN12 _ (hB11 _ ?_))⟩
    refine Aw_tx hE [0,3,4,6,7,8] [700,701,710,711,712,713,714,720,721,722,723,724] fun K hK=>?_
    simp only [go_sem,seval]
    repeat refine sd0 ?_
    refine hK _ (hN9 (3,upd (upd r 1 2 v) 2 1 (mirr v)) _ ⟨by omega,by omega,upd_len (upd_len hr)⟩ (by simp only;omega) (Le_wc (by simp only [go_sem,seval,upd]) (by simp only [go_sem,seval,upd])))
   ·refine Aw_st hE [0,3,4,6,7,8,9,53] [700,701,710,711,712,713,714,720,721,722,723,724] fun K hK=>?_
    simp only [go_sem,seval]
    refine ⟨fun hg23=>⟨by omega,fun y hy1 hy2=>?_⟩,fun hg23=>?_⟩
    ·refine hK _ (Aw_cond rfl (fun hc24=>?_) (fun hc24=>?_))
     ·refine Aw_tx hE [0,3,4,6,7,8,9] [700,701,710,711,712,713,714,720,721,722,723,724] fun K hK=>?_
      simp only [go_sem,seval]
      exact hK _ (hB13 3 _ ⟨by decide,by decide⟩ (LeE_of (Le_wa)))
     ·exact Aw_skip (hB13 v _ ⟨hv1,hv2⟩ (LeE_of (Le_wa)))
    ·exact hK _ (Aw_no rfl (Aw_skip (hB13 v _ ⟨hv1,hv2⟩ (LeE_of (Le_wa)))))
  ·refine Aw_st hE [0,3,4,6,7,8,40] [700,701,710,711,712,713,714,720,721,722,723,724] fun K hK=>?_
   simp only [go_sem,seval]
   refine hK _ (Aw_yes rfl (Aw_skip (hB10 _ ?_)))
   refine Aw_sq fun B11 hB11 hR11 hX11=>?_
   refine Aw_bk fun B12 hN12 hE12 hR12 hX12=>?_
   refine Aw_st hE [0,3,4,6,7,8,9] [700,701,710,711,712,713,714,720,721,722,723,724] fun K hK=>?_
   refine aops_cut 3 fun K1 hK1=>?_
   simp only [go_sem,seval]
   repeat refine sd0 ?_
   intro x hx1 hx2
   obtain ⟨v,hv,hv1,hv2⟩:=pick4 x hx1 hx2
   refine hK1 _ ?_
   clear hK1
   simp only [go_sem,seval,hv]
   repeat refine sd0 ?_
   refine hK _ ?_;clear hK K
   refine Aw_sqJ (fun v:Int=>⟨111,[(0,.rd),(3,iv 5),(4,.xs 700 0 5 (c + 5) 1),(6,bv bb),(7,iv 1),(8,iv 3),(9,iv v)],(700,vws 5 d 710 5++jN c)::bxs 5 d r 710 5,k + 14⟩) (fun v=>0≤v∧v≤3) (fun v hv=>?_) fun B13 hB13 hR13 hX13=>?_
   ·have hs1:=cI_set (r 1) (d 1) 3 v (by omega)
    have hs2:=fun y=>cI_set (r 3) (d 3) 1 y (by omega)
    obtain ⟨hv1,hv2⟩:=hv
    refine Aw_st hE [0,3,4,6,7,8,9] [700,701,710,711,712,713,714,720,721,722,723,724] fun K hK=>?_
    simp only [go_sem,seval,hs1]
    refine ⟨by omega,?_⟩
    refine hK _ ?_;clear hK K
    refine Aw_td hE [0,3,4,6,7,8] [700,701,710,711,712,713,714,720,721,722,723,724] 6 (by kernel_rfl) fun K hK=>?_
    simp only [go_sem,seval,hs2,hv1,hv2]
    refine ⟨by omega,hK _ (hN12 _ (hB11 _ ?_))⟩
    refine Aw_tx hE [0,3,4,6,7,8] [700,701,710,711,712,713,714,720,721,722,723,724] fun K hK=>?_
    simp only [go_sem,seval]
    repeat refine sd0 ?_
    refine hK _ (hN9 (4,upd (upd r 1 3 v) 3 1 (mirr v)) _ ⟨by omega,by omega,upd_len (upd_len hr)⟩ (by simp only;omega) (Le_wc (by simp only [go_sem,seval,upd]) (by simp only [go_sem,seval,upd])))
   ·refine Aw_st hE [0,3,4,6,7,8,9,53] [700,701,710,711,712,713,714,720,721,722,723,724] fun K hK=>?_
    simp only [go_sem,seval]
    refine ⟨fun hg23=>⟨by omega,fun y hy1 hy2=>?_⟩,fun hg23=>?_⟩
    ·refine hK _ (Aw_cond rfl (fun hc24=>?_) (fun hc24=>?_))
     ·refine Aw_tx hE [0,3,4,6,7,8,9] [700,701,710,711,712,713,714,720,721,722,723,724] fun K hK=>?_
      simp only [go_sem,seval]
      exact hK _ (hB13 3 _ ⟨by decide,by decide⟩ (LeE_of (Le_wa)))
     ·exact Aw_skip (hB13 v _ ⟨hv1,hv2⟩ (LeE_of (Le_wa)))
    ·exact hK _ (Aw_no rfl (Aw_skip (hB13 v _ ⟨hv1,hv2⟩ (LeE_of (Le_wa)))))
  ·refine Aw_st hE [0,3,4,6,7,8,40] [700,701,710,711,712,713,714,720,721,722,723,724] fun K hK=>?_
   simp only [go_sem,seval]
   refine hK _ (Aw_yes rfl (Aw_skip (hB10 _ ?_)))
   refine Aw_sq fun B11 hB11 hR11 hX11=>?_
   refine Aw_bk fun B12 hN12 hE12 hR12 hX12=>?_
   refine Aw_st hE [0,3,4,6,7,8,9] [700,701,710,711,712,713,714,720,721,722,723,724] fun K hK=>?_
   refine aops_cut 3 fun K1 hK1=>?_
   simp only [go_sem,seval]
   repeat refine sd0 ?_
   intro x hx1 hx2
   obtain ⟨v,hv,hv1,hv2⟩:=pick4 x hx1 hx2
   refine hK1 _ ?_
   clear hK1
   simp only [go_sem,seval,hv]
   repeat refine sd0 ?_
   refine hK _ ?_;clear hK K
   refine Aw_sqJ (fun v:Int=>⟨111,[(0,.rd),(3,iv 5),(4,.xs 700 0 5 (c + 5) 1),(6,bv bb),(7,iv 1),(8,iv 4),(9,iv v)],(700,vws 5 d 710 5++jN c)::bxs 5 d r 710 5,k + 16⟩) (fun v=>0≤v∧v≤3) (fun v hv=>?_) fun B13 hB13 hR13 hX13=>?_
   ·have hs1:=cI_set (r 1) (d 1) 4 v (by omega)
    have hs2:=fun y=>cI_set (r 4) (d 4) 1 y (by omega)
    obtain ⟨hv1,hv2⟩:=hv
    refine Aw_st hE [0,3,4,6,7,8,9] [700,701,710,711,712,713,714,720,721,722,723,724] fun K hK=>?_
    simp only [go_sem,seval,hs1]
    refine ⟨by omega,?_⟩
    refine hK _ ?_;clear hK K
    refine Aw_td hE [0,3,4,6,7,8] [700,701,710,711,712,713,714,720,721,722,723,724] 6 (by kernel_rfl) fun K hK=>?_
    simp only [go_sem,seval,hs2,hv1,hv2]
    refine ⟨by omega,hK _ (hN12 _ (hB11 _ ?_))⟩
    refine Aw_tx hE [0,3,4,6,7,8] [700,701,710,711,712,713,714,720,721,722,723,724] fun K hK=>?_
    simp only [go_sem,seval]
    repeat refine sd0 ?_
    refine hK _ (hN9 (5,upd (upd r 1 4 v) 4 1 (mirr v)) _ ⟨by omega,by omega,upd_len (upd_len hr)⟩ (by simp only;omega) (Le_wc (by simp only [go_sem,seval,upd]) (by simp only [go_sem,seval,upd])))
   ·refine Aw_st hE [0,3,4,6,7,8,9,53] [700,701,710,711,712,713,714,720,721,722,723,724] fun K hK=>?_
    simp only [go_sem,seval]
    refine ⟨fun hg23=>⟨by omega,fun y hy1 hy2=>?_⟩,fun hg23=>?_⟩
    ·refine hK _ (Aw_cond rfl (fun hc24=>?_) (fun hc24=>?_))
     ·refine Aw_tx hE [0,3,4,6,7,8,9] [700,701,710,711,712,713,714,720,721,722,723,724] fun K hK=>?_
      simp only [go_sem,seval]
      exact hK _ (hB13 3 _ ⟨by decide,by decide⟩ (LeE_of (Le_wa)))
     ·exact Aw_skip (hB13 v _ ⟨hv1,hv2⟩ (LeE_of (Le_wa)))
    ·exact hK _ (Aw_no rfl (Aw_skip (hB13 v _ ⟨hv1,hv2⟩ (LeE_of (Le_wa)))))
 ·refine Aw_st hE [0,3,4,6,7,33] [700,701,710,711,712,713,714,720,721,722,723,724] fun K hK=>?_
  simp only [go_sem,seval]
  refine hK _ (Aw_yes rfl (Aw_skip (hB4 _ ?_)))
  refine Aw_sq fun B6 hB6 hR6 hX6=>?_
  refine Aw_bk fun B7 hN7 hE7 hR7 hX7=>?_
  refine Aw_st hE [0,3,4,6,7,8] [700,701,710,711,712,713,714,720,721,722,723,724] fun K hK=>?_
  simp only [go_sem,seval]
  refine hK _ ?_;clear hK K
  refine Aw_bk fun B8 hN8 hE8 hR8 hX8=>?_
  refine Aw_lp (fun i:Nat × (Nat→List Int)=>⟨111,[(0,.rd),(3,iv 5),(4,.xs 700 0 5 (c + 5) 1),(6,bv bb),(7,iv 2),(8,iv (i.1:Int))],(700,vws 5 d 710 5++jN c)::bxs 5 d i.2 710 5,k + 10 + 2 * i.1⟩) (fun i=>3≤i.1∧i.1≤5∧∀ x,(i.2 x).length=5) (fun i=>5 - i.1) (3,r) (Le_wa) ⟨by omega,by omega,hr⟩ fun i hi B9 hN9 hR9 hX9=>?_
  obtain ⟨b,r⟩:=i
  obtain ⟨hi1,hi2,hr⟩:=hi
  simp only at hi1 hi2 hr
  have hr0:=hr 0
  have hr1:=hr 1
  have hr2:=hr 2
  have hr3:=hr 3
  have hr4:=hr 4
  refine Aw_sq fun B10 hB10 hR10 hX10=>?_
  rcases (show b=5∨b=3∨b=4 by omega) with rfl | rfl | rfl
  ·refine Aw_st hE [0,3,4,6,7,8,40] [700,701,710,711,712,713,714,720,721,722,723,724] fun K hK=>?_
   simp only [go_sem,seval]
   refine hK _ (Aw_no rfl (Aw_exit (hX10 _ _ (hX9 _ _ (hE8 _ ?_)))))
   refine hN7 _ (hB6 _ ?_)
   refine Aw_tx hE [0,3,4,6,7] [700,701,710,711,712,713,714,720,721,722,723,724] fun K hK=>?_
   simp only [go_sem,seval]
   repeat refine sd0 ?_
   refine hK _ (hN3 (3,r) _ ⟨by omega,hr⟩ (by simp only;omega) (Le_wa))
  ·refine Aw_st hE [0,3,4,6,7,8,40] [700,701,710,711,712,713,714,720,721,722,723,724] fun K hK=>?_
   simp only [go_sem,seval]
   refine hK _ (Aw_yes rfl (Aw_skip (hB10 _ ?_)))
   refine Aw_sq fun B11 hB11 hR11 hX11=>?_
   refine Aw_bk fun B12 hN12 hE12 hR12 hX12=>?_
   refine Aw_st hE [0,3,4,6,7,8,9] [700,701,710,711,712,713,714,720,721,722,723,724] fun K hK=>?_
   refine aops_cut 3 fun K1 hK1=>?_
   simp only [go_sem,seval]
   repeat refine sd0 ?_
   intro x hx1 hx2
   obtain ⟨v,hv,hv1,hv2⟩:=pick4 x hx1 hx2
   refine hK1 _ ?_
   clear hK1
   simp only [go_sem,seval,hv]
   repeat refine sd0 ?_
   refine hK _ ?_;clear hK K
   refine Aw_sqJ (fun v:Int=>⟨111,[(0,.rd),(3,iv 5),(4,.xs 700 0 5 (c + 5) 1),(6,bv bb),(7,iv 2),(8,iv 3),(9,iv v)],(700,vws 5 d 710 5++jN c)::bxs 5 d r 710 5,k + 18⟩) (fun v=>0≤v∧v≤3) (fun v hv=>?_) fun B13 hB13 hR13 hX13=>?_
   ·have hs1:=cI_set (r 2) (d 2) 3 v (by omega)
    have hs2:=fun y=>cI_set (r 3) (d 3) 2 y (by omega)
    obtain ⟨hv1,hv2⟩:=hv
    refine Aw_st hE [0,3,4,6,7,8,9] [700,701,710,711,712,713,714,720,721,722,723,724] fun K hK=>?_
    simp only [go_sem,seval,hs1]
    refine ⟨by omega,?_⟩
    refine hK _ ?_;clear hK K
    refine Aw_td hE [0,3,4,6,7,8] [700,701,710,711,712,713,714,720,721,722,723,724] 6 (by kernel_rfl) fun K hK=>?_
    simp only [go_sem,seval,hs2,hv1,hv2]
    refine ⟨by omega,hK _ (hN12 _ (hB11 _ ?_))⟩
    refine Aw_tx hE [0,3,4,6,7,8] [700,701,710,711,712,713,714,720,721,722,723,724] fun K hK=>?_
    simp only [go_sem,seval]
    repeat refine sd0 ?_
    refine hK _ (hN9 (4,upd (upd r 2 3 v) 3 2 (mirr v)) _ ⟨by omega,by omega,upd_len (upd_len hr)⟩ (by simp only;omega) (Le_wc (by simp only [go_sem,seval,upd]) (by simp only [go_sem,seval,upd])))
   ·refine Aw_st hE [0,3,4,6,7,8,9,53] [700,701,710,711,712,713,714,720,721,722,723,724] fun K hK=>?_
    simp only [go_sem,seval]
    refine ⟨fun hg23=>⟨by omega,fun y hy1 hy2=>?_⟩,fun hg23=>?_⟩
    ·refine hK _ (Aw_cond rfl (fun hc24=>?_) (fun hc24=>?_))
     ·refine Aw_tx hE [0,3,4,6,7,8,9] [700,701,710,711,712,713,714,720,721,722,723,724] fun K hK=>?_
      simp only [go_sem,seval]
      exact hK _ (hB13 3 _ ⟨by decide,by decide⟩ (LeE_of (Le_wa)))
     ·exact Aw_skip (hB13 v _ ⟨hv1,hv2⟩ (LeE_of (Le_wa)))
    ·exact hK _ (Aw_no rfl (Aw_skip (hB13 v _ ⟨hv1,hv2⟩ (LeE_of (Le_wa)))))
  ·refine Aw_st hE [0,3,4,6,7,8,40] [700,701,710,711,712,713,714,720,721,722,723,724] fun K hK=>?_
   simp only [go_sem,seval]
   refine hK _ (Aw_yes rfl (Aw_skip (hB10 _ ?_)))
   refine Aw_sq fun B11 hB11 hR11 hX11=>?_
   refine Aw_bk fun B12 hN12 hE12 hR12 hX12=>?_
   refine Aw_st hE [0,3,4,6,7,8,9] [700,701,710,711,712,713,714,720,721,722,723,724] fun K hK=>?_
   refine aops_cut 3 fun K1 hK1=>?_
   simp only [go_sem,seval]
   repeat refine sd0 ?_
   intro x hx1 hx2
   obtain ⟨v,hv,hv1,hv2⟩:=pick4 x hx1 hx2
   refine hK1 _ ?_
   clear hK1
   simp only [go_sem,seval,hv]
   repeat refine sd0 ?_
   refine hK _ ?_;clear hK K
   refine Aw_sqJ (fun v:Int=>⟨111,[(0,.rd),(3,iv 5),(4,.xs 700 0 5 (c + 5) 1),(6,bv bb),(7,iv 2),(8,iv 4),(9,iv v)],(700,vws 5 d 710 5++jN c)::bxs 5 d r 710 5,k + 20⟩) (fun v=>0≤v∧v≤3) (fun v hv=>?_) fun B13 hB13 hR13 hX13=>?_
   ·have hs1:=cI_set (r 2) (d 2) 4 v (by omega)
    have hs2:=fun y=>cI_set (r 4) (d 4) 2 y (by omega)
    obtain ⟨hv1,hv2⟩:=hv
    refine Aw_st hE [0,3,4,6,7,8,9] [700,701,710,711,712,713,714,720,721,722,723,724] fun K hK=>?_
    simp only [go_sem,seval,hs1]
    refine ⟨by omega,?_⟩
    refine hK _ ?_;clear hK K
    refine Aw_td hE [0,3,4,6,7,8] [700,701,710,711,712,713,714,720,721,722,723,724] 6 (by kernel_rfl) fun K hK=>?_
    simp only [go_sem,seval,hs2,hv1,hv2]
    refine ⟨by omega,hK _ (hN12 _ (hB11 _ ?_))⟩
    refine Aw_tx hE [0,3,4,6,7,8] [700,701,710,711,712,713,714,720,721,722,723,724] fun K hK=>?_
    simp only [go_sem,seval]
    repeat refine sd0 ?_
    refine hK _ (hN9 (5,upd (upd r 2 4 v) 4 2 (mirr v)) _ ⟨by omega,by omega,upd_len (upd_len hr)⟩ (by simp only;omega) (Le_wc (by simp only [go_sem,seval,upd]) (by simp only [go_sem,seval,upd])))
   ·refine Aw_st hE [0,3,4,6,7,8,9,53] [700,701,710,711,712,713,714,720,721,722,723,724] fun K hK=>?_
    simp only [go_sem,seval]
    refine ⟨fun hg23=>⟨by omega,fun y hy1 hy2=>?_⟩,fun hg23=>?_⟩
    ·refine hK _ (Aw_cond rfl (fun hc24=>?_) (fun hc24=>?_))
     ·refine Aw_tx hE [0,3,4,6,7,8,9] [700,701,710,711,712,713,714,720,721,722,723,724] fun K hK=>?_
      simp only [go_sem,seval]
      exact hK _ (hB13 3 _ ⟨by decide,by decide⟩ (LeE_of (Le_wa)))
     ·exact Aw_skip (hB13 v _ ⟨hv1,hv2⟩ (LeE_of (Le_wa)))
    ·exact hK _ (Aw_no rfl (Aw_skip (hB13 v _ ⟨hv1,hv2⟩ (LeE_of (Le_wa)))))
 ·refine Aw_st hE [0,3,4,6,7,33] [700,701,710,711,712,713,714,720,721,722,723,724] fun K hK=>?_
  simp only [go_sem,seval]
  refine hK _ (Aw_yes rfl (Aw_skip (hB4 _ ?_)))
  refine Aw_sq fun B6 hB6 hR6 hX6=>?_
  refine Aw_bk fun B7 hN7 hE7 hR7 hX7=>?_
  refine Aw_st hE [0,3,4,6,7,8] [700,701,710,711,712,713,714,720,721,722,723,724] fun K hK=>?_
  simp only [go_sem,seval]
  refine hK _ ?_;clear hK K
  refine Aw_bk fun B8 hN8 hE8 hR8 hX8=>?_
  refine Aw_lp (fun i:Nat × (Nat→List Int)=>⟨111,[(0,.rd),(3,iv 5),(4,.xs 700 0 5 (c + 5) 1),(6,bv bb),(7,iv 3),(8,iv (i.1:Int))],(700,vws 5 d 710 5++jN c)::bxs 5 d i.2 710 5,k + 12 + 2 * i.1⟩) (fun i=>4≤i.1∧i.1≤5∧∀ x,(i.2 x).length=5) (fun i=>5 - i.1) (4,r) (Le_wa) ⟨by omega,by omega,hr⟩ fun i hi B9 hN9 hR9 hX9=>?_
  obtain ⟨b,r⟩:=i
  obtain ⟨hi1,hi2,hr⟩:=hi
  simp only at hi1 hi2 hr
  have hr0:=hr 0
  have hr1:=hr 1
  have hr2:=hr 2
  have hr3:=hr 3
  have hr4:=hr 4
  refine Aw_sq fun B10 hB10 hR10 hX10=>?_
  rcases (show b=5∨b=4 by omega) with rfl | rfl
  ·refine Aw_st hE [0,3,4,6,7,8,40] [700,701,710,711,712,713,714,720,721,722,723,724] fun K hK=>?_
   simp only [go_sem,seval]
   refine hK _ (Aw_no rfl (Aw_exit (hX10 _ _ (hX9 _ _ (hE8 _ ?_)))))
   refine hN7 _ (hB6 _ ?_)
   refine Aw_tx hE [0,3,4,6,7] [700,701,710,711,712,713,714,720,721,722,723,724] fun K hK=>?_
   simp only [go_sem,seval]
   repeat refine sd0 ?_
   refine hK _ (hN3 (4,r) _ ⟨by omega,hr⟩ (by simp only;omega) (Le_wa))
  ·refine Aw_st hE [0,3,4,6,7,8,40] [700,701,710,711,712,713,714,720,721,722,723,724] fun K hK=>?_
   simp only [go_sem,seval]
   refine hK _ (Aw_yes rfl (Aw_skip (hB10 _ ?_)))
   refine Aw_sq fun B11 hB11 hR11 hX11=>?_
   refine Aw_bk fun B12 hN12 hE12 hR12 hX12=>?_
   refine Aw_st hE [0,3,4,6,7,8,9] [700,701,710,711,712,713,714,720,721,722,723,724] fun K hK=>?_
   refine aops_cut 3 fun K1 hK1=>?_
   simp only [go_sem,seval]
   repeat refine sd0 ?_
   intro x hx1 hx2
   obtain ⟨v,hv,hv1,hv2⟩:=pick4 x hx1 hx2
   refine hK1 _ ?_
   clear hK1
   simp only [go_sem,seval,hv]
   repeat refine sd0 ?_
   refine hK _ ?_;clear hK K
   refine Aw_sqJ (fun v:Int=>⟨111,[(0,.rd),(3,iv 5),(4,.xs 700 0 5 (c + 5) 1),(6,bv bb),(7,iv 3),(8,iv 4),(9,iv v)],(700,vws 5 d 710 5++jN c)::bxs 5 d r 710 5,k + 22⟩) (fun v=>0≤v∧v≤3) (fun v hv=>?_) fun B13 hB13 hR13 hX13=>?_
   ·have hs1:=cI_set (r 3) (d 3) 4 v (by omega)
    have hs2:=fun y=>cI_set (r 4) (d 4) 3 y (by omega)
    obtain ⟨hv1,hv2⟩:=hv
    refine Aw_st hE [0,3,4,6,7,8,9] [700,701,710,711,712,713,714,720,721,722,723,724] fun K hK=>?_
    simp only [go_sem,seval,hs1]
    refine ⟨by omega,?_⟩
    refine hK _ ?_;clear hK K
    refine Aw_td hE [0,3,4,6,7,8] [700,701,710,711,712,713,714,720,721,722,723,724] 6 (by kernel_rfl) fun K hK=>?_
    simp only [go_sem,seval,hs2,hv1,hv2]
    refine ⟨by omega,hK _ (hN12 _ (hB11 _ ?_))⟩
    refine Aw_tx hE [0,3,4,6,7,8] [700,701,710,711,712,713,714,720,721,722,723,724] fun K hK=>?_
    simp only [go_sem,seval]
    repeat refine sd0 ?_
    refine hK _ (hN9 (5,upd (upd r 3 4 v) 4 3 (mirr v)) _ ⟨by omega,by omega,upd_len (upd_len hr)⟩ (by simp only;omega) (Le_wc (by simp only [go_sem,seval,upd]) (by simp only [go_sem,seval,upd])))
   ·refine Aw_st hE [0,3,4,6,7,8,9,53] [700,701,710,711,712,713,714,720,721,722,723,724] fun K hK=>?_
    simp only [go_sem,seval]
    refine ⟨fun hg23=>⟨by omega,fun y hy1 hy2=>?_⟩,fun hg23=>?_⟩
    ·refine hK _ (Aw_cond rfl (fun hc24=>?_) (fun hc24=>?_))
     ·refine Aw_tx hE [0,3,4,6,7,8,9] [700,701,710,711,712,713,714,720,721,722,723,724] fun K hK=>?_
      simp only [go_sem,seval]
      exact hK _ (hB13 3 _ ⟨by decide,by decide⟩ (LeE_of (Le_wa)))
     ·exact Aw_skip (hB13 v _ ⟨hv1,hv2⟩ (LeE_of (Le_wa)))
    ·exact hK _ (Aw_no rfl (Aw_skip (hB13 v _ ⟨hv1,hv2⟩ (LeE_of (Le_wa)))))
 ·refine Aw_st hE [0,3,4,6,7,33] [700,701,710,711,712,713,714,720,721,722,723,724] fun K hK=>?_
  simp only [go_sem,seval]
  refine hK _ (Aw_yes rfl (Aw_skip (hB4 _ ?_)))
  refine Aw_sq fun B6 hB6 hR6 hX6=>?_
  refine Aw_bk fun B7 hN7 hE7 hR7 hX7=>?_
  refine Aw_st hE [0,3,4,6,7,8] [700,701,710,711,712,713,714,720,721,722,723,724] fun K hK=>?_
  simp only [go_sem,seval]
  refine hK _ ?_;clear hK K
  refine Aw_bk fun B8 hN8 hE8 hR8 hX8=>?_
  refine Aw_lp (fun i:Nat × (Nat→List Int)=>⟨111,[(0,.rd),(3,iv 5),(4,.xs 700 0 5 (c + 5) 1),(6,bv bb),(7,iv 4),(8,iv (i.1:Int))],(700,vws 5 d 710 5++jN c)::bxs 5 d i.2 710 5,k + 12 + 2 * i.1⟩) (fun i=>5≤i.1∧i.1≤5∧∀ x,(i.2 x).length=5) (fun i=>5 - i.1) (5,r) (Le_wa) ⟨by omega,by omega,hr⟩ fun i hi B9 hN9 hR9 hX9=>?_
  obtain ⟨b,r⟩:=i
  obtain ⟨hi1,hi2,hr⟩:=hi
  simp only at hi1 hi2 hr
  have hr0:=hr 0
  have hr1:=hr 1
  have hr2:=hr 2
  have hr3:=hr 3
  have hr4:=hr 4
  refine Aw_sq fun B10 hB10 hR10 hX10=>?_
  obtain rfl:b=5:=by omega
  ·refine Aw_st hE [0,3,4,6,7,8,40] [700,701,710,711,712,713,714,720,721,722,723,724] fun K hK=>?_
   simp only [go_sem,seval]
   refine hK _ (Aw_no rfl (Aw_exit (hX10 _ _ (hX9 _ _ (hE8 _ ?_)))))
   refine hN7 _ (hB6 _ ?_)
   refine Aw_tx hE [0,3,4,6,7] [700,701,710,711,712,713,714,720,721,722,723,724] fun K hK=>?_
   simp only [go_sem,seval]
   repeat refine sd0 ?_
   refine hK _ (hN3 (5,r) _ ⟨by omega,hr⟩ (by simp only;omega) (Le_wa))
end Go.Proofs.W
end
