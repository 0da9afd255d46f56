/- YtbjdeohccjmaiaaDoorWc: part of the proof that laws hold, for every input that the row speaks of (no condition of ours). -/
import Derived.Test.YtbjdeohccjmaiaaDoorWb
import Derived.Test.YtbjdeohccjmaiaaDoorWa
import Derived.Test.YtbjdeohccjmaiaaDoorEd
import Derived.Deep.Matrix
import Derived.Carry
import Derived.ChangeSlices
set_option linter.unusedVariables false
set_option linter.unusedSimpArgs false
section
namespace Go.Proofs.W
open Go Go.Eng Go.RowKit
set_option maxRecDepth 100000
theorem jN_mvn (f:Nat→Option Nat) (n:Nat):AV.mvnAll f (jN n)=jN n:=by rw [mvnAll_eq,jN,List.map_replicate];rfl
attribute [go_sem] jN_mvn
def eCon (i:Int × List Int):List AV × List (Nat × List AV):=([wsl [[i.1],i.2]],[])
def cConM:ConM:=mkM (fun _=>True) eCon (fun i=>i.2.length≤1000) fun i r m2=>∃ s:Nat,r = .xs 424 0 (1 + i.2.length) (1 + (i.2.length + s)) 1∧m2=[(424,cI (i.1::i.2)++jN s)]
theorem eCon_inj (i j:Int × List Int) (h:eCon i=eCon j):i=j:=by
 obtain ⟨y,w⟩:=i
 obtain ⟨y',w'⟩:=j
 have h1:=wsl1_inj (List.cons.inj (Prod.mk.inj h).1).1
 simp only [List.cons.injEq,and_true] at h1
 rw [h1.1,h1.2]
theorem con_pre (y:Int) (w:List Int):cConM.pre [wsl [[y],w]] []=(w.length≤1000):=mkM_pre eCon_inj (y,w) rfl
theorem con_post (y:Int) (w:List Int) (K:AV→List (Nat × List AV)→Prop):(∀ r m2,cConM.post [wsl [[y],w]] [] r m2→K r m2) = ∀ s:Nat,K (.xs 424 0 (1 + w.length) (1 + (w.length + s)) 1) [(424,cI (y::w)++jN s)] :=
 (mkM_post eCon_inj (y,w) rfl K).trans (propext ⟨fun h s=>h _ _ ⟨s,rfl,rfl⟩,fun h r m2 ⟨s,e1,e2⟩=>by rw [e1,e2];exact h s⟩)
attribute [go_sem] con_pre con_post
set_option maxHeartbeats 4000000 in
theorem concM_ok:FineM Tryd.prog 48 cConM:=by
 refine fineM_of [] ms_nil [(63,(cGrow,[],[(22,400)]))] (mm_cons grow_ok (by decide) mm_nil) [] [] ex_nil (T:=TT) Tryd.func48 rfl Tryd.ntmps48 (by rw [Tryd.results48]) rfl rfl tt gs_nil ds_nil ?_
 rintro args m1 ⟨⟨y,w⟩,e,hc⟩
 obtain ⟨rfl,rfl⟩:=Prod.mk.inj e.symm
 refine ⟨by simp,fun E hE Q hQ=>?_⟩
 simp only at hc
 have hw0:(wrows [[y],w])[0]? = some [.sl (rows [y])]:=rfl
 have hw1:(wrows [[y],w])[1]? = some [.sl (rows w)]:=rfl
 have hs1:decide ((0:Int) + 1 < 0)=false:=rfl
 have hs2:decide ((0:Int) + 1 + (w.length:Int) < 0)=false:=decide_eq_false (by omega)
 refine Aw_st hE [0] [424] fun K hK=>?_
 simp only [go_sem,seval]
 refine hK _ ?_;clear hK K
 refine Aw_st hE [0,3] [424] fun K hK=>?_
 simp only [go_sem,seval]
 refine hK _ ?_;clear hK K
 refine Aw_sq fun B1 hB1 hR1 hX1=>?_
 refine Aw_st hE [0,3,9,10,11] [424] fun K hK=>?_
 simp only [go_sem,seval]
 refine hK _ ?_;clear hK K
 refine Aw_bk fun B2 hN2 hE2 hR2 hX2=>?_
 refine Aw_unr 3 ?_
 refine Aw_rd fun B3 hN3 hR3 hX3=>?_
 refine Aw_st hE [0,3,9,10,11,12] [424] fun K hK=>?_
 simp only [go_sem,seval]
 refine hK _ ?_;clear hK K
 refine Aw_sq fun B4 hB4 hR4 hX4=>?_
 refine Aw_yes rfl (Aw_skip (hB4 _ ?_))
 refine Aw_sq fun B6 hB6 hR6 hX6=>?_
 refine Aw_bk fun B7 hN7 hE7 hR7 hX7=>?_
 refine Aw_st hE [0,3,5,9,10,11] [424] fun K hK=>?_
 simp only [go_sem,seval,hw0]
 repeat refine sd0 ?_
 refine hK _ ?_;clear hK K
 refine Aw_st hE [0,3,9,10,11] [424] fun K hK=>?_
 simp only [go_sem,seval]
 repeat refine sd0 ?_
 refine hK _ ?_;clear hK K
 refine Aw_st hE [0,3,9,10,11,20] [424] fun K hK=>?_
 simp only [go_sem,seval,hs1]
 refine hK _ (Aw_no rfl (Aw_skip (hN7 _ (hB6 _ ?_))))
 refine Aw_tx hE [0,3,9,10,11] [424] fun K hK=>?_
 simp only [go_sem,seval]
 repeat refine sd0 ?_
 refine hK _ (hN3 _ ?_)
 refine Aw_rd fun B9 hN9 hR9 hX9=>?_
 refine Aw_st hE [0,3,9,10,11,12] [424] fun K hK=>?_
 simp only [go_sem,seval]
 refine hK _ ?_;clear hK K
 refine Aw_sq fun B10 hB10 hR10 hX10=>?_
 refine Aw_yes rfl (Aw_skip (hB10 _ ?_))
 refine Aw_sq fun B12 hB12 hR12 hX12=>?_
 refine Aw_bk fun B13 hN13 hE13 hR13 hX13=>?_
 refine Aw_st hE [0,3,5,9,10,11] [424] fun K hK=>?_
 simp only [go_sem,seval,hw1]
 repeat refine sd0 ?_
 refine hK _ ?_;clear hK K
 refine Aw_st hE [0,3,9,10,11] [424] fun K hK=>?_
 simp only [go_sem,seval]
 repeat refine sd0 ?_
 refine hK _ ?_;clear hK K
 refine Aw_st hE [0,3,9,10,11,20] [424] fun K hK=>?_
 simp only [go_sem,seval,hs2]
 refine hK _ (Aw_no rfl (Aw_skip (hN13 _ (hB12 _ ?_))))
 refine Aw_tx hE [0,3,9,10,11] [424] fun K hK=>?_
 simp only [go_sem,seval]
 repeat refine sd0 ?_
 refine hK _ (hN9 _ ?_)
 refine Aw_rd fun B15 hN15 hR15 hX15=>?_
 refine Aw_st hE [0,3,9,10,11,12] [424] fun K hK=>?_
 simp only [go_sem,seval]
 refine hK _ ?_;clear hK K
 refine Aw_sq fun B16 hB16 hR16 hX16=>?_
 refine Aw_no rfl (Aw_exit (hX16 _ _ (hX15 _ _ (hE2 _ (hB1 _ ?_)))))
 refine Aw_st hE [0,6] [424] fun K hK=>?_
 simp only [go_sem,seval]
 refine ⟨by decide,⟨by omega,by omega⟩,fun cap hcap=>?_⟩
 obtain ⟨r,rfl⟩:∃ r,cap=1 + (w.length + r):=⟨cap - 1 - w.length,by omega⟩
 refine hK _ ?_;clear hK K
 refine Aw_sq fun B21 hB21 hR21 hX21=>?_
 refine Aw_st hE [6,25,26,27] [424] fun K hK=>?_
 simp only [go_sem,seval]
 refine hK _ ?_;clear hK K
 refine Aw_bk fun B22 hN22 hE22 hR22 hX22=>?_
 refine Aw_unr 3 ?_
 refine Aw_rd fun B23 hN23 hR23 hX23=>?_
 refine Aw_st hE [6,25,26,27,28] [424] fun K hK=>?_
 simp only [go_sem,seval]
 refine hK _ ?_;clear hK K
 refine Aw_sq fun B24 hB24 hR24 hX24=>?_
 refine Aw_yes rfl (Aw_skip (hB24 _ ?_))
 refine Aw_sq fun B26 hB26 hR26 hX26=>?_
 refine Aw_bk fun B27 hN27 hE27 hR27 hX27=>?_
 refine Aw_st hE [6,8,25,26,27] [424] fun K hK=>?_
 simp only [go_sem,seval,hw0]
 repeat refine sd0 ?_
 refine hK _ ?_;clear hK K
 have hset1:(jN (1 + (w.length + r))).set 0 (iv y)=iv y::jN (w.length + r):=by
  rw [show 1 + (w.length + r)=(w.length + r) + 1 by omega,jN_s,List.set_cons_zero]
 have hset2:setL (iv y::jN (w.length + r)) 1 (List.take w.length (cI w))=cI (y::w)++jN r:=by
  rw [List.take_of_length_le (by rw [cI_len];exact Nat.le_refl _),setL_at _ _ _ (by rw [List.length_cons,jN_len,cI_len];omega),cI_len]
  have e1:List.take 1 (iv y::jN (w.length + r))=cI [y]:=rfl
  have e2:List.drop (1 + w.length) (iv y::jN (w.length + r))=jN r:=by
   rw [Nat.add_comm,List.drop_succ_cons,jN,List.drop_replicate,Nat.add_sub_cancel_left];rfl
  rw [e1,e2];rfl
 have hlf1:allLeaf (List.take 1 (cI [y]))=true:=rfl
 have hlf2:allLeaf (List.take w.length (cI w))=true:=by rw [List.take_of_length_le (by rw [cI_len];exact Nat.le_refl _),allLeaf_cI]
 refine Aw_tx hE [6,25,26,27] [424] fun K hK=>?_
 simp only [go_sem,seval,hset1,hlf1]
 refine ⟨rows_row _,fun _=>?_,fun h=>absurd h (by omega)⟩
 refine hK _ (hN27 _ (hB26 _ ?_))
 refine Aw_tx hE [6,25,26,27] [424] fun K hK=>?_
 simp only [go_sem,seval]
 repeat refine sd0 ?_
 refine hK _ (hN23 _ ?_)
 refine Aw_rd fun B28 hN28 hR28 hX28=>?_
 refine Aw_st hE [6,25,26,27,28] [424] fun K hK=>?_
 simp only [go_sem,seval]
 refine hK _ ?_;clear hK K
 refine Aw_sq fun B29 hB29 hR29 hX29=>?_
 refine Aw_yes rfl (Aw_skip (hB29 _ ?_))
 refine Aw_sq fun B31 hB31 hR31 hX31=>?_
 refine Aw_bk fun B32 hN32 hE32 hR32 hX32=>?_
 refine Aw_st hE [6,8,25,26,27] [424] fun K hK=>?_
 simp only [go_sem,seval,hw1]
 repeat refine sd0 ?_
 refine hK _ ?_;clear hK K
 refine Aw_tx hE [6,25,26,27] [424] fun K hK=>?_
 simp only [go_sem,seval,hset2,hlf2]
 refine ⟨⟨rows_row _,by omega,by first | omega | (simp [cI];omega)⟩,fun _=>?_,fun h=>absurd h (by omega)⟩
 refine hK _ (hN32 _ (hB31 _ ?_))
 refine Aw_tx hE [6,25,26,27] [424] fun K hK=>?_
 simp only [go_sem,seval]
 repeat refine sd0 ?_
 refine hK _ (hN28 _ ?_)
 refine Aw_rd fun B33 hN33 hR33 hX33=>?_
 refine Aw_st hE [6,25,26,27,28] [424] fun K hK=>?_
 simp only [go_sem,seval]
 refine hK _ ?_;clear hK K
 refine Aw_sq fun B34 hB34 hR34 hX34=>?_
 refine Aw_no rfl (Aw_exit (hX34 _ _ (hX33 _ _ (hE22 _ (hB21 _ ?_)))))
 refine Aw_st hE [2] [424] fun K hK=>?_
 simp only [go_sem,seval]
 refine hK _ (Aw_ret (hQ _ ?_))
 simp only [go_sem,seval]
 exact ⟨(y,w),rfl,r,rfl,rfl⟩
theorem wrws_inj {a b:List (List Int)} (h:wrows a=wrows b):a=b:=wsl1_inj (congrArg (AV.sl none) h)
def eND (i:Nt × Int):List AV × List (Nat × List AV):=([NDV i.1.n i.1.t i.1.home i.1.W,iv i.2],[])
def cPickD (pb:Addr):ConM:=mkM (WP pb) eND (fun i=>okN' i.1) fun i r m2 =>
 (pickN i.1.W.length (lkF i.1.t) i.1.home (toS i.1.W) i.2=[]∧r = .nl∧m2=[])∨
 (∃ s:Nat,r = .xs 15 0 (pickN i.1.W.length (lkF i.1.t) i.1.home (toS i.1.W) i.2).length ((pickN i.1.W.length (lkF i.1.t) i.1.home (toS i.1.W) i.2).length + s) 1∧m2=[(15,cI (pickN i.1.W.length (lkF i.1.t) i.1.home (toS i.1.W) i.2)++jN s)])∨
 ∃ s:Nat,r = .xs 534 0 (pickN i.1.W.length (lkF i.1.t) i.1.home (toS i.1.W) i.2).length ((pickN i.1.W.length (lkF i.1.t) i.1.home (toS i.1.W) i.2).length + s) 1∧m2=[(534,cI (pickN i.1.W.length (lkF i.1.t) i.1.home (toS i.1.W) i.2)++jN s)]
theorem eND_inj (i j:Nt × Int) (h:eND i=eND j):i=j:=by
 obtain ⟨⟨n,t,home,W⟩,x⟩:=i
 obtain ⟨⟨n',t',home',W'⟩,x'⟩:=j
 have h1:=(Prod.mk.inj h).1
 simp only [List.cons.injEq,AV.el.injEq,DV.v.injEq,Value.int.injEq,DV.mp.injEq,DV.sl.injEq,AV.v.injEq,true_and,and_true] at h1
 obtain ⟨⟨rfl,rfl,rfl,h2⟩,rfl⟩:=h1
 rw [wrws_inj h2]
theorem pickD_pre (pb:Addr) (n:Int) (t:List (Value × Value)) (home:Int) (W:List (List Int)) (h:Int):(cPickD pb).pre [NDV n t home W,iv h] []=okN' ⟨n,t,home,W⟩:=mkM_pre eND_inj (⟨n,t,home,W⟩,h) rfl
theorem pickD_post (pb:Addr) (n:Int) (t:List (Value × Value)) (home:Int) (W:List (List Int)) (h:Int) (K:AV→List (Nat × List AV)→Prop):(∀ r m2,(cPickD pb).post [NDV n t home W,iv h] [] r m2→K r m2) =
  ((pickN W.length (lkF t) home (toS W) h=[]→K .nl [])∧(∀ (s:Nat) (l:List Int),l=pickN W.length (lkF t) home (toS W) h→K (.xs 15 0 l.length (l.length + s) 1) [(15,cI l++jN s)])∧∀ (s:Nat) (l:List Int),l=pickN W.length (lkF t) home (toS W) h→K (.xs 534 0 l.length (l.length + s) 1) [(534,cI l++jN s)]) :=
 (mkM_post eND_inj (⟨n,t,home,W⟩,h) rfl K).trans (propext ⟨fun hk=>⟨fun e=>hk _ _ (.inl ⟨e,rfl,rfl⟩),fun s l e=>hk _ _ (.inr (.inl ⟨s,by rw [e],by rw [e]⟩)),fun s l e=>hk _ _ (.inr (.inr ⟨s,by rw [e],by rw [e]⟩))⟩,
  fun ⟨h1,h2,h3⟩ r m2 ho=>by
   rcases ho with ⟨e,rfl,rfl⟩ | ⟨s,rfl,rfl⟩ | ⟨s,rfl,rfl⟩
   ·exact h1 e
   ·exact h2 s _ rfl
   ·exact h3 s _ rfl⟩)
attribute [go_sem] pickD_pre pickD_post
set_option maxHeartbeats 4000000 in
theorem pickD_ok (pb:Addr):FineM Tryd.prog 30 (cPickD pb):=by
 refine fineM_of [] ms_nil [(48,(cConM,[],[(424,500)]))] (mm_cons concM_ok (by decide) mm_nil) [15] [] ex_nil (T:=TT) Tryd.func30 rfl Tryd.ntmps30 (by rw [Tryd.results30]) rfl rfl tt gs_nil (ds_cons (minW_ok pb) (ds_cons annD_ok ds_nil) (wp_inh pb)) ?_
 rintro args m1 ⟨⟨⟨n,t,home,W⟩,a⟩,e,hmp,hW,hok⟩
 obtain ⟨rfl,rfl⟩:=Prod.mk.inj e.symm
 refine ⟨by simp,fun E hE Q hQ=>?_⟩
 simp only at hmp hW hok
 have hwl:∀ w ∈ W,w.length≤1000:=fun w hw=>by have:=pathOk_len (hok w hw);omega
 have fin0:pickN W.length (lkF t) home (toS W) a=[]→(cPickD pb).post [NDV n t home W,iv a] [] .nl []:=fun hw=>⟨(⟨n,t,home,W⟩,a),rfl,.inl ⟨hw,rfl,rfl⟩⟩
 refine Aw_st hE [0,1] [15,534] fun K hK=>?_
 simp only [go_sem,seval]
 refine hK _ ?_;clear hK K
 refine Aw_sq fun B1 hB1 hR1 hX1=>?_
 refine Aw_st hE [0,1,13] [15,534] fun K hK=>?_
 simp only [go_sem,seval]
 refine hK _ (Aw_cond rfl (fun hc2=>?_) (fun hc2=>?_))
 ·simp only [dte] at hc2
  refine Aw_st hE [4] [15,534] fun K hK=>?_
  simp only [go_sem,seval]
  refine hK _ (Aw_ret (hR1 _ (hQ _ ?_)))
  simp only [go_sem,seval]
  exact ⟨(⟨n,t,home,W⟩,a),rfl,.inr (.inl ⟨0,by simp only [show pickN W.length (lkF t) home (toS W) a=[a] by rw [hc2,pick_home]];rfl,by simp only [show pickN W.length (lkF t) home (toS W) a=[a] by rw [hc2,pick_home]];rfl⟩)⟩
 simp only [dfn] at hc2
 refine Aw_skip (hB1 _ ?_)
 refine Aw_sq fun B3 hB3 hR3 hX3=>?_
 have h123:[[DV.v (.int .i64 1)],[DV.v (.int .i64 2)],[DV.v (.int .i64 3)]]=rows [1,2,3]:=rfl
 refine Aw_st hE [0,1,16,17,18] [15,534] fun K hK=>?_
 simp only [go_sem,seval,chunks,List.take_succ_cons,List.drop_succ_cons,h123]
 refine hK _ ?_;clear hK K
 refine Aw_bk fun B4 hN4 hE4 hR4 hX4=>?_
 refine Aw_lp (fun i:Nat=>⟨36,[(0,NDV n t home W),(1,iv a),(16,isl [1,2,3]),(17,iv 3),(18,iv (i:Int))],[],0⟩) (fun i=>i≤3∧∀ q,q < i→cands W.length (lkF t) (toS W) a ((q:Int) + 1)=[]) (fun i=>3 - i) 0 (Le_wa) ⟨by omega,fun q h=>absurd h (by omega)⟩ fun i hi B5 hN5 hR5 hX5=>?_
 obtain ⟨hi,hq⟩:=hi
 refine Aw_st hE [0,1,16,17,18,19] [15,534] fun K hK=>?_
 simp only [go_sem,seval]
 refine hK _ ?_;clear hK K
 refine Aw_sq fun B6 hB6 hR6 hX6=>?_
 refine Aw_cond rfl (fun hc7=>?_) (fun hc7=>?_)
 rotate_left
 ·simp only [dfn] at hc7
  refine Aw_exit (hX6 _ _ (hX5 _ _ (hE4 _ (hB3 _ ?_))))
  refine Aw_st hE [4] [15,534] fun K hK=>?_
  simp only [go_sem,seval]
  refine hK _ (Aw_ret (hQ _ ?_))
  simp only [go_sem,seval]
  exact fin0 (pkI_end hc2 (.inl ⟨rfl,hq⟩) (.inl (by omega)))
 simp only [dte] at hc7
 have hi3:i < 3:=by omega
 have hg:(rows [1,2,3])[i]? = some [.v (.int .i64 ((i:Int) + 1))]:=by
  have:i=0∨i=1∨i=2:=by omega
  rcases this with rfl | rfl | rfl<;>rfl
 refine Aw_skip (hB6 _ ?_)
 refine Aw_sq fun B8 hB8 hR8 hX8=>?_
 refine Aw_bk fun B9 hN9 hE9 hR9 hX9=>?_
 refine Aw_st hE [0,1,6,16,17,18] [15,534] fun K hK=>?_
 simp only [go_sem,seval,hg]
 repeat refine sd0 ?_
 refine hK _ ?_;clear hK K
 refine Aw_st hE [0,1,7,16,17,18] [15,534] fun K hK=>?_
 simp only [go_sem,seval,hmp,hW]
 refine ⟨hwl,?_⟩
 refine hK _ ?_;clear hK K
 refine Aw_st hE [0,1,7,16,17,18,28] [15,534] fun K hK=>?_
 simp only [go_sem,seval]
 refine hK _ (Aw_cond rfl (fun hc10=>?_) (fun hc10=>?_))
 ·simp only [dte] at hc10
  have hpk:=pkI_next hc2 hi3 (.inl ⟨rfl,hq⟩)
  have hne:cands W.length (lkF t) (toS W) a ((i:Int) + 1)≠[]:=fun e=>by rw [e] at hc10;simp at hc10
  have hfr:frst a [cands W.length (lkF t) (toS W) a ((i:Int) + 1)]=a::minL (cands W.length (lkF t) (toS W) a ((i:Int) + 1)):=by
   cases hcc:cands W.length (lkF t) (toS W) a ((i:Int) + 1) with
   | nil=>exact absurd hcc hne
   | cons x l=>rfl
  have hpk2:=(hpk.resolve_left fun h=>by rw [hfr] at h;cases h.1).2
  rw [hfr] at hpk2
  have hcl:(cands W.length (lkF t) (toS W) a ((i:Int) + 1)).length≤2000000:=by have:=cands_lenL (n:=W.length) (of:=lkF t) (W:=toS W) (h:=a) (rel:=(i:Int) + 1);omega
  have hco:∀ w ∈ cands W.length (lkF t) (toS W) a ((i:Int) + 1),pathOk w=true:=fun w hw=>hok w (cands_sub rfl w hw)
  have hml:(minL (cands W.length (lkF t) (toS W) a ((i:Int) + 1))).length≤1000:=by
   cases hcc:cands W.length (lkF t) (toS W) a ((i:Int) + 1) with
   | nil=>exact absurd hcc hne
   | cons x l =>
    have:=minL_mem (x:=x) (l:=l)
    rw [← hcc] at this ⊢
    have:=pathOk_len (hco _ this);omega
  have hpos:0 < (cands W.length (lkF t) (toS W) a ((i:Int) + 1)).length:=by omega
  generalize hmm:minL (cands W.length (lkF t) (toS W) a ((i:Int) + 1))=mm at *
  have h2w:[[DV.sl [[DV.v (.int .i64 a)]]],[DV.sl (rows mm)]]=wrows [[a],mm]:=rfl
  refine Aw_st hE [4] [15,534] fun K hK=>?_
  simp only [go_sem,seval,hpos,hcl,hco,hml,hmm,chunks,List.take_succ_cons,List.drop_succ_cons,h2w]
  refine ⟨hco,by decide,fun s=>?_⟩
  refine hK _ (Aw_ret (hR9 _ (hR8 _ (hR5 _ (hR4 _ (hR3 _ (hQ _ ?_)))))))
  simp only [go_sem,seval]
  exact ⟨(⟨n,t,home,W⟩,a),rfl,.inr (.inr ⟨s,by simp only [hpk2,List.length_cons];rw [Nat.add_comm 1 mm.length,show 1 + (mm.length + s)=mm.length + 1 + s by omega],by rw [hpk2];rfl⟩)⟩
 ·simp only [dfn] at hc10
  have hnil:cands W.length (lkF t) (toS W) a ((i:Int) + 1)=[]:=List.eq_nil_of_length_eq_zero (by omega)
  refine Aw_skip (hN9 _ (hB8 _ ?_))
  refine Aw_tx hE [0,1,16,17,18] [15,534] fun K hK=>?_
  simp only [go_sem,seval]
  repeat refine sd0 ?_
  refine hK _ (hN5 (i + 1) _ ⟨by omega,fun q hq2=>if e:q < i then hq q e else (by obtain rfl:q=i:=(by omega);exact hnil)⟩ (by omega) (Le.refl _))

structure Cur (w:World) (Z:List (Nat × Nat)) (E:En):Prop where
 P:E.P=Tryd.prog
 d:E.draws=false
 L:∀ b,¬ E.L b
 gr:w.grownBy E.w0 none
 zs:∀ z ∈ Z,w.heap.size≤z.1∧z.2≤E.w0.heap.size
 hs:∀ z ∈ Z,∀ b o,E.S0 b o→¬ (z.1≤b∧b < z.2)
theorem Cur.now {w:World} {Z:List (Nat × Nat)} {E:En} (C:Cur w Z E) {st:St} {a:Act} {c:Gh} (h:RC E st a c):E.w0.grownBy c.w none:=by
 have:=h.1.fr
 rw [C.d] at this
 exact this.by C.L
theorem gb_trans {w w1 w2:World} (h:w.grownBy w1 none) (k:w1.grownBy w2 none):w.grownBy w2 none :=
 ⟨k.os.trans h.os,k.tape.trans h.tape,k.output.trans h.output,Nat.le_trans h.size k.size,fun i hi hr=>(k.block i (Nat.lt_of_lt_of_le hi h.size) hr).trans (h.block i hi hr)⟩
theorem Cur.sS {w:World} {Z:List (Nat × Nat)} {E:En} (C:Cur w Z E) {st:St} {a:Act} {c:Gh} (h:RC E st a c) {z:Nat × Nat} (hz:z ∈ Z) {b o:Nat} (hS:c.S b o):¬ (z.1≤b∧b < z.2):=by
 rcases h.1.sS b o hS with h' | h'
 ·have:=(C.zs z hz).2
  omega
 ·exact C.hs z hz b o h'
theorem Cur.new {w:World} {Z:List (Nat × Nat)} {E:En} (C:Cur w Z E) {st:St} {a:Act} {c:Gh} (h:RC E st a c) (hm:st.m=[]) {w':World} (hg:c.w.grownBy w' none) {u:Value} (hu:u.oneCell'=true) (d:Nat) :
  ∃ E',E'.w0=w'∧E'.draws=false∧Cur w ((c.w.heap.size,w'.heap.size)::Z) E'∧R E' (St.put st.re (some d) (.v u)) (a.put (some d) u) w'∧E.w0.grownBy w' none:=by
 have hn:=C.now h
 have hg':=gb_trans hn hg
 refine ⟨nxM E st c w',rfl,rfl,⟨C.P,rfl,fun b ⟨d,ls,hl,_⟩=>(by rw [hm] at hl;cases hl),gb_trans C.gr hg',fun z hz=>?_,fun z hz b o hS=>?_⟩,h.nxm (fun b o hS=>hg.block b (h.1.slt hS) (by simp)) (fun d ls hl=>(by rw [hm] at hl;cases hl)) hu d,hg'⟩
 ·rcases List.mem_cons.1 hz with rfl | hz
  ·exact ⟨Nat.le_trans C.gr.size hn.size,Nat.le_refl _⟩
  ·exact ⟨(C.zs z hz).1,Nat.le_trans (C.zs z hz).2 hg'.size⟩
 ·rcases List.mem_cons.1 hz with rfl | hz
  ·have:=h.1.slt (show c.S b o from hS)
   omega
  ·exact C.sS h hz hS
theorem Cur.mark {w:World} {Z:List (Nat × Nat)} {E:En} (C:Cur w Z E) {st:St} {a:Act} {c:Gh} (h:RC E st a c) (hm:st.m=[]) {z:Nat × Nat} (hz:z ∈ Z) {w':World} (hg:GrownL c.w w' none fun x=>z.1≤x∧x < z.2) {u:Value} (hu:u.oneCell'=true) (d:Nat) :
  ∃ E',E'.w0=w'∧E'.draws=false∧Cur w Z E'∧R E' (St.put st.re (some d) (.v u)) (a.put (some d) u) w'∧∀ b,b < E.w0.heap.size→¬ (z.1≤b∧b < z.2)→w'.heap[b]? = E.w0.heap[b]? := by
 have hn:=C.now h
 have hsz:E.w0.heap.size≤w'.heap.size:=Nat.le_trans hn.size hg.size
 have hgr:w.grownBy w' none:=by
  have h1:=gb_trans C.gr hn
  exact ⟨hg.os.trans h1.os,hg.tape.trans h1.tape,hg.output.trans h1.output,Nat.le_trans h1.size hg.size,fun i hi hr=>(hg.block i (Nat.lt_of_lt_of_le hi h1.size) (by simp) fun hx=>by have:=(C.zs z hz).1;omega).trans (h1.block i hi hr)⟩
 refine ⟨nxM E st c w',rfl,rfl,⟨C.P,rfl,fun b ⟨d,ls,hl,_⟩=>(by rw [hm] at hl;cases hl),hgr,fun z' hz'=>⟨(C.zs z' hz').1,Nat.le_trans (C.zs z' hz').2 hsz⟩,fun z' hz' b o hS=>C.sS h hz' hS⟩,
  h.nxm (fun b o hS=>hg.block b (h.1.slt hS) (by simp) (C.sS h hz hS)) (fun d ls hl=>(by rw [hm] at hl;cases hl)) hu d,fun b hb hn'=>(hg.block b (Nat.lt_of_lt_of_le hb hn.size) (by simp) hn').trans (hn.block b hb (by simp))⟩
theorem Cur.tb {w:World} {Z:List (Nat × Nat)} {E:En} (C:Cur w Z E) {D:List (FuncId × DFn)} (hD:∀ p ∈ D,Fine Tryd.prog p.1 p.2.con∧∀ w',E.w0.grownBy w' none→p.2.inv w'):TbOk E { T:=TT,G:=[],D:=D,draws:=false } :=
 tb_new C.P C.d C.L rfl tt hD
theorem DOk.cons {E:En} {f:FuncId} {d:DFn} {D:List (FuncId × DFn)} (h:Fine Tryd.prog f d.con) (hi:∀ w',E.w0.grownBy w' none→d.inv w') (hD:∀ p ∈ D,Fine Tryd.prog p.1 p.2.con∧∀ w',E.w0.grownBy w' none→p.2.inv w'):∀ p ∈ (f,d)::D,Fine Tryd.prog p.1 p.2.con∧∀ w',E.w0.grownBy w' none→p.2.inv w':=fun p hp=>by
 rcases List.mem_cons.1 hp with rfl | hp
 ·exact ⟨h,hi⟩
 ·exact hD p hp
theorem DOk.nil {E:En}:∀ p ∈ ([]:List (FuncId × DFn)),Fine Tryd.prog p.1 p.2.con∧∀ w',E.w0.grownBy w' none→p.2.inv w':=fun p hp=>by cases hp
theorem sp_ax {P:Program} {E:En} {rest:Code} {st:St} {Q:Exit→Act→World→Prop} (h:Ax P E rest st Q):AQ P E (Exit.then (rest.wp P Q) Q) .normal st:=h
theorem v_eq {c:Gh} {u v:Value} (h:Rd c (.v u) v):v=u:=by cases h;rfl
def gEqX (g0:Value) (l:List Int):List AV→Option (Prop × AV)
 | [.v u,.sl none els]=>(match intsL els with | some r=>some (u=g0∧l.length≤4294967296∧r.length≤4294967296,bv (decide (l=r))) | none=>none)
 | _=>none
def dEqX (g0:Value) (l:List Int):DFn:=dX dLyI [(g0,rows l)] (gEqX g0 l)
theorem eqX_ok (g0:Value) (l:List Int):Fine Tryd.prog 11 (dEqX g0 l).con:=by
 refine fine_X eqIntS_ok _ _ fun args c r h hc=>?_
 unfold gEqX at h
 split at h
 rotate_left
 ·cases h
 split at h
 rotate_left
 ·cases h
 rename_i u els _ r' hl
 obtain rfl:=intsL_eq hl
 obtain ⟨rfl,rfl⟩:=Prod.mk.inj (Option.some.inj h)
 obtain ⟨rfl,h1,h2⟩:=hc
 refine ⟨[isl l,isl r'],(l.length≤4294967296∧r'.length≤4294967296),_,⟨.inr ⟨_,List.mem_singleton.2 rfl,rfl,rfl⟩,.inl rfl,trivial⟩,fun x hx=>?_,by simp only [dLyI,gLyI,intsL_rows],⟨h1,h2⟩,rfl⟩
 simp only [List.mem_cons,List.not_mem_nil,or_false] at hx
 rcases hx with rfl | rfl<;>rfl
def gEqXX (g0:Value) (l:List (List Int)):List AV→Option (Prop × AV)
 | [.v u,.sl none els]=>(match waysL els with | some r=>some (u=g0∧bigW l∧bigW r,bv (decide (l=r))) | none=>none)
 | _=>none
def dEqXX (g0:Value) (l:List (List Int)):DFn:=dX dLyW [(g0,wrows l)] (gEqXX g0 l)
theorem eqXX_ok (g0:Value) (l:List (List Int)):Fine Tryd.prog 12 (dEqXX g0 l).con:=by
 refine fine_X eqIntSS_ok _ _ fun args c r h hc=>?_
 unfold gEqXX at h
 split at h
 rotate_left
 ·cases h
 split at h
 rotate_left
 ·cases h
 rename_i u els _ r' hl
 obtain rfl:=waysL_eq hl
 obtain ⟨rfl,rfl⟩:=Prod.mk.inj (Option.some.inj h)
 obtain ⟨rfl,h1,h2⟩:=hc
 refine ⟨[wsl l,wsl r'],(bigW l∧bigW r'),_,⟨.inr ⟨_,List.mem_singleton.2 rfl,rfl,rfl⟩,.inl rfl,trivial⟩,fun x hx=>?_,by simp only [dLyW,gLyW,waysL_rows],⟨h1,h2⟩,rfl⟩
 simp only [List.mem_cons,List.not_mem_nil,or_false] at hx
 rcases hx with rfl | rfl<;>rfl
def gHdX (g0:Value) (l:List Int):List AV→Option (Prop × AV)
 | [.v u,.v (.int .i64 k)]=>some (u=g0∧l.length≤2000000∧0≤k∧k≤1000000000,iv (hldI k l))
 | _=>none
def dHdX (g0:Value) (l:List Int):DFn:=dX dHldI [(g0,rows l)] (gHdX g0 l)
def gHdXX (g0:Value) (l:List (List Int)):List AV→Option (Prop × AV)
 | [.v u,.v (.int .i64 k)]=>some (u=g0∧bigM l∧0≤k∧k + totL l≤1000000000,iv (hldW k l))
 | _=>none
def dHdXX (g0:Value) (l:List (List Int)):DFn:=dX dHldW [(g0,wrows l)] (gHdXX g0 l)
theorem hdXX_ok (g0:Value) (l:List (List Int)):Fine Tryd.prog 18 (dHdXX g0 l).con:=by
 refine fine_X heldIntSS_ok _ _ fun args c r h hc=>?_
 unfold gHdXX at h
 split at h
 rotate_left
 ·cases h
 obtain ⟨rfl,rfl⟩:=Prod.mk.inj (Option.some.inj h)
 rename_i u k
 obtain ⟨rfl,h1,h2⟩:=hc
 refine ⟨[wsl l,iv k],(bigM l∧0≤k∧k + totL l≤1000000000),_,⟨.inr ⟨_,List.mem_singleton.2 rfl,rfl,rfl⟩,.inl rfl,trivial⟩,fun x hx=>?_,by simp only [dHldW,gHldW,waysL_rows],⟨h1,h2⟩,rfl⟩
 simp only [List.mem_cons,List.not_mem_nil,or_false] at hx
 rcases hx with rfl | rfl<;>rfl
theorem rdx_one {w w':World} {v:Value} {els:List (List DV)} (h:RdD w (allS w) (.sl els) v) (hg:w.grownBy w' none):Rdx w' [(v,els)] :=
 Rdx_inh (z:=[(v,els)]) (w:=w) (fun p hp=>by obtain rfl:=List.mem_singleton.1 hp;exact h) hg
attribute [go_sem] gEqX dEqX gEqXX dEqXX gHdX dHdX gHdXX dHdXX dX
end Go.Proofs.W
end
section
namespace Go.Proofs.W
open Go Go.Eng Go.RowKit Go.WideShapes Go.ChangeShapes
set_option maxRecDepth 100000
def InWays (W:World) (v:Value):Prop:=∃ R:List (List Int),longW R∧RdD W (fun b o=>∃ x,W.cell? ⟨b,o,none⟩=some x∧x.oneCell'=true) (.sl (wrows R)) v
theorem open_ways {H:Type} {enc:TypeId × Value→H} {W:World} {base:Nat} {v:Value} {d:DataW H} {p:List MemPlace} (hval:Value.okWide Tryd.prog W .any base 22 v)
  (h:DataW.Trod enc Tryd.prog W 0 (fun _=>true) true 22 v d p):InWays W v:=by
 obtain ⟨a1,len,cap,rfl⟩:=okWide_slice Tryd.underlying22 hval
 have hspot:∀ a,a1=some a→a.spot=none:=fun a e=>by
  subst e
  simp only [Value.okWide,Tryd.underlying22,Cell.okWide,Cell.ok] at hval
  exact hval.2.2.2.1
 obtain ⟨fuel,hf⟩:=h
 rcases Go.Deep.open_int_rows Tryd.underlying22 Tryd.underlying24 Tryd.underlying3 (by kernel_rfl) (by kernel_rfl) hf with ⟨hcs,_⟩ | ⟨a,len',cap',A,L,C,Z,hcs,_,hl,hm,_,hrow⟩
 ·simp [Value.cells] at hcs
  obtain ⟨rfl,rfl,rfl⟩:=hcs
  exact ⟨[],⟨by simp,fun r hr=>by cases hr⟩,.nil⟩
 ·simp [Value.cells] at hcs
  obtain ⟨rfl,rfl,rfl⟩:=hcs
  obtain ⟨b,off,spot⟩:=a
  obtain rfl:spot=none:=hspot _ rfl
  have hlen:((List.range len).map fun r=>(Z r).take (L r)).length=len:=by simp
  have hget:∀ i,i < len→((List.range len).map fun r=>(Z r).take (L r)).getD i []=(Z i).take (L i):=fun i hi=>by
   rw [List.getD_eq_getElem?_getD,List.getElem?_map,List.getElem?_range hi];rfl
  have hzl:∀ i,i < cap→((Z i).take (L i)).length=L i:=fun i hi=>by
   obtain ⟨_,h1,_,h3,_⟩:=hrow i hi
   rw [List.length_take,h3];omega
  refine ⟨(List.range len).map fun r=>(Z r).take (L r),⟨by rw [hlen];unfold maxLen at hm;omega,fun r hr=>?_⟩,?_⟩
  ·obtain ⟨i,hi,rfl⟩:=List.mem_map.1 hr
   have hi:=List.mem_range.1 hi
   obtain ⟨_,h1,h2,_⟩:=hrow i (by omega)
   rw [hzl i (by omega)];unfold maxLen at h2;omega
  ·have key:∀ i,i < len→RdD W (fun b o=>∃ x,W.cell? ⟨b,o,none⟩=some x∧x.oneCell'=true) (.sl (rows ((Z i).take (L i)))) (.slice (A i) (L i) (C i)):=fun i hi=>by
    obtain ⟨_,h1,h2,h3,_,h5,h6⟩:=hrow i (by omega)
    cases hA:A i with
    | none =>
     have hC:=h5 hA
     have hL:L i=0:=by omega
     rw [hC,hL];exact .nil
    | some a' =>
     obtain ⟨_,hcell⟩:=h6 a' hA
     by_cases hC:C i=0
     ·have hL:L i=0:=by omega
      rw [hC,hL];exact .em a'
     ·have h0:=hcell 0 (by omega)
      obtain ⟨b',o',sp'⟩:=a'
      obtain rfl:sp'=none:=by simpa [Addr.add] using World.cell?_spot h0
      have hz:=hzl i (by omega)
      have:=rdd_is (W:=W) (S:=fun b o=>∃ x,W.cell? ⟨b,o,none⟩=some x∧x.oneCell'=true) (zs:=(Z i).take (L i)) (b:=b') (off:=o') (cap:=C i) (by omega) (fun k hk=>by
       have hk':k < L i:=by omega
       have hc:=hcell k (by omega)
       rw [add_none] at hc
       have e:((Z i).take (L i)).getD k 0=(Z i).getD k 0:=by
        rw [List.getD_eq_getElem?_getD,List.getD_eq_getElem?_getD,List.getElem?_take,if_pos hk']
       rw [e]
       exact ⟨⟨_,hc,rfl⟩,hc⟩)
      rwa [hz] at this
   refine .sl _ b off len cap 1 (fun k=>.slice (A k) (L k) (C k)) (by rw [wrows_len,hlen]) hl (fun row hr=>wrows_row _ row hr) (fun k hk=>?_) fun i j row x hr hx=>?_
   ·obtain ⟨hc,_⟩:=hrow k (by omega)
    rw [add_none] at hc
    exact ⟨⟨_,hc,rfl⟩,hc⟩
   ·have hi:i < len:=by have:=(List.getElem?_eq_some_iff.1 hr).1;rwa [wrows_len,hlen] at this
    rw [wrows_get _ i (by rw [hlen];exact hi),hget i hi] at hr
    obtain rfl:=Option.some.inj hr
    match j,hx with
    | 0,hx =>
     obtain rfl:=Option.some.inj hx
     simp only [Nat.mul_one,Nat.add_zero]
     exact key i hi
theorem laidOut:laidOutB Tryd.prog=true:=by kernel_rfl
theorem back_ways {H:Type} {enc:TypeId × Value→H} {W:World} {v:Value} {d:DataW H} {p:List MemPlace} {t:TypeId} (hr:Tryd.prog.readableRec t=true) (ht:t < Tryd.prog.types.size)
  (h:DataW.Trod enc Tryd.prog W 0 (fun _=>true) true t v d p) (hlt:∀ x ∈ p,x.block < W.heap.size):∀ W':World,Below W.heap.size W W'→∀ sp:Nat→Bool,(∀ x ∈ p,sp x.block=true)→DataW.Trod enc Tryd.prog W' 0 sp true t v d p :=
 fun _ hb _ hsp=>WideElems.Trod_stays laidOut hr ht h (fun x hx=>hb.same (hlt x hx)) hsp
theorem below_gb {w w':World} (hg:w.grownBy w' none):Below w.heap.size w w':=⟨hg.os,hg.tape,hg.output,hg.size,fun i hi=>hg.block i hi (by simp)⟩
theorem open_intsX {H:Type} {enc:TypeId × Value→H} {W:World} {base:Nat} {v:Value} {d:DataW H} {p:List MemPlace} (hval:Value.okWide Tryd.prog W .any base 24 v)
  (h:DataW.Trod enc Tryd.prog W 0 (fun _=>true) true 24 v d p):∃ zs:List Int,zs.length≤9223372036854775807∧RdD W (fun b o=>∃ x,W.cell? ⟨b,o,none⟩=some x∧x.oneCell'=true) (.sl (rows zs)) v:=by
 obtain ⟨a1,len,cap,rfl⟩:=okWide_slice Tryd.underlying24 hval
 have hspot:∀ a,a1=some a→a.spot=none:=fun a e=>by
  subst e
  simp only [Value.okWide,Tryd.underlying24,Cell.okWide,Cell.ok] at hval
  exact hval.2.2.2.1
 obtain ⟨fuel,hf⟩:=h
 rcases open_ints Tryd.underlying24 Tryd.underlying3 (by kernel_rfl) hf with ⟨hcs,_⟩ | ⟨a,len',cap',zs,hcs,_,hl,hm,hzl,_,hcell,_⟩
 ·simp [Value.cells] at hcs
  obtain ⟨rfl,rfl,rfl⟩:=hcs
  exact ⟨[],by simp,.nil⟩
 ·simp [Value.cells] at hcs
  obtain ⟨rfl,rfl,rfl⟩:=hcs
  obtain ⟨b,off,spot⟩:=a
  obtain rfl:spot=none:=hspot _ rfl
  have hzl':zs.length=cap:=by simpa using hzl
  have hlen:(zs.take len).length=len:=by rw [List.length_take];omega
  refine ⟨zs.take len,by rw [hlen];unfold maxLen at hm;omega,?_⟩
  have:=rdd_is (W:=W) (S:=fun b o=>∃ x,W.cell? ⟨b,o,none⟩=some x∧x.oneCell'=true) (zs:=zs.take len) (b:=b) (off:=off) (cap:=cap) (by omega) (fun k hk=>by
   rw [hlen] at hk
   have hc:=hcell k (by omega)
   rw [add_none] at hc
   have e:(zs.take len).getD k 0=zs.getD k 0:=by
    rw [List.getD_eq_getElem?_getD,List.getD_eq_getElem?_getD,List.getElem?_take,if_pos hk]
   rw [e]
   exact ⟨⟨_,hc,rfl⟩,hc⟩)
  rwa [hlen] at this
end Go.Proofs.W
end
section
namespace Go.Proofs.W
open Go Go.Eng Go.RowKit
set_option maxRecDepth 100000
def gLdD:List AV→Option (Prop × AV)
 | [.el [.v (.int .i64 n),.mp t,.v (.int .i64 home),_],.sl _ els,.v (.int .i64 a)]=>(match intsL els with
  | some p=>some (mpI t∧0 < p.length∧p.length≤2000000,bv (leadB n (lkF t) home a p))
  | none=>none)
 | _=>none
def dLdD (pb:Addr):DFn:={ g:=gLdD,inv:=WP pb }
attribute [go_sem] gLdD dLdD
set_option maxHeartbeats 4000000 in
theorem leadsD_ok (pb:Addr):Fine Tryd.prog 46 (dLdD pb).con:=by
 refine fine_det (T:=TT) Tryd.func46 rfl Tryd.ntmps46 (by rw [Tryd.results46]) rfl rfl tt gs_nil (ds_cons (iPathOk_ok pb) (ds_cons hasM_ok (ds_cons ofM_ok ds_nil)) (wp_inh pb)) ?_
 intro args c r h hc
 simp only [dLdD,gLdD] at h
 split at h
 rotate_left
 ·cases h
 split at h
 rotate_left
 ·cases h
 rename_i n t home y tt els a _ p hl
 obtain rfl:=intsL_eq hl
 obtain ⟨rfl,rfl⟩:=Prod.mk.inj (Option.some.inj h)
 obtain ⟨hmp,hp0,hpl⟩:=hc
 refine ⟨by simp,fun k E hE Q hQ=>?_⟩
 have fin:∀ (b:Bool),leadB n (lkF t) home a p=b→b=leadB n (lkF t) home a p:=fun b hb=>hb.symm
 have hl4:p.length≤4294967296:=by omega
 have h0:=rows_get p 0 hp0
 have h9:(rows p)[((p.length:Int) - 1).toNat]? = some [.v (.int .i64 (p.getD (p.length - 1) 0))]:=by rw [show ((p.length:Int) - 1).toNat=p.length - 1 by omega];exact rows_get p (p.length - 1) (by omega)
 have hb2:(0:Int)≤(p.length:Int) - 1:=by omega
 refine Aw_st hE [0,1,2] [] fun K hK=>?_
 simp only [go_sem,seval]
 refine hK _ ?_;clear hK K
 refine Aw_sq fun B1 hB1 hR1 hX1=>?_
 cases h1:pathOk p with
 | false =>
  refine Aw_se hE [0,1,2,3,4,5,6,7,8,9,10,11,12,13,14,15,16,17,18,19,20,21,22] [0,1,3,7,15,31,63,15,255,511,1023,2047,2047,6143,14335,32767,65535,2047,133119,395263,919551,2097151,4194303] [0,1,31] [] (by kernel_rfl) fun K hK=>?_
  refine daopsE_cut 6 fun K1 hK1=>?_
  simp only [go_sem,seval,h1,hl4,Bool.not_false]
  repeat refine sd0 ?_
  refine hK1 _ ?_
  clear hK1
  refine daopsE_cut 6 fun K1 hK1=>?_
  simp only [go_sem,seval,h1,hl4,Bool.not_false]
  repeat refine sd0 ?_
  refine hK1 _ ?_
  clear hK1
  refine daopsE_cut 6 fun K1 hK1=>?_
  simp only [go_sem,seval,h1,hl4,Bool.not_false]
  repeat refine sd0 ?_
  refine hK1 _ ?_
  clear hK1
  simp only [go_sem,seval,h1,hl4,Bool.not_false]
  repeat refine sd0 ?_
  refine hK _ (Aw_yes rfl ?_)
  refine Aw_st hE [6] [] fun K hK=>?_
  simp only [go_sem,seval]
  refine hK _ (Aw_ret (hR1 _ (hQ _ ?_)))
  simp only [go_sem,seval]
  exact fin false (leadB_F fun h=>by rw [h.1] at h1;cases h1)
 | true =>
 by_cases h2:p.getD 0 0=a
 rotate_left
 ·have h2d:decide (p.getD 0 0=a)=false:=decide_eq_false h2
  refine Aw_se hE [0,1,2,3,4,5,6,7,8,9,10,11,12,13,14,15,16,17,18,19,20,21,22] [0,1,3,7,15,31,63,15,255,511,1023,2047,2047,6143,14335,32767,65535,2047,133119,395263,919551,2097151,4194303] [0,1,31] [] (by kernel_rfl) fun K hK=>?_
  refine daopsE_cut 6 fun K1 hK1=>?_
  simp only [go_sem,seval,h1,hl4,h0,h2d,Bool.not_true,Bool.not_false]
  repeat refine sd0 ?_
  refine hK1 _ ?_
  clear hK1
  refine daopsE_cut 6 fun K1 hK1=>?_
  simp only [go_sem,seval,h1,hl4,h0,h2d,Bool.not_true,Bool.not_false]
  repeat refine sd0 ?_
  refine hK1 _ ?_
  clear hK1
  refine daopsE_cut 6 fun K1 hK1=>?_
  simp only [go_sem,seval,h1,hl4,h0,h2d,Bool.not_true,Bool.not_false]
  repeat refine sd0 ?_
  refine hK1 _ ?_
  clear hK1
  simp only [go_sem,seval,h1,hl4,h0,h2d,Bool.not_true,Bool.not_false]
  repeat refine sd0 ?_
  refine hK _ (Aw_yes rfl ?_)
  refine Aw_st hE [6] [] fun K hK=>?_
  simp only [go_sem,seval]
  refine hK _ (Aw_ret (hR1 _ (hQ _ ?_)))
  simp only [go_sem,seval]
  exact fin false (leadB_F fun h=>h2 h.2.1)
 have h2d:decide (p.getD 0 0=a)=true:=decide_eq_true h2
 by_cases h3:p.getD (p.length - 1) 0=home
 rotate_left
 ·have h3d:decide (p.getD (p.length - 1) 0=home)=false:=decide_eq_false h3
  refine Aw_se hE [0,1,2,3,4,5,6,7,8,9,10,11,12,13,14,15,16,17,18,19,20,21,22] [0,1,3,7,15,31,63,15,255,511,1023,2047,2047,6143,14335,32767,65535,2047,133119,395263,919551,2097151,4194303] [0,1,31] [] (by kernel_rfl) fun K hK=>?_
  refine daopsE_cut 6 fun K1 hK1=>?_
  simp only [go_sem,seval,h1,hl4,h0,h2d,h9,hb2,h3d,Bool.not_true,Bool.not_false,decide_true]
  repeat refine sd0 ?_
  refine hK1 _ ?_
  clear hK1
  refine daopsE_cut 6 fun K1 hK1=>?_
  simp only [go_sem,seval,h1,hl4,h0,h2d,h9,hb2,h3d,Bool.not_true,Bool.not_false,decide_true]
  repeat refine sd0 ?_
  refine hK1 _ ?_
  clear hK1
  refine daopsE_cut 6 fun K1 hK1=>?_
  simp only [go_sem,seval,h1,hl4,h0,h2d,h9,hb2,h3d,Bool.not_true,Bool.not_false,decide_true]
  repeat refine sd0 ?_
  refine hK1 _ ?_
  clear hK1
  simp only [go_sem,seval,h1,hl4,h0,h2d,h9,hb2,h3d,Bool.not_true,Bool.not_false,decide_true]
  repeat refine sd0 ?_
  refine hK _ (Aw_yes rfl ?_)
  refine Aw_st hE [6] [] fun K hK=>?_
  simp only [go_sem,seval]
  refine hK _ (Aw_ret (hR1 _ (hQ _ ?_)))
  simp only [go_sem,seval]
  exact fin false (leadB_F fun h=>h3 h.2.2.1)
 have h3d:decide (p.getD (p.length - 1) 0=home)=true:=decide_eq_true h3
 refine Aw_se hE [0,1,2,3,4,5,6,7,8,9,10,11,12,13,14,15,16,17,18,19,20,21,22] [0,1,3,7,15,31,63,15,255,511,1023,2047,2047,6143,14335,32767,65535,2047,133119,395263,919551,2097151,4194303] [0,1,31] [] (by kernel_rfl) fun K hK=>?_
 refine daopsE_cut 6 fun K1 hK1=>?_
 simp only [go_sem,seval,h1,hl4,h0,h2d,h9,hb2,h3d,Bool.not_true,Bool.not_false,decide_true]
 repeat refine sd0 ?_
 refine hK1 _ ?_
 clear hK1
 refine daopsE_cut 6 fun K1 hK1=>?_
 simp only [go_sem,seval,h1,hl4,h0,h2d,h9,hb2,h3d,Bool.not_true,Bool.not_false,decide_true]
 repeat refine sd0 ?_
 refine hK1 _ ?_
 clear hK1
 refine daopsE_cut 6 fun K1 hK1=>?_
 simp only [go_sem,seval,h1,hl4,h0,h2d,h9,hb2,h3d,Bool.not_true,Bool.not_false,decide_true]
 repeat refine sd0 ?_
 refine hK1 _ ?_
 clear hK1
 simp only [go_sem,seval,h1,hl4,h0,h2d,h9,hb2,h3d,Bool.not_true,Bool.not_false,decide_true]
 repeat refine sd0 ?_
 refine hK _ (Aw_no rfl (Aw_skip (hB1 _ ?_)))
 refine Aw_sq fun B6 hB6 hR6 hX6=>?_
 refine Aw_st hE [0,1,32,33,34] [] fun K hK=>?_
 simp only [go_sem,seval]
 refine hK _ ?_;clear hK K
 refine Aw_bk fun B7 hN7 hE7 hR7 hX7=>?_
 refine Aw_lp (fun i:Nat=>⟨65,[(0,.el [.v (.int .i64 n),.mp t,.v (.int .i64 home),y]),(1,isl p),(32,isl p),(33,iv (p.length:Int)),(34,iv (i:Int))],[],k⟩) (fun i=>ldI n (lkF t) p i) (fun i=>p.length - i) 0 (Le_wa) ⟨by omega,fun j h=>absurd h (by omega),fun j h=>absurd h (by omega)⟩ fun i hi B8 hN8 hR8 hX8=>?_
 obtain ⟨hi,hi1,hi2⟩:=hi
 refine Aw_st hE [0,1,32,33,34,35] [] fun K hK=>?_
 simp only [go_sem,seval]
 refine hK _ ?_;clear hK K
 refine Aw_sq fun B9 hB9 hR9 hX9=>?_
 refine Aw_cond rfl (fun hc10=>?_) (fun hc10=>?_)
 rotate_left
 ·simp only [dfn] at hc10
  obtain rfl:i=p.length:=by omega
  refine Aw_exit (hX9 _ _ (hX8 _ _ (hE7 _ (hB6 _ ?_))))
  refine Aw_st hE [6] [] fun K hK=>?_
  simp only [go_sem,seval]
  refine hK _ (Aw_ret (hQ _ ?_))
  simp only [go_sem,seval]
  exact fin true (leadB_T ⟨h1,h2,h3,hi,hi1,hi2⟩)
 simp only [dte] at hc10
 have hil:i < p.length:=by omega
 have hg:=rows_get p i hil
 refine Aw_skip (hB9 _ ?_)
 refine Aw_sq fun B11 hB11 hR11 hX11=>?_
 refine Aw_bk fun B12 hN12 hE12 hR12 hX12=>?_
 refine Aw_st hE [0,1,7,8,32,33,34] [] fun K hK=>?_
 simp only [go_sem,seval,hg]
 repeat refine sd0 ?_
 refine hK _ ?_;clear hK K
 cases h4:(decide (1≤p.getD i 0) && decide (p.getD i 0≤n)) with
 | false =>
  refine Aw_se hE [0,4,1,2,3,5,6,7,8,9,10,11,12,13,14,15,16,17,18,19,20,21,22,23,24] [0,1,3,7,0,31,63,127,255,511,1023,2047,4095,8191,16383,2047,2047,67583,231423,493567,2047,2097151,4194303,8388607,16777215] [0,1,32,33,34,63] [] (by kernel_rfl) fun K hK=>?_
  refine daopsE_cut 6 fun K1 hK1=>?_
  simp only [go_sem,seval,h4,hmp,Bool.not_false]
  repeat refine sd0 ?_
  refine hK1 _ ?_
  clear hK1
  refine daopsE_cut 6 fun K1 hK1=>?_
  simp only [go_sem,seval,h4,hmp,Bool.not_false]
  repeat refine sd0 ?_
  refine hK1 _ ?_
  clear hK1
  refine daopsE_cut 6 fun K1 hK1=>?_
  simp only [go_sem,seval,h4,hmp,Bool.not_false]
  repeat refine sd0 ?_
  refine hK1 _ ?_
  clear hK1
  refine daopsE_cut 6 fun K1 hK1=>?_
  simp only [go_sem,seval,h4,hmp,Bool.not_false]
  repeat refine sd0 ?_
  refine hK1 _ ?_
  clear hK1
  simp only [go_sem,seval,h4,hmp,Bool.not_false]
  repeat refine sd0 ?_
  refine hK _ (Aw_yes rfl ?_)
  refine Aw_st hE [6] [] fun K hK=>?_
  simp only [go_sem,seval]
  refine hK _ (Aw_ret (hR12 _ (hR11 _ (hR8 _ (hR7 _ (hR6 _ (hQ _ ?_)))))))
  simp only [go_sem,seval]
  exact fin false (leadB_F fun h=>by
   have:=h.2.2.2.2.1 i hil
   rw [decide_eq_true this.1,decide_eq_true this.2] at h4
   cases h4)
 | true =>
 have h4':1≤p.getD i 0∧p.getD i 0≤n:=by simpa using h4
 have nextI:(∀ j,i=j + 1→lkF t (p.getD j 0) (p.getD i 0)≠0)→ldI n (lkF t) p (i + 1):=fun h=>⟨by omega,fun j hj=>by
  by_cases e:j < i
  ·exact hi1 j e
  ·obtain rfl:j=i:=by omega
   exact h4',fun j hj=>by
  by_cases e:j + 1 < i
  ·exact hi2 j e
  ·obtain rfl:i=j + 1:=by omega
   exact h j rfl⟩
 cases i with
 | zero =>
  refine Aw_se hE [0,4,1,2,3,5,6,7,8,9,10,11,12,13,14,15,16,17,18,19,20,21,22,23,24] [0,1,3,7,0,31,63,127,255,511,1023,2047,4095,8191,16383,2047,2047,67583,231423,493567,2047,2097151,4194303,8388607,16777215] [0,1,32,33,34,63] [] (by kernel_rfl) fun K hK=>?_
  refine daopsE_cut 6 fun K1 hK1=>?_
  simp only [go_sem,seval,h4,hmp,Bool.not_true,decide_false,Int.lt_irrefl]
  repeat refine sd0 ?_
  refine hK1 _ ?_
  clear hK1
  refine daopsE_cut 6 fun K1 hK1=>?_
  simp only [go_sem,seval,h4,hmp,Bool.not_true,decide_false,Int.lt_irrefl]
  repeat refine sd0 ?_
  refine hK1 _ ?_
  clear hK1
  refine daopsE_cut 6 fun K1 hK1=>?_
  simp only [go_sem,seval,h4,hmp,Bool.not_true,decide_false,Int.lt_irrefl]
  repeat refine sd0 ?_
  refine hK1 _ ?_
  clear hK1
  refine daopsE_cut 6 fun K1 hK1=>?_
  simp only [go_sem,seval,h4,hmp,Bool.not_true,decide_false,Int.lt_irrefl]
  repeat refine sd0 ?_
  refine hK1 _ ?_
  clear hK1
  simp only [go_sem,seval,h4,hmp,Bool.not_true,decide_false,Int.lt_irrefl]
  repeat refine sd0 ?_
  refine hK _ (Aw_no rfl (Aw_skip (hN12 _ (hB11 _ ?_))))
  refine Aw_tx hE [0,1,32,33,34] [] fun K hK=>?_
  simp only [go_sem,seval]
  repeat refine sd0 ?_
  refine hK _ (hN8 1 _ (nextI fun j h=>by omega) (by omega) (Le.refl _))
 | succ i =>
 have hg2':(rows p)[(((i + 1:Nat):Int) - 1).toNat]? = some [.v (.int .i64 (p.getD i 0))]:=by rw [show (((i + 1:Nat):Int) - 1).toNat=i by omega];exact rows_get p i (by omega)
 have h0d:decide ((0:Int) < ((i + 1:Nat):Int))=true:=decide_eq_true (by omega)
 have h0':(0:Int)≤((i + 1:Nat):Int) - 1:=by omega
 by_cases h5:lkF t (p.getD i 0) (p.getD (i + 1) 0)=0
 ·have h5d:decide (lkF t (p.getD i 0) (p.getD (i + 1) 0)=0)=true:=decide_eq_true h5
  refine Aw_se hE [0,4,1,2,3,5,6,7,8,9,10,11,12,13,14,15,16,17,18,19,20,21,22,23,24] [0,1,3,7,0,31,63,127,255,511,1023,2047,4095,8191,16383,2047,2047,67583,231423,493567,2047,2097151,4194303,8388607,16777215] [0,1,32,33,34,63] [] (by kernel_rfl) fun K hK=>?_
  refine daopsE_cut 6 fun K1 hK1=>?_
  simp only [go_sem,seval,hg2',h4,h0d,h0',hmp,h5d,decide_true,Bool.not_true]
  repeat refine sd0 ?_
  refine hK1 _ ?_
  clear hK1
  refine daopsE_cut 6 fun K1 hK1=>?_
  simp only [go_sem,seval,hg2',h4,h0d,h0',hmp,h5d,decide_true,Bool.not_true]
  repeat refine sd0 ?_
  refine hK1 _ ?_
  clear hK1
  refine daopsE_cut 6 fun K1 hK1=>?_
  simp only [go_sem,seval,hg2',h4,h0d,h0',hmp,h5d,decide_true,Bool.not_true]
  repeat refine sd0 ?_
  refine hK1 _ ?_
  clear hK1
  refine daopsE_cut 6 fun K1 hK1=>?_
  simp only [go_sem,seval,hg2',h4,h0d,h0',hmp,h5d,decide_true,Bool.not_true]
  repeat refine sd0 ?_
  refine hK1 _ ?_
  clear hK1
  simp only [go_sem,seval,hg2',h4,h0d,h0',hmp,h5d,decide_true,Bool.not_true]
  repeat refine sd0 ?_
  refine hK _ (Aw_yes rfl ?_)
  refine Aw_st hE [6] [] fun K hK=>?_
  simp only [go_sem,seval]
  refine hK _ (Aw_ret (hR12 _ (hR11 _ (hR8 _ (hR7 _ (hR6 _ (hQ _ ?_)))))))
  simp only [go_sem,seval]
  exact fin false (leadB_F fun h=>h.2.2.2.2.2 i hil h5)
 ·have h5d:decide (lkF t (p.getD i 0) (p.getD (i + 1) 0)=0)=false:=decide_eq_false h5
  refine Aw_se hE [0,4,1,2,3,5,6,7,8,9,10,11,12,13,14,15,16,17,18,19,20,21,22,23,24] [0,1,3,7,0,31,63,127,255,511,1023,2047,4095,8191,16383,2047,2047,67583,231423,493567,2047,2097151,4194303,8388607,16777215] [0,1,32,33,34,63] [] (by kernel_rfl) fun K hK=>?_
  refine daopsE_cut 6 fun K1 hK1=>?_
  simp only [go_sem,seval,hg2',h4,h0d,h0',hmp,h5d,decide_true,Bool.not_true]
  repeat refine sd0 ?_
  refine hK1 _ ?_
  clear hK1
  refine daopsE_cut 6 fun K1 hK1=>?_
  simp only [go_sem,seval,hg2',h4,h0d,h0',hmp,h5d,decide_true,Bool.not_true]
  repeat refine sd0 ?_
  refine hK1 _ ?_
  clear hK1
  refine daopsE_cut 6 fun K1 hK1=>?_
  simp only [go_sem,seval,hg2',h4,h0d,h0',hmp,h5d,decide_true,Bool.not_true]
  repeat refine sd0 ?_
  refine hK1 _ ?_
  clear hK1
  refine daopsE_cut 6 fun K1 hK1=>?_
  simp only [go_sem,seval,hg2',h4,h0d,h0',hmp,h5d,decide_true,Bool.not_true]
  repeat refine sd0 ?_
  refine hK1 _ ?_
  clear hK1
  simp only [go_sem,seval,hg2',h4,h0d,h0',hmp,h5d,decide_true,Bool.not_true]
  repeat refine sd0 ?_
  refine hK _ (Aw_no rfl (Aw_skip (hN12 _ (hB11 _ ?_))))
  refine Aw_tx hE [0,1,32,33,34] [] fun K hK=>?_
  simp only [go_sem,seval]
  repeat refine sd0 ?_
  refine hK _ (hN8 (i + 1 + 1) _ (nextI fun j h=>by obtain rfl:i=j:=(by omega);exact h5) (by omega) (Le.refl _))
def cCloneX:ConM:={
 pre:=fun args m1=>∃ l:List Int,args=[isl l]∧m1=[]∧l.length≤2000000
 post:=fun args _ r m2=>∀ l:List Int,args=[isl l]→(l=[]∧((r = .nl∧m2=[])∨(r = .xs 5 0 0 0 1∧m2=[(5,[])])))∨(l≠[]∧∃ cap,l.length≤cap∧r = .xs 7 0 l.length cap 1∧m2=[(5,[]),(7,cI l++List.replicate (cap - l.length) .junk)]) }
theorem cloneX_ok:FineM Tryd.prog 58 cCloneX:=by
 refine fineM_of [] ms_nil [] mm_nil [5] [] ex_nil (T:=TT) Tryd.func58 rfl Tryd.ntmps58 (by rw [Tryd.results58]) rfl rfl tt gs_nil ds_nil ?_
 rintro args m1 ⟨l,rfl,rfl,hl⟩
 refine ⟨by simp,fun E hE Q hQ=>?_⟩
 refine Aw_st hE [0] [5,7] fun K hK=>?_
 simp only [go_sem,seval]
 repeat refine sd0 ?_
 refine hK _ ?_;clear hK K
 refine Aw_sq fun B1 hB1 hR1 hX1=>?_
 refine Aw_st hE [0,4] [5,7] fun K hK=>?_
 simp only [go_sem,seval]
 repeat refine sd0 ?_
 rintro b _ hb rfl
 refine hK _ (Aw_cond rfl (fun hc2=>?_) (fun hc2=>?_))
 ·refine Aw_st hE [2] [5,7] fun K hK=>?_
  simp only [go_sem,seval]
  repeat refine sd0 ?_
  refine hK _ (Aw_ret (hR1 _ (hQ _ ?_)))
  simp only [go_sem,seval]
  intro l' h
  obtain rfl:=isl_inj h
  have:l=[]:=by
   cases l with
   | nil=>rfl
   | cons x l=>have:=hb (by simp [rows]);rw [this] at hc2;cases hc2
  exact .inl ⟨this,.inl ⟨rfl,rfl⟩⟩
 ·refine Aw_skip (hB1 _ ?_)
  refine Aw_st hE [2] [5,7] fun K hK=>?_
  simp only [go_sem,seval,List.contains_cons,Bool.true_or]
  repeat refine sd0 ?_
  rw [List.take_of_length_le (by rw [cI_len];exact Nat.le_refl _)]
  refine ⟨⟨rows_row l,by omega,allLeaf_cI l⟩,fun h=>?_,fun h cap' hc=>?_⟩
  ·have hl0:l=[]:=List.eq_nil_of_length_eq_zero (by omega)
   subst hl0
   refine hK _ (Aw_ret (hQ _ ?_))
   simp only [go_sem,seval]
   intro l' h
   obtain rfl:=isl_inj h
   exact .inl ⟨rfl,.inr ⟨rfl,rfl⟩⟩
  refine hK _ (Aw_ret (hQ _ ?_))
  simp only [go_sem,seval]
  intro l' h'
  obtain rfl:=isl_inj h'
  refine .inr ⟨fun e=>by rw [e] at h;simp at h,cap',hc,rfl,?_⟩
  simp [jN,List.take_of_length_le,cI_len,ntAll_eq,cI]
theorem clone_calls {w:World} {S:Nat→Nat→Prop} {v:Value} {l:List Int} (hsx:∀ b o,S b o→Lk w b o) (hs1:∀ b o v,S b o→w.cell? ⟨b,o,none⟩=some v→v.oneCell'=true) (hv:RdD w S (.sl (rows l)) v) (hl:l.length≤2000000) :
  Calls Tryd.prog 58 #[v] w fun e w'=>∃ u b,e = .returned u∧w.grownBy w' none∧RowO w' u l b∧(l≠[]→w.heap.size≤b):=by
 refine (m_calls cloneX_ok hsx hs1 (args:=[isl l]) rfl (fun j x hx c hw hS=>?_) (fun x hx=>?_) ⟨l,rfl,rfl,hl⟩ fun _ _=>trivial).mono ?_
 ·match j,hx with
  | 0,hx=>obtain rfl:=Option.some.inj hx;subst hw;subst hS;exact .sl none _ v hv trivial
 ·obtain rfl:=List.mem_singleton.1 hx;rfl
 ·rintro e w' ⟨u,r,m2,c,c',rfl,rfl,hp,O⟩
  have hO:=outM_grown O
  rcases hp l rfl with ⟨e,⟨rfl,rfl⟩ | ⟨rfl,rfl⟩⟩ | ⟨e,cap,hc,rfl,rfl⟩
  ·refine ⟨u,0,rfl,hO,.inr ⟨e,.inl ?_⟩,fun h=>absurd e h⟩
   have:=O.rd
   cases this;rfl
  ·refine ⟨u,0,rfl,hO,.inr ⟨e,.inr (.inr ⟨_,_,_,(xs_val O.rd rfl).1⟩)⟩,fun h=>absurd e h⟩
  ·obtain ⟨b,h1,h2⟩:=outM_row (rest:=List.replicate (cap - l.length) AV.junk) O rfl (by rw [List.length_replicate];omega)
   exact ⟨u,b,rfl,hO,h2.o,fun _=>h1⟩
set_option maxHeartbeats 4000000 in
theorem copyW_calls {w:World} {S:Nat→Nat→Prop} {v:Value} {R:List (List Int)} (hsx:∀ b o,S b o→Lk w b o) (hs1:∀ b o v,S b o→w.cell? ⟨b,o,none⟩=some v→v.oneCell'=true) (hv:RdD w S (.sl (wrows R)) v) (hR:bigM R) :
  Calls Tryd.prog 44 #[v] w fun e w'=>∃ u,e = .returned u∧w.grownBy w' none∧Nest w' u R w.heap.size w'.heap.size:=by
 refine ax_enter Tryd.func44 rfl Tryd.ntmps44 (by rw [Tryd.results44]) rfl rfl (fun _=>0) (fun _=>False) (args:=[wsl R]) (m1:=[]) hsx hs1 rfl (by simp) (fun j x hx=>?_) (fun d ls h=>by cases h) (fun d d' ls ls' h=>by cases h) ?_
 ·match j,hx with
  | 0,hx=>obtain rfl:=Option.some.inj hx;exact .sl none _ v hv trivial
 obtain ⟨hb1,hb2⟩:=hR
 obtain ⟨E,hEe⟩:∃ E,E=en0 Tryd.prog w S (fun _=>0) (fun _=>False):=⟨_,rfl⟩
 have hEP:E.P=Tryd.prog:=by rw [hEe];rfl
 have hEd:E.draws=false:=by rw [hEe];rfl
 rw [← hEe]
 have hE:TbOk E { T:=TT,G:=[],D:=[],draws:=false,lent:=true,X:=[8] }:=tb_newX [8] hEP hEd rfl tt
 unfold Eng.stM
 refine Ax_st hE [0] [8] fun K hK=>?_
 simp only [go_sem,seval]
 refine hK _ ?_;clear hK K
 refine Ax_st hE [0,3] [8] fun K hK=>?_
 simp only [go_sem,seval]
 refine ⟨⟨⟨by omega,by omega⟩,by omega⟩,?_⟩
 refine hK _ ?_;clear hK K
 refine Ax_sq fun B1 hB1 hR1 hX1=>?_
 refine Ax_st hE [3,9,10,11] [8] fun K hK=>?_
 simp only [go_sem,seval]
 refine hK _ ?_;clear hK K
 refine Ax_bk fun B2 hN2 hE2 hR2 hX2=>?_
 refine Ax_lpI (fun (i:Nat) (a:Act) (w':World)=>∃ (vs:List Value) (bs:Nat→Nat) (c:Gh),c.w=w'∧RC E ⟨23,[(3,.xs 8 0 R.length R.length 1),(9,wsl R),(10,iv (R.length:Int)),(11,iv (i:Int))],[(8,vs.map AV.v++List.replicate (R.length - i) AV.nl)],0⟩ a c∧i≤R.length∧vs.length=i∧
   (∀ j:Nat,j < i→RowO w' (vs.getD j undef) (R.getD j []) (bs j)∧(R.getD j []≠[]→bs j≠c.β 8∧w.heap.size≤bs j∧bs j < w'.heap.size))∧∀ j k:Nat,j < i→k < i→R.getD j []≠[]→R.getD k []≠[]→bs j=bs k→j=k) (fun i=>R.length - i) 0 (fun _ a w' hr=>?_) ?_
 ·obtain ⟨c,rfl,hRC⟩:=hr.rc
  exact ⟨[],fun _=>0,c,rfl,hRC,Nat.zero_le _,rfl,fun j h=>absurd h (by omega),fun j k h=>absurd h (by omega)⟩
 rintro i a1 w1 ⟨vs,bs,c,rfl,hRC,hi,hvl,hrow,hinj⟩ B3 hN3 hR3 hX3
 have hre:St.re ⟨23,[(3,.xs 8 0 R.length R.length 1),(9,wsl R),(10,iv (R.length:Int)),(11,iv (i:Int))],[(8,vs.map AV.v++List.replicate (R.length - i) AV.nl)],0⟩=⟨23,[(3,.xs 8 0 R.length R.length 1),(9,wsl R),(10,iv (R.length:Int)),(11,iv (i:Int))],[(8,vs.map AV.v++List.replicate (R.length - i) AV.nl)],0⟩:=by
  simp only [St.re,ntσ,ntm,AV.nt,vv_nl]
 have hR0:=hRC.re.r
 rw [hre] at hR0
 have hBk:=Bk.re hRC hEd
 have hE:=hE.re hEd hRC
 obtain ⟨E1,hE1⟩:∃ E1,E1=reE E ⟨23,[(3,.xs 8 0 R.length R.length 1),(9,wsl R),(10,iv (R.length:Int)),(11,iv (i:Int))],[(8,vs.map AV.v++List.replicate (R.length - i) AV.nl)],0⟩ c:=⟨_,rfl⟩
 have hP1:E1.P=Tryd.prog:=by rw [hE1];exact hEP
 have hd1:E1.draws=false:=by rw [hE1];rfl
 have hw1:E1.w0=c.w:=by rw [hE1];rfl
 have hL1:∀ b,E1.L b→b=c.β 8:=fun b hb=>by
  rw [hE1] at hb
  obtain ⟨d,ls,hl,rfl⟩:=hb
  simp only [lkm] at hl
  split at hl
  ·rename_i e;rw [e]
  ·cases hl
 rw [← hE1] at hE hR0 hBk
 refine Ax.run (E:=E1) (st:=⟨23,[(3,.xs 8 0 R.length R.length 1),(9,wsl R),(10,iv (R.length:Int)),(11,iv (i:Int))],[(8,vs.map AV.v++List.replicate (R.length - i) AV.nl)],0⟩) ?_ hP1 hR0
 -- what holds of the rows behind steps of this context
 have hkeep:∀ st a c2,RC E1 st a c2→∀ j,j < i→RowO c2.w (vs.getD j undef) (R.getD j []) (bs j)∧(R.getD j []≠[]→bs j < c2.w.heap.size):=fun st a c2 h j hj=>by
  have hf:=h.1.fr
  rw [hd1,hw1] at hf
  obtain ⟨r1,r2⟩:=hrow j hj
  exact ⟨r1.same fun hne hlt=>hf.block _ hlt (by simp) fun hb=>(r2 hne).1 (hL1 _ hb),fun hne=>Nat.lt_of_lt_of_le (r2 hne).2.2 hf.size⟩
 have hlen7:(vs.map AV.v++List.replicate (R.length - i) AV.nl).length=R.length:=by rw [List.length_append,List.length_map,List.length_replicate];omega
 refine Ax_st hE [3,9,10,11,12] [8] fun K hK=>?_
 simp only [go_sem,seval]
 refine hK _ ?_;clear hK K
 refine Ax_sq fun B4 hB4 hR4 hX4=>?_
 refine Ax_cond rfl (fun hc5=>?_) (fun hc5=>?_)
 ·simp only [dte] at hc5
  have hil:i < R.length:=by omega
  have hgw:=wrows_get R i hil
  have hwl:=hb2 _ (getD_memL R i hil)
  refine Ax_skip (hB4 _ ?_)
  refine Ax_sq fun B6 hB6 hR6 hX6=>?_
  refine Ax_bk fun B7 hN7 hE7 hR7 hX7=>?_
  refine Ax_st hE [3,4,5,9,10,11] [8] fun K hK=>?_
  simp only [go_sem,seval,hgw]
  repeat refine sd0 ?_
  refine hK _ ?_;clear hK K
  refine Ax_spt hE 3 fun K hK=>?_
  simp only [go_sem,seval,List.take_succ_cons,List.take_zero]
  refine hK _ fun a2 w2 hr2=>?_
  clear hK K
  obtain ⟨c2,rfl,hRC2⟩:=hr2.rc
  refine sp_call rfl rfl cloneX_ok.1 ?_
  have h18:Rd c2 (isl (R.getD i [])) (a2.tmps.getD 18 undef):=hRC2.2.1 18
  simp only [List.map_toArray,List.map_cons,List.map_nil,Act.eval]
  refine (clone_calls hRC2.1.sx hRC2.1.s1 (sl_rd h18) hwl).mono ?_
  rintro e w3 ⟨u,b,rfl,hg,hro,hlo⟩
  refine ⟨u,rfl,?_⟩
  have hR3':=hRC2.nxm (w':=w3) (fun b o hS=>hg.block b (hRC2.1.slt hS) (by simp)) (fun d ls hl=>hg.block _ (hRC2.1.box d ls hl).lt.2 (by simp)) hro.one 19
  have hBk2:=Bk.nx hRC2 hd1 (gb_gl hg fun _=>False) (fun _ h=>h.elim)
  generalize hE2e:nxM E1 _ c2 w3=E2 at hR3' hBk2
  have hP2:E2.P=Tryd.prog:=hBk2.P.trans hP1
  have hd2:E2.draws=false:=hBk2.d'
  have hw2:E2.w0=w3:=by rw [← hE2e];rfl
  have hL2:∀ b,E2.L b→b=c2.β 8:=fun b hb=>by
   rw [← hE2e] at hb
   obtain ⟨d,ls,hl,rfl⟩:=hb
   simp only [lkm] at hl
   split at hl
   ·rename_i e;rw [e]
   ·cases hl
  have hE:TbOk E2 { T:=TT,G:=[],D:=[],draws:=false,lent:=true,X:=[8] }:=tb_newX [8] hP2 hd2 rfl tt
  refine sp_go hE hP2 hR3' ?_
  have hset:(vs.map AV.v++List.replicate (R.length - i) AV.nl).set i (AV.v u)=(vs++[u]).map AV.v++List.replicate (R.length - (i + 1)) AV.nl:=by
   have:=vv_set vs (R.length - i) u (by omega)
   rw [hvl] at this
   rw [this,Nat.sub_sub]
  have hil2:i < R.length:=hil
  simp only [go_sem,seval,St.re,List.drop_succ_cons,List.drop_zero,vv_nl,hlen7,hset]
  repeat refine sd0 ?_
  refine hN7 _ (hB6 _ ?_)
  refine Ax_tx hE [3,9,10,11] [8] fun K hK=>?_
  simp only [go_sem,seval]
  repeat refine sd0 ?_
  refine hK _ fun hP5 a5 w5 hr5=>?_
  obtain ⟨c5,rfl,h5⟩:=hr5.rc
  have h5E:=RC.bk hBk (RC.bk hBk2 h5)
  have hf2:=h5.1.fr
  rw [hd2,hw2] at hf2
  have hb2:=(hRC2.1.box 8 _ rfl).lt
  rw [hw1] at hb2
  have hc27:c2.β 8=c.β 8∨c.w.heap.size≤c2.β 8:=hb2.1.elim .inr fun h=>.inl (hL1 _ h)
  have hb5:=(h5.1.box 8 _ rfl).lt
  rw [hw2] at hb5
  have hc57:c5.β 8=c2.β 8∨w3.heap.size≤c5.β 8:=hb5.1.elim .inr fun h=>.inl (hL2 _ h)
  have hf0:=hRC.1.fr.size
  have hf1:=hRC2.1.fr.size
  rw [hw1] at hf1
  have hEw:E.w0=w:=by rw [hEe];rfl
  rw [hEw] at hf0
  have hold:∀ j,j < i→RowO c5.w (vs.getD j undef) (R.getD j []) (bs j)∧(R.getD j []≠[]→bs j≠c5.β 8∧w.heap.size≤bs j∧bs j < c5.w.heap.size):=fun j hj=>by
   obtain ⟨r1,r2⟩:=hkeep _ _ _ hRC2 j hj
   obtain ⟨_,r4⟩:=hrow j hj
   have hx:R.getD j []≠[]→c5.w.heap[bs j]? = c2.w.heap[bs j]?∧bs j < w3.heap.size:=fun hne=>by
    have hlt:=r2 hne
    have hne2:bs j≠c2.β 8:=by have:=r4 hne;omega
    have h3:bs j < w3.heap.size:=Nat.lt_of_lt_of_le hlt hg.size
    exact ⟨(hf2.block (bs j) h3 (by simp) fun hb=>hne2 (hL2 _ hb)).trans (hg.block (bs j) hlt (by simp)),h3⟩
   exact ⟨r1.same fun hne _=>(hx hne).1,fun hne=>by have h3:=r4 hne;have h4:=(hx hne).2;have h5:=r2 hne;have h6:=hf2.size;have h7:=hg.size;omega⟩
  have hnew:RowO c5.w u (R.getD i []) b∧(R.getD i []≠[]→b≠c5.β 8∧w.heap.size≤b∧b < c5.w.heap.size):=by
   have hx:R.getD i []≠[]→b < w3.heap.size∧b≠c2.β 8:=fun hne=>by
    have h1:=(hro.row hne).lt
    have h2:=hlo hne
    omega
   exact ⟨hro.same fun hne hlt=>hf2.block b hlt (by simp) fun hb=>(hx hne).2 (hL2 _ hb),fun hne=>by have h1:=hx hne;have h2:=hlo hne;have h6:=hf2.size;omega⟩
  refine hN3 (i + 1) a5 c5.w (by omega) ⟨vs++[u],fun j=>if j=i then b else bs j,c5,rfl,?_,by omega,by rw [List.length_append,hvl];rfl,fun j hj=>?_,fun j k hj hk hnj hnk he=>?_⟩
  ·have e:((i + 1:Nat):Int)=(i:Int) + 1:=by omega
   rw [e];exact h5E
  ·by_cases e:j=i
   ·subst e
    simp only [if_pos]
    have:=getD_snoc_eq vs u undef
    rw [hvl] at this
    rw [this];exact hnew
   ·simp only [if_neg e]
    rw [getD_snoc_lt _ _ _ _ (by omega)]
    exact hold j (by omega)
  ·by_cases e:j=i
   ·by_cases e':k=i
    ·omega
    ·simp only [if_pos e,if_neg e'] at he
     have h1:=(hkeep _ _ _ hRC2 k (by omega)).2 hnk
     have h2:=hlo (e ▸ hnj)
     omega
   ·by_cases e':k=i
    ·simp only [if_neg e,if_pos e'] at he
     have h1:=(hkeep _ _ _ hRC2 j (by omega)).2 hnj
     have h2:=hlo (e' ▸ hnk)
     omega
    ·simp only [if_neg e,if_neg e'] at he
     exact hinj j k (by omega) (by omega) hnj hnk he
 ·simp only [dfn] at hc5
  obtain rfl:i=R.length:=by omega
  refine Ax_exit (hX4 _ _ (hX3 _ _ (hE2 _ (hB1 _ ?_))))
  refine Ax_st hE [2] [8] fun K hK=>?_
  simp only [go_sem,seval]
  refine hK _ (Ax_ret (bp_ret (by rw [Tryd.results44]) fun a6 c6 h6=>?_))
  have h6E:=RC.bk hBk h6
  have hEw:E.w0=w:=by rw [hEe];rfl
  have hEL:∀ b,¬ E.L b:=fun b h=>by rw [hEe] at h;exact h
  have hgr:w.grownBy c6.w none:=by
   have:=h6E.1.fr
   rw [hEd,hEw] at this
   exact this.by hEL
  have hv2:a6.tmps.getD 2 undef = .slice (some ⟨c6.β 8,0,none⟩) R.length R.length:=(xs_val (h6.2.1 2) rfl).1
  obtain ⟨cs,T,b1,b2,b3,b4,b5⟩:=(h6E.1.box 8 _ rfl).cells rfl
  rw [Nat.sub_self,List.replicate_zero,List.append_nil] at b3 b4
  have hcs:cs=vs.toArray:=by
   apply Array.ext
   ·rw [b3,List.length_map,List.size_toArray]
   ·intro k h1 h2
    have h2':k < vs.length:=by simpa using h2
    have:=b4 k (.v vs[k]) (by simp [h2'])
    have e:cs.getD k undef=cs[k]:=by simp [Array.getD_eq_getD_getElem?,h1]
    rw [e] at this
    generalize cs[k]=z at this
    cases this;simp
  rw [hcs] at b2
  have hlo:w.heap.size≤c6.β 8:=by
   rw [hEw] at b1
   exact b1.elim id fun h=>absurd h (hEL _)
  have hb6:=(h6.1.box 8 _ rfl).lt
  rw [hw1] at hb6
  have hc67:c6.β 8=c.β 8∨c.w.heap.size≤c6.β 8:=hb6.1.elim .inr fun h=>.inl (hL1 _ h)
  refine ⟨_,rfl,hgr,vs,bs,c6.β 8,⟨⟨T,hv2,b2⟩,hvl,fun j hj=>⟨(hkeep _ _ _ h6 j hj).1,fun hne=>?_⟩,fun i j hi hj h1 h2=>hinj i j hi hj h1 h2⟩,⟨hlo,(h6E.1.box 8 _ rfl).lt.2⟩,fun j hj hne=>⟨((hrow j hj).2 hne).2.1,(hkeep _ _ _ h6 j hj).2 hne⟩⟩
  have:=(hrow j hj).2 hne
  omega
abbrev NX (n:Int) (t:List (Value × Value)) (home:Int) (wv:Value):AV:=.el [.v (.int .i64 n),.mp t,.v (.int .i64 home),.v wv]
structure NetW (w w':World) (S S':Nat→Nat→Prop) (p:Value) (n:Int) (t:List (Value × Value)) (home:Int) (wv:Value) (W:List (List Int)) (lo hi:Nat):Prop where
 rd:RdD w' S' (.ptr [.v (.int .i64 n),.mp t,.v (.int .i64 home),.v wv]) p
 sx:∀ b o,S' b o→Lk w' b o
 s1:∀ b o v,S' b o→w'.cell? ⟨b,o,none⟩=some v→v.oneCell'=true
 sS:∀ b o,S' b o→w.heap.size≤b∨S b o
 nest:Nest w' wv W lo hi
 lob:w.heap.size≤lo
 hib:hi≤w'.heap.size
 av:∀ b o,S' b o→¬ (lo≤b∧b < hi)
theorem GOk.cons {E:En} {f:FuncId} {C:Con} {G:List (FuncId × Con)} (h:Fine Tryd.prog f C) (hi:∀ w',E.w0.grownBy w' none→C.inv w') (hG:∀ p ∈ G,Fine Tryd.prog p.1 p.2∧∀ w',E.w0.grownBy w' none→p.2.inv w'):∀ p ∈ (f,C)::G,Fine Tryd.prog p.1 p.2∧∀ w',E.w0.grownBy w' none→p.2.inv w':=fun p hp=>by
 rcases List.mem_cons.1 hp with rfl | hp
 ·exact ⟨h,hi⟩
 ·exact hG p hp
theorem GOk.nil {E:En}:∀ p ∈ ([]:List (FuncId × Con)),Fine Tryd.prog p.1 p.2∧∀ w',E.w0.grownBy w' none→p.2.inv w':=fun p hp=>by cases hp
set_option maxHeartbeats 8000000 in
theorem readNet_calls {pb:Addr} {w:World} {S:Nat→Nat→Prop} (hI:WP pb w) (hsx:∀ b o,S b o→Lk w b o) (hs1:∀ b o v,S b o→w.cell? ⟨b,o,none⟩=some v→v.oneCell'=true) {R W:List (List Int)} {x:Int} {v0 v2:Value} (h0:RdD w S (.sl (wrows R)) v0) (h2v:RdD w S (.sl (wrows W)) v2) (hbR:bigM R) (hbW:bigM W) :
  Calls Tryd.prog 28 #[v0,.int .i64 x,v2] w fun e w'=>w.grownBy w' none∧((netOk R x W=false∧e = .returned (.tuple #[.pointer none,.bool false]))∨(netOk R x W=true∧∃ p t wv lo hi S',e = .returned (.tuple #[p,.bool true])∧mpI t∧lkF t=ofR R∧NetW w w' S S' p R.length t x wv W lo hi)):=by
 refine ax_enter Tryd.func28 rfl Tryd.ntmps28 (by rw [Tryd.results28]) rfl rfl (fun _=>0) (fun _=>False) (args:=[wsl R,iv x,wsl W]) (m1:=[]) hsx hs1 rfl (by simp) (fun j y hy=>?_) (fun d ls h=>by cases h) (fun d d' ls ls' h=>by cases h) ?_
 ·match j,hy with
  | 0,hy=>obtain rfl:=Option.some.inj hy;exact .sl none _ v0 h0 trivial
  | 1,hy=>obtain rfl:=Option.some.inj hy;exact .v _ rfl
  | 2,hy=>obtain rfl:=Option.some.inj hy;exact .sl none _ v2 h2v trivial
 have hWP:∀ w',w.grownBy w' none→WP pb w':=fun w' hg=>wp_inh pb w w' 0 hI hg
 obtain ⟨E0,hE0⟩:∃ E,E=en0 Tryd.prog w S (fun _=>0) (fun _=>False):=⟨_,rfl⟩
 have hP0:E0.P=Tryd.prog:=by rw [hE0];rfl
 have hd0:E0.draws=false:=by rw [hE0];rfl
 have hw0:E0.w0=w:=by rw [hE0];rfl
 have hL0:∀ b,¬ E0.L b:=fun b h=>by rw [hE0] at h;exact h
 have hS0:∀ b o,E0.S0 b o→S b o:=fun b o h=>by rw [hE0] at h;exact h
 have bad:∀ {E:En},w.grownBy E.w0 none→E.draws=false→(∀ b,¬ E.L b)→netOk R x W=false→AQ Tryd.prog E (bodyPost Tryd.prog Tryd.f28 fun e w'=>w.grownBy w' none∧((netOk R x W=false∧e = .returned (.tuple #[.pointer none,.bool false]))∨(netOk R x W=true∧∃ p t wv lo hi S',e = .returned (.tuple #[p,.bool true])∧mpI t∧lkF t=ofR R∧NetW w w' S S' p R.length t x wv W lo hi))) .ret ⟨71,[(6,.v (.pointer none)),(7,bv false)],[],0⟩:=fun {E} hg hd hL hno=>bp_ret2 (by rw [Tryd.results28]) fun a c hc=>by
  have e6:a.tmps.getD 6 undef = .pointer none:=v_eq (hc.2.1 6:Rd c (.v (.pointer none)) _)
  have e7:a.tmps.getD 7 undef = .bool false:=v_eq (hc.2.1 7:Rd c (bv false) _)
  have hf:=hc.1.fr
  rw [hd] at hf
  exact ⟨gb_trans hg (hf.by hL),.inl ⟨hno,by rw [e6,e7]⟩⟩
 have bad0:=fun h=>bad (E:=E0) (by rw [hw0];exact ⟨rfl,rfl,rfl,Nat.le_refl _,fun _ _ _=>rfl⟩) hd0 hL0 h
 rw [← hE0]
 have hE:TbOk E0 { T:=TT,G:=[(33,cRR)],D:=[(29,dHasM)],draws:=false }:=tb_newG hP0 hd0 hL0 rfl tt (GOk.cons readRels_ok (fun _ _=>trivial) GOk.nil) (DOk.cons hasM_ok (fun _ _=>trivial) DOk.nil)
 unfold Eng.stM
 refine Ax_st hE [0,1,2] [8,39] fun K hK=>?_
 simp only [go_sem,seval]
 refine hK _ ?_;clear hK K
 refine Ax_st hE [1,2,8,9] [8,39] fun K hK=>?_
 simp only [go_sem,seval]
 refine ⟨hbR,fun hok=>?_,fun hok t hmp hlk=>?_⟩
 ·refine hK _ ?_;clear hK K
  refine Ax_sq fun B1 hB1 hR1 hX1=>?_
  refine Ax_st hE [1,2,8,33] [8,39] fun K hK=>?_
  simp only [go_sem,seval]
  refine hK _ (Ax_yes rfl ?_)
  refine Ax_st hE [6,7] [999] fun K hK=>?_
  simp only [go_sem,seval]
  exact hK _ (Ax_ret (hR1 _ (bad0 (netOk_F fun h=>by rw [h.1] at hok;cases hok))))
 refine hK _ ?_;clear hK K
 refine Ax_sq fun B1 hB1 hR1 hX1=>?_
 have hW4:W.length≤2000000:=hbW.1
 have hn5:=(relsOk_iff.1 hok).1.2
 cases h1:hIb R.length x with
 | false =>
  have hno:=bad0 (netOk_F fun h=>by rw [h.2.1] at h1;cases h1)
  unfold hIb at h1
  refine Ax_st hE [1,2,8,33] [8,39] fun K hK=>?_
  refine aops_cut 6 fun K1 hK1=>?_
  simp only [go_sem,seval,h1,Bool.not_true,Bool.not_false]
  repeat refine sd0 ?_
  refine hK1 _ ?_
  clear hK1
  refine aops_cut 6 fun K1 hK1=>?_
  simp only [go_sem,seval,h1,Bool.not_true,Bool.not_false]
  repeat refine sd0 ?_
  refine hK1 _ ?_
  clear hK1
  simp only [go_sem,seval,h1,Bool.not_true,Bool.not_false]
  repeat refine sd0 ?_
  refine hK _ (Ax_yes rfl ?_)
  refine Ax_st hE [6,7] [999] fun K hK=>?_
  simp only [go_sem,seval]
  exact hK _ (Ax_ret (hR1 _ (hno)))
 | true =>
 have h1':=hIb_iff.1 h1
 have h1b:(decide (1≤x) && decide (x≤R.length))=true:=h1
 by_cases h2:W.length=R.length
 rotate_left
 ·have hno:=bad0 (netOk_F fun h=>h2 h.2.2.1)
  have h2d:decide ((W.length:Int)=R.length)=false:=decide_eq_false (by omega)
  refine Ax_st hE [1,2,8,33] [8,39] fun K hK=>?_
  refine aops_cut 6 fun K1 hK1=>?_
  simp only [go_sem,seval,h1b,h2d,Bool.not_true,Bool.not_false]
  repeat refine sd0 ?_
  refine hK1 _ ?_
  clear hK1
  refine aops_cut 6 fun K1 hK1=>?_
  simp only [go_sem,seval,h1b,h2d,Bool.not_true,Bool.not_false]
  repeat refine sd0 ?_
  refine hK1 _ ?_
  clear hK1
  simp only [go_sem,seval,h1b,h2d,Bool.not_true,Bool.not_false]
  repeat refine sd0 ?_
  refine hK _ (Ax_yes rfl ?_)
  refine Ax_st hE [6,7] [999] fun K hK=>?_
  simp only [go_sem,seval]
  exact hK _ (Ax_ret (hR1 _ (hno)))
 have h2d:decide ((W.length:Int)=R.length)=true:=decide_eq_true (by omega)
 refine Ax_st hE [1,2,8,33] [8,39] fun K hK=>?_
 refine aops_cut 6 fun K1 hK1=>?_
 simp only [go_sem,seval,h1b,h2d,Bool.not_true,decide_true]
 repeat refine sd0 ?_
 refine hK1 _ ?_
 clear hK1
 refine aops_cut 6 fun K1 hK1=>?_
 simp only [go_sem,seval,h1b,h2d,Bool.not_true,decide_true]
 repeat refine sd0 ?_
 refine hK1 _ ?_
 clear hK1
 simp only [go_sem,seval,h1b,h2d,Bool.not_true,decide_true]
 repeat refine sd0 ?_
 refine hK _ (Ax_no rfl (Ax_skip (hB1 _ ?_)))
 refine Ax_spDs hE 3 (.fst 1 (.fst 2 (.alt 0 (.alt 3 (.alt 4 (.alt 5 (.fst 6 .done) .non) .non) .non) (.alt 3 (.alt 0 (.alt 4 (.alt 5 (.fst 6 .done) .non) .non) .non) .non)))) (by kernel_rfl) fun N hN=>?_
 have key:∀ (a:Act) (c:Gh) (wv:Value) (lo hi:Nat),RC E0 ⟨71,[(1,iv x),(2,wsl W),(10,.loc 39 0)],[(39,[iv R.length,.dv (.mp t),iv x,.v wv])],0⟩ a c→Nest c.w wv W lo hi→w.heap.size≤lo→hi≤c.w.heap.size→(∀ b o,c.S b o→¬ (lo≤b∧b < hi))→¬ (lo≤c.β 39∧c.β 39 < hi)→N a c.w:=by
  intro a c wv lo hi hRC hnest hlo hhi hav hb39
  obtain ⟨c',hcw,hcβ,hcS,hRC'⟩:=hRC.frz (d:=39) rfl ((hRC.1.box 39 _ rfl).lt.1.elim id fun h=>absurd h (hL0 _)) rfl (n:=4) (ys:=[.v (.int .i64 R.length),.mp t,.v (.int .i64 x),.v wv]) rfl
  have hR3:=hRC'.re.r
  have hst:St.re (St.frz ⟨71,[(1,iv x),(2,wsl W),(10,.loc 39 0)],[(39,[iv R.length,.dv (.mp t),iv x,.v wv])],0⟩ 39 [.v (.int .i64 R.length),.mp t,.v (.int .i64 x),.v wv])=⟨71,[(1,iv x),(2,wsl W),(10,NX R.length t x wv)],[],0⟩:=rfl
  rw [hst] at hR3
  generalize hE3:reE E0 _ c'=E3 at hR3
  have hP3:E3.P=Tryd.prog:=by rw [← hE3];exact hP0
  have hd3:E3.draws=false:=by rw [← hE3];rfl
  have hw3:E3.w0=c.w:=by rw [← hE3];exact hcw
  have hL3:∀ b,¬ E3.L b:=fun b h=>by
   rw [← hE3] at h
   obtain ⟨d,ls,hl,_⟩:=h
   cases hl
  have hS3:∀ b o,E3.S0 b o→(c.S b o∨(b=c.β 39∧o < 4)):=fun b o h=>by
   rw [← hE3] at h
   have h:c'.S b o:=h
   rw [hcS] at h
   exact h
  have hg3:w.grownBy E3.w0 none:=by
   have:=hRC.1.fr
   rw [hd0,hw0] at this
   rw [hw3];exact this.by hL0
  have bad3:=fun h=>bad hg3 hd3 hL3 h
  have good:netOk R x W=true→AQ Tryd.prog E3 (bodyPost Tryd.prog Tryd.f28 fun e w'=>w.grownBy w' none∧((netOk R x W=false∧e = .returned (.tuple #[.pointer none,.bool false]))∨(netOk R x W=true∧∃ p t wv lo hi S',e = .returned (.tuple #[p,.bool true])∧mpI t∧lkF t=ofR R∧NetW w w' S S' p R.length t x wv W lo hi))) .ret ⟨71,[(6,NX R.length t x wv),(7,bv true)],[],0⟩:=fun hyes=>bp_ret2 (by rw [Tryd.results28]) fun a6 c6 hc6=>by
   have e7:a6.tmps.getD 7 undef = .bool true:=v_eq (hc6.2.1 7:Rd c6 (bv true) _)
   have h6:Rd c6 (NX R.length t x wv) (a6.tmps.getD 6 undef):=hc6.2.1 6
   have hf:=hc6.1.fr
   rw [hd3] at hf
   have hgg:=hf.by hL3
   refine ⟨gb_trans hg3 hgg,.inr ⟨hyes,_,t,wv,lo,hi,c6.S,by rw [e7],hmp,hlk,⟨h6.ptr,hc6.1.sx,hc6.1.s1,fun b o h=>?_,hnest.same fun b _ _ hlt=>?_,hlo,?_,fun b o h=>?_⟩⟩⟩
   ·rcases hc6.1.sS b o h with h' | h'
    ·exact .inl (Nat.le_trans hg3.size h')
    ·rcases hS3 b o h' with h' | ⟨rfl,_⟩
     ·exact (hRC.1.sS b o h').elim (fun h=>.inl (by rw [hw0] at h;exact h)) fun h=>.inr (hS0 b o h)
     ·exact .inl ((hRC.1.box 39 _ rfl).lt.1.elim (fun h=>by rw [hw0] at h;exact h) fun h=>absurd h (hL0 _))
   ·rw [hw3] at hgg
    exact hgg.block b hlt (by simp)
   ·rw [hw3] at hgg
    exact Nat.le_trans hhi hgg.size
   ·rcases hc6.1.sS b o h with h' | h'
    ·rw [hw3] at h';omega
    ·rcases hS3 b o h' with h' | ⟨rfl,_⟩
     ·exact hav b o h'
     ·exact hb39
  rw [← hcw]
  refine hN _ ?_ hP3 a c'.w hR3
  clear hE
  have hE:TbOk E3 { T:=TT,G:=[],D:=[(45,dEqI),(46,dLdD pb)],draws:=false }:=tb_newG hP3 hd3 hL3 rfl tt GOk.nil (DOk.cons eqI_ok (fun _ _=>trivial) (DOk.cons (leadsD_ok pb) (fun w' hg=>hWP w' (gb_trans hg3 hg)) DOk.nil))
  refine Ax_sq fun B6 hB6 hR6 hX6=>?_
  refine Ax_st hE [1,10,40,41,42] [8,39] fun K hK=>?_
  simp only [go_sem,seval]
  refine hK _ ?_;clear hK K
  refine Ax_bk fun B7 hN7 hE7 hR7 hX7=>?_
  refine Ax_lp (fun i:Nat=>⟨71,[(1,iv x),(10,NX R.length t x wv),(40,wsl W),(41,iv (W.length:Int)),(42,iv (i:Int))],[],0⟩) (fun i=>i≤W.length∧∀ j,j < i→wayOk R.length (ofR R) x ((j:Int) + 1) (W.getD j [])=true) (fun i=>W.length - i) 0 (Le_wa) ⟨by omega,fun j h=>absurd h (by omega)⟩ fun i hi B8 hN8 hR8 hX8=>?_
  obtain ⟨hi,hways⟩:=hi
  refine Ax_st hE [1,10,40,41,42,43] [8,39] fun K hK=>?_
  simp only [go_sem,seval]
  refine hK _ ?_;clear hK K
  refine Ax_sq fun B9 hB9 hR9 hX9=>?_
  refine Ax_cond rfl (fun hc10=>?_) (fun hc10=>?_)
  rotate_left
  ·simp only [dfn] at hc10
   refine Ax_exit (hX9 _ _ (hX8 _ _ (hE7 _ (hB6 _ ?_))))
   refine Ax_st hE [6,7] [999] fun K hK=>?_
   simp only [go_sem,seval]
   exact hK _ (Ax_ret (good (netOk_N.2 ⟨hok,h1,h2,fun j hj=>hways j (by have:j < R.length:=hj;omega)⟩)))
  simp only [dte] at hc10
  have hil:i < W.length:=by omega
  have hgw:=wrows_get W i hil
  have hwl:=hbW.2 _ (getD_memL W i hil)
  have hwl4:(W.getD i []).length≤4294967296:=by omega
  have hbadi:wayOk R.length (ofR R) x ((i:Int) + 1) (W.getD i [])=false→netOk R x W=false:=fun h=>netOk_F fun h'=>by rw [h'.2.2.2 i (by omega)] at h;cases h
  have hnext:wayOk R.length (ofR R) x ((i:Int) + 1) (W.getD i [])=true→i + 1≤W.length∧∀ j,j < i + 1→wayOk R.length (ofR R) x ((j:Int) + 1) (W.getD j [])=true:=fun h=>⟨by omega,fun j hj=>if e:j < i then hways j e else (by obtain rfl:j=i:=(by omega);exact h)⟩
  refine Ax_skip (hB9 _ ?_)
  refine Ax_sq fun B11 hB11 hR11 hX11=>?_
  refine Ax_bk fun B12 hN12 hE12 hR12 hX12=>?_
  refine Ax_st hE [1,10,11,12,40,41,42] [8,39] fun K hK=>?_
  simp only [go_sem,seval,hgw]
  repeat refine sd0 ?_
  refine hK _ ?_;clear hK K
  refine Ax_st hE [1,10,12,13,40,41,42] [8,39] fun K hK=>?_
  simp only [go_sem,seval]
  repeat refine sd0 ?_
  refine hK _ ?_;clear hK K
  refine Ax_bk fun B13 hN13 hE13 hR13 hX13=>?_
  refine Ax_st hE [1,10,12,13,40,41,42,49] [8,39] fun K hK=>?_
  simp only [go_sem,seval]
  refine hK _ (Ax_cond rfl (fun hc14=>?_) (fun hc14=>?_))
  ·simp only [dte] at hc14
   have hwh:=way_home (of:=ofR R) hn5 h1' (W.getD i [])
   rw [← hc14] at hwh
   rw [hc14] at hwh
   refine Ax_st hE [1,10,40,41,42,57] [8,39] fun K hK=>?_
   simp only [go_sem,seval,none_row,hwl4]
   repeat refine sd0 ?_
   refine hK _ (Ax_cond rfl (fun hc15=>?_) (fun hc15=>?_))
   ·simp only [Bool.not_eq_true',dfn] at hc15
    have hno:=bad3 (hbadi (by rw [hc14,hwh];exact decide_eq_false hc15))
    refine Ax_st hE [6,7] [999] fun K hK=>?_
    simp only [go_sem,seval]
    exact hK _ (Ax_ret (hR13 _ (hR12 _ (hR11 _ (hR8 _ (hR7 _ (hR6 _ (hno))))))))
   ·simp only [Bool.not_eq_false',dte] at hc15
    refine Ax_skip (hN13 _ (hN12 _ (hB11 _ ?_)))
    refine Ax_tx hE [1,10,40,41,42] [8,39] fun K hK=>?_
    simp only [go_sem,seval]
    repeat refine sd0 ?_
    refine hK _ (hN8 (i + 1) _ (hnext (by rw [hc14,hwh];exact decide_eq_true hc15)) (by omega) (Le.refl _))
  ·simp only [dfn] at hc14
   have hlen0:(wayOk R.length (ofR R) x ((i:Int) + 1) [])=true:=by rw [wayOk_nil];simpa using hc14
   have hlb:W.getD i []≠[]→leadB R.length (lkF t) x ((i:Int) + 1) (W.getD i [])=wayOk R.length (ofR R) x ((i:Int) + 1) (W.getD i []):=fun hne=>by rw [hlk];exact leadB_way hne hc14
   refine Ax_st hE [1,10,40,41,42,58] [8,39] fun K hK=>?_
   simp only [go_sem,seval,hmp,hwl]
   refine ⟨fun h3=>⟨?_,?_⟩,fun h3=>?_⟩
   ·simp only [dte] at h3;omega
   ·simp only [dte] at h3
    have hne:W.getD i []≠[]:=fun e=>by rw [e] at h3;simp at h3
    have hl:=hlb hne
    refine hK _ (Ax_cond rfl (fun hc18=>?_) (fun hc18=>?_))
    ·have hno:=bad3 (hbadi (by rw [← hl];simpa using hc18))
     refine Ax_st hE [6,7] [999] fun K hK=>?_
     simp only [go_sem,seval]
     exact hK _ (Ax_ret (hR13 _ (hR12 _ (hR11 _ (hR8 _ (hR7 _ (hR6 _ (hno))))))))
    ·refine Ax_skip (hN13 _ (hN12 _ (hB11 _ ?_)))
     refine Ax_tx hE [1,10,40,41,42] [8,39] fun K hK=>?_
     simp only [go_sem,seval]
     repeat refine sd0 ?_
     refine hK _ (hN8 (i + 1) _ (hnext (by rw [← hl];simpa using hc18)) (by omega) (Le.refl _))
   ·simp only [dfn] at h3
    have he:W.getD i []=[]:=List.eq_nil_of_length_eq_zero (by omega)
    refine hK _ (Ax_no rfl (Ax_skip (hN13 _ (hN12 _ (hB11 _ ?_)))))
    refine Ax_tx hE [1,10,40,41,42] [8,39] fun K hK=>?_
    simp only [go_sem,seval]
    repeat refine sd0 ?_
    refine hK _ (hN8 (i + 1) _ (hnext (by rw [he];exact hlen0)) (by omega) (Le.refl _))
 have sp:∀ {o:Oper} {ats:Array TypeId},o.op = .call { callee:=.value (.func 44),args:=#[.tmp 36],argTypes:=ats }→o.dst=some 37→∀ (st:St) (a1:Act) (w1:World),Eng.R E0 st a1 w1→lk 36 st.σ=wsl W→(∃ ls,st.m=[(8,ls)])→∀ (next:Act→World→Prop),(∀ (E2:En) (a2:Act) (w2:World) (wv:Value) (lo:Nat),E2.P=Tryd.prog→TbOk E2 { T:=TT,G:=[],D:=[],draws:=false,lent:=true }→Eng.R E2 (St.put st.re (some 37) (.v wv)) a2 w2→
   (∀ (a:Act) (c:Gh) (ls:List AV),RC E2 ⟨71,[(1,iv x),(2,wsl W),(10,.loc 39 0)],[(39,ls)],0⟩ a c→RC E0 ⟨71,[(1,iv x),(2,wsl W),(10,.loc 39 0)],[(39,ls)],0⟩ a c∧Nest c.w wv W lo w2.heap.size∧w.heap.size≤lo∧w2.heap.size≤c.w.heap.size∧(∀ b o,c.S b o→¬ (lo≤b∧b < w2.heap.size))∧¬ (lo≤c.β 39∧c.β 39 < w2.heap.size))→next a2 w2)→
   o.wp Tryd.prog a1 w1 next (NQ N):=by
  rintro o ats ho hod st a1 w1 hr1 h36 ⟨ls8,hm8⟩ next hnx
  refine op_sp ho ⟨_,Tryd.func44,rfl,rfl⟩ ?_
  rw [hod]
  simp only [List.map_toArray,List.map_cons,List.map_nil,Act.eval]
  obtain ⟨c1,rfl,h1c⟩:=hr1.rc
  have h36':=h1c.2.1 36
  rw [h36] at h36'
  refine (copyW_calls h1c.1.sx h1c.1.s1 (sl_rd h36') hbW).mono ?_
  rintro e w3 ⟨wv,rfl,hg,hnest⟩
  refine ⟨wv,rfl,?_⟩
  have hR2:=h1c.nxm (w':=w3) (fun b o hS=>hg.block b (h1c.1.slt hS) (by simp)) (fun d ls hl=>hg.block _ (h1c.1.box d ls hl).lt.2 (by simp)) hnest.one 37
  have hBk:=Bk.nx h1c hd0 (gb_gl hg fun _=>False) (fun _ h=>h.elim)
  have hsz:=h1c.1.fr.size
  rw [hw0] at hsz
  have hL2:∀ b,(nxM E0 st c1 w3).L b→b < c1.w.heap.size:=fun b ⟨d,ls,hl,e⟩=>by subst e;exact (h1c.1.box d ls hl).lt.2
  refine hnx (nxM E0 st c1 w3) _ w3 wv c1.w.heap.size hP0 (tb_newX [] hP0 rfl rfl tt) hR2 fun a c ls hc=>?_
  have hf:=hc.1.fr
  have hf:GrownL w3 c.w none (nxM E0 st c1 w3).L:=hf
  refine ⟨RC.bk hBk hc,hnest.same fun b h1 h2 hlt=>hf.block b hlt (by simp) fun hb=>by have:=hL2 b hb;omega,hsz,hf.size,fun b o hS hb=>?_,fun hb=>?_⟩
  ·rcases hc.1.sS b o hS with h' | h'
   ·have h':w3.heap.size≤b:=h'
    omega
   ·have:=h1c.1.slt (show c1.S b o from h')
    omega
  ·rcases (hc.1.box 39 _ rfl).lt.1 with h' | h'
   ·have h':w3.heap.size≤c.β 39:=h'
    omega
   ·have:=hL2 _ h'
    omega
 simp only [go_sem,seval]
 refine ⟨fun a1 w1 hr1=>?_,fun a1 w1 hr1=>?_⟩
 all_goals (refine SpT_mk rfl rfl (sp rfl rfl _ a1 w1 hr1 rfl ⟨_,rfl⟩ _ fun E2 a2 w2 wv lo hP2 hE2 hR2 hfin=>⟨E2,_,_,hE2,hP2,hR2,?_⟩))
 all_goals (simp only [go_sem,seval,St.re])
 all_goals (intro a4 w4 hr4)
 all_goals (obtain ⟨c4,rfl,h4⟩:=hr4.rc)
 all_goals (obtain ⟨g1,g2,g3,g4,g5,g6⟩:=hfin a4 c4 _ (h4.keep [1,2,10] [39]))
 all_goals (exact key a4 c4 wv _ _ g1 g2 g3 g4 g5 g6)
def NestF (w:World) (v:Value) (R:List (List Int)) (F:Nat→Prop):Prop:=∃ vs bs b0,NestAt w v R vs bs b0∧F b0∧∀ i,i < R.length→R.getD i []≠[]→F (bs i)
theorem NestF.same {w w':World} {v:Value} {R:List (List Int)} {F:Nat→Prop} (h:NestF w v R F) (e:∀ b,F b→b < w.heap.size→w'.heap[b]? = w.heap[b]?):NestF w' v R F:=by
 obtain ⟨vs,bs,b0,⟨⟨T,h1,h2⟩,h3,h4,h5⟩,h6,h7⟩:=h
 exact ⟨vs,bs,b0,⟨⟨T,h1,(e b0 h6 (Array.getElem?_eq_some_iff.1 h2).1).trans h2⟩,h3,fun i hi=>⟨(h4 i hi).1.same fun hne=>e _ (h7 i hi hne),(h4 i hi).2⟩,h5⟩,h6,h7⟩
theorem NestF.rd {w:World} {v:Value} {R:List (List Int)} {F:Nat→Prop} (h:NestF w v R F):RdD w (allS w) (.sl (wrows R)) v:=by
 obtain ⟨vs,bs,b0,h1,h2,h3⟩:=h
 exact h1.rd
theorem NestF.mono {w:World} {v:Value} {R:List (List Int)} {F F':Nat→Prop} (h:NestF w v R F) (hF:∀ x,x < w.heap.size→F x→F' x):NestF w v R F':=by
 obtain ⟨vs,bs,b0,h1,h2,h3⟩:=h
 exact ⟨vs,bs,b0,h1,hF _ (by obtain ⟨⟨T,_,h⟩,_⟩:=h1;exact (Array.getElem?_eq_some_iff.1 h).1) h2,fun i hi hne=>hF _ ((h1.2.2.1 i hi).1.row hne).lt (h3 i hi hne)⟩
theorem Nest.f {w:World} {v:Value} {R:List (List Int)} {lo hi:Nat} (h:Nest w v R lo hi):NestF w v R fun x=>lo≤x∧x < hi:=h
theorem pick_calls {pb:Addr} {w:World} {S:Nat→Nat→Prop} (hI:WP pb w) (hsx:∀ b o,S b o→Lk w b o) (hs1:∀ b o v,S b o→w.cell? ⟨b,o,none⟩=some v→v.oneCell'=true) {p wv:Value} {n home a:Int} {t:List (Value × Value)} {W:List (List Int)}
  (hp:RdD w S (.ptr [.v (.int .i64 n),.mp t,.v (.int .i64 home),.v wv]) p) (hw:RdD w (allS w) (.sl (wrows W)) wv) (hok:okN' ⟨n,t,home,W⟩) :
  Calls Tryd.prog 30 #[p,.int .i64 a] w fun e w'=>∃ u b,e = .returned u∧w.grownBy w' none∧RowO w' u (pickN W.length (lkF t) home (toS W) a) b∧(pickN W.length (lkF t) home (toS W) a≠[]→w.heap.size≤b):=by
 have hk1:Keeps w S w (fun b o=>S b o∨allS w b o):=Keeps.same (fun _ _ h=>.inl h) fun _ _ _=>rfl
 have hk2:Keeps w (allS w) w (fun b o=>S b o∨allS w b o):=Keeps.same (fun _ _ h=>.inr h) fun _ _ _=>rfl
 refine (m_calls (pickD_ok pb) (S:=fun b o=>S b o∨allS w b o) (fun b o h=>h.elim (hsx b o) allS_lk) (fun b o v h hv=>h.elim (fun h=>hs1 b o v h hv) fun h=>allS_one h hv) (args:=[NDV n t home W,iv a]) rfl (fun j y hy c hcw hcS=>?_) (fun y hy=>?_) ⟨(⟨n,t,home,W⟩,a),rfl,hok⟩ fun w' hg=>wp_inh pb w w' 0 hI hg).mono ?_
 ·subst hcw
  match j,hy with
  | 0,hy =>
   obtain rfl:=Option.some.inj hy
   cases hp with
   | ptr ls b off f hc hh =>
    refine .el _ b off f (fun k hk=>by rw [hcS];exact ⟨.inl (hc k hk).1,(hc k hk).2⟩) fun j x hx=>?_
    rw [hcS]
    match j,hx with
    | 0,hx=>exact (hh 0 x hx).keep hk1
    | 1,hx=>exact (hh 1 x hx).keep hk1
    | 2,hx=>exact (hh 2 x hx).keep hk1
    | 3,hx =>
     obtain rfl:=Option.some.inj hx
     have:=hh 3 (.v wv) rfl
     have e:f 3=wv:=by generalize f 3=z at this;cases this;rfl
     rw [e];exact hw.keep hk2
  | 1,hy=>obtain rfl:=Option.some.inj hy;exact .v _ rfl
 ·simp only [List.mem_cons,List.not_mem_nil,or_false] at hy
  rcases hy with rfl | rfl<;>rfl
 ·rintro e w' ⟨u,r,m2,c,c',rfl,rfl,⟨i,e',ho⟩,O⟩
  obtain rfl:=eND_inj i (⟨n,t,home,W⟩,a) e'
  rcases ho with ⟨hl,rfl,rfl⟩ | ⟨s,rfl,rfl⟩ | ⟨s,rfl,rfl⟩
  ·refine ⟨u,0,rfl,outM_grown O,.inr ⟨hl,.inl ?_⟩,fun h=>absurd hl h⟩
   have:=O.rd
   cases this;rfl
  ·obtain ⟨b,h1,h2⟩:=outM_row O rfl (by rw [jN_len])
   exact ⟨u,b,rfl,outM_grown O,h2.o,fun _=>h1⟩
  ·obtain ⟨b,h1,h2⟩:=outM_row O rfl (by rw [jN_len])
   exact ⟨u,b,rfl,outM_grown O,h2.o,fun _=>h1⟩
theorem enumS_cutI {E:En} {tb:Tb} {ops:List Oper} {t:Sch} {st st':St} {K:St→Prop} (h:LeE E st st') (k:enumS E tb ops t st' K):enumS E tb ops (.cut t) st K:=⟨st',h,k⟩
theorem LeE_xs {E:En} {st:St} (x d b off n cap:Nat) (hd:1000≤d) (hb:E.b0 d=b) (hk:bk d=0) (hc:n≤cap) (hx:lk x st.σ = .v (.slice (some ⟨b,off,none⟩) n cap)):LeE E st ⟨st.nt,(x,.xs d off n cap 1)::st.σ,st.m,st.rn⟩:=by
 intro a w hr
 obtain ⟨c,rfl,G,h3,h4,h5⟩:=hr
 refine ⟨c,rfl,G,fun y=>?_,h4,h5⟩
 simp only [lk]
 split
 ·rename_i e
  subst e
  have:=h3 y
  rw [hx] at this
  have e2:a.tmps.getD y undef = .slice (some ⟨c.β d,off,none⟩) n cap:=by rw [v_eq this,G.bl d hd,hb]
  rw [e2]
  exact .xs d off n cap 1 hc hk
 ·exact h3 y
set_option maxHeartbeats 8000000 in
theorem step_calls {pb:Addr} {w:World} {S:Nat→Nat→Prop} (hsx:∀ b o,S b o→Lk w b o) (hs1:∀ b o v,S b o→w.cell? ⟨b,o,none⟩=some v→v.oneCell'=true) {p wv:Value} {n home h:Int} {t:List (Value × Value)} {W:List (List Int)} {F:Nat→Prop}
  (hp:RdD w S (.ptr [.v (.int .i64 n),.mp t,.v (.int .i64 home),.v wv]) p) (hw:NestF w wv W F) (hFS:∀ b o,S b o→¬ F b) (hI:∀ w',GrownL w w' none F→WP pb w') (hok:okNet ⟨n,t,home,W⟩) (h1:1≤h) (h2:h≤W.length) :
  Calls Tryd.prog 37 #[p,.int .i64 h] w fun e w'=>e = .returned (.tuple #[])∧GrownL w w' none F∧∃ F',(∀ x,F' x→F x∨w.heap.size≤x)∧NestF w' wv (stpL W.length (lkF t) home W h) F':=by
 obtain ⟨vs,bs,b0,⟨⟨T0,hwv,hb0⟩,hvl,hrow,hinj⟩,hF0,hFb⟩:=hw
 have hokN:=okNet_N hok
 have hoW:W.length≤5:=hok.2.1
 have hb0S:∀ o,¬ S b0 o:=fun o hS=>hFS b0 o hS hF0
 refine ax_enter Tryd.func37 rfl Tryd.ntmps37 (by rw [Tryd.results37]) rfl rfl (fun _=>b0) (fun x=>x=b0) (args:=[NX n t home wv,iv h]) (m1:=[(1001,vs.map AV.v)]) hsx hs1 rfl (by simp) (fun j y hy=>?_) (fun d ls hd=>?_) (fun d d' ls ls' g1 g2 _=>?_) ?_
 ·match j,hy with
  | 0,hy =>
   obtain rfl:=Option.some.inj hy
   cases hp with
   | ptr ls b off f hc hh=>exact .el _ b off f hc hh
  | 1,hy=>obtain rfl:=Option.some.inj hy;exact .v _ rfl
 ·simp only [lkm] at hd
  split at hd
  ·rename_i e
   obtain rfl:=Option.some.inj hd
   subst e
   refine ⟨rfl,vs.toArray,⟨_,.cells _ _ T0 rfl⟩,hb0,by simp,fun j x hx=>?_,hb0S⟩
   rw [List.getElem?_map,Option.map_eq_some_iff] at hx
   obtain ⟨y,hy,rfl⟩:=hx
   have hj:j < W.length:=by have:=(List.getElem?_eq_some_iff.1 hy).1;omega
   have e1:vs.toArray.getD j undef=y:=by simp [Array.getD_eq_getD_getElem?,hy]
   have e2:vs.getD j undef=y:=by rw [List.getD_eq_getElem?_getD,hy];rfl
   rw [e1]
   exact .v _ (by rw [← e2];exact (hrow j hj).1.one)
  ·cases hd
 ·simp only [lkm] at g1 g2
  split at g1
  ·split at g2
   ·omega
   ·cases g2
  ·cases g1
 obtain ⟨E0,hE0⟩:∃ E,E=en0 Tryd.prog w S (fun _=>b0) (fun x=>x=b0):=⟨_,rfl⟩
 have hP0:E0.P=Tryd.prog:=by rw [hE0];rfl
 have hd0:E0.draws=false:=by rw [hE0];rfl
 have hw0:E0.w0=w:=by rw [hE0];rfl
 have hL0:∀ b,E0.L b→b=b0:=fun b h=>by rw [hE0] at h;exact h
 have hbb0:∀ k,E0.b0 k=b0:=fun k=>by rw [hE0];rfl
 rw [← hE0]
 have hE:TbOk E0 { T:=TT,G:=[],D:=[],draws:=false,lent:=true,X:=[] }:=tb_newX [] hP0 hd0 rfl tt
 unfold Eng.stM
 have hlti:∀ i,i < W.length→W.getD i []≠[]→bs i < w.heap.size:=fun i hi hne=>((hrow i hi).1.row hne).lt
 have hb0lt:b0 < w.heap.size:=(Array.getElem?_eq_some_iff.1 hb0).1
 obtain ⟨k,hk⟩:∃ k:Nat,k=(h - 1).toNat:=⟨_,rfl⟩
 have hkW:k < W.length:=by omega
 refine Ax_spDq hE 8 (.fst 0 (.fst 4 (.fst 6 (.fst 7 (.alt 1 (.fst 2 (.alt 3 (.alt 5 (.alt 8 (.cut (.alt 9 (.alt 10 .done .non) .non)) .non) (.alt 8 (.alt 5 (.cut (.alt 9 (.alt 10 .done .non) .non)) .non) .non)) (.alt 5 (.alt 3 (.alt 8 (.cut (.alt 9 (.alt 10 .done .non) .non)) .non) (.alt 8 (.alt 3 (.cut (.alt 9 (.alt 10 .done .non) .non)) .non) .non)) (.alt 8 (.alt 3 (.alt 5 (.cut (.alt 9 (.alt 10 .done .non) .non)) .non) (.alt 5 (.alt 3 (.cut (.alt 9 (.alt 10 .done .non) .non)) .non) .non)) .non)))) (.alt 5 (.alt 1 (.fst 2 (.alt 3 (.alt 8 (.cut (.alt 9 (.alt 10 .done .non) .non)) .non) (.alt 8 (.alt 3 (.cut (.alt 9 (.alt 10 .done .non) .non)) .non) .non))) (.alt 8 (.alt 1 (.fst 2 (.alt 3 (.cut (.alt 9 (.alt 10 .done .non) .non)) .non)) .non) .non)) (.alt 8 (.alt 1 (.fst 2 (.alt 3 (.alt 5 (.cut (.alt 9 (.alt 10 .done .non) .non)) .non) (.alt 5 (.alt 3 (.cut (.alt 9 (.alt 10 .done .non) .non)) .non) .non))) (.alt 5 (.alt 1 (.fst 2 (.alt 3 (.cut (.alt 9 (.alt 10 .done .non) .non)) .non)) .non) .non)) .non))))))) (by kernel_rfl) fun N hN=>?_
 -- what stands at the end
 have key:∀ (a:Act) (c:Gh) (st:St) (u:Value) (b:Nat) (w1 w2:World),RC E0 st a c→lkm 1001 st.m=some ((vs.set k u).map AV.v)→w.heap.size≤w1.heap.size→(∀ x,x < w.heap.size→x≠b0→w1.heap[x]? = w.heap[x]?)→w1.grownBy w2 none→GrownL w2 c.w none (fun x=>x=b0)→RowO w2 u (pickN W.length (lkF t) home (toS W) h) b→(pickN W.length (lkF t) home (toS W) h≠[]→w1.heap.size≤b)→N a c.w:=by
  intro a c st u b w1 w2 hRC hm hsz1 hw1 hg2 hg3 hro hlo
  refine hN a c.w (bp_0 hRC (by rw [Tryd.results37]) ⟨rfl,?_,fun x=>F x∨w.heap.size≤x,fun x h=>h,vs.set k u,fun i=>if i=k then b else bs i,b0,⟨⟨?_,?_,fun i hi=>?_,fun i j hi hj hni hnj he=>?_⟩,.inl hF0,fun i hi hne=>?_⟩⟩)
  ·have hf:=hRC.1.fr
   rw [hd0,hw0] at hf
   exact hf.mono fun x hx=>by rw [hL0 x hx];exact hF0
  ·obtain ⟨cs,T,q1,q2,q3,q4,q5⟩:=(hRC.1.box 1001 _ hm).cells rfl
   have hcb:c.β 1001=b0:=by rw [hRC.1.bl 1001 (by decide),hbb0]
   have hcs:cs=(vs.set k u).toArray:=by
    apply Array.ext
    ·rw [q3,List.length_map,List.size_toArray]
    ·intro i g1 g2
     have g2':i < (vs.set k u).length:=by simpa using g2
     have:=q4 i (.v (vs.set k u)[i]) (by rw [List.getElem?_map,List.getElem?_eq_getElem g2'];rfl)
     have e:cs.getD i undef=cs[i]:=by simp [Array.getD_eq_getD_getElem?,g1]
     rw [e] at this
     generalize cs[i]=z at this
     cases this;simp
   rw [hcs,hcb] at q2
   exact ⟨T,by rw [stpL_len];exact hwv,q2⟩
  ·rw [List.length_set,hvl,stpL_len]
  ·rw [stpL_len] at hi
   have hbk:∀ x,x≠b0→x < w2.heap.size→c.w.heap[x]? = w2.heap[x]? := fun x hx hlt=>hg3.block x hlt (by simp) hx
   by_cases e:i=k
   ·subst e
    have e1:(vs.set i u).getD i undef=u:=by rw [List.getD_eq_getElem?_getD,List.getElem?_set_self (by omega)];rfl
    have e2:(stpL W.length (lkF t) home W h).getD i []=pickN W.length (lkF t) home (toS W) h:=by rw [stpL,← hk,List.getD_eq_getElem?_getD,List.getElem?_set_self hi];rfl
    simp only [if_pos]
    rw [e1,e2]
    have hbx:pickN W.length (lkF t) home (toS W) h≠[]→b≠b0:=fun hne=>by have:=hlo hne;omega
    exact ⟨hro.same fun hne hlt=>hbk b (hbx hne) hlt,hbx⟩
   ·have e1:(vs.set k u).getD i undef=vs.getD i undef:=by rw [List.getD_eq_getElem?_getD,List.getElem?_set_ne (fun h=>e h.symm),← List.getD_eq_getElem?_getD]
    have e2:(stpL W.length (lkF t) home W h).getD i []=W.getD i []:=by rw [stpL,← hk,List.getD_eq_getElem?_getD,List.getElem?_set_ne (fun h=>e h.symm),← List.getD_eq_getElem?_getD]
    simp only [if_neg e]
    rw [e1,e2]
    refine ⟨(hrow i hi).1.same fun hne hlt=>?_,(hrow i hi).2⟩
    have hne0:=(hrow i hi).2 hne
    have g1:bs i < w1.heap.size:=Nat.lt_of_lt_of_le hlt hsz1
    exact (hbk _ hne0 (Nat.lt_of_lt_of_le g1 hg2.size)).trans ((hg2.block _ g1 (by simp)).trans (hw1 _ hlt hne0))
  ·rw [stpL_len] at hi hj
   have hget:∀ i,i < W.length→i≠k→(stpL W.length (lkF t) home W h).getD i []=W.getD i []:=fun i hi e=>by rw [stpL,← hk,List.getD_eq_getElem?_getD,List.getElem?_set_ne (fun h=>e h.symm),← List.getD_eq_getElem?_getD]
   have hgk:(stpL W.length (lkF t) home W h).getD k []=pickN W.length (lkF t) home (toS W) h:=by rw [stpL,← hk,List.getD_eq_getElem?_getD,List.getElem?_set_self hkW];rfl
   by_cases ei:i=k
   ·by_cases ej:j=k
    ·omega
    ·simp only [if_pos ei,if_neg ej] at he
     rw [hget j hj ej] at hnj
     rw [ei,hgk] at hni
     have:=hlti j hj hnj
     have:=hlo hni
     omega
   ·by_cases ej:j=k
    ·simp only [if_neg ei,if_pos ej] at he
     rw [hget i hi ei] at hni
     rw [ej,hgk] at hnj
     have:=hlti i hi hni
     have:=hlo hnj
     omega
    ·simp only [if_neg ei,if_neg ej] at he
     rw [hget i hi ei] at hni
     rw [hget j hj ej] at hnj
     exact hinj i j hi hj hni hnj he
  ·rw [stpL_len] at hi
   by_cases e:i=k
   ·subst e
    have e2:(stpL W.length (lkF t) home W h).getD i []=pickN W.length (lkF t) home (toS W) h:=by rw [stpL,← hk,List.getD_eq_getElem?_getD,List.getElem?_set_self hi];rfl
    rw [e2] at hne
    simp only [if_pos]
    have:=hlo hne
    exact .inr (by omega)
   ·have e2:(stpL W.length (lkF t) home W h).getD i []=W.getD i []:=by rw [stpL,← hk,List.getD_eq_getElem?_getD,List.getElem?_set_ne (fun h=>e h.symm),← List.getD_eq_getElem?_getD]
    rw [e2] at hne
    simp only [if_neg e]
    exact .inl (hFb i hi hne)
 have sp:∀ {o:Oper} {ats:Array TypeId},o.op = .call { callee:=.value (.func 30),args:=#[.tmp 10,.tmp 11],argTypes:=ats }→o.dst=some 12→∀ (st:St) (a1:Act) (w1:World),Eng.R E0 st a1 w1→lk 10 st.σ=NX n t home wv→lk 11 st.σ=iv h→st.m=[(1001,vs.map AV.v)]→∀ (next:Act→World→Prop),(∀ (E2:En) (a2:Act) (w2:World) (u:Value),E2.P=Tryd.prog→TbOk E2 { T:=TT,G:=[],D:=[],draws:=false,lent:=true }→E2.b0 1001=b0→Eng.R E2 (St.put st.re (some 12) (.v u)) a2 w2→
   (∀ (a:Act) (c:Gh) (st':St),RC E2 st' a c→lkm 1001 st'.m=some ((vs.set k u).map AV.v)→N a c.w)→next a2 w2)→
   o.wp Tryd.prog a1 w1 next (NQ N):=by
  rintro o ats ho hod st a1 w1 hr1 h10 h11 hm next hnx
  refine op_sp ho (pickD_ok pb).1 ?_
  rw [hod]
  simp only [List.map_toArray,List.map_cons,List.map_nil,Act.eval]
  obtain ⟨c1,rfl,h1c⟩:=hr1.rc
  have h10':=h1c.2.1 10
  rw [h10] at h10'
  have h11':=h1c.2.1 11
  rw [h11] at h11'
  rw [v_eq h11']
  have hfr:=h1c.1.fr
  rw [hd0,hw0] at hfr
  have hold:∀ x,x < w.heap.size→x≠b0→c1.w.heap[x]? = w.heap[x]? := fun x hx hne=>hfr.block x hx (by simp) fun hb=>hne (hL0 x hb)
  have hcb1:c1.β 1001=b0:=by rw [h1c.1.bl 1001 (by decide),hbb0]
  have hnest1:NestAt c1.w wv W vs bs b0:=by
   obtain ⟨cs,T,q1,q2,q3,q4,q5⟩:=(h1c.1.box 1001 _ (by rw [hm];rfl)).cells rfl
   have hcs:cs=vs.toArray:=by
    apply Array.ext
    ·rw [q3,List.length_map,List.size_toArray]
    ·intro i g1 g2
     have g2':i < vs.length:=by simpa using g2
     have:=q4 i (.v vs[i]) (by rw [List.getElem?_map,List.getElem?_eq_getElem g2'];rfl)
     have e:cs.getD i undef=cs[i]:=by simp [Array.getD_eq_getD_getElem?,g1]
     rw [e] at this
     generalize cs[i]=z at this
     cases this;simp
   rw [hcs,hcb1] at q2
   exact ⟨⟨T,hwv,q2⟩,hvl,fun i hi=>⟨(hrow i hi).1.same fun hne hlt=>hold _ hlt ((hrow i hi).2 hne),(hrow i hi).2⟩,hinj⟩
  have hWP1:WP pb c1.w:=hI _ (hfr.mono fun x hx=>by rw [hL0 x hx];exact hF0)
  refine (pick_calls hWP1 h1c.1.sx h1c.1.s1 h10'.ptr hnest1.rd hokN).mono ?_
  rintro e w3 ⟨u,b,rfl,hg,hro,hlo⟩
  refine ⟨u,rfl,?_⟩
  have hR2:=h1c.nxm (w':=w3) (fun b o hS=>hg.block b (h1c.1.slt hS) (by simp)) (fun d ls hl=>hg.block _ (h1c.1.box d ls hl).lt.2 (by simp)) hro.one 12
  have hBk:=Bk.nx h1c hd0 (gb_gl hg fun _=>False) (fun _ h=>h.elim)
  refine hnx (nxM E0 st c1 w3) _ w3 u hP0 (tb_newX [] hP0 rfl rfl tt) hcb1 hR2 fun a c st' hc hm'=>?_
  have hf:GrownL w3 c.w none (nxM E0 st c1 w3).L:=hc.1.fr
  refine key a c st' u b c1.w w3 (RC.bk hBk hc) hm' hfr.size hold hg (hf.mono fun x ⟨d,ls,hl,e⟩=>?_) hro hlo
  rw [hm] at hl
  simp only [lkm] at hl
  split at hl
  ·rename_i ed;rw [← e,ed];exact hcb1
  ·cases hl
 have hn1:(h - 1).toNat < (vs.map AV.v).length:=by rw [List.length_map,hvl];omega
 have hset:∀ u:Value,(vs.map AV.v).set (h - 1).toNat (.v u)=(vs.set k u).map AV.v:=fun u=>by rw [hk,List.map_set]
 have hlvs:(vs.map AV.v).length=W.length:=by rw [List.length_map,hvl]
 simp only [go_sem,seval]
 repeat' (first | (refine And.intro (by first | (and_intros<;>omega) | fail) ?_) | refine And.intro ?_ ?_)
 all_goals (intro a1 w1 hr1)
 all_goals (refine SpT_mk rfl rfl (sp rfl rfl _ a1 w1 hr1 rfl rfl rfl _ fun E2 a2 w2 u hP2 hE2 hb2 hR2 hfin=>⟨E2,_,_,hE2,hP2,hR2,?_⟩))
 all_goals (try simp only [go_sem,seval,St.re,vv_nt])
 all_goals (repeat' (first | (refine And.intro (by first | (and_intros<;>omega) | fail) ?_) | refine And.intro ?_ ?_))
 all_goals (refine enumS_cutI (LeE_xs 7 1001 b0 0 W.length W.length (by decide) hb2 rfl (Nat.le_refl _) (by rw [← hwv];rfl)) ?_)
 all_goals (simp only [go_sem,seval,St.re,vv_nt,hlvs,hset])
 all_goals (refine ⟨⟨by omega,by omega⟩,by omega,fun a4 w4 hr4=>?_⟩)
 all_goals (obtain ⟨c4,rfl,h4⟩:=hr4.rc)
 all_goals (exact hfin a4 c4 _ h4 rfl)
def NestN (w:World) (v:Value) (R:List (List Int)) (lo hi:Nat):Prop:=Nest w v R lo hi∨(v = .slice none 0 0∧R=[])
theorem pt_one {w:World} {S:Nat→Nat→Prop} {ls:List DV} {v:Value} (h:RdD w S (.ptr ls) v) {c:Gh} (hw:c.w=w) (hS:∀ b o,S b o→c.S b o):Rd c (.el ls) v:=by
 subst hw
 cases h with
 | ptr ls b off f hc hh=>exact .el ls b off f (fun k hk=>⟨hS _ _ (hc k hk).1,(hc k hk).2⟩) fun j x hx=>(hh j x hx).keep (Keeps.same hS fun _ _ _=>rfl)
theorem NestF.nest {w:World} {v:Value} {R:List (List Int)} {F:Nat→Prop} (h:NestF w v R F) {lo:Nat} (hF:∀ x,F x→lo≤x):Nest w v R lo w.heap.size:=h.mono fun x hlt hx=>⟨hF x hx,hlt⟩
theorem sp_callC {P:Program} {l l2:List Oper} {o:Oper} {N:Exit→Act→World→Prop} {a:Act} {w:World} {f:FuncId} {x:Operand} {args:Array Operand} {ats:Array TypeId} {first:Array Value} (ho:o.op = .call { callee:=.value x,args:=args,argTypes:=ats }) (hx:a.eval x = .func (.func f) first #[]) (hg:o.guard=none) (hc:Callable P f)
  (h:Calls P f (first++args.map a.eval) w fun e w'=>∃ u,e = .returned u∧SpQ P l l2 N (a.put o.dst u) w'):SpQ P l (o::l2) N a w:=by
 unfold SpQ at *
 rw [wpList,if_pos (by simp [Region.wanted,hg])]
 refine .inl ?_
 obtain ⟨fn,f1,f2,f3⟩:=hc
 unfold Oper.wp
 have hr:(execOp a.eval o).run P w = .ok (.enter f (first++args.map a.eval)) w:=by
  unfold execOp;rw [ho]
  simp only [Sem.run_bind,resolve,hx,Deferred.ofValue,Sem.run_pure,Result.andThen_ok,invoke,callFunc,run_program]
  simp only [Array.append_empty,f1,f2,f3,Bool.false_eq_true,if_false,Sem.run_pure]
 rw [hr]
 refine Calls.mono h ?_
 rintro e w' ⟨u,rfl,h⟩
 exact h
theorem cl_val {c:Gh} {f:FuncId} {x:AV} {v:Value} (h:Rd c (.cl f true [x]) v):∃ p,v = .func (.func f) #[p] #[]∧Rd c x p:=by
 cases h with
 | cl1 _ _ cs hn hh =>
  refine ⟨cs.getD 0 undef,?_,hh 0 x rfl⟩
  have:cs = #[cs.getD 0 undef]:=by
   apply Array.ext
   ·simpa using hn
   ·intro i h1 h2
    have:i=0:=by simp at h2;exact h2
    subst this
    simp [Array.getD_eq_getD_getElem?,h1]
  rw [← this]
set_option maxHeartbeats 8000000 in
theorem run_calls {pb:Addr} {w:World} {S:Nat→Nat→Prop} (hsx:∀ b o,S b o→Lk w b o) (hs1:∀ b o v,S b o→w.cell? ⟨b,o,none⟩=some v→v.oneCell'=true) {p wv qv:Value} {n home:Int} {t:List (Value × Value)} {W:List (List Int)} {q:List Int} {F:Nat→Prop}
  (hp:RdD w S (.ptr [.v (.int .i64 n),.mp t,.v (.int .i64 home),.v wv]) p) (hqv:RdD w S (.sl (rows q)) qv) (hw:NestF w wv W F) (hFS:∀ b o,S b o→¬ F b) (hFl:∀ x,F x→x < w.heap.size) (hWPs:∀ w',GrownL w w' none F→WP pb w') (hok:okNet ⟨n,t,home,W⟩) (hq:∀ x ∈ q,hI W.length x) (hql:q.length≤2000000) :
  Calls Tryd.prog 35 #[p,qv] w fun e w'=>e = .returned (.tuple #[])∧GrownL w w' none F∧∃ F',(∀ x,F' x→F x∨w.heap.size≤x)∧NestF w' wv (runL W.length (lkF t) home W q) F':=by
 refine ax_enter Tryd.func35 rfl Tryd.ntmps35 (by rw [Tryd.results35]) rfl rfl (fun _=>0) (fun _=>False) (args:=[NX n t home wv,isl q]) (m1:=[]) hsx hs1 rfl (by simp) (fun j y hy=>?_) (fun d ls h=>by cases h) (fun d d' ls ls' h=>by cases h) ?_
 ·match j,hy with
  | 0,hy =>
   obtain rfl:=Option.some.inj hy
   exact pt_one hp rfl fun _ _ h=>h
  | 1,hy=>obtain rfl:=Option.some.inj hy;exact .sl none _ qv hqv trivial
 obtain ⟨E0,hE0⟩:∃ E,E=en0 Tryd.prog w S (fun _=>0) (fun _=>False):=⟨_,rfl⟩
 have hP0:E0.P=Tryd.prog:=by rw [hE0];rfl
 have hd0:E0.draws=false:=by rw [hE0];rfl
 have hw0:E0.w0=w:=by rw [hE0];rfl
 have hL0:∀ b,¬ E0.L b:=fun b h=>by rw [hE0] at h;exact h
 have hS0:∀ b o,E0.S0 b o→S b o:=fun b o h=>by rw [hE0] at h;exact h
 rw [← hE0]
 have hE:TbOk E0 { T:=TT,G:=[],D:=[],draws:=false,lent:=true,X:=[6] }:=tb_newX [6] hP0 hd0 rfl tt
 unfold Eng.stM
 refine Ax_st hE [1,4] [] fun K hK=>?_
 simp only [go_sem,seval]
 refine hK _ ?_;clear hK K
 refine Ax_bk fun B1 hN1 hE1' hR1 hX1=>?_
 refine Ax_lpI (fun (i:Nat) (a:Act) (w':World)=>∃ (E:En) (c:Gh) (Fi:Nat→Prop),E.P=Tryd.prog∧E.draws=false∧(∀ b,¬ E.L b)∧c.w=w'∧RC E ⟨17,[(1,isl (q.drop i)),(4,.cl 37 true [NX n t home wv])],[],0⟩ a c∧i≤q.length∧
   NestF w' wv (runL W.length (lkF t) home W (q.take i)) Fi∧(∀ x,Fi x→(F x∨w.heap.size≤x)∧x < w'.heap.size)∧(∀ b o,c.S b o→¬ Fi b)∧GrownL w w' none F) (fun i=>q.length - i) 0 (fun _ a w' hr=>?_) ?_
 ·obtain ⟨c,rfl,hRC⟩:=hr.rc
  have hf:=hRC.1.fr
  rw [hd0,hw0] at hf
  have hg:=hf.by hL0
  refine ⟨E0,c,fun x=>F x∧x < c.w.heap.size,hP0,hd0,hL0,rfl,hRC,Nat.zero_le _,?_,fun x hx=>⟨.inl hx.1,hx.2⟩,fun b o h hb=>?_,gb_gl hg _⟩
  ·rw [List.take_zero,runL_nil]
   exact (hw.same fun b _ hlt=>hg.block b hlt (by simp)).mono fun x h1 h2=>⟨h2,h1⟩
  ·rcases hRC.1.sS b o h with h' | h'
   ·rw [hw0] at h'
    have:=hFl b hb.1
    omega
   ·exact hFS b o (hS0 b o h') hb.1
 rintro i a1 w1 ⟨E,c,Fi,hEP,hEd,hEL,rfl,hRC,hi,hNi,hFi,hSi,hGi⟩ B2 hN2 hR2 hX2
 have hR0:=hRC.re.r
 have hst:St.re ⟨17,[(1,isl (q.drop i)),(4,.cl 37 true [NX n t home wv])],[],0⟩=⟨17,[(1,isl (q.drop i)),(4,.cl 37 true [NX n t home wv])],[],0⟩:=rfl
 rw [hst] at hR0
 generalize hE1:reE E _ c=E1 at hR0
 have hP1:E1.P=Tryd.prog:=by rw [← hE1];exact hEP
 have hd1:E1.draws=false:=by rw [← hE1];rfl
 have hw1:E1.w0=c.w:=by rw [← hE1];rfl
 have hS1:∀ b o,E1.S0 b o→c.S b o:=fun b o h=>by rw [← hE1] at h;exact h
 have hL1:∀ b,¬ E1.L b:=fun b h=>by
  rw [← hE1] at h
  obtain ⟨d,ls,hl,_⟩:=h
  cases hl
 clear hE
 have hE:TbOk E1 { T:=TT,G:=[],D:=[],draws:=false,lent:=true,X:=[] }:=tb_newX [] hP1 hd1 rfl tt
 refine Ax.run (E:=E1) (st:=⟨17,[(1,isl (q.drop i)),(4,.cl 37 true [NX n t home wv])],[],0⟩) ?_ hP1 hR0
 refine Ax_sq fun B3 hB3 hR3 hX3=>?_
 refine Ax_st hE [1,4,9] [] fun K hK=>?_
 simp only [go_sem,seval]
 refine hK _ (Ax_cond rfl (fun hc4=>?_) (fun hc4=>?_))
 ·simp only [dte,List.length_drop] at hc4
  have hil:i < q.length:=by omega
  have hdr:(rows (q.drop i))[0]? = some [.v (.int .i64 (q.getD i 0))]:=by rw [rows_get _ 0 (by rw [List.length_drop];omega),List.getD_eq_getElem?_getD,List.getElem?_drop,← List.getD_eq_getElem?_getD];rfl
  have hx:=hq _ (getD_mem q i hil)
  have hok2:okNet ⟨n,t,home,runL W.length (lkF t) home W (q.take i)⟩:=okNet_run (N:=⟨n,t,home,W⟩) hok fun y hy=>hq y (List.mem_of_mem_take hy)
  have hlen:=runL_len (n:=W.length) (of:=lkF t) (home:=home) (q.take i) W
  have hnx:=run_next (N:=⟨n,t,home,W⟩) hil
  simp only at hnx
  refine Ax_skip (hB3 _ ?_)
  refine Ax_sq fun B5 hB5 hR5 hX5=>?_
  refine Ax_bk fun B6 hN6 hE6 hR6 hX6=>?_
  refine Ax_spt hE 4 fun K hK=>?_
  simp only [go_sem,seval,List.take_succ_cons,List.take_zero,hdr]
  repeat refine sd0 ?_
  refine hK _ fun a2 w2 hr2=>?_
  clear hK K
  obtain ⟨c2,rfl,h2⟩:=hr2.rc
  have h12:Rd c2 (.cl 37 true [NX n t home wv]) (a2.tmps.getD 12 undef):=h2.2.1 12
  obtain ⟨pv,e12,hpv⟩:=cl_val h12
  refine sp_callC rfl e12 rfl (stepI_ok pb).1 ?_
  simp only [List.map_toArray,List.map_cons,List.map_nil,Act.eval]
  rw [v_eq (h2.2.1 15:Rd c2 (iv (q.getD i 0)) _)]
  have hf2:=h2.1.fr
  rw [hd1,hw1] at hf2
  have hg2:=hf2.by hL1
  have hGc:GrownL w c2.w none F:=hGi.trans' (gb_gl hg2 fun _=>False) fun _ h=>h.elim
  have hS2:∀ b o,c2.S b o→¬ Fi b:=fun b o h hb=>by
   rcases h2.1.sS b o h with h' | h'
   ·rw [hw1] at h'
    have:=(hFi b hb).2
    omega
   ·exact hSi b o (hS1 b o h') hb
  have hGF:∀ w',GrownL c2.w w' none Fi→GrownL w w' none F:=fun w' hg=>hGc.trans' hg fun x hx=>by
   rcases (hFi x hx).1 with h | h
   ·exact .inr h
   ·exact .inl h
  show Calls _ _ #[pv,.int .i64 (q.getD i 0)] _ _
  refine (step_calls h2.1.sx h2.1.s1 hpv.ptr (hNi.same fun b _ hlt=>hg2.block b hlt (by simp)) hS2 (fun w' hg=>hWPs w' (hGF w' hg)) hok2 hx.1 (by rw [hlen];exact hx.2)).mono ?_
  rintro e w5 ⟨rfl,hg5,F',hF',hN5⟩
  refine ⟨_,rfl,?_⟩
  have hk5:Keeps c2.w c2.S w5 c2.S:=keeps_of_lt (fun _ _ h=>h) fun b o hS hlt=>hg5.block b hlt (by simp) fun hF=>hS2 b o hS hF
  have hR5':=h2.nxs (w':=w5) (S:=c2.S) hk5 (fun b o h=>hk5.lk h (h2.1.sx b o h)) (fun b o v hS hv=>s1_keep h2.1 hk5 hS hv) (fun d ls hl=>by cases hl) (x:=.tup []) (u:=.tuple #[]) (.tup _ _ rfl fun j y hy=>by cases hy) 16
  generalize hE5e:nxS E1 _ c2 w5 c2.S=E5 at hR5'
  have hP5:E5.P=Tryd.prog:=by rw [← hE5e];exact hP1
  have hd5:E5.draws=false:=by rw [← hE5e];rfl
  have hw5:E5.w0=w5:=by rw [← hE5e];rfl
  have hS5:∀ b o,E5.S0 b o→c2.S b o:=fun b o h=>by rw [← hE5e] at h;exact h
  have hL5:∀ b,¬ E5.L b:=fun b h=>by
   rw [← hE5e] at h
   obtain ⟨d,ls,hl,_⟩:=h
   cases hl
  clear hE
  have hE:TbOk E5 { T:=TT,G:=[],D:=[],draws:=false,lent:=true,X:=[] }:=tb_newX [] hP5 hd5 rfl tt
  refine sp_go hE hP5 hR5' ?_
  simp only [go_sem,seval,St.re,List.drop_succ_cons,List.drop_zero]
  refine hN6 _ (hB5 _ ?_)
  have htl:(q.drop i).take (q.length - i)=q.drop i:=List.take_of_length_le (by rw [List.length_drop];omega)
  refine Ax_tx hE [1,4] [] fun K hK=>?_
  simp only [go_sem,seval,htl,List.length_drop,List.drop_drop,rows_drop]
  refine ⟨⟨by omega,by omega,fun r hr=>?_⟩,hK _ fun hP6 a6 w6 hr6=>?_⟩
  ·obtain ⟨x,_,rfl⟩:=List.mem_map.1 hr
   rfl
  obtain ⟨c6,rfl,h6⟩:=hr6.rc
  have hf6:=h6.1.fr
  rw [hd5,hw5] at hf6
  have hg6:=hf6.by hL5
  rw [hlen,hnx] at hN5
  refine hN2 (i + 1) a6 c6.w (by omega) ⟨E5,c6,fun x=>F' x∧x < w5.heap.size,hP5,hd5,hL5,rfl,h6,by omega,(hN5.mono fun x h1 h2=>⟨h2,h1⟩).same fun b hb hlt=>hg6.block b hlt (by simp),fun x hx=>⟨?_,Nat.lt_of_lt_of_le hx.2 hg6.size⟩,fun b o h hb=>?_,(hGF w5 hg5).trans' (gb_gl hg6 fun _=>False) fun _ h=>h.elim⟩
  ·rcases hF' x hx.1 with h | h
   ·exact (hFi x h).1
   ·exact .inr (Nat.le_trans hGc.size h)
  ·rcases h6.1.sS b o h with h' | h'
   ·rw [hw5] at h'
    have:=hb.2
    omega
   ·have h'':=hS5 b o h'
    rcases hF' b hb.1 with h3 | h3
    ·exact hS2 b o h'' h3
    ·have:=h2.1.slt h''
     omega
 ·simp only [dfn,List.length_drop] at hc4
  obtain rfl:i=q.length:=by omega
  refine Ax_exit (hX3 _ _ (hX2 _ _ (hE1' _ ?_)))
  refine bp_ret0 (.inr rfl) (by rw [Tryd.results35]) fun a6 c6 h6=>?_
  have hf6:=h6.1.fr
  rw [hd1,hw1] at hf6
  have hg6:=hf6.by hL1
  rw [List.take_length] at hNi
  refine ⟨rfl,hGi.trans' (gb_gl hg6 fun _=>False) fun _ h=>h.elim,Fi,fun x hx=>(hFi x hx).1,hNi.same fun b _ hlt=>hg6.block b hlt (by simp)⟩
theorem nl_setnt (n k:Nat):AV.ntAll ((List.replicate n AV.nl).set k (.xs 20 0 1 1 1))=(List.replicate n AV.nl).set k (.xs 20 0 1 1 1):=by rw [ntAll_eq,List.map_set,List.map_replicate];rfl
attribute [go_sem] nl_setnt
def dNetEndI (pb:Addr):DFn:={ g:=gNetEnd,inv:=WP pb }
attribute [go_sem] dNetEndI

def Nt.P (N:Nt) (p b w:Nat):List (Nat × List AV):=(p,[.loc b 0])::N.M b w
attribute [go_sem] Nt.P
theorem NtP_inj {N N':Nt} {p b w:Nat} (h:N.P p b w=N'.P p b w):N=N':=NtM_inj (List.cons.inj h).2
def ePl (i:Nt × Int):List AV × List (Nat × List AV):=([iv i.2,.loc 1000 0],i.1.P 1000 1001 1002)
theorem ePl_inj (i j:Nt × Int) (h:ePl i=ePl j):i=j:=by
 obtain ⟨N,x⟩:=i
 obtain ⟨N',x'⟩:=j
 obtain ⟨h1,h2⟩:=Prod.mk.inj h
 simp only [List.cons.injEq,true_and,AV.v.injEq,Value.int.injEq,and_true] at h1
 obtain rfl:=NtP_inj (N:=N) (N':=N') h2
 rw [h1]
def outB (n a:Int):Bool:=!(decide (1≤a) && decide (a≤n))
def cPl1:ConM:=mkM (fun _=>True) ePl (fun _=>True) fun i r m2=>r=bv (outB i.1.n i.2)∧m2=i.1.P 1000 1001 1002
theorem pl1_pre (n:Int) (t:List (Value × Value)) (home:Int) (W:List (List Int)) (h:Int):cPl1.pre [iv h,.loc 1000 0] [(1000,[.loc 1001 0]),(1001,[iv n,.dv (.mp t),iv home,.xs 1002 0 W.length W.length 1]),(1002,cWs W)]=True:=mkM_pre ePl_inj (⟨n,t,home,W⟩,h) rfl
theorem pl1_post (n:Int) (t:List (Value × Value)) (home:Int) (W:List (List Int)) (h:Int) (K:AV→List (Nat × List AV)→Prop):(∀ r m2,cPl1.post [iv h,.loc 1000 0] [(1000,[.loc 1001 0]),(1001,[iv n,.dv (.mp t),iv home,.xs 1002 0 W.length W.length 1]),(1002,cWs W)] r m2→K r m2)=K (bv (outB n h)) [(1000,[.loc 1001 0]),(1001,[iv n,.dv (.mp t),iv home,.xs 1002 0 W.length W.length 1]),(1002,cWs W)] :=
 (mkM_post ePl_inj (⟨n,t,home,W⟩,h) rfl K).trans (mkM_fn _ _)
attribute [go_sem] pl1_pre pl1_post
set_option maxHeartbeats 4000000 in
theorem pl1_ok:FineM Tryd.prog 39 cPl1:=by
 refine fineM_of [] ms_nil [] mm_nil [] [] ex_nil (T:=TT) Tryd.func39 rfl Tryd.ntmps39 (by rw [Tryd.results39]) rfl rfl tt gs_nil (ds_cons hasM_ok ds_nil) ?_
 rintro args m1 ⟨⟨⟨n,t,home,W⟩,a⟩,e,_⟩
 obtain ⟨rfl,rfl⟩:=Prod.mk.inj e.symm
 refine ⟨by simp,fun E hE Q hQ=>?_⟩
 refine Aw_st hE [0,1] [1000,1001,1002] fun K hK=>?_
 simp only [go_sem,seval]
 refine hK _ ?_;clear hK K
 refine Aw_st hE [3] [1000,1001,1002] fun K hK=>?_
 simp only [go_sem,seval]
 refine hK _ (Aw_ret (hQ _ ?_))
 simp only [go_sem,seval]
 exact ⟨(⟨n,t,home,W⟩,a),rfl,rfl,rfl⟩
def ePq (i:Nt × List Int):List AV × List (Nat × List AV):=([isl i.2,.cl 39 false [.loc 1000 0]],i.1.P 1000 1001 1002)
theorem ePq_inj (i j:Nt × List Int) (h:ePq i=ePq j):i=j:=by
 obtain ⟨N,x⟩:=i
 obtain ⟨N',x'⟩:=j
 obtain ⟨h1,h2⟩:=Prod.mk.inj h
 obtain ⟨h1,_⟩:=List.cons.inj h1
 obtain rfl:=NtP_inj (N:=N) (N':=N') h2
 have h1:x=x':=isl1_inj h1
 rw [h1]
def idxF (p:Int→Bool) (q:List Int):Int:=if q.any p then (q.findIdx p:Nat) else -1
theorem idxF_hit {p:Int→Bool} {q:List Int} {i:Nat} (hi:i < q.length) (h:∀ j,j < i→p (q.getD j 0)=false) (hp:p (q.getD i 0)=true):idxF p q=(i:Int):=by
 have hg:q.getD i 0=q[i]:=by rw [List.getD_eq_getElem?_getD,List.getElem?_eq_getElem hi,Option.getD_some]
 unfold idxF
 rw [if_pos (List.any_eq_true.2 ⟨q[i],List.getElem_mem hi,by rw [← hg];exact hp⟩)]
 congr 1
 refine (List.findIdx_eq hi).2 ⟨by rw [← hg];exact hp,fun j hj=>?_⟩
 have:=h j hj
 rwa [List.getD_eq_getElem?_getD,List.getElem?_eq_getElem (by omega),Option.getD_some] at this
theorem idxF_none {p:Int→Bool} {q:List Int} (h:∀ j,j < q.length→p (q.getD j 0)=false):idxF p q = -1:=by
 unfold idxF
 rw [if_neg]
 intro ha
 obtain ⟨x,hx,hp⟩:=List.any_eq_true.1 ha
 obtain ⟨j,hj,rfl⟩:=List.getElem_of_mem hx
 have:=h j hj
 rw [List.getD_eq_getElem?_getD,List.getElem?_eq_getElem hj,Option.getD_some] at this
 rw [this] at hp;cases hp
theorem idxF_geq (p:Int→Bool) (q:List Int):decide (0≤idxF p q)=q.any p:=by
 unfold idxF
 cases q.any p with
 | true=>simp
 | false=>simp
def cPlI:ConM:=mkM (fun _=>True) ePq (fun i=>i.2.length≤2000000) fun i r m2=>r=iv (idxF (outB i.1.n) i.2)∧m2=i.1.P 1000 1001 1002
theorem plI_pre (n:Int) (t:List (Value × Value)) (home:Int) (W:List (List Int)) (q:List Int):cPlI.pre [isl q,.cl 39 false [.loc 1000 0]] [(1000,[.loc 1001 0]),(1001,[iv n,.dv (.mp t),iv home,.xs 1002 0 W.length W.length 1]),(1002,cWs W)]=(q.length≤2000000):=mkM_pre ePq_inj (⟨n,t,home,W⟩,q) rfl
theorem plI_post (n:Int) (t:List (Value × Value)) (home:Int) (W:List (List Int)) (q:List Int) (K:AV→List (Nat × List AV)→Prop):(∀ r m2,cPlI.post [isl q,.cl 39 false [.loc 1000 0]] [(1000,[.loc 1001 0]),(1001,[iv n,.dv (.mp t),iv home,.xs 1002 0 W.length W.length 1]),(1002,cWs W)] r m2→K r m2)=K (iv (idxF (outB n) q)) [(1000,[.loc 1001 0]),(1001,[iv n,.dv (.mp t),iv home,.xs 1002 0 W.length W.length 1]),(1002,cWs W)] :=
 (mkM_post ePq_inj (⟨n,t,home,W⟩,q) rfl K).trans (mkM_fn _ _)
attribute [go_sem] plI_pre plI_post
set_option maxHeartbeats 4000000 in
theorem plI_ok:FineM Tryd.prog 54 cPlI:=by
 refine fineM_of [] ms_nil [(39,(cPl1,[(1000,1000)],[]))] (mm_cons pl1_ok (by decide) mm_nil) [] [] ex_nil (T:=TT) Tryd.func54 rfl Tryd.ntmps54 (by rw [Tryd.results54]) rfl rfl tt gs_nil ds_nil ?_
 rintro args m1 ⟨⟨⟨n,t,home,W⟩,q⟩,e,hql⟩
 obtain ⟨rfl,rfl⟩:=Prod.mk.inj e.symm
 refine ⟨by simp,fun E hE Q hQ=>?_⟩
 simp only at hql
 refine Aw_st hE [0,1] [1000,1001,1002] fun K hK=>?_
 simp only [go_sem,seval]
 refine hK _ ?_;clear hK K
 refine Aw_sq fun B1 hB1 hR1 hX1=>?_
 refine Aw_st hE [0,1,7,8] [1000,1001,1002] fun K hK=>?_
 simp only [go_sem,seval]
 repeat refine sd0 ?_
 refine hK _ ?_;clear hK K
 refine Aw_bk fun B2 hN2 hE2 hR2 hX2=>?_
 refine Aw_lp (fun i:Nat=>⟨19,[(0,isl q),(1,.cl 39 false [.loc 1000 0]),(7,iv (q.length:Int)),(8,iv (i:Int))],(⟨n,t,home,W⟩:Nt).P 1000 1001 1002,0⟩) (fun i=>i≤q.length∧∀ j,j < i→outB n (q.getD j 0)=false) (fun i=>q.length - i) 0 (Le_wa) ⟨by omega,fun j h=>absurd h (by omega)⟩ fun i hi B3 hN3 hR3 hX3=>?_
 obtain ⟨hi,hno⟩:=hi
 refine Aw_st hE [0,1,7,8,9] [1000,1001,1002] fun K hK=>?_
 simp only [go_sem,seval]
 refine hK _ ?_;clear hK K
 refine Aw_sq fun B4 hB4 hR4 hX4=>?_
 refine Aw_cond rfl (fun hc5=>?_) (fun hc5=>?_)
 ·simp only [dte] at hc5
  have hil:i < q.length:=by omega
  have hg:=rows_get q i hil
  refine Aw_skip (hB4 _ ?_)
  refine Aw_sq fun B6 hB6 hR6 hX6=>?_
  refine Aw_bk fun B7 hN7 hE7 hR7 hX7=>?_
  refine Aw_st hE [0,1,5,7,8] [1000,1001,1002] fun K hK=>?_
  simp only [go_sem,seval]
  refine hK _ ?_;clear hK K
  refine Aw_st hE [0,1,5,7,8,16] [1000,1001,1002] fun K hK=>?_
  simp only [go_sem,seval,hg]
  repeat refine sd0 ?_
  refine hK _ (Aw_cond rfl (fun hc8=>?_) (fun hc8=>?_))
  ·refine Aw_st hE [4] [1000,1001,1002] fun K hK=>?_
   simp only [go_sem,seval]
   refine hK _ (Aw_ret (hR7 _ (hR6 _ (hR3 _ (hR2 _ (hR1 _ (hQ _ ?_)))))))
   simp only [go_sem,seval]
   exact ⟨(⟨n,t,home,W⟩,q),rfl,by rw [idxF_hit hil hno hc8],rfl⟩
  ·refine Aw_skip (hN7 _ (hB6 _ ?_))
   refine Aw_tx hE [0,1,7,8] [1000,1001,1002] fun K hK=>?_
   simp only [go_sem,seval]
   repeat refine sd0 ?_
   refine hK _ (hN3 (i + 1) _ ⟨by omega,fun j hj=>if e:j < i then hno j e else (by obtain rfl:j=i:=(by omega);exact hc8)⟩ (by omega) (Le.refl _))
 ·simp only [dfn] at hc5
  refine Aw_exit (hX4 _ _ (hX3 _ _ (hE2 _ (hB1 _ ?_))))
  refine Aw_st hE [4] [1000,1001,1002] fun K hK=>?_
  simp only [go_sem,seval]
  refine hK _ (Aw_ret (hQ _ ?_))
  simp only [go_sem,seval]
  exact ⟨(⟨n,t,home,W⟩,q),rfl,by rw [idxF_none (fun j hj=>hno j (by omega))],rfl⟩
def cPlC:ConM:=mkM (fun _=>True) ePq (fun i=>i.2.length≤2000000) fun i r m2=>r=bv (i.2.any (outB i.1.n))∧m2=i.1.P 1000 1001 1002
theorem plC_pre (n:Int) (t:List (Value × Value)) (home:Int) (W:List (List Int)) (q:List Int):cPlC.pre [isl q,.cl 39 false [.loc 1000 0]] [(1000,[.loc 1001 0]),(1001,[iv n,.dv (.mp t),iv home,.xs 1002 0 W.length W.length 1]),(1002,cWs W)]=(q.length≤2000000):=mkM_pre ePq_inj (⟨n,t,home,W⟩,q) rfl
theorem plC_post (n:Int) (t:List (Value × Value)) (home:Int) (W:List (List Int)) (q:List Int) (K:AV→List (Nat × List AV)→Prop):(∀ r m2,cPlC.post [isl q,.cl 39 false [.loc 1000 0]] [(1000,[.loc 1001 0]),(1001,[iv n,.dv (.mp t),iv home,.xs 1002 0 W.length W.length 1]),(1002,cWs W)] r m2→K r m2)=K (bv (q.any (outB n))) [(1000,[.loc 1001 0]),(1001,[iv n,.dv (.mp t),iv home,.xs 1002 0 W.length W.length 1]),(1002,cWs W)] :=
 (mkM_post ePq_inj (⟨n,t,home,W⟩,q) rfl K).trans (mkM_fn _ _)
attribute [go_sem] plC_pre plC_post
set_option maxHeartbeats 4000000 in
theorem plC_ok:FineM Tryd.prog 38 cPlC:=by
 refine fineM_of [] ms_nil [(54,(cPlI,[(1000,1000)],[]))] (mm_cons plI_ok (by decide) mm_nil) [] [] ex_nil (T:=TT) Tryd.func38 rfl Tryd.ntmps38 (by rw [Tryd.results38]) rfl rfl tt gs_nil ds_nil ?_
 rintro args m1 ⟨⟨⟨n,t,home,W⟩,q⟩,e,hql⟩
 obtain ⟨rfl,rfl⟩:=Prod.mk.inj e.symm
 refine ⟨by simp,fun E hE Q hQ=>?_⟩
 simp only at hql
 have hge:=idxF_geq (outB n) q
 refine Aw_st hE [0,1] [1000,1001,1002] fun K hK=>?_
 simp only [go_sem,seval]
 refine hK _ ?_;clear hK K
 refine Aw_st hE [4] [1000,1001,1002] fun K hK=>?_
 simp only [go_sem,seval,hql,hge]
 refine ⟨by decide,?_⟩
 refine hK _ (Aw_ret (hQ _ ?_))
 simp only [go_sem,seval]
 exact ⟨(⟨n,t,home,W⟩,q),rfl,rfl,rfl⟩
theorem any_out {n:Nat} {q:List Int}:q.any (outB n) = !(q.all (hIb n)):=by
 rw [Bool.eq_iff_iff]
 simp only [List.any_eq_true,Bool.not_eq_true',List.all_eq_false,outB,hIb,Bool.not_eq_true]
def dNetPlayI (pb:Addr):DFn:={ g:=gNetPlay,inv:=WP pb }
attribute [go_sem] dNetPlayI
set_option maxHeartbeats 4000000 in
theorem iNetPlay_ok (pb:Addr):Fine Tryd.prog 23 (dNetPlayI pb).con:=by
 refine fine_detX [] gl_nil [] ms_nil [(28,(cReadNet pb,[],[(39,600),(437,640)])),(38,(cPlC,[(1000,1000)],[])),(35,(cRunI pb,[(1000,1000)],[]))] (mm_cons (readNet_ok pb) (by decide) (mm_cons plC_ok (by decide) (mm_cons (runI_ok pb) (by decide) mm_nil (wp_inh pb)) (nt_inh pb)) (wp_inh pb)) [28] [] ex_nil (T:=TT) Tryd.func23 rfl Tryd.ntmps23 (by rw [Tryd.results23]) rfl rfl tt gs_nil ds_nil ?_
 intro args c r h hc
 simp only [dNetPlayI,gNetPlay] at h
 split at h
 rotate_left
 ·cases h
 split at h
 rotate_left
 ·cases h
 rename_i t1 els x t2 els2 t3 els3 _ _ _ R W q hiw1 hiw2 hl3
 obtain rfl:=waysL_eq hiw1
 obtain rfl:=waysL_eq hiw2
 obtain rfl:=intsL_eq hl3
 obtain ⟨rfl,rfl⟩:=Prod.mk.inj (Option.some.inj h)
 refine ⟨by simp,fun k E hE Q hQ=>?_⟩
 obtain ⟨⟨hbR,hbW⟩,hql⟩:=hc
 refine Aw_st hE [0,1,2,3] [10,616,656] fun K hK=>?_
 simp only [go_sem,seval]
 refine hK _ ?_;clear hK K
 refine Aw_st hE [3,10,11] [10,616,656] fun K hK=>?_
 simp only [go_sem,seval,hbR,hbW]
 refine ⟨by decide,fun hno=>?_,fun hok t hmp hlk=>?_⟩
 ·refine hK _ ?_;clear hK K
  refine Aw_sq fun B1 hB1 hR1 hX1=>?_
  have hp:playOk R x W q=false:=by unfold playOk;rw [hno];rfl
  refine Aw_st hE [3,10,30] [10,616,656] fun K hK=>?_
  simp only [go_sem,seval]
  refine hK _ (Aw_yes rfl ?_)
  refine Aw_st hE [8,9] [10,616,656] fun K hK=>?_
  simp only [go_sem,seval]
  refine hK _ (Aw_ret (hR1 _ (hQ _ ?_)))
  simp only [go_sem,seval,hp,Bool.false_eq_true]
  rfl
 refine hK _ ?_;clear hK K
 refine Aw_sq fun B1 hB1 hR1 hX1=>?_
 obtain ⟨q1,q2,q3⟩:=netOk_iff.1 hok
 have hn5:=(relsOk_iff.1 q1).1.2
 have hnet:okNet ⟨R.length,t,x,W⟩:=⟨hmp,by simp only;omega,by simp only [hlk,q2];exact q3⟩
 by_cases h1:q.length≤200
 rotate_left
 ·have h1d:decide (200 < (q.length:Int))=true:=decide_eq_true (by omega)
  have hp:playOk R x W q=false:=by unfold playOk;rw [decide_eq_false h1,Bool.and_false,Bool.false_and]
  refine Aw_st hE [3,10,30] [10,616,656] fun K hK=>?_
  refine aops_cut 6 fun K1 hK1=>?_
  simp only [go_sem,seval,h1d,Bool.not_true,Bool.not_false]
  repeat refine sd0 ?_
  refine hK1 _ ?_
  clear hK1
  simp only [go_sem,seval,h1d,Bool.not_true,Bool.not_false]
  repeat refine sd0 ?_
  refine hK _ (Aw_yes rfl ?_)
  refine Aw_st hE [8,9] [10,616,656] fun K hK=>?_
  simp only [go_sem,seval]
  refine hK _ (Aw_ret (hR1 _ (hQ _ ?_)))
  simp only [go_sem,seval,hp,Bool.false_eq_true]
  rfl
 have h1d:decide (200 < (q.length:Int))=false:=decide_eq_false (by omega)
 have hqm:q.length≤2000000:=by omega
 have hany:=any_out (n:=R.length) (q:=q)
 cases h2:q.all (hIb R.length) with
 | false =>
  rw [h2] at hany
  have hp:playOk R x W q=false:=by unfold playOk;rw [h2,Bool.and_false]
  refine Aw_st hE [3,10,30] [10,616,656] fun K hK=>?_
  refine aops_cut 6 fun K1 hK1=>?_
  simp only [go_sem,seval,h1d,hany,hqm,Bool.not_true,Bool.not_false]
  repeat refine sd0 ?_
  refine hK1 _ ?_
  clear hK1
  simp only [go_sem,seval,h1d,hany,hqm,Bool.not_true,Bool.not_false]
  repeat refine sd0 ?_
  refine hK _ (Aw_yes rfl ?_)
  refine Aw_st hE [8,9] [10,616,656] fun K hK=>?_
  simp only [go_sem,seval]
  refine hK _ (Aw_ret (hR1 _ (hQ _ ?_)))
  simp only [go_sem,seval,hp,Bool.false_eq_true]
  rfl
 | true =>
  rw [h2] at hany
  have hp:playOk R x W q=true:=by unfold playOk;rw [h2,hok,decide_eq_true h1];rfl
  have hin:∀ y ∈ q,hI W.length y:=fun y hy=>by rw [q2];exact hIb_iff.1 (List.all_eq_true.1 h2 y hy)
  refine Aw_st hE [3,10,30] [10,616,656] fun K hK=>?_
  refine aops_cut 6 fun K1 hK1=>?_
  simp only [go_sem,seval,h1d,hany,hqm,Bool.not_true,Bool.not_false]
  repeat refine sd0 ?_
  refine hK1 _ ?_
  clear hK1
  simp only [go_sem,seval,h1d,hany,hqm,Bool.not_true,Bool.not_false]
  repeat refine sd0 ?_
  refine hK _ (Aw_no rfl (Aw_skip (hB1 _ ?_)))
  refine Aw_st hE [10] [10,616,656] fun K hK=>?_
  simp only [go_sem,seval,hnet,hin,hqm]
  refine ⟨by decide,hin,?_⟩
  refine hK _ ?_;clear hK K
  refine Aw_st hE [8,9] [10,616,656] fun K hK=>?_
  simp only [go_sem,seval]
  refine hK _ ?_
  refine Aw_frz hE rfl 656 W.length (ls:=cWs (runL W.length (lkF t) x W q)) (ys:=wD (runL W.length (lkF t) x W q)) rfl (by rw [List.take_of_length_le (by rw [cWs_len,runL_len];omega)];exact ofAll_cWs _) ?_
  have hfz:=frz_wD (L:=runL R.length (ofR R) x W q) (l:=R.length) ((runL_len _ _).trans q2)
  refine Aw_ret (hQ _ ?_)
  simp only [go_sem,seval,hlk,q2,hfz,hp]
abbrev cloP (n:Int) (t:List (Value × Value)) (home:Int) (y:DV):AV:=.dv (.fn 39 [.ptr [.ptr [.v (.int .i64 n),.mp t,.v (.int .i64 home),y]]])
def gPl1:List AV→Option (Prop × AV)
 | [.v (.int .i64 a),.el [.ptr [.v (.int .i64 n),.mp _,.v (.int .i64 _),_]]]=>some (True,bv (outB n a))
 | _=>none
def dPl1:DFn:={ g:=gPl1 }
attribute [go_sem] gPl1 dPl1
theorem pl1D_ok:Fine Tryd.prog 39 dPl1.con:=by
 refine fine_det (T:=TT) Tryd.func39 rfl Tryd.ntmps39 (by rw [Tryd.results39]) rfl rfl tt gs_nil (ds_cons hasM_ok ds_nil) ?_
 intro args c r h hc
 simp only [dPl1,gPl1] at h
 split at h
 rotate_left
 ·cases h
 obtain ⟨rfl,rfl⟩:=Prod.mk.inj (Option.some.inj h)
 rename_i a n t home y
 refine ⟨by simp,fun k E hE Q hQ=>?_⟩
 refine Aw_st hE [0,1] [] fun K hK=>?_
 simp only [go_sem,seval]
 refine hK _ ?_;clear hK K
 refine Aw_st hE [3] [] fun K hK=>?_
 simp only [go_sem,seval]
 refine hK _ (Aw_ret (hQ _ ?_))
 simp only [go_sem,seval]
 rfl
def gPlI:List AV→Option (Prop × AV)
 | [.sl _ els,.dv (.fn f [.ptr [.ptr [.v (.int .i64 n),.mp _,.v (.int .i64 _),_]]])]=>(match intsL els with
  | some q=>if f=39 then some (q.length≤2000000,iv (idxF (outB n) q)) else none
  | none=>none)
 | _=>none
def dPlI:DFn:={ g:=gPlI }
attribute [go_sem] gPlI dPlI
theorem plID_ok:Fine Tryd.prog 54 dPlI.con:=by
 refine fine_det (T:=TT) Tryd.func54 rfl Tryd.ntmps54 (by rw [Tryd.results54]) rfl rfl tt gs_nil (ds_cons pl1D_ok ds_nil) ?_
 intro args c r h hc
 simp only [dPlI,gPlI] at h
 split at h
 rotate_left
 ·cases h
 split at h
 rotate_left
 ·cases h
 split at h
 rotate_left
 ·cases h
 rename_i tt els f n t home y _ q hl hf
 obtain rfl:=intsL_eq hl
 subst hf
 obtain ⟨rfl,rfl⟩:=Prod.mk.inj (Option.some.inj h)
 have hql:=hc
 refine ⟨by simp,fun k E hE Q hQ=>?_⟩
 refine Aw_st hE [0,1] [] fun K hK=>?_
 simp only [go_sem,seval]
 refine hK _ ?_;clear hK K
 refine Aw_sq fun B1 hB1 hR1 hX1=>?_
 refine Aw_st hE [0,1,7,8] [] fun K hK=>?_
 simp only [go_sem,seval]
 repeat refine sd0 ?_
 refine hK _ ?_;clear hK K
 refine Aw_bk fun B2 hN2 hE2 hR2 hX2=>?_
 refine Aw_lp (fun i:Nat=>⟨19,[(0,isl q),(1,cloP n t home y),(7,iv (q.length:Int)),(8,iv (i:Int))],[],k⟩) (fun i=>i≤q.length∧∀ j,j < i→outB n (q.getD j 0)=false) (fun i=>q.length - i) 0 (Le_wa) ⟨by omega,fun j h=>absurd h (by omega)⟩ fun i hi B3 hN3 hR3 hX3=>?_
 obtain ⟨hi,hno⟩:=hi
 refine Aw_st hE [0,1,7,8,9] [] fun K hK=>?_
 simp only [go_sem,seval]
 refine hK _ ?_;clear hK K
 refine Aw_sq fun B4 hB4 hR4 hX4=>?_
 refine Aw_cond rfl (fun hc5=>?_) (fun hc5=>?_)
 ·simp only [dte] at hc5
  have hil:i < q.length:=by omega
  have hg:=rows_get q i hil
  refine Aw_skip (hB4 _ ?_)
  refine Aw_sq fun B6 hB6 hR6 hX6=>?_
  refine Aw_bk fun B7 hN7 hE7 hR7 hX7=>?_
  refine Aw_st hE [0,1,5,7,8] [] fun K hK=>?_
  simp only [go_sem,seval]
  refine hK _ ?_;clear hK K
  refine Aw_st hE [0,1,5,7,8,16] [] fun K hK=>?_
  simp only [go_sem,seval,hg]
  repeat refine sd0 ?_
  refine hK _ (Aw_cond rfl (fun hc8=>?_) (fun hc8=>?_))
  ·refine Aw_st hE [4] [] fun K hK=>?_
   simp only [go_sem,seval]
   refine hK _ (Aw_ret (hR7 _ (hR6 _ (hR3 _ (hR2 _ (hR1 _ (hQ _ ?_)))))))
   simp only [go_sem,seval]
   rw [idxF_hit hil hno hc8]
  ·refine Aw_skip (hN7 _ (hB6 _ ?_))
   refine Aw_tx hE [0,1,7,8] [] fun K hK=>?_
   simp only [go_sem,seval]
   repeat refine sd0 ?_
   refine hK _ (hN3 (i + 1) _ ⟨by omega,fun j hj=>if e:j < i then hno j e else (by obtain rfl:j=i:=(by omega);exact hc8)⟩ (by omega) (Le.refl _))
 ·simp only [dfn] at hc5
  refine Aw_exit (hX4 _ _ (hX3 _ _ (hE2 _ (hB1 _ ?_))))
  refine Aw_st hE [4] [] fun K hK=>?_
  simp only [go_sem,seval]
  refine hK _ (Aw_ret (hQ _ ?_))
  simp only [go_sem,seval]
  rw [idxF_none (fun j hj=>hno j (by omega))]
def gPlC:List AV→Option (Prop × AV)
 | [.sl _ els,.dv (.fn f [.ptr [.ptr [.v (.int .i64 n),.mp _,.v (.int .i64 _),_]]])]=>(match intsL els with
  | some q=>if f=39 then some (q.length≤2000000,bv (q.any (outB n))) else none
  | none=>none)
 | _=>none
def dPlC:DFn:={ g:=gPlC }
attribute [go_sem] gPlC dPlC
theorem plCD_ok:Fine Tryd.prog 38 dPlC.con:=by
 refine fine_det (T:=TT) Tryd.func38 rfl Tryd.ntmps38 (by rw [Tryd.results38]) rfl rfl tt gs_nil (ds_cons plID_ok ds_nil) ?_
 intro args c r h hc
 simp only [dPlC,gPlC] at h
 split at h
 rotate_left
 ·cases h
 split at h
 rotate_left
 ·cases h
 split at h
 rotate_left
 ·cases h
 rename_i tt els f n t home y _ q hl hf
 obtain rfl:=intsL_eq hl
 subst hf
 obtain ⟨rfl,rfl⟩:=Prod.mk.inj (Option.some.inj h)
 have hql:=hc
 refine ⟨by simp,fun k E hE Q hQ=>?_⟩
 have hge:=idxF_geq (outB n) q
 refine Aw_st hE [0,1] [] fun K hK=>?_
 simp only [go_sem,seval]
 refine hK _ ?_;clear hK K
 refine Aw_st hE [4] [] fun K hK=>?_
 simp only [go_sem,seval,hql,hge]
 refine hK _ (Aw_ret (hQ _ ?_))
 simp only [go_sem,seval]
def nply (R:List (List Int)) (x:Int) (W:List (List Int)) (q:List Int):List (List Int):=if playOk R x W q then runL R.length (ofR R) x W q else []
set_option maxHeartbeats 8000000 in
theorem nply_calls {pb:Addr} {w:World} (hI0:WP pb w) {R W:List (List Int)} {x:Int} {q:List Int} {v0 v2 vq:Value} (h0:RdD w (allS w) (.sl (wrows R)) v0) (h2v:RdD w (allS w) (.sl (wrows W)) v2) (hqv:RdD w (allS w) (.sl (rows q)) vq) (hbR:bigM R) (hbW:bigM W) (hql:q.length≤2000000) :
  Calls Tryd.prog 23 #[v0,.int .i64 x,v2,vq] w fun e w'=>∃ u,e = .returned (.tuple #[u,.bool (playOk R x W q)])∧w.grownBy w' none∧NestN w' u (nply R x W q) w.heap.size w'.heap.size:=by
 refine ax_enter Tryd.func23 rfl Tryd.ntmps23 (by rw [Tryd.results23]) rfl rfl (fun _=>0) (fun _=>False) (args:=[wsl R,iv x,wsl W,isl q]) (m1:=[]) (fun _ _ h=>allS_lk h) (fun _ _ _ h hv=>allS_one h hv) rfl (by simp) (fun j y hy=>?_) (fun d ls h=>by cases h) (fun d d' ls ls' h=>by cases h) ?_
 ·match j,hy with
  | 0,hy=>obtain rfl:=Option.some.inj hy;exact .sl none _ v0 h0 trivial
  | 1,hy=>obtain rfl:=Option.some.inj hy;exact .v _ rfl
  | 2,hy=>obtain rfl:=Option.some.inj hy;exact .sl none _ v2 h2v trivial
  | 3,hy=>obtain rfl:=Option.some.inj hy;exact .sl none _ vq hqv trivial
 have hWP:∀ w',w.grownBy w' none→WP pb w':=fun w' hg=>wp_inh pb w w' 0 hI0 hg
 obtain ⟨E0,hE0⟩:∃ E,E=en0 Tryd.prog w (allS w) (fun _=>0) (fun _=>False):=⟨_,rfl⟩
 have hP0:E0.P=Tryd.prog:=by rw [hE0];rfl
 have hd0:E0.draws=false:=by rw [hE0];rfl
 have hw0:E0.w0=w:=by rw [hE0];rfl
 have hL0:∀ b,¬ E0.L b:=fun b h=>by rw [hE0] at h;exact h
 rw [← hE0]
 have hE:TbOk E0 { T:=TT,G:=[],D:=[],draws:=false,lent:=true,X:=[] }:=tb_newX [] hP0 hd0 rfl tt
 have nil0:∀ {E:En},w.grownBy E.w0 none→E.draws=false→(∀ b,¬ E.L b)→playOk R x W q=false→AQ Tryd.prog E (bodyPost Tryd.prog Tryd.f23 fun e w'=>∃ u,e = .returned (.tuple #[u,.bool (playOk R x W q)])∧w.grownBy w' none∧NestN w' u (nply R x W q) w.heap.size w'.heap.size) .ret ⟨38,[(8,.nl),(9,bv false)],[],0⟩:=fun {E} hg hd hL hn=>bp_ret2 (by rw [Tryd.results23]) fun a' c hc=>by
  have h8:Rd c .nl (a'.tmps.getD 8 undef):=hc.2.1 8
  have e8:a'.tmps.getD 8 undef = .slice none 0 0:=by generalize a'.tmps.getD 8 undef=z at h8;cases h8;rfl
  have e9:a'.tmps.getD 9 undef = .bool false:=v_eq (hc.2.1 9:Rd c (bv false) _)
  have hf:=hc.1.fr
  rw [hd] at hf
  refine ⟨_,by rw [e9,hn],gb_trans hg (hf.by hL),.inr ⟨e8,?_⟩⟩
  simp only [nply,hn,Bool.false_eq_true,if_false]
 unfold Eng.stM
 refine Ax_st hE [0,1,2,3] [10] fun K hK=>?_
 simp only [go_sem,seval]
 refine hK _ ?_;clear hK K
 refine Ax_sp hE 3 fun K hK=>?_
 simp only [go_sem,seval,List.take_succ_cons,List.take_zero]
 refine hK _ fun a1 w1 hr1=>?_
 clear hK K
 obtain ⟨c1,rfl,h1c⟩:=hr1.rc
 refine sp_call rfl rfl (readNet_ok pb).1 ?_
 simp only [List.map_toArray,List.map_cons,List.map_nil,Act.eval]
 have hf1:=h1c.1.fr
 rw [hd0,hw0] at hf1
 have hg1:=hf1.by hL0
 rw [v_eq (h1c.2.1 14:Rd c1 (iv x) _)]
 refine (readNet_calls (hWP _ hg1) h1c.1.sx h1c.1.s1 (sl_rd (h1c.2.1 13:Rd c1 (wsl R) _)) (sl_rd (h1c.2.1 15:Rd c1 (wsl W) _)) hbR hbW).mono ?_
 rintro e w3 ⟨hg,⟨hno,rfl⟩ | ⟨hyes,p,t,wv,lo,hi,S',rfl,hmp,hlk,hN⟩⟩
 ·-- not ok
  refine ⟨_,rfl,?_⟩
  have hk3:Keeps c1.w c1.S w3 c1.S:=keeps_of_lt (fun _ _ h=>h) fun b o _ hlt=>hg.block b hlt (by simp)
  have hR3:=h1c.nxs (w':=w3) (S:=c1.S) hk3 (fun b o h=>hk3.lk h (h1c.1.sx b o h)) (fun b o v hS hv=>s1_keep h1c.1 hk3 hS hv) (fun d ls hl=>by cases hl) (x:=.tup [.v (.pointer none),bv false]) (u:=.tuple #[.pointer none,.bool false]) (.tup _ _ rfl fun j y hy=>by
   match j,hy with
   | 0,hy=>obtain rfl:=Option.some.inj hy;exact .v _ rfl
   | 1,hy=>obtain rfl:=Option.some.inj hy;exact .v _ rfl) 16
  generalize hE3e:nxS E0 _ c1 w3 c1.S=E3 at hR3
  have hP3:E3.P=Tryd.prog:=by rw [← hE3e];exact hP0
  have hd3:E3.draws=false:=by rw [← hE3e];rfl
  have hw3:E3.w0=w3:=by rw [← hE3e];rfl
  have hL3:∀ b,¬ E3.L b:=fun b h=>by
   rw [← hE3e] at h
   obtain ⟨d,ls,hl,_⟩:=h
   cases hl
  clear hE
  have hE:TbOk E3 { T:=TT,G:=[],D:=[(38,dPlC)],draws:=false }:=tb_newG hP3 hd3 hL3 rfl tt GOk.nil (DOk.cons plCD_ok (fun _ _=>trivial) DOk.nil)
  refine sp_go hE hP3 hR3 ?_
  simp only [go_sem,seval,St.re,List.drop_succ_cons,List.drop_zero]
  refine sp_ax ?_
  refine Ax_sq fun B1 hB1 hR1 hX1=>?_
  refine Ax_st hE [3,10,30] [10] fun K hK=>?_
  simp only [go_sem,seval]
  refine hK _ (Ax_yes rfl ?_)
  refine Ax_st hE [8,9] [999] fun K hK=>?_
  simp only [go_sem,seval]
  exact hK _ (Ax_ret (hR1 _ (nil0 (by rw [hw3];exact gb_trans hg1 hg) hd3 hL3 (by unfold playOk;rw [hno];rfl))))
 ·-- ok
  refine ⟨_,rfl,?_⟩
  have hkS:Keeps w3 S' w3 (fun b o=>c1.S b o∨S' b o):=Keeps.same (fun _ _ h=>.inr h) fun _ _ _=>rfl
  have hkc:Keeps c1.w c1.S w3 c1.S:=keeps_of_lt (fun _ _ h=>h) fun b o _ hlt=>hg.block b hlt (by simp)
  have hk3:Keeps c1.w c1.S w3 (fun b o=>c1.S b o∨S' b o):=keeps_of_lt (fun _ _ h=>.inl h) fun b o _ hlt=>hg.block b hlt (by simp)
  have hR3:=h1c.nxs (w':=w3) (S:=fun b o=>c1.S b o∨S' b o) hk3 (fun b o h=>h.elim (fun h=>hkc.lk h (h1c.1.sx b o h)) (hN.sx b o)) (fun b o v hS hv=>hS.elim (fun hS=>s1_keep h1c.1 hkc hS hv) fun hS=>hN.s1 b o v hS hv) (fun d ls hl=>by cases hl) (x:=.tup [NX R.length t x wv,bv true]) (u:=.tuple #[p,.bool true]) (.tup _ _ rfl fun j y hy=>by
   match j,hy with
   | 0,hy=>obtain rfl:=Option.some.inj hy;exact pt_one hN.rd rfl fun _ _ h=>.inr h
   | 1,hy=>obtain rfl:=Option.some.inj hy;exact .v _ rfl) 16
  generalize hE3e:nxS E0 _ c1 w3 (fun b o=>c1.S b o∨S' b o)=E3 at hR3
  have hP3:E3.P=Tryd.prog:=by rw [← hE3e];exact hP0
  have hd3:E3.draws=false:=by rw [← hE3e];rfl
  have hw3:E3.w0=w3:=by rw [← hE3e];rfl
  have hS3:∀ b o,E3.S0 b o→c1.S b o∨S' b o:=fun b o h=>by rw [← hE3e] at h;exact h
  have hL3:∀ b,¬ E3.L b:=fun b h=>by
   rw [← hE3e] at h
   obtain ⟨d,ls,hl,_⟩:=h
   cases hl
  have hav3:∀ b o,E3.S0 b o→¬ (lo≤b∧b < hi):=fun b o h=>(hS3 b o h).elim (fun h hb=>by have:=h1c.1.slt h;have:=hN.lob;omega) (hN.av b o)
  clear hE
  have hE:TbOk E3 { T:=TT,G:=[],D:=[(38,dPlC)],draws:=false }:=tb_newG hP3 hd3 hL3 rfl tt GOk.nil (DOk.cons plCD_ok (fun _ _=>trivial) DOk.nil)
  refine sp_go hE hP3 hR3 ?_
  simp only [go_sem,seval,St.re,List.drop_succ_cons,List.drop_zero]
  refine sp_ax ?_
  refine Ax.leE (LeE_frzL hE 10 1 (ls:=[NX R.length t x wv]) (ys:=[.ptr [.v (.int .i64 R.length),.mp t,.v (.int .i64 x),.v wv]]) rfl rfl rfl) ?_
  simp only [go_sem,seval]
  refine Ax_sq fun B1 hB1 hR1 hX1=>?_
  obtain ⟨q1,q2,q3⟩:=netOk_iff.1 hyes
  have hn5:=(relsOk_iff.1 q1).1.2
  have hnet:okNet ⟨R.length,t,x,W⟩:=⟨hmp,by simp only;omega,by simp only [hlk,q2];exact q3⟩
  by_cases g1:q.length≤200
  rotate_left
  ·have h1d:decide (200 < (q.length:Int))=true:=decide_eq_true (by omega)
   have hp:playOk R x W q=false:=by unfold playOk;rw [decide_eq_false g1,Bool.and_false,Bool.false_and]
   refine Ax_st hE [3,10,30] [10] fun K hK=>?_
   refine aops_cut 6 fun K1 hK1=>?_
   simp only [go_sem,seval,h1d,Bool.not_true,Bool.not_false]
   repeat refine sd0 ?_
   refine hK1 _ ?_
   clear hK1
   simp only [go_sem,seval,h1d,Bool.not_true,Bool.not_false]
   repeat refine sd0 ?_
   refine hK _ (Ax_yes rfl ?_)
   refine Ax_st hE [8,9] [999] fun K hK=>?_
   simp only [go_sem,seval]
   exact hK _ (Ax_ret (hR1 _ (nil0 (by rw [hw3];exact gb_trans hg1 hg) hd3 hL3 hp)))
  have h1d:decide (200 < (q.length:Int))=false:=decide_eq_false (by omega)
  have hany:=any_out (n:=R.length) (q:=q)
  cases h2:q.all (hIb R.length) with
  | false =>
   rw [h2] at hany
   have hp:playOk R x W q=false:=by unfold playOk;rw [h2,Bool.and_false]
   refine Ax_st hE [3,10,30] [10] fun K hK=>?_
   refine aops_cut 6 fun K1 hK1=>?_
   simp only [go_sem,seval,h1d,hany,hql,Bool.not_true,Bool.not_false]
   repeat refine sd0 ?_
   refine hK1 _ ?_
   clear hK1
   simp only [go_sem,seval,h1d,hany,hql,Bool.not_true,Bool.not_false]
   repeat refine sd0 ?_
   refine hK _ (Ax_yes rfl ?_)
   refine Ax_st hE [8,9] [999] fun K hK=>?_
   simp only [go_sem,seval]
   exact hK _ (Ax_ret (hR1 _ (nil0 (by rw [hw3];exact gb_trans hg1 hg) hd3 hL3 hp)))
  | true =>
   rw [h2] at hany
   have hp:playOk R x W q=true:=by unfold playOk;rw [h2,hyes,decide_eq_true g1];rfl
   have hin:∀ y ∈ q,hI W.length y:=fun y hy=>by rw [q2];exact hIb_iff.1 (List.all_eq_true.1 h2 y hy)
   refine Ax_st hE [3,10,30] [10] fun K hK=>?_
   refine aops_cut 6 fun K1 hK1=>?_
   simp only [go_sem,seval,h1d,hany,hql,Bool.not_true,Bool.not_false]
   repeat refine sd0 ?_
   refine hK1 _ ?_
   clear hK1
   simp only [go_sem,seval,h1d,hany,hql,Bool.not_true,Bool.not_false]
   repeat refine sd0 ?_
   refine hK _ (Ax_no rfl (Ax_skip (hB1 _ ?_)))
   refine Ax_sp hE 2 fun K hK=>?_
   simp only [go_sem,seval,List.take_succ_cons,List.take_zero]
   refine hK _ fun a4 w4 hr4=>?_
   clear hK K
   obtain ⟨c4,rfl,h4⟩:=hr4.rc
   refine sp_call rfl rfl (runI_ok pb).1 ?_
   simp only [List.map_toArray,List.map_cons,List.map_nil,Act.eval]
   have hf4:=h4.1.fr
   rw [hd3,hw3] at hf4
   have hg4:=hf4.by hL3
   have hgw:w.grownBy c4.w none:=gb_trans (gb_trans hg1 hg) hg4
   have hS4:∀ b o,c4.S b o→¬ (lo≤b∧b < hi):=fun b o h=>by
    rcases h4.1.sS b o h with h' | h'
    ·rw [hw3] at h';have:=hN.hib;omega
    ·exact hav3 b o h'
   have hlw:w.heap.size≤lo:=Nat.le_trans hg1.size hN.lob
   refine (run_calls h4.1.sx h4.1.s1 (h4.2.1 31:Rd c4 (NX R.length t x wv) _).ptr (sl_rd (h4.2.1 32:Rd c4 (isl q) _)) (Nest.f (hN.nest.same fun b _ _ hlt=>hg4.block b hlt (by simp))) (fun b o h hF=>hS4 b o h hF) (fun y hy=>Nat.lt_of_lt_of_le hy.2 (Nat.le_trans hN.hib hg4.size)) (fun w' hg'=>hWP w' ⟨hg'.os.trans hgw.os,hg'.tape.trans hgw.tape,hg'.output.trans hgw.output,Nat.le_trans hgw.size hg'.size,fun i hi hr=>(hg'.block i (Nat.lt_of_lt_of_le hi hgw.size) (by simp) fun hF=>by omega).trans (hgw.block i hi hr)⟩) hnet hin hql).mono ?_
   rintro e w5 ⟨rfl,hg5,F',hF',hN5⟩
   refine ⟨_,rfl,?_⟩
   have hk5:Keeps c4.w c4.S w5 c4.S:=keeps_of_lt (fun _ _ h=>h) fun b o hS hlt=>hg5.block b hlt (by simp) fun hF=>hS4 b o hS hF
   have hR5:=h4.nxs (w':=w5) (S:=c4.S) hk5 (fun b o h=>hk5.lk h (h4.1.sx b o h)) (fun b o v hS hv=>s1_keep h4.1 hk5 hS hv) (fun d ls hl=>by cases hl) (x:=.tup []) (u:=.tuple #[]) (.tup _ _ rfl fun j y hy=>by cases hy) 33
   generalize hE5e:nxS E3 _ c4 w5 c4.S=E5 at hR5
   have hP5:E5.P=Tryd.prog:=by rw [← hE5e];exact hP3
   have hd5:E5.draws=false:=by rw [← hE5e];rfl
   have hw5:E5.w0=w5:=by rw [← hE5e];rfl
   have hL5:∀ b,¬ E5.L b:=fun b h=>by
    rw [← hE5e] at h
    obtain ⟨d,ls,hl,_⟩:=h
    cases hl
   clear hE
   have hE:TbOk E5 { T:=TT,G:=[],D:=[],draws:=false }:=tb_newG hP5 hd5 hL5 rfl tt GOk.nil DOk.nil
   refine sp_go hE hP5 hR5 ?_
   simp only [go_sem,seval,St.re,List.drop_succ_cons,List.drop_zero]
   refine sp_ax ?_
   refine Ax_st hE [8,9] [10] fun K hK=>?_
   simp only [go_sem,seval]
   refine hK _ (Ax_ret (bp_ret2 (by rw [Tryd.results23]) fun a6 c6 h6=>?_))
   have e8:a6.tmps.getD 8 undef=wv:=v_eq (h6.2.1 8:Rd c6 (.v wv) _)
   have e9:a6.tmps.getD 9 undef = .bool true:=v_eq (h6.2.1 9:Rd c6 (bv true) _)
   have hf6:=h6.1.fr
   rw [hd5,hw5] at hf6
   have hg6:=hf6.by hL5
   have hgw5:w.grownBy w5 none:=⟨hg5.os.trans hgw.os,hg5.tape.trans hgw.tape,hg5.output.trans hgw.output,Nat.le_trans hgw.size hg5.size,fun i hi hr=>(hg5.block i (Nat.lt_of_lt_of_le hi hgw.size) (by simp) fun hF=>by omega).trans (hgw.block i hi hr)⟩
   refine ⟨wv,by rw [e8,e9,hp],gb_trans hgw5 hg6,.inl ?_⟩
   have hn:nply R x W q=runL W.length (lkF t) x W q:=by simp only [nply,hp,if_true,hlk,q2]
   rw [hn]
   refine (hN5.same fun b _ hlt=>hg6.block b hlt (by simp)).nest fun y hy=>?_
   rcases hF' y hy with h' | h'
   ·omega
   ·exact Nat.le_trans hgw.size h'
def gMs0:List AV→Option (Prop × AV)
 | [.sl _ els,.v (.int .i64 k)]=>(match els with | []=>some (True,iv k) | _=>none)
 | _=>none
def dMs0:DFn:={ g:=gMs0 }
attribute [go_sem] gMs0 dMs0
theorem markS0_ok:Fine Tryd.prog 13 dMs0.con:=by
 refine fine_det (T:=TT) Tryd.func13 rfl Tryd.ntmps13 (by rw [Tryd.results13]) rfl rfl tt gs_nil ds_nil ?_
 intro args c r h hc
 simp only [dMs0,gMs0] at h
 split at h
 rotate_left
 ·cases h
 split at h
 rotate_left
 ·cases h
 obtain ⟨rfl,rfl⟩:=Prod.mk.inj (Option.some.inj h)
 refine ⟨by simp,fun k E hE Q hQ=>?_⟩
 rename_i k0 _
 refine Aw_st hE [0,1] [] fun K hK=>?_
 simp only [go_sem,seval]
 refine hK _ ?_;clear hK K
 refine Aw_sq fun B1 hB1 hR1 hX1=>?_
 refine Aw_st hE [0,1,5] [] fun K hK=>?_
 simp only [go_sem,seval]
 refine hK _ ?_;clear hK K
 refine Aw_bk fun B2 hN2 hE2 hR2 hX2=>?_
 refine Aw_lp (fun _:Unit=>⟨19,[(0,.sl none []),(1,iv k0),(5,iv 0)],[],k⟩) (fun _=>True) (fun _=>0) () (Le_wa) trivial fun i hi B3 hN3 hR3 hX3=>?_
 refine Aw_sq fun B4 hB4 hR4 hX4=>?_
 refine Aw_st hE [0,1,5,9] [] fun K hK=>?_
 simp only [go_sem,seval]
 refine hK _ (Aw_no rfl (Aw_exit (hX4 _ _ (hX3 _ _ (hE2 _ (hB1 _ ?_))))))
 refine Aw_st hE [4] [] fun K hK=>?_
 simp only [go_sem,seval]
 refine hK _ (Aw_ret (hQ _ ?_))
 simp only [go_sem,seval]
theorem NestN.same {w w':World} {v:Value} {R:List (List Int)} {lo hi:Nat} (h:NestN w v R lo hi) (e:∀ b,lo≤b→b < hi→b < w.heap.size→w'.heap[b]? = w.heap[b]?):NestN w' v R lo hi:=by
 rcases h with h | h
 ·exact .inl (h.same e)
 ·exact .inr h
theorem NestN.rd {w:World} {v:Value} {R:List (List Int)} {lo hi:Nat} (h:NestN w v R lo hi):RdD w (allS w) (.sl (wrows R)) v:=by
 rcases h with h | ⟨rfl,rfl⟩
 ·exact h.rd
 ·exact .nil
theorem NestN.one {w:World} {v:Value} {R:List (List Int)} {lo hi:Nat} (h:NestN w v R lo hi):v.oneCell'=true:=by
 rcases h with h | ⟨rfl,rfl⟩
 ·exact h.one
 ·rfl
theorem nestN_calls {w:World} {v:Value} {R:List (List Int)} {lo hi:Nat} {k:Int} (h:NestN w v R lo hi) (hR:bigM R) (hk0:0≤k) (hk1:k + totL R≤1000000000) :
  Calls Tryd.prog 13 #[v,.int .i64 k] w fun e w'=>e = .returned (.int .i64 (k + totL R))∧GrownL w w' none (fun x=>lo≤x∧x < hi)∧NestN w' v (mkR k R) lo hi:=by
 rcases h with h | ⟨rfl,rfl⟩
 ·refine (nest_calls h hR hk0 hk1).mono ?_
  rintro e w' ⟨rfl,hg,hn⟩
  exact ⟨rfl,hg,.inl hn⟩
 ·let c:Gh:=gh0 w (fun _ _=>False) (fun _=>0)
  refine (markS0_ok.2 c [.sl none [],iv k] #[.slice none 0 0,.int .i64 k] .nilIface 0 0 rfl (fun j x hx=>?_) (fun x hx=>?_) ⟨True,iv k,rfl,trivial⟩ trivial (fun _ _ h=>h.elim) (fun _ _ _ h=>h.elim) (fun h=>by cases h)).mono ?_
  ·match j,hx with
   | 0,hx=>obtain rfl:=Option.some.inj hx;exact .sl none _ _ .nil trivial
   | 1,hx=>obtain rfl:=Option.some.inj hx;exact .v _ rfl
  ·simp only [List.mem_cons,List.not_mem_nil,or_false] at hx
   rcases hx with rfl | rfl<;>rfl
  ·rintro e w' ⟨u,r,c',rfl,⟨c1,hr⟩,O⟩
   obtain ⟨_,rfl⟩:=Prod.mk.inj (Option.some.inj hr)
   have h1:=O.rd
   have e1:u = .int .i64 k:=by generalize u=z at h1;cases h1;rfl
   exact ⟨by rw [e1];simp [totL],gb_gl O.fr _,.inr ⟨rfl,rfl⟩⟩
theorem totL_bd:∀ (R:List (List Int)) (m:Nat),(∀ r ∈ R,r.length≤m)→totL R≤R.length * m
 | [],m,_=>by simp [totL]
 | r::R,m,h=>by
  have h1:=totL_bd R m fun q hq=>h q (List.mem_cons_of_mem _ hq)
  have h2:=h r (List.mem_cons_self ..)
  have h3:((r::R).length:Int) * m=R.length * m + m:=by rw [List.length_cons,Int.natCast_add,Int.add_mul];simp
  rw [totL,h3];omega
def smallW (R:List (List Int)):Prop:=R.length≤5∧∀ r ∈ R,r.length≤5
theorem smallW.big {R:List (List Int)} (h:smallW R):bigM R∧bigW R∧totL R≤1000000:=by
 refine ⟨⟨by have:=h.1;omega,fun r hr=>by have:=h.2 r hr;omega⟩,⟨by have:=h.1;omega,fun r hr=>by have:=h.2 r hr;omega⟩,?_⟩
 have h1:=totL_bd R 5 h.2
 have h2:=h.1
 omega
theorem netS_small {n:Nat} {of:Rel} {home:Int} {W:List (List Int)} (hl:W.length=n) (h5:n≤5) (h:netS n of home (toS W)):smallW W:=by
 refine ⟨by omega,fun w hw=>?_⟩
 obtain ⟨i,hi,rfl⟩:=List.getElem_of_mem hw
 have:=h.2 ((i:Int) + 1) ⟨by omega,by omega⟩
 rw [toS_succ,List.getD_eq_getElem?_getD,List.getElem?_eq_getElem hi,Option.getD_some] at this
 by_cases e:W[i]=[]
 ·rw [e];simp
 ·exact pathOk_len ((wayOk_iff e).1 this).2.2.1
theorem sz_big {R:List (List Int)} {l:Int} (h0:0≤l) (h1:l≤1048576) (h:¬ szW R l < 0):bigM R∧bigW R∧szW R l≤l:=by
 obtain ⟨g1,g2,g3⟩:=szW_ok (R:=R) h0
 obtain ⟨a,b⟩:=g3 (by omega)
 exact ⟨⟨by omega,fun r hr=>by have:=b r hr;omega⟩,⟨by omega,fun r hr=>by have:=b r hr;omega⟩,g1⟩
theorem szWR_tot:∀ (R:List (List Int)) (l:Int),0≤l→0≤szWR R l→totL R≤l
 | [],l,h,_=>by simpa [totL] using h
 | r::R,l,h,h2=>by
  unfold szWR at h2
  split at h2
  ·omega
  ·rename_i hn
   have:=szWR_tot R (szI r.length l) (by omega) h2
   obtain ⟨_,_,z3⟩:=szI_le r.length l h
   unfold szI at this hn
   split at hn
   ·omega
   ·rename_i hn2
    rw [if_neg hn2] at this
    rw [totL];omega
theorem szW_tot {R:List (List Int)} {l:Int} (h0:0≤l) (h:¬ szW R l < 0):totL R≤l:=by
 unfold szW at h
 split at h
 ·omega
 ·rename_i hn
  have:=szWR_tot R (l - R.length) (by omega) (by omega)
  omega
theorem mkR_tot:∀ (k:Int) (R:List (List Int)),totL (mkR k R)=totL R
 | _,[]=>rfl
 | k,r::R=>by rw [mkR,totL,totL,iotaL_len,mkR_tot]
theorem mkR_mem:∀ (k:Int) (R:List (List Int)) (r:List Int),r ∈ mkR k R→∃ q ∈ R,r.length=q.length
 | _,[],r,h=>by cases h
 | k,q::R,r,h=>by
  rw [mkR] at h
  rcases List.mem_cons.1 h with rfl | h
  ·exact ⟨q,List.mem_cons_self ..,iotaL_len _ _⟩
  ·obtain ⟨q',h1,h2⟩:=mkR_mem _ R r h
   exact ⟨q',List.mem_cons_of_mem _ h1,h2⟩
theorem mkR_big {k:Int} {R:List (List Int)} (h:bigM R):bigM (mkR k R):=⟨by rw [mkR_len];exact h.1,fun r hr=>by
 obtain ⟨q,h1,h2⟩:=mkR_mem k R r hr
 rw [h2];exact h.2 q h1⟩

theorem nply_small (R W:List (List Int)) (x:Int) (q:List Int):smallW (nply R x W q):=by
 unfold nply
 split
 ·rename_i hok
  unfold playOk at hok
  obtain ⟨hok,h2⟩:=Bool.and_eq_true_iff.1 hok
  obtain ⟨hok,_⟩:=Bool.and_eq_true_iff.1 hok
  obtain ⟨q1,q2,q3⟩:=netOk_iff.1 hok
  have hn5:=(relsOk_iff.1 q1).1.2
  have hin:∀ y ∈ q,hI R.length y:=fun y hy=>hIb_iff.1 (List.all_eq_true.1 h2 y hy)
  have hrun:=toS_run (n:=R.length) (of:=ofR R) (home:=x) q (L:=W) q2 hin
  refine netS_small (n:=R.length) (of:=ofR R) (home:=x) ((runL_len _ _).trans q2) hn5 ?_
  rw [hrun.1]
  exact netS_run hn5 _ q3 hin
 ·exact ⟨by simp,fun r hr=>by cases hr⟩
theorem Cur.newX {w:World} {Z:List (Nat × Nat)} {E:En} (C:Cur w Z E) {st:St} {a:Act} {c:Gh} (h:RC E st a c) (hm:st.m=[]) {w':World} (hg:c.w.grownBy w' none) {x:AV} {u:Value} (hu:∀ c':Gh,Rd c' x u) (d:Nat) :
  ∃ E',E'.w0=w'∧E'.draws=false∧Cur w ((c.w.heap.size,w'.heap.size)::Z) E'∧Eng.R E' (St.put st.re (some d) x) (a.put (some d) u) w'∧E.w0.grownBy w' none:=by
 have hn:=C.now h
 have hg':=gb_trans hn hg
 have hk:Keeps c.w c.S w' c.S:=keeps_of_lt (fun _ _ h=>h) fun b o _ hlt=>hg.block b hlt (by simp)
 refine ⟨nxS E st c w' c.S,rfl,rfl,⟨C.P,rfl,fun b ⟨d,ls,hl,_⟩=>(by rw [hm] at hl;cases hl),gb_trans C.gr hg',fun z hz=>?_,fun z hz b o hS=>?_⟩,h.nxs hk (fun b o h'=>hk.lk h' (h.1.sx b o h')) (fun b o v hS hv=>s1_keep h.1 hk hS hv) (fun d ls hl=>(by rw [hm] at hl;cases hl)) (hu _) d,hg'⟩
 ·rcases List.mem_cons.1 hz with rfl | hz
  ·exact ⟨Nat.le_trans C.gr.size hn.size,Nat.le_refl _⟩
  ·exact ⟨(C.zs z hz).1,Nat.le_trans (C.zs z hz).2 hg'.size⟩
 ·rcases List.mem_cons.1 hz with rfl | hz
  ·have:=h.1.slt (show c.S b o from hS)
   omega
  ·exact C.sS h hz hS
set_option maxHeartbeats 8000000 in
theorem plLaw {pb:Addr} {w:World} (hI0:WP pb w) {R W:List (List Int)} {q:List Int} {h:Int} {v v2 v3:Value} (hv:RdD w (allS w) (.sl (wrows R)) v) (hv2:RdD w (allS w) (.sl (wrows W)) v2) (hv3:RdD w (allS w) (.sl (rows q)) v3) (hlR:longW R) (hlW:longW W) (hlq:q.length≤9223372036854775807) :
  Calls Tryd.prog 6 #[v,.int .i64 h,v2,v3] w fun e w'=>e = .returned (.bool true)∧w.grownBy w' none:=by
 refine ax_enter Tryd.func6 rfl Tryd.ntmps6 (by rw [Tryd.results6]) rfl rfl (S:=allS w) (fun _=>0) (fun _=>False) (args:=[wsl R,iv h,wsl W,isl q]) (m1:=[]) (fun _ _ h=>allS_lk h) (fun _ _ _ h hv=>allS_one h hv) rfl (by simp) (fun j x hx=>?_) (fun d ls h=>by cases h) (fun d d' ls ls' h=>by cases h) ?_
 ·match j,hx with
  | 0,hx=>obtain rfl:=Option.some.inj hx;exact .sl none _ v hv trivial
  | 1,hx=>obtain rfl:=Option.some.inj hx;exact .v _ rfl
  | 2,hx=>obtain rfl:=Option.some.inj hx;exact .sl none _ v2 hv2 trivial
  | 3,hx=>obtain rfl:=Option.some.inj hx;exact .sl none _ v3 hv3 trivial
 obtain ⟨E0,hE0⟩:∃ E,E=en0 Tryd.prog w (allS w) (fun _=>0) (fun _=>False):=⟨_,rfl⟩
 rw [← hE0]
 have C0:Cur w [] E0:=by rw [hE0];exact ⟨rfl,rfl,fun _ h=>h,⟨rfl,rfl,rfl,Nat.le_refl _,fun _ _ _=>rfl⟩,fun z hz=>(by cases hz),fun z hz=>(by cases hz)⟩
 have hw0:E0.w0=w:=by rw [hE0];rfl
 have hWP:∀ w',w.grownBy w' none→WP pb w':=fun w' hg=>wp_inh pb w w' 0 hI0 hg
 have hE:=C0.tb (D:=[(7,dSzW),(9,dToW),(22,dToI),(21,dNetPlay)]) (DOk.cons szIntSS_ok (fun _ _=>trivial) (DOk.cons toIntSS_ok (fun _ _=>trivial) (DOk.cons toIntS_ok (fun _ _=>trivial) (DOk.cons sNetPlay_ok (fun _ _=>trivial) DOk.nil))))
 have ret:∀ {E:En} {Z:List (Nat × Nat)} (_:Cur w Z E),AQ Tryd.prog E (bodyPost Tryd.prog Tryd.f6 fun e w'=>e = .returned (.bool true)∧w.grownBy w' none) .ret ⟨145,[(8,bv true)],[],0⟩:=fun {E Z} C=>bp_ret (by rw [Tryd.results6]) fun a c hc=>by
  have h8:Rd c (bv true) (a.tmps.getD 8 undef):=hc.2.1 8
  have e8:a.tmps.getD 8 undef = .bool true:=v_eq h8
  exact ⟨by rw [e8],gb_trans C.gr (C.now hc)⟩
 unfold Eng.stM
 refine Ax_st hE [0,1,2,3] [] fun K hK=>?_
 simp only [go_sem,seval]
 refine hK _ ?_;clear hK K
 refine Ax_sq fun B0 hB0 hR0 hX0=>?_
 refine Ax_st hE [0,1,2,3,24] [] fun K hK=>?_
 simp only [go_sem,seval]
 refine hK _ (Ax_cond rfl (fun hc0=>?_) (fun hc0=>?_))
 ·refine Ax_st hE [8] [] fun K hK=>?_
  simp only [go_sem,seval]
  refine hK _ (Ax_ret (hR0 _ (ret C0)))
 simp only [dfn] at hc0
 refine Ax_skip (hB0 _ ?_)
 refine Ax_st hE [0,1,2,3,9] [] fun K hK=>?_
 simp only [go_sem,seval]
 refine hK _ ?_;clear hK K
 refine Ax_st hE [0,1,2,3,9] [] fun K hK=>?_
 simp only [go_sem,seval,hlR]
 repeat refine sd0 ?_
 refine hK _ ?_;clear hK K
 refine Ax_sq fun B1 hB1 hR1 hX1=>?_
 refine Ax_st hE [0,1,2,3,9,29] [] fun K hK=>?_
 simp only [go_sem,seval]
 refine hK _ (Ax_cond rfl (fun hc2=>?_) (fun hc2=>?_))
 ·refine Ax_st hE [8] [] fun K hK=>?_
  simp only [go_sem,seval]
  refine hK _ (Ax_ret (hR1 _ (ret C0)))
 simp only [dfn] at hc2
 obtain ⟨hbR,hbR2,hl1⟩:=sz_big (by decide) (by decide) hc2
 have htR:=szW_tot (by decide) hc2
 refine Ax_skip (hB1 _ ?_)
 refine Ax_st hE [0,1,2,3,9] [] fun K hK=>?_
 simp only [go_sem,seval,hlW]
 repeat refine sd0 ?_
 refine hK _ ?_;clear hK K
 refine Ax_sq fun B3 hB3 hR3 hX3=>?_
 refine Ax_st hE [0,1,2,3,34] [] fun K hK=>?_
 simp only [go_sem,seval]
 refine hK _ (Ax_cond rfl (fun hc4=>?_) (fun hc4=>?_))
 ·refine Ax_st hE [8] [] fun K hK=>?_
  simp only [go_sem,seval]
  refine hK _ (Ax_ret (hR3 _ (ret C0)))
 simp only [dfn] at hc4
 obtain ⟨hbW,hbW2,_⟩:=sz_big (by omega) (by omega) hc4
 have htW:=szW_tot (by omega) hc4
 have hnR:=totL_nn R
 have hnW:=totL_nn W
 have hqb:q.length≤2000000:=by omega
 have hqb2:q.length≤4294967296:=by omega
 refine Ax_skip (hB3 _ ?_)
 refine Ax_st hE [0,1,2,3,10,11] [] fun K hK=>?_
 simp only [go_sem,seval,hbR,hbW,hqb,hqb2]
 refine hK _ ?_;clear hK K
 obtain ⟨lr,hlr⟩:∃ l,l=nply R h W q:=⟨_,rfl⟩
 have hsm:smallW lr:=by rw [hlr];exact nply_small R W h q
 obtain ⟨hlM,hlW2,hlt⟩:=hsm.big
 have hln:=totL_nn lr
 have hlr':(if playOk R h W q then runL R.length (ofR R) h W q else [])=lr:=hlr.symm
 rw [hlr']
 obtain ⟨pz,hpz⟩:∃ z,z=playOk R h W q:=⟨_,rfl⟩
 rw [← hpz]
 -- x0
 refine Ax_sp hE 1 fun K hK=>?_
 simp only [go_sem,seval,List.take_succ_cons,List.take_zero]
 refine hK _ fun a1 w1 hr1=>?_
 clear hK K
 obtain ⟨c1,rfl,h1⟩:=hr1.rc
 refine sp_call rfl rfl toIntSS_ok.1 ?_
 simp only [List.map_toArray,List.map_cons,List.map_nil,Act.eval]
 refine (toW_calls h1.1.sx h1.1.s1 (sl_rd (h1.2.1 46:Rd c1 (wsl R) _)) hbR).mono ?_
 rintro e w2 ⟨x0,rfl,hg1,hx0⟩
 refine ⟨x0,rfl,?_⟩
 obtain ⟨E1,hw1,hd1,C1,hR1',hs1⟩:=C0.new h1 rfl hg1 hx0.one 47
 clear hE
 have hE:=C1.tb (D:=[]) DOk.nil
 refine sp_go hE C1.P hR1' ?_
 simp only [go_sem,seval,St.re,List.drop_succ_cons,List.drop_zero]
 refine sp_ax ?_
 -- x2
 refine Ax_sp hE 1 fun K hK=>?_
 simp only [go_sem,seval,List.take_succ_cons,List.take_zero]
 refine hK _ fun a2 w2' hr2=>?_
 clear hK K
 obtain ⟨c2,rfl,h2⟩:=hr2.rc
 refine sp_call rfl rfl toIntSS_ok.1 ?_
 simp only [List.map_toArray,List.map_cons,List.map_nil,Act.eval]
 refine (toW_calls h2.1.sx h2.1.s1 (sl_rd (h2.2.1 48:Rd c2 (wsl W) _)) hbW).mono ?_
 rintro e w3 ⟨x2,rfl,hg2,hx2⟩
 refine ⟨x2,rfl,?_⟩
 have hn2:=C1.now h2
 obtain ⟨E2,hw2,hd2,C2,hR2',hs2⟩:=C1.new h2 rfl hg2 hx2.one 49
 rw [hw1] at hs2 hn2
 have hx0a:=hx0.same fun b _ _ hlt=>hs2.block b hlt (by simp)
 clear hE
 have hE:=C2.tb (D:=[]) DOk.nil
 refine sp_go hE C2.P hR2' ?_
 simp only [go_sem,seval,St.re,List.drop_succ_cons,List.drop_zero]
 refine sp_ax ?_
 -- x3
 refine Ax_sp hE 1 fun K hK=>?_
 simp only [go_sem,seval,List.take_succ_cons,List.take_zero]
 refine hK _ fun a9 w9' hr9=>?_
 clear hK K
 obtain ⟨c9,rfl,h9⟩:=hr9.rc
 refine sp_call rfl rfl toIntS_ok.1 ?_
 simp only [List.map_toArray,List.map_cons,List.map_nil,Act.eval]
 refine (toIS_calls h9.1.sx h9.1.s1 (sl_rd (h9.2.1 50:Rd c9 (isl q) _)) hqb).mono ?_
 rintro e w9 ⟨x3,b3,rfl,hg9,hb3,hx3r⟩
 have hx3:=hx3r.o
 have hb3lt:=hx3r.lt
 refine ⟨x3,rfl,?_⟩
 have hn9:=C2.now h9
 obtain ⟨E9,hw9,hd9,C9,hR9',hs9⟩:=C2.new h9 rfl hg9 hx3.one 51
 rw [hw2] at hs9 hn9
 have hx0c:=hx0a.same fun b _ _ hlt=>hs9.block b hlt (by simp)
 have hx2a:=hx2.same fun b _ _ hlt=>hs9.block b hlt (by simp)
 clear hE
 have hE:=C9.tb (D:=[]) DOk.nil
 refine sp_go hE C9.P hR9' ?_
 simp only [go_sem,seval,St.re,List.drop_succ_cons,List.drop_zero]
 refine sp_ax ?_
 -- g0
 refine Ax_sp hE 4 fun K hK=>?_
 simp only [go_sem,seval,List.take_succ_cons,List.take_zero]
 refine hK _ fun a3 w3' hr3=>?_
 clear hK K
 obtain ⟨c3,rfl,h3⟩:=hr3.rc
 refine sp_call rfl rfl (iNetPlay_ok pb).1 ?_
 simp only [List.map_toArray,List.map_cons,List.map_nil,Act.eval]
 have hn3:=C9.now h3
 rw [v_eq (h3.2.1 53:Rd c3 (.v x0) _),v_eq (h3.2.1 54:Rd c3 (iv h) _),v_eq (h3.2.1 55:Rd c3 (.v x2) _),v_eq (h3.2.1 56:Rd c3 (.v x3) _)]
 rw [hw9] at hn3
 refine (nply_calls (hWP _ (gb_trans C9.gr (C9.now h3))) (hx0c.same fun b _ _ hlt=>hn3.block b hlt (by simp)).rd (hx2a.same fun b _ _ hlt=>hn3.block b hlt (by simp)).rd (hx3.same fun _ hlt=>hn3.block b3 hlt (by simp)).rd hbR hbW hqb).mono ?_
 rintro e w4 ⟨g0,rfl,hg3,hro⟩
 rw [← hlr] at hro
 rw [← hpz]
 refine ⟨_,rfl,?_⟩
 obtain ⟨E3,hw3,hd3,C3,hR3',hs3⟩:=C9.newX h3 rfl hg3 (x:=.tup [.v g0,bv pz]) (u:=.tuple #[g0,.bool pz]) (fun c'=>.tup _ _ rfl fun j y hy=>by
  match j,hy with
  | 0,hy=>obtain rfl:=Option.some.inj hy;exact .v _ hro.one
  | 1,hy=>obtain rfl:=Option.some.inj hy;exact .v _ rfl) 57
 rw [hw9] at hs3
 have hx0b:=hx0c.same fun b _ _ hlt=>hs3.block b hlt (by simp)
 have hx2b:=hx2a.same fun b _ _ hlt=>hs3.block b hlt (by simp)
 have hx3b:=hx3.same fun _ hlt=>hs3.block b3 hlt (by simp)
 clear hE
 have hE:=C3.tb (D:=[(12,dEqXX g0 lr)]) (DOk.cons (eqXX_ok g0 lr) (fun w' hg=>⟨trivial,rdx_one hro.rd (hw3 ▸ hg)⟩) DOk.nil)
 refine sp_go hE C3.P hR3' ?_
 simp only [go_sem,seval,St.re,List.drop_succ_cons,List.drop_zero]
 refine sp_ax ?_
 refine Ax_sq fun B5 hB5 hR5 hX5=>?_
 refine Ax_st hE [0,1,2,3,10,11,12,13,14,15,16,68] [] fun K hK=>?_
 simp only [go_sem,seval,decide_true,Bool.not_true,hlW2,beq_self_eq_true]
 repeat (refine And.intro (by first | omega | assumption | (and_intros<;>first | omega | assumption | decide) | fail) ?_)
 refine hK _ (Ax_no rfl (Ax_skip (hB5 _ ?_)))
 clear hE
 have hE:=C3.tb (D:=[(9,dToW),(12,dEqXX x0 R)]) (DOk.cons toIntSS_ok (fun _ _=>trivial) (DOk.cons (eqXX_ok x0 R) (fun w' hg=>⟨trivial,rdx_one hx0b.rd (hw3 ▸ hg)⟩) DOk.nil))
 refine Ax_sq fun B7 hB7 hR7 hX7=>?_
 refine Ax_st hE [0,1,2,3,10,11,12,13,14,15,16,73] [] fun K hK=>?_
 simp only [go_sem,seval,hbR,hbR2,decide_true,Bool.not_true]
 repeat (refine And.intro (by first | omega | assumption | (and_intros<;>first | omega | assumption | decide) | fail) ?_)
 refine hK _ (Ax_no rfl (Ax_skip (hB7 _ ?_)))
 clear hE
 have hE:=C3.tb (D:=[(9,dToW),(12,dEqXX x2 W),(22,dToI),(11,dEqX x3 q)]) (DOk.cons toIntSS_ok (fun _ _=>trivial) (DOk.cons (eqXX_ok x2 W) (fun w' hg=>⟨trivial,rdx_one hx2b.rd (hw3 ▸ hg)⟩) (DOk.cons toIntS_ok (fun _ _=>trivial) (DOk.cons (eqX_ok x3 q) (fun w' hg=>⟨trivial,rdx_one hx3b.rd (hw3 ▸ hg)⟩) DOk.nil))))
 refine Ax_sq fun B9 hB9 hR9 hX9=>?_
 refine Ax_st hE [0,1,2,3,10,11,12,13,14,15,16,78] [] fun K hK=>?_
 simp only [go_sem,seval,hbW,hbW2,decide_true,Bool.not_true]
 repeat (refine And.intro (by first | omega | assumption | (and_intros<;>first | omega | assumption | decide) | fail) ?_)
 refine hK _ (Ax_no rfl (Ax_skip (hB9 _ ?_)))
 refine Ax_sq fun B10 hB10 hR10 hX10=>?_
 refine Ax_st hE [0,1,2,3,10,11,12,13,14,15,16,83] [] fun K hK=>?_
 simp only [go_sem,seval,hqb,hqb2,decide_true,Bool.not_true]
 repeat (refine And.intro (by first | omega | assumption | (and_intros<;>first | omega | assumption | decide) | fail) ?_)
 refine hK _ (Ax_no rfl (Ax_skip (hB10 _ ?_)))
 refine Ax_st hE [0,1,2,3,10,11,12,13,14,15,16,17] [] fun K hK=>?_
 simp only [go_sem,seval]
 refine hK _ ?_;clear hK K
 have hr01:w2.heap.size≤c2.w.heap.size:=hn2.size
 have hr09:w3.heap.size≤c9.w.heap.size:=hn9.size
 have hr02:w9.heap.size≤c3.w.heap.size:=hn3.size
 have hr03:=hg1.size
 have hr04:=hg2.size
 have hr05:=hg3.size
 have hr06:=hg9.size
 -- x0 is marked
 refine Ax_sp hE 2 fun K hK=>?_
 simp only [go_sem,seval,List.take_succ_cons,List.take_zero]
 refine hK _ fun a4 w4' hr4=>?_
 clear hK K
 obtain ⟨c4,rfl,h4⟩:=hr4.rc
 refine sp_call rfl rfl ⟨_,Tryd.func13,rfl,rfl⟩ ?_
 simp only [List.map_toArray,List.map_cons,List.map_nil,Act.eval]
 have hn4:=C3.now h4
 rw [hw3] at hn4
 rw [v_eq (h4.2.1 84:Rd c4 (.v x0) _),v_eq (h4.2.1 85:Rd c4 (iv 1) _)]
 refine (nest_calls (hx0b.same fun b _ _ hlt=>hn4.block b hlt (by simp)) hbR (by decide) (by omega)).mono ?_
 rintro e w5 ⟨rfl,hg4,_⟩
 refine ⟨_,rfl,?_⟩
 obtain ⟨E4,hw4,hd4,C4,hR4',hs4⟩:=C3.mark h4 rfl (z:=(c1.w.heap.size,w2.heap.size)) (by simp) hg4 (u:=.int .i64 (1 + totL R)) rfl 86
 rw [hw3] at hs4
 have hx2c:=hx2b.same fun b h1 _ hlt=>hs4 b hlt (by simp only;omega)
 have hx3c:=hx3b.same fun _ hlt=>hs4 b3 hlt (by simp only;omega)
 have hroc:=hro.same fun b h1 _ hlt=>hs4 b hlt (by simp only;omega)
 clear hE
 have hE:=C4.tb (D:=[]) DOk.nil
 refine sp_go hE C4.P hR4' ?_
 simp only [go_sem,seval,St.re,List.drop_succ_cons,List.drop_zero]
 refine sp_ax ?_
 -- x2 is marked
 refine Ax_sp hE 2 fun K hK=>?_
 simp only [go_sem,seval,List.take_succ_cons,List.take_zero]
 refine hK _ fun a5 w5' hr5=>?_
 clear hK K
 obtain ⟨c5,rfl,h5⟩:=hr5.rc
 refine sp_call rfl rfl ⟨_,Tryd.func13,rfl,rfl⟩ ?_
 simp only [List.map_toArray,List.map_cons,List.map_nil,Act.eval]
 have hn5:=C4.now h5
 rw [hw4] at hn5
 rw [v_eq (h5.2.1 87:Rd c5 (.v x2) _),v_eq (h5.2.1 88:Rd c5 (iv (1 + totL R)) _)]
 refine (nest_calls (hx2c.same fun b _ _ hlt=>hn5.block b hlt (by simp)) hbW (by omega) (by omega)).mono ?_
 rintro e w6 ⟨rfl,hg5,_⟩
 refine ⟨_,rfl,?_⟩
 obtain ⟨E5,hw5,hd5,C5,hR5',hs5⟩:=C4.mark h5 rfl (z:=(c2.w.heap.size,w3.heap.size)) (by simp) hg5 (u:=.int .i64 (1 + totL R + totL W)) rfl 89
 rw [hw4] at hs5
 have hx3d:=hx3c.same fun _ hlt=>hs5 b3 hlt (by simp only;omega)
 have hrod:=hroc.same fun b h1 _ hlt=>hs5 b hlt (by simp only;omega)
 clear hE
 have hE:=C5.tb (D:=[]) DOk.nil
 refine sp_go hE C5.P hR5' ?_
 simp only [go_sem,seval,St.re,List.drop_succ_cons,List.drop_zero]
 refine sp_ax ?_
 -- x3 is marked
 refine Ax_sp hE 2 fun K hK=>?_
 simp only [go_sem,seval,List.take_succ_cons,List.take_zero]
 refine hK _ fun a7 w7' hr7=>?_
 clear hK K
 obtain ⟨c7,rfl,h7⟩:=hr7.rc
 refine sp_call rfl rfl markI0_ok.1 ?_
 simp only [List.map_toArray,List.map_cons,List.map_nil,Act.eval]
 have hn7:=C5.now h7
 rw [hw5] at hn7
 rw [v_eq (h7.2.1 90:Rd c7 (.v x3) _),v_eq (h7.2.1 91:Rd c7 (iv (1 + totL R + totL W)) _)]
 refine (mk_calls (hx3d.same fun _ hlt=>hn7.block b3 hlt (by simp)) hqb (by omega) (by omega) markI0_ok).mono ?_
 rintro e w8 ⟨rfl,hg7,_⟩
 refine ⟨_,rfl,?_⟩
 obtain ⟨E7,hw7,hd7,C7,hR7',hs7⟩:=C5.mark h7 rfl (z:=(c9.w.heap.size,w9.heap.size)) (by simp) (hg7.mono fun x ⟨e1,_⟩=>by subst e1;exact ⟨hb3,hb3lt⟩) (u:=.int .i64 (1 + totL R + totL W + q.length)) rfl 92
 rw [hw5] at hs7
 have hrof:=hrod.same fun b h1 _ hlt=>hs7 b hlt (by simp only;omega)
 clear hE
 have hE:=C7.tb (D:=[(12,dEqXX g0 lr)]) (DOk.cons (eqXX_ok g0 lr) (fun w' hg=>⟨trivial,rdx_one hrof.rd (hw7 ▸ hg)⟩) DOk.nil)
 refine sp_go hE C7.P hR7' ?_
 simp only [go_sem,seval,St.re,List.drop_succ_cons,List.drop_zero]
 refine sp_ax ?_
 have hk0:decide (1 + totL R + totL W + (q.length:Int) < 0)=false:=decide_eq_false (by omega)
 refine Ax_sq fun B11 hB11 hR11 hX11=>?_
 refine Ax_st hE [0,1,2,3,10,11,15,105] [] fun K hK=>?_
 simp only [go_sem,seval,hk0,decide_true,Bool.not_true,hlW2,beq_self_eq_true]
 repeat (refine And.intro (by first | omega | assumption | (and_intros<;>first | omega | assumption | decide) | fail) ?_)
 refine hK _ (Ax_no rfl (Ax_skip (hB11 _ ?_)))
 refine Ax_st hE [0,1,2,3,10,11,15,18] [] fun K hK=>?_
 simp only [go_sem,seval]
 refine hK _ ?_;clear hK K
 -- g0 is marked
 refine Ax_sp hE 2 fun K hK=>?_
 simp only [go_sem,seval,List.take_succ_cons,List.take_zero]
 refine hK _ fun a6 w6' hr6=>?_
 clear hK K
 obtain ⟨c6,rfl,h6⟩:=hr6.rc
 refine sp_call rfl rfl markS0_ok.1 ?_
 simp only [List.map_toArray,List.map_cons,List.map_nil,Act.eval]
 have hn6:=C7.now h6
 rw [hw7] at hn6
 rw [v_eq (h6.2.1 106:Rd c6 (.v g0) _),v_eq (h6.2.1 107:Rd c6 (iv 1) _)]
 refine (nestN_calls (hrof.same fun b _ _ hlt=>hn6.block b hlt (by simp)) hlM (by decide) (by omega)).mono ?_
 rintro e w7 ⟨rfl,hg6,hroe⟩
 refine ⟨_,rfl,?_⟩
 obtain ⟨E6,hw6,hd6,C6,hR6',hs6⟩:=C7.mark h6 rfl (z:=(c3.w.heap.size,w4.heap.size)) (by simp) hg6 (u:=.int .i64 (1 + totL lr)) rfl 108
 clear hE
 have hE:=C6.tb (D:=[(18,dHdXX g0 (mkR 1 lr)),(9,dToW),(22,dToI),(23,dNetPlayI pb),(12,dLyW)]) (DOk.cons (hdXX_ok g0 _) (fun w' hg=>⟨trivial,rdx_one hroe.rd (hw6 ▸ hg)⟩) (DOk.cons toIntSS_ok (fun _ _=>trivial) (DOk.cons toIntS_ok (fun _ _=>trivial) (DOk.cons (iNetPlay_ok pb) (fun w' hg=>hWP _ (gb_trans C6.gr hg)) (DOk.cons eqIntSS_ok (fun _ _=>trivial) DOk.nil)))))
 refine sp_go hE C6.P hR6' ?_
 simp only [go_sem,seval,St.re,List.drop_succ_cons,List.drop_zero]
 refine sp_ax ?_
 have hk1:decide ((1:Int) + totL lr < 0)=false:=decide_eq_false (by omega)
 have hil:bigM (mkR 1 lr):=mkR_big hlM
 have hil2:(1:Int) + totL (mkR 1 lr)≤1000000000:=by rw [mkR_tot];omega
 have hih:=hldW_mkR 1 lr (by decide)
 refine Ax_st hE [0,1,2,3,10,11,15,18,19] [] fun K hK=>?_
 simp only [go_sem,seval]
 refine hK _ ?_;clear hK K
 refine Ax_st hE [0,1,2,3,10,11,15,18,19] [] fun K hK=>?_
 simp only [go_sem,seval,hil,hil2,hih]
 repeat refine sd0 ?_
 refine hK _ ?_;clear hK K
 refine Ax_sq fun B13 hB13 hR13 hX13=>?_
 refine Ax_st hE [0,1,2,3,10,11,15,18,19,113] [] fun K hK=>?_
 simp only [go_sem,seval,hk1]
 refine hK _ (Ax_no rfl (Ax_skip (hB13 _ ?_)))
 refine Ax_sq fun B15 hB15 hR15 hX15=>?_
 refine Ax_st hE [0,1,2,3,10,11,15,18,116] [] fun K hK=>?_
 simp only [go_sem,seval,decide_true,Bool.not_true]
 refine hK _ (Ax_no rfl (Ax_skip (hB15 _ ?_)))
 refine Ax_st hE [10,11,15,18,20,21] [] fun K hK=>?_
 simp only [go_sem,seval,hbR,hbW,hqb,hqb2]
 refine hK _ ?_;clear hK K
 rw [hlr',← hpz]
 refine Ax_sq fun B17 hB17 hR17 hX17=>?_
 refine Ax_st hE [15,18,136] [] fun K hK=>?_
 simp only [go_sem,seval,decide_true,Bool.not_true,hlW2,beq_self_eq_true]
 repeat (refine And.intro (by first | omega | assumption | (and_intros<;>first | omega | assumption | decide) | fail) ?_)
 refine hK _ (Ax_no rfl (Ax_skip (hB17 _ ?_)))
 refine Ax_st hE [15,18,19] [] fun K hK=>?_
 simp only [go_sem,seval]
 refine hK _ ?_;clear hK K
 refine Ax_st hE [18,19] [] fun K hK=>?_
 simp only [go_sem,seval,hil,hil2,hih]
 repeat refine sd0 ?_
 refine hK _ ?_;clear hK K
 refine Ax_sq fun B19 hB19 hR19 hX19=>?_
 refine Ax_st hE [18,19,141] [] fun K hK=>?_
 simp only [go_sem,seval,hk1]
 refine hK _ (Ax_no rfl (Ax_skip (hB19 _ ?_)))
 refine Ax_sq fun B21 hB21 hR21 hX21=>?_
 refine Ax_st hE [144] [] fun K hK=>?_
 simp only [go_sem,seval,decide_true,Bool.not_true]
 refine hK _ (Ax_no rfl (Ax_skip (hB21 _ ?_)))
 refine Ax_st hE [8] [] fun K hK=>?_
 simp only [go_sem,seval]
 refine hK _ (Ax_ret (ret C6))
end Go.Proofs.W
end
