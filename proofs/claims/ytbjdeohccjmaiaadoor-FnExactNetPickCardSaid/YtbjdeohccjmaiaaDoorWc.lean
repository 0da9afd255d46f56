/- YtbjdeohccjmaiaaDoorWc: part of the proof that laws hold, for every input that the row speaks of (no condition of ours). -/
import Derived.Test.YtbjdeohccjmaiaaDoorWb
import Derived.Test.YtbjdeohccjmaiaaDoorWa
import Derived.Test.YtbjdeohccjmaiaaDoorEd
import Derived.Deep.Matrix
import Derived.Carry
set_option linter.unusedVariables false
set_option linter.unusedSimpArgs false
section
namespace Go.Proofs.W
open Go Go.Eng Go.RowKit
set_option maxRecDepth 100000
theorem jN_mvn (f:Nat→Option Nat) (n:Nat):AV.mvnAll f (jN n)=jN n:=by rw [mvnAll_eq,jN,List.map_replicate];rfl
attribute [go_sem] jN_mvn
def eCon (i:Int × List Int):List AV × List (Nat × List AV):=([wsl [[i.1],i.2]],[])
def cConM:ConM:=mkM (fun _=>True) eCon (fun i=>i.2.length≤1000) fun i r m2=>∃ s:Nat,r = .xs 424 0 (1 + i.2.length) (1 + (i.2.length + s)) 1∧m2=[(424,cI (i.1::i.2)++jN s)]
theorem eCon_inj (i j:Int × List Int) (h:eCon i=eCon j):i=j:=by
 obtain ⟨y,w⟩:=i
 obtain ⟨y',w'⟩:=j
 have h1:=wsl1_inj (List.cons.inj (Prod.mk.inj h).1).1
 simp only [List.cons.injEq,and_true] at h1
 rw [h1.1,h1.2]
theorem con_pre (y:Int) (w:List Int):cConM.pre [wsl [[y],w]] []=(w.length≤1000):=mkM_pre eCon_inj (y,w) rfl
theorem con_post (y:Int) (w:List Int) (K:AV→List (Nat × List AV)→Prop):(∀ r m2,cConM.post [wsl [[y],w]] [] r m2→K r m2) = ∀ s:Nat,K (.xs 424 0 (1 + w.length) (1 + (w.length + s)) 1) [(424,cI (y::w)++jN s)] :=
 (mkM_post eCon_inj (y,w) rfl K).trans (propext ⟨fun h s=>h _ _ ⟨s,rfl,rfl⟩,fun h r m2 ⟨s,e1,e2⟩=>by rw [e1,e2];exact h s⟩)
attribute [go_sem] con_pre con_post
set_option maxHeartbeats 4000000 in
theorem concM_ok:FineM Tryd.prog 48 cConM:=by
 refine fineM_of [] ms_nil [(63,(cGrow,[],[(22,400)]))] (mm_cons grow_ok (by decide) mm_nil) [] [] ex_nil (T:=TT) Tryd.func48 rfl Tryd.ntmps48 (by rw [Tryd.results48]) rfl rfl tt gs_nil ds_nil ?_
 rintro args m1 ⟨⟨y,w⟩,e,hc⟩
 obtain ⟨rfl,rfl⟩:=Prod.mk.inj e.symm
 refine ⟨by simp,fun E hE Q hQ=>?_⟩
 simp only at hc
 have hw0:(wrows [[y],w])[0]? = some [.sl (rows [y])]:=rfl
 have hw1:(wrows [[y],w])[1]? = some [.sl (rows w)]:=rfl
 have hs1:decide ((0:Int) + 1 < 0)=false:=rfl
 have hs2:decide ((0:Int) + 1 + (w.length:Int) < 0)=false:=decide_eq_false (by omega)
 refine Aw_st hE [0] [424] fun K hK=>?_
 simp only [go_sem,seval]
 refine hK _ ?_;clear hK K
 refine Aw_st hE [0,3] [424] fun K hK=>?_
 simp only [go_sem,seval]
 refine hK _ ?_;clear hK K
 refine Aw_sq fun B1 hB1 hR1 hX1=>?_
 refine Aw_st hE [0,3,9,10,11] [424] fun K hK=>?_
 simp only [go_sem,seval]
 refine hK _ ?_;clear hK K
 refine Aw_bk fun B2 hN2 hE2 hR2 hX2=>?_
 refine Aw_unr 3 ?_
 refine Aw_rd fun B3 hN3 hR3 hX3=>?_
 refine Aw_st hE [0,3,9,10,11,12] [424] fun K hK=>?_
 simp only [go_sem,seval]
 refine hK _ ?_;clear hK K
 refine Aw_sq fun B4 hB4 hR4 hX4=>?_
 refine Aw_yes rfl (Aw_skip (hB4 _ ?_))
 refine Aw_sq fun B6 hB6 hR6 hX6=>?_
 refine Aw_bk fun B7 hN7 hE7 hR7 hX7=>?_
 refine Aw_st hE [0,3,5,9,10,11] [424] fun K hK=>?_
 simp only [go_sem,seval,hw0]
 repeat refine sd0 ?_
 refine hK _ ?_;clear hK K
 refine Aw_st hE [0,3,9,10,11] [424] fun K hK=>?_
 simp only [go_sem,seval]
 repeat refine sd0 ?_
 refine hK _ ?_;clear hK K
 refine Aw_st hE [0,3,9,10,11,20] [424] fun K hK=>?_
 simp only [go_sem,seval,hs1]
 refine hK _ (Aw_no rfl (Aw_skip (hN7 _ (hB6 _ ?_))))
 refine Aw_tx hE [0,3,9,10,11] [424] fun K hK=>?_
 simp only [go_sem,seval]
 repeat refine sd0 ?_
 refine hK _ (hN3 _ ?_)
 refine Aw_rd fun B9 hN9 hR9 hX9=>?_
 refine Aw_st hE [0,3,9,10,11,12] [424] fun K hK=>?_
 simp only [go_sem,seval]
 refine hK _ ?_;clear hK K
 refine Aw_sq fun B10 hB10 hR10 hX10=>?_
 refine Aw_yes rfl (Aw_skip (hB10 _ ?_))
 refine Aw_sq fun B12 hB12 hR12 hX12=>?_
 refine Aw_bk fun B13 hN13 hE13 hR13 hX13=>?_
 refine Aw_st hE [0,3,5,9,10,11] [424] fun K hK=>?_
 simp only [go_sem,seval,hw1]
 repeat refine sd0 ?_
 refine hK _ ?_;clear hK K
 refine Aw_st hE [0,3,9,10,11] [424] fun K hK=>?_
 simp only [go_sem,seval]
 repeat refine sd0 ?_
 refine hK _ ?_;clear hK K
 refine Aw_st hE [0,3,9,10,11,20] [424] fun K hK=>?_
 simp only [go_sem,seval,hs2]
 refine hK _ (Aw_no rfl (Aw_skip (hN13 _ (hB12 _ ?_))))
 refine Aw_tx hE [0,3,9,10,11] [424] fun K hK=>?_
 simp only [go_sem,seval]
 repeat refine sd0 ?_
 refine hK _ (hN9 _ ?_)
 refine Aw_rd fun B15 hN15 hR15 hX15=>?_
 refine Aw_st hE [0,3,9,10,11,12] [424] fun K hK=>?_
 simp only [go_sem,seval]
 refine hK _ ?_;clear hK K
 refine Aw_sq fun B16 hB16 hR16 hX16=>?_
 refine Aw_no rfl (Aw_exit (hX16 _ _ (hX15 _ _ (hE2 _ (hB1 _ ?_)))))
 refine Aw_st hE [0,6] [424] fun K hK=>?_
 simp only [go_sem,seval]
 refine ⟨by decide,⟨by omega,by omega⟩,fun cap hcap=>?_⟩
 obtain ⟨r,rfl⟩:∃ r,cap=1 + (w.length + r):=⟨cap - 1 - w.length,by omega⟩
 refine hK _ ?_;clear hK K
 refine Aw_sq fun B21 hB21 hR21 hX21=>?_
 refine Aw_st hE [6,25,26,27] [424] fun K hK=>?_
 simp only [go_sem,seval]
 refine hK _ ?_;clear hK K
 refine Aw_bk fun B22 hN22 hE22 hR22 hX22=>?_
 refine Aw_unr 3 ?_
 refine Aw_rd fun B23 hN23 hR23 hX23=>?_
 refine Aw_st hE [6,25,26,27,28] [424] fun K hK=>?_
 simp only [go_sem,seval]
 refine hK _ ?_;clear hK K
 refine Aw_sq fun B24 hB24 hR24 hX24=>?_
 refine Aw_yes rfl (Aw_skip (hB24 _ ?_))
 refine Aw_sq fun B26 hB26 hR26 hX26=>?_
 refine Aw_bk fun B27 hN27 hE27 hR27 hX27=>?_
 refine Aw_st hE [6,8,25,26,27] [424] fun K hK=>?_
 simp only [go_sem,seval,hw0]
 repeat refine sd0 ?_
 refine hK _ ?_;clear hK K
 have hset1:(jN (1 + (w.length + r))).set 0 (iv y)=iv y::jN (w.length + r):=by
  rw [show 1 + (w.length + r)=(w.length + r) + 1 by omega,jN_s,List.set_cons_zero]
 have hset2:setL (iv y::jN (w.length + r)) 1 (List.take w.length (cI w))=cI (y::w)++jN r:=by
  rw [List.take_of_length_le (by rw [cI_len];exact Nat.le_refl _),setL_at _ _ _ (by rw [List.length_cons,jN_len,cI_len];omega),cI_len]
  have e1:List.take 1 (iv y::jN (w.length + r))=cI [y]:=rfl
  have e2:List.drop (1 + w.length) (iv y::jN (w.length + r))=jN r:=by
   rw [Nat.add_comm,List.drop_succ_cons,jN,List.drop_replicate,Nat.add_sub_cancel_left];rfl
  rw [e1,e2];rfl
 have hlf1:allLeaf (List.take 1 (cI [y]))=true:=rfl
 have hlf2:allLeaf (List.take w.length (cI w))=true:=by rw [List.take_of_length_le (by rw [cI_len];exact Nat.le_refl _),allLeaf_cI]
 refine Aw_tx hE [6,25,26,27] [424] fun K hK=>?_
 simp only [go_sem,seval,hset1,hlf1]
 refine ⟨rows_row _,fun _=>?_,fun h=>absurd h (by omega)⟩
 refine hK _ (hN27 _ (hB26 _ ?_))
 refine Aw_tx hE [6,25,26,27] [424] fun K hK=>?_
 simp only [go_sem,seval]
 repeat refine sd0 ?_
 refine hK _ (hN23 _ ?_)
 refine Aw_rd fun B28 hN28 hR28 hX28=>?_
 refine Aw_st hE [6,25,26,27,28] [424] fun K hK=>?_
 simp only [go_sem,seval]
 refine hK _ ?_;clear hK K
 refine Aw_sq fun B29 hB29 hR29 hX29=>?_
 refine Aw_yes rfl (Aw_skip (hB29 _ ?_))
 refine Aw_sq fun B31 hB31 hR31 hX31=>?_
 refine Aw_bk fun B32 hN32 hE32 hR32 hX32=>?_
 refine Aw_st hE [6,8,25,26,27] [424] fun K hK=>?_
 simp only [go_sem,seval,hw1]
 repeat refine sd0 ?_
 refine hK _ ?_;clear hK K
 refine Aw_tx hE [6,25,26,27] [424] fun K hK=>?_
 simp only [go_sem,seval,hset2,hlf2]
 refine ⟨⟨rows_row _,by omega,by first | omega | (simp [cI];omega)⟩,fun _=>?_,fun h=>absurd h (by omega)⟩
 refine hK _ (hN32 _ (hB31 _ ?_))
 refine Aw_tx hE [6,25,26,27] [424] fun K hK=>?_
 simp only [go_sem,seval]
 repeat refine sd0 ?_
 refine hK _ (hN28 _ ?_)
 refine Aw_rd fun B33 hN33 hR33 hX33=>?_
 refine Aw_st hE [6,25,26,27,28] [424] fun K hK=>?_
 simp only [go_sem,seval]
 refine hK _ ?_;clear hK K
 refine Aw_sq fun B34 hB34 hR34 hX34=>?_
 refine Aw_no rfl (Aw_exit (hX34 _ _ (hX33 _ _ (hE22 _ (hB21 _ ?_)))))
 refine Aw_st hE [2] [424] fun K hK=>?_
 simp only [go_sem,seval]
 refine hK _ (Aw_ret (hQ _ ?_))
 simp only [go_sem,seval]
 exact ⟨(y,w),rfl,r,rfl,rfl⟩
theorem wrws_inj {a b:List (List Int)} (h:wrows a=wrows b):a=b:=wsl1_inj (congrArg (AV.sl none) h)
def eND (i:Nt × Int):List AV × List (Nat × List AV):=([NDV i.1.n i.1.t i.1.home i.1.W,iv i.2],[])
def cPickD (pb:Addr):ConM:=mkM (WP pb) eND (fun i=>okN' i.1) fun i r m2 =>
 (pickN i.1.W.length (lkF i.1.t) i.1.home (toS i.1.W) i.2=[]∧r = .nl∧m2=[])∨
 (∃ s:Nat,r = .xs 15 0 (pickN i.1.W.length (lkF i.1.t) i.1.home (toS i.1.W) i.2).length ((pickN i.1.W.length (lkF i.1.t) i.1.home (toS i.1.W) i.2).length + s) 1∧m2=[(15,cI (pickN i.1.W.length (lkF i.1.t) i.1.home (toS i.1.W) i.2)++jN s)])∨
 ∃ s:Nat,r = .xs 534 0 (pickN i.1.W.length (lkF i.1.t) i.1.home (toS i.1.W) i.2).length ((pickN i.1.W.length (lkF i.1.t) i.1.home (toS i.1.W) i.2).length + s) 1∧m2=[(534,cI (pickN i.1.W.length (lkF i.1.t) i.1.home (toS i.1.W) i.2)++jN s)]
theorem eND_inj (i j:Nt × Int) (h:eND i=eND j):i=j:=by
 obtain ⟨⟨n,t,home,W⟩,x⟩:=i
 obtain ⟨⟨n',t',home',W'⟩,x'⟩:=j
 have h1:=(Prod.mk.inj h).1
 simp only [List.cons.injEq,AV.el.injEq,DV.v.injEq,Value.int.injEq,DV.mp.injEq,DV.sl.injEq,AV.v.injEq,true_and,and_true] at h1
 obtain ⟨⟨rfl,rfl,rfl,h2⟩,rfl⟩:=h1
 rw [wrws_inj h2]
theorem pickD_pre (pb:Addr) (n:Int) (t:List (Value × Value)) (home:Int) (W:List (List Int)) (h:Int):(cPickD pb).pre [NDV n t home W,iv h] []=okN' ⟨n,t,home,W⟩:=mkM_pre eND_inj (⟨n,t,home,W⟩,h) rfl
theorem pickD_post (pb:Addr) (n:Int) (t:List (Value × Value)) (home:Int) (W:List (List Int)) (h:Int) (K:AV→List (Nat × List AV)→Prop):(∀ r m2,(cPickD pb).post [NDV n t home W,iv h] [] r m2→K r m2) =
  ((pickN W.length (lkF t) home (toS W) h=[]→K .nl [])∧(∀ (s:Nat) (l:List Int),l=pickN W.length (lkF t) home (toS W) h→K (.xs 15 0 l.length (l.length + s) 1) [(15,cI l++jN s)])∧∀ (s:Nat) (l:List Int),l=pickN W.length (lkF t) home (toS W) h→K (.xs 534 0 l.length (l.length + s) 1) [(534,cI l++jN s)]) :=
 (mkM_post eND_inj (⟨n,t,home,W⟩,h) rfl K).trans (propext ⟨fun hk=>⟨fun e=>hk _ _ (.inl ⟨e,rfl,rfl⟩),fun s l e=>hk _ _ (.inr (.inl ⟨s,by rw [e],by rw [e]⟩)),fun s l e=>hk _ _ (.inr (.inr ⟨s,by rw [e],by rw [e]⟩))⟩,
  fun ⟨h1,h2,h3⟩ r m2 ho=>by
   rcases ho with ⟨e,rfl,rfl⟩ | ⟨s,rfl,rfl⟩ | ⟨s,rfl,rfl⟩
   ·exact h1 e
   ·exact h2 s _ rfl
   ·exact h3 s _ rfl⟩)
attribute [go_sem] pickD_pre pickD_post
set_option maxHeartbeats 4000000 in
theorem pickD_ok (pb:Addr):FineM Tryd.prog 30 (cPickD pb):=by
 refine fineM_of [] ms_nil [(48,(cConM,[],[(424,500)]))] (mm_cons concM_ok (by decide) mm_nil) [15] [] ex_nil (T:=TT) Tryd.func30 rfl Tryd.ntmps30 (by rw [Tryd.results30]) rfl rfl tt gs_nil (ds_cons (minW_ok pb) (ds_cons annD_ok ds_nil) (wp_inh pb)) ?_
 rintro args m1 ⟨⟨⟨n,t,home,W⟩,a⟩,e,hmp,hW,hok⟩
 obtain ⟨rfl,rfl⟩:=Prod.mk.inj e.symm
 refine ⟨by simp,fun E hE Q hQ=>?_⟩
 simp only at hmp hW hok
 have hwl:∀ w ∈ W,w.length≤1000:=fun w hw=>by have:=pathOk_len (hok w hw);omega
 have fin0:pickN W.length (lkF t) home (toS W) a=[]→(cPickD pb).post [NDV n t home W,iv a] [] .nl []:=fun hw=>⟨(⟨n,t,home,W⟩,a),rfl,.inl ⟨hw,rfl,rfl⟩⟩
 refine Aw_st hE [0,1] [15,534] fun K hK=>?_
 simp only [go_sem,seval]
 refine hK _ ?_;clear hK K
 refine Aw_sq fun B1 hB1 hR1 hX1=>?_
 refine Aw_st hE [0,1,13] [15,534] fun K hK=>?_
 simp only [go_sem,seval]
 refine hK _ (Aw_cond rfl (fun hc2=>?_) (fun hc2=>?_))
 ·simp only [dte] at hc2
  refine Aw_st hE [4] [15,534] fun K hK=>?_
  simp only [go_sem,seval]
  refine hK _ (Aw_ret (hR1 _ (hQ _ ?_)))
  simp only [go_sem,seval]
  exact ⟨(⟨n,t,home,W⟩,a),rfl,.inr (.inl ⟨0,by simp only [show pickN W.length (lkF t) home (toS W) a=[a] by rw [hc2,pick_home]];rfl,by simp only [show pickN W.length (lkF t) home (toS W) a=[a] by rw [hc2,pick_home]];rfl⟩)⟩
 simp only [dfn] at hc2
 refine Aw_skip (hB1 _ ?_)
 refine Aw_sq fun B3 hB3 hR3 hX3=>?_
 have h123:[[DV.v (.int .i64 1)],[DV.v (.int .i64 2)],[DV.v (.int .i64 3)]]=rows [1,2,3]:=rfl
 refine Aw_st hE [0,1,16,17,18] [15,534] fun K hK=>?_
 simp only [go_sem,seval,chunks,List.take_succ_cons,List.drop_succ_cons,h123]
 refine hK _ ?_;clear hK K
 refine Aw_bk fun B4 hN4 hE4 hR4 hX4=>?_
 refine Aw_lp (fun i:Nat=>⟨36,[(0,NDV n t home W),(1,iv a),(16,isl [1,2,3]),(17,iv 3),(18,iv (i:Int))],[],0⟩) (fun i=>i≤3∧∀ q,q < i→cands W.length (lkF t) (toS W) a ((q:Int) + 1)=[]) (fun i=>3 - i) 0 (Le_wa) ⟨by omega,fun q h=>absurd h (by omega)⟩ fun i hi B5 hN5 hR5 hX5=>?_
 obtain ⟨hi,hq⟩:=hi
 refine Aw_st hE [0,1,16,17,18,19] [15,534] fun K hK=>?_
 simp only [go_sem,seval]
 refine hK _ ?_;clear hK K
 refine Aw_sq fun B6 hB6 hR6 hX6=>?_
 refine Aw_cond rfl (fun hc7=>?_) (fun hc7=>?_)
 rotate_left
 ·simp only [dfn] at hc7
  refine Aw_exit (hX6 _ _ (hX5 _ _ (hE4 _ (hB3 _ ?_))))
  refine Aw_st hE [4] [15,534] fun K hK=>?_
  simp only [go_sem,seval]
  refine hK _ (Aw_ret (hQ _ ?_))
  simp only [go_sem,seval]
  exact fin0 (pkI_end hc2 (.inl ⟨rfl,hq⟩) (.inl (by omega)))
 simp only [dte] at hc7
 have hi3:i < 3:=by omega
 have hg:(rows [1,2,3])[i]? = some [.v (.int .i64 ((i:Int) + 1))]:=by
  have:i=0∨i=1∨i=2:=by omega
  rcases this with rfl | rfl | rfl<;>rfl
 refine Aw_skip (hB6 _ ?_)
 refine Aw_sq fun B8 hB8 hR8 hX8=>?_
 refine Aw_bk fun B9 hN9 hE9 hR9 hX9=>?_
 refine Aw_st hE [0,1,6,16,17,18] [15,534] fun K hK=>?_
 simp only [go_sem,seval,hg]
 repeat refine sd0 ?_
 refine hK _ ?_;clear hK K
 refine Aw_st hE [0,1,7,16,17,18] [15,534] fun K hK=>?_
 simp only [go_sem,seval,hmp,hW]
 refine ⟨hwl,?_⟩
 refine hK _ ?_;clear hK K
 refine Aw_st hE [0,1,7,16,17,18,28] [15,534] fun K hK=>?_
 simp only [go_sem,seval]
 refine hK _ (Aw_cond rfl (fun hc10=>?_) (fun hc10=>?_))
 ·simp only [dte] at hc10
  have hpk:=pkI_next hc2 hi3 (.inl ⟨rfl,hq⟩)
  have hne:cands W.length (lkF t) (toS W) a ((i:Int) + 1)≠[]:=fun e=>by rw [e] at hc10;simp at hc10
  have hfr:frst a [cands W.length (lkF t) (toS W) a ((i:Int) + 1)]=a::minL (cands W.length (lkF t) (toS W) a ((i:Int) + 1)):=by
   cases hcc:cands W.length (lkF t) (toS W) a ((i:Int) + 1) with
   | nil=>exact absurd hcc hne
   | cons x l=>rfl
  have hpk2:=(hpk.resolve_left fun h=>by rw [hfr] at h;cases h.1).2
  rw [hfr] at hpk2
  have hcl:(cands W.length (lkF t) (toS W) a ((i:Int) + 1)).length≤2000000:=by have:=cands_lenL (n:=W.length) (of:=lkF t) (W:=toS W) (h:=a) (rel:=(i:Int) + 1);omega
  have hco:∀ w ∈ cands W.length (lkF t) (toS W) a ((i:Int) + 1),pathOk w=true:=fun w hw=>hok w (cands_sub rfl w hw)
  have hml:(minL (cands W.length (lkF t) (toS W) a ((i:Int) + 1))).length≤1000:=by
   cases hcc:cands W.length (lkF t) (toS W) a ((i:Int) + 1) with
   | nil=>exact absurd hcc hne
   | cons x l =>
    have:=minL_mem (x:=x) (l:=l)
    rw [← hcc] at this ⊢
    have:=pathOk_len (hco _ this);omega
  have hpos:0 < (cands W.length (lkF t) (toS W) a ((i:Int) + 1)).length:=by omega
  generalize hmm:minL (cands W.length (lkF t) (toS W) a ((i:Int) + 1))=mm at *
  have h2w:[[DV.sl [[DV.v (.int .i64 a)]]],[DV.sl (rows mm)]]=wrows [[a],mm]:=rfl
  refine Aw_st hE [4] [15,534] fun K hK=>?_
  simp only [go_sem,seval,hpos,hcl,hco,hml,hmm,chunks,List.take_succ_cons,List.drop_succ_cons,h2w]
  refine ⟨hco,by decide,fun s=>?_⟩
  refine hK _ (Aw_ret (hR9 _ (hR8 _ (hR5 _ (hR4 _ (hR3 _ (hQ _ ?_)))))))
  simp only [go_sem,seval]
  exact ⟨(⟨n,t,home,W⟩,a),rfl,.inr (.inr ⟨s,by simp only [hpk2,List.length_cons];rw [Nat.add_comm 1 mm.length,show 1 + (mm.length + s)=mm.length + 1 + s by omega],by rw [hpk2];rfl⟩)⟩
 ·simp only [dfn] at hc10
  have hnil:cands W.length (lkF t) (toS W) a ((i:Int) + 1)=[]:=List.eq_nil_of_length_eq_zero (by omega)
  refine Aw_skip (hN9 _ (hB8 _ ?_))
  refine Aw_tx hE [0,1,16,17,18] [15,534] fun K hK=>?_
  simp only [go_sem,seval]
  repeat refine sd0 ?_
  refine hK _ (hN5 (i + 1) _ ⟨by omega,fun q hq2=>if e:q < i then hq q e else (by obtain rfl:q=i:=(by omega);exact hnil)⟩ (by omega) (Le.refl _))
def eNPk (i:List (List Int) × Int × List (List Int) × Int):List AV × List (Nat × List AV):=([wsl i.1,iv i.2.1,wsl i.2.2.1,iv i.2.2.2],[])
def npk (i:List (List Int) × Int × List (List Int) × Int):List Int:=if netOk i.1 i.2.1 i.2.2.1 && hIb i.1.length i.2.2.2 then pickN i.1.length (ofR i.1) i.2.1 (toS i.2.2.1) i.2.2.2 else []
def OutRow (l:List Int) (r:AV) (m2:List (Nat × List AV)):Prop:=(l=[]∧r = .nl)∨∃ d s,r = .xs d 0 l.length (l.length + s) 1∧lkm d m2=some (cI l++jN s)
def cNPkM (pb:Addr):ConM:=mkM (WP pb) eNPk (fun i=>bigM i.1∧bigM i.2.2.1) fun i r m2=>OutRow (npk i) r m2
set_option maxHeartbeats 4000000 in
theorem iNetPickM_ok (pb:Addr):FineM Tryd.prog 10 (cNPkM pb):=by
 refine fineM_ofL [] ms_nil [(28,(cReadNet pb,[],[(39,600),(437,640)])),(30,(cPickD pb,[],[(15,500),(534,550)]))] (mm_cons (readNet_ok pb) (by decide) (mm_cons (pickD_ok pb) (by decide) mm_nil (wp_inh pb)) (wp_inh pb)) [] [] ex_nil (T:=TT) Tryd.func10 rfl Tryd.ntmps10 (by rw [Tryd.results10]) rfl rfl tt gs_nil (ds_cons hasM_ok ds_nil) ?_
 rintro args m1 ⟨⟨R,x,W,a⟩,e,hc⟩
 obtain ⟨rfl,rfl⟩:=Prod.mk.inj e.symm
 refine ⟨by simp,fun E hE Q hQ=>?_⟩
 simp only at hc
 have fin0:∀ m2,npk (R,x,W,a)=[]→(cNPkM pb).post [wsl R,iv x,wsl W,iv a] [] .nl m2:=fun m2 h=>⟨(R,x,W,a),rfl,.inl ⟨h,rfl⟩⟩
 refine Aw_st hE [0,1,2,3] [531,581,615,655] fun K hK=>?_
 simp only [go_sem,seval]
 refine hK _ ?_;clear hK K
 refine Aw_st hE [3,9,10] [531,581,615,655] fun K hK=>?_
 simp only [go_sem,seval,hc.1,hc.2]
 refine ⟨by decide,fun hno=>?_,fun hok t hmp hlk=>?_⟩
 ·refine hK _ ?_;clear hK K
  refine Aw_sq fun B1 hB1 hR1 hX1=>?_
  refine Aw_st hE [3,9,28] [531,581,615,655] fun K hK=>?_
  simp only [go_sem,seval]
  refine hK _ (Aw_yes rfl ?_)
  refine Aw_st hE [8] [531,581,615,655] fun K hK=>?_
  simp only [go_sem,seval]
  refine hK _ (Aw_ret (hR1 _ (hQ _ ?_)))
  simp only [go_sem,seval]
  exact fin0 _ (by simp only [npk,hno,Bool.false_and,Bool.false_eq_true,if_false])
 refine hK _ ?_;clear hK K
 refine Aw_sq fun B1 hB1 hR1 hX1=>?_
 cases h1:hIb R.length a with
 | false =>
  have h1':=h1
  unfold hIb at h1
  refine Aw_st hE [3,9,28] [531,581,615,655] fun K hK=>?_
  refine aops_cut 6 fun K1 hK1=>?_
  simp only [go_sem,seval,h1,Bool.not_true,Bool.not_false]
  repeat refine sd0 ?_
  refine hK1 _ ?_
  clear hK1
  simp only [go_sem,seval,h1,Bool.not_true,Bool.not_false]
  repeat refine sd0 ?_
  refine hK _ (Aw_yes rfl ?_)
  refine Aw_st hE [8] [531,581,615,655] fun K hK=>?_
  simp only [go_sem,seval]
  refine hK _ (Aw_ret (hR1 _ (hQ _ ?_)))
  simp only [go_sem,seval]
  exact fin0 _ (by simp only [npk,h1',Bool.and_false,Bool.false_eq_true,if_false])
 | true =>
  have h1b:(decide (1≤a) && decide (a≤R.length))=true:=h1
  obtain ⟨g1,g2⟩:=hIb_iff.1 h1
  obtain ⟨q1,q2,q3⟩:=netOk_iff.1 hok
  have hn5:=(relsOk_iff.1 q1).1.2
  have hnet:okNet ⟨R.length,t,x,W⟩:=⟨hmp,by simp only;omega,by simp only [hlk,q2];exact q3⟩
  refine Aw_st hE [3,9,28] [531,581,615,655] fun K hK=>?_
  refine aops_cut 6 fun K1 hK1=>?_
  simp only [go_sem,seval,h1b,Bool.not_true,Bool.not_false]
  repeat refine sd0 ?_
  refine hK1 _ ?_
  clear hK1
  simp only [go_sem,seval,h1b,Bool.not_true,Bool.not_false]
  repeat refine sd0 ?_
  refine hK _ (Aw_no rfl (Aw_skip (hB1 _ ?_)))
  have hokN:=okNet_N hnet
  have hnp:npk (R,x,W,a)=pickN W.length (lkF t) x (toS W) a:=by simp only [npk,hok,h1,Bool.and_self,if_true,hlk,q2]
  refine Aw_frzL hE 655 W.length (ls:=cWs W) (ys:=wD W) rfl rfl (by rw [List.take_of_length_le (by rw [cWs_len];exact Nat.le_refl _)];exact ofAll_cWs _) ?_
  simp only [go_sem,seval,frz_wD (L:=W) (l:=W.length) rfl]
  refine Aw_frzL hE 615 4 (ls:=[iv R.length,.dv (.mp t),iv x,wsl W]) (ys:=[.v (.int .i64 R.length),.mp t,.v (.int .i64 x),.sl (wrows W)]) rfl rfl rfl ?_
  simp only [go_sem,seval]
  refine Aw_st hE [8] [531,581,615,655] fun K hK=>?_
  simp only [go_sem,seval,hokN]
  refine ⟨by decide,fun h0=>?_,fun s=>?_,fun s=>?_⟩
  ·refine hK _ (Aw_ret (hQ _ ?_))
   simp only [go_sem,seval]
   exact fin0 _ (hnp.trans h0)
  ·refine hK _ (Aw_ret (hQ _ ?_))
   simp only [go_sem,seval]
   exact ⟨(R,x,W,a),rfl,.inr ⟨531,s,by rw [hnp],by rw [hnp];rfl⟩⟩
  ·refine hK _ (Aw_ret (hQ _ ?_))
   simp only [go_sem,seval]
   exact ⟨(R,x,W,a),rfl,.inr ⟨581,s,by rw [hnp],by rw [hnp];rfl⟩⟩
theorem eNPk_inj (i j:List (List Int) × Int × List (List Int) × Int) (h:eNPk i=eNPk j):i=j:=by
 obtain ⟨R,x,W,a⟩:=i
 obtain ⟨R',x',W',a'⟩:=j
 have h1:=(Prod.mk.inj h).1
 simp only [List.cons.injEq,AV.sl.injEq,AV.v.injEq,Value.int.injEq,true_and,and_true] at h1
 obtain ⟨h1,rfl,h2,rfl⟩:=h1
 rw [wrws_inj h1,wrws_inj h2]
theorem npk_calls {pb:Addr} {w:World} (hI:WP pb w) {R W:List (List Int)} {x a:Int} {v0 v2:Value} (h0:RdD w (allS w) (.sl (wrows R)) v0) (h2:RdD w (allS w) (.sl (wrows W)) v2) (hR:bigM R) (hW:bigM W) :
  Calls Tryd.prog 10 #[v0,.int .i64 x,v2,.int .i64 a] w fun e w'=>∃ u b,e = .returned u∧w.grownBy w' none∧w.heap.size≤b∧RowO w' u (npk (R,x,W,a)) b:=by
 refine (m_calls (iNetPickM_ok pb) (S:=allS w) (fun _ _ h=>allS_lk h) (fun _ _ _ h hv=>allS_one h hv) (args:=[wsl R,iv x,wsl W,iv a]) rfl (fun j y hy c hw hS=>?_) (fun y hy=>?_) ⟨(R,x,W,a),rfl,hR,hW⟩ fun w' hg=>wp_inh pb w w' 0 hI hg).mono ?_
 ·subst hw
  match j,hy with
  | 0,hy=>obtain rfl:=Option.some.inj hy;exact .sl none _ v0 (hS ▸ h0) trivial
  | 1,hy=>obtain rfl:=Option.some.inj hy;exact .v _ rfl
  | 2,hy=>obtain rfl:=Option.some.inj hy;exact .sl none _ v2 (hS ▸ h2) trivial
  | 3,hy=>obtain rfl:=Option.some.inj hy;exact .v _ rfl
 ·simp only [List.mem_cons,List.not_mem_nil,or_false] at hy
  rcases hy with rfl | rfl | rfl | rfl<;>rfl
 ·rintro e w' ⟨u,r,m2,c,c',rfl,rfl,⟨i,e',ho⟩,O⟩
  obtain rfl:=eNPk_inj i (R,x,W,a) e'
  rcases ho with ⟨hl,rfl⟩ | ⟨d,s,rfl,hm⟩
  ·refine ⟨u,c.w.heap.size,rfl,outM_grown O,Nat.le_refl _,.inr ⟨.inl ?_,hl⟩⟩
   have:=O.rd
   cases this;rfl
  ·obtain ⟨b,h1,h2⟩:=outM_row O hm (by rw [jN_len])
   exact ⟨u,b,rfl,outM_grown O,h1,.inl h2⟩
structure Cur (w:World) (Z:List (Nat × Nat)) (E:En):Prop where
 P:E.P=Tryd.prog
 d:E.draws=false
 L:∀ b,¬ E.L b
 gr:w.grownBy E.w0 none
 zs:∀ z ∈ Z,w.heap.size≤z.1∧z.2≤E.w0.heap.size
 hs:∀ z ∈ Z,∀ b o,E.S0 b o→¬ (z.1≤b∧b < z.2)
theorem Cur.now {w:World} {Z:List (Nat × Nat)} {E:En} (C:Cur w Z E) {st:St} {a:Act} {c:Gh} (h:RC E st a c):E.w0.grownBy c.w none:=by
 have:=h.1.fr
 rw [C.d] at this
 exact this.by C.L
theorem gb_trans {w w1 w2:World} (h:w.grownBy w1 none) (k:w1.grownBy w2 none):w.grownBy w2 none :=
 ⟨k.os.trans h.os,k.tape.trans h.tape,k.output.trans h.output,Nat.le_trans h.size k.size,fun i hi hr=>(k.block i (Nat.lt_of_lt_of_le hi h.size) hr).trans (h.block i hi hr)⟩
theorem Cur.sS {w:World} {Z:List (Nat × Nat)} {E:En} (C:Cur w Z E) {st:St} {a:Act} {c:Gh} (h:RC E st a c) {z:Nat × Nat} (hz:z ∈ Z) {b o:Nat} (hS:c.S b o):¬ (z.1≤b∧b < z.2):=by
 rcases h.1.sS b o hS with h' | h'
 ·have:=(C.zs z hz).2
  omega
 ·exact C.hs z hz b o h'
theorem Cur.new {w:World} {Z:List (Nat × Nat)} {E:En} (C:Cur w Z E) {st:St} {a:Act} {c:Gh} (h:RC E st a c) (hm:st.m=[]) {w':World} (hg:c.w.grownBy w' none) {u:Value} (hu:u.oneCell'=true) (d:Nat) :
  ∃ E',E'.w0=w'∧E'.draws=false∧Cur w ((c.w.heap.size,w'.heap.size)::Z) E'∧R E' (St.put st.re (some d) (.v u)) (a.put (some d) u) w'∧E.w0.grownBy w' none:=by
 have hn:=C.now h
 have hg':=gb_trans hn hg
 refine ⟨nxM E st c w',rfl,rfl,⟨C.P,rfl,fun b ⟨d,ls,hl,_⟩=>(by rw [hm] at hl;cases hl),gb_trans C.gr hg',fun z hz=>?_,fun z hz b o hS=>?_⟩,h.nxm (fun b o hS=>hg.block b (h.1.slt hS) (by simp)) (fun d ls hl=>(by rw [hm] at hl;cases hl)) hu d,hg'⟩
 ·rcases List.mem_cons.1 hz with rfl | hz
  ·exact ⟨Nat.le_trans C.gr.size hn.size,Nat.le_refl _⟩
  ·exact ⟨(C.zs z hz).1,Nat.le_trans (C.zs z hz).2 hg'.size⟩
 ·rcases List.mem_cons.1 hz with rfl | hz
  ·have:=h.1.slt (show c.S b o from hS)
   omega
  ·exact C.sS h hz hS
theorem Cur.mark {w:World} {Z:List (Nat × Nat)} {E:En} (C:Cur w Z E) {st:St} {a:Act} {c:Gh} (h:RC E st a c) (hm:st.m=[]) {z:Nat × Nat} (hz:z ∈ Z) {w':World} (hg:GrownL c.w w' none fun x=>z.1≤x∧x < z.2) {u:Value} (hu:u.oneCell'=true) (d:Nat) :
  ∃ E',E'.w0=w'∧E'.draws=false∧Cur w Z E'∧R E' (St.put st.re (some d) (.v u)) (a.put (some d) u) w'∧∀ b,b < E.w0.heap.size→¬ (z.1≤b∧b < z.2)→w'.heap[b]? = E.w0.heap[b]? := by
 have hn:=C.now h
 have hsz:E.w0.heap.size≤w'.heap.size:=Nat.le_trans hn.size hg.size
 have hgr:w.grownBy w' none:=by
  have h1:=gb_trans C.gr hn
  exact ⟨hg.os.trans h1.os,hg.tape.trans h1.tape,hg.output.trans h1.output,Nat.le_trans h1.size hg.size,fun i hi hr=>(hg.block i (Nat.lt_of_lt_of_le hi h1.size) (by simp) fun hx=>by have:=(C.zs z hz).1;omega).trans (h1.block i hi hr)⟩
 refine ⟨nxM E st c w',rfl,rfl,⟨C.P,rfl,fun b ⟨d,ls,hl,_⟩=>(by rw [hm] at hl;cases hl),hgr,fun z' hz'=>⟨(C.zs z' hz').1,Nat.le_trans (C.zs z' hz').2 hsz⟩,fun z' hz' b o hS=>C.sS h hz' hS⟩,
  h.nxm (fun b o hS=>hg.block b (h.1.slt hS) (by simp) (C.sS h hz hS)) (fun d ls hl=>(by rw [hm] at hl;cases hl)) hu d,fun b hb hn'=>(hg.block b (Nat.lt_of_lt_of_le hb hn.size) (by simp) hn').trans (hn.block b hb (by simp))⟩
theorem Cur.tb {w:World} {Z:List (Nat × Nat)} {E:En} (C:Cur w Z E) {D:List (FuncId × DFn)} (hD:∀ p ∈ D,Fine Tryd.prog p.1 p.2.con∧∀ w',E.w0.grownBy w' none→p.2.inv w'):TbOk E { T:=TT,G:=[],D:=D,draws:=false } :=
 tb_new C.P C.d C.L rfl tt hD
theorem DOk.cons {E:En} {f:FuncId} {d:DFn} {D:List (FuncId × DFn)} (h:Fine Tryd.prog f d.con) (hi:∀ w',E.w0.grownBy w' none→d.inv w') (hD:∀ p ∈ D,Fine Tryd.prog p.1 p.2.con∧∀ w',E.w0.grownBy w' none→p.2.inv w'):∀ p ∈ (f,d)::D,Fine Tryd.prog p.1 p.2.con∧∀ w',E.w0.grownBy w' none→p.2.inv w':=fun p hp=>by
 rcases List.mem_cons.1 hp with rfl | hp
 ·exact ⟨h,hi⟩
 ·exact hD p hp
theorem DOk.nil {E:En}:∀ p ∈ ([]:List (FuncId × DFn)),Fine Tryd.prog p.1 p.2.con∧∀ w',E.w0.grownBy w' none→p.2.inv w':=fun p hp=>by cases hp
theorem sp_ax {P:Program} {E:En} {rest:Code} {st:St} {Q:Exit→Act→World→Prop} (h:Ax P E rest st Q):AQ P E (Exit.then (rest.wp P Q) Q) .normal st:=h
theorem v_eq {c:Gh} {u v:Value} (h:Rd c (.v u) v):v=u:=by cases h;rfl
def gEqX (g0:Value) (l:List Int):List AV→Option (Prop × AV)
 | [.v u,.sl none els]=>(match intsL els with | some r=>some (u=g0∧l.length≤4294967296∧r.length≤4294967296,bv (decide (l=r))) | none=>none)
 | _=>none
def dEqX (g0:Value) (l:List Int):DFn:=dX dLyI [(g0,rows l)] (gEqX g0 l)
theorem eqX_ok (g0:Value) (l:List Int):Fine Tryd.prog 11 (dEqX g0 l).con:=by
 refine fine_X eqIntS_ok _ _ fun args c r h hc=>?_
 unfold gEqX at h
 split at h
 rotate_left
 ·cases h
 split at h
 rotate_left
 ·cases h
 rename_i u els _ r' hl
 obtain rfl:=intsL_eq hl
 obtain ⟨rfl,rfl⟩:=Prod.mk.inj (Option.some.inj h)
 obtain ⟨rfl,h1,h2⟩:=hc
 refine ⟨[isl l,isl r'],(l.length≤4294967296∧r'.length≤4294967296),_,⟨.inr ⟨_,List.mem_singleton.2 rfl,rfl,rfl⟩,.inl rfl,trivial⟩,fun x hx=>?_,by simp only [dLyI,gLyI,intsL_rows],⟨h1,h2⟩,rfl⟩
 simp only [List.mem_cons,List.not_mem_nil,or_false] at hx
 rcases hx with rfl | rfl<;>rfl
def gEqXX (g0:Value) (l:List (List Int)):List AV→Option (Prop × AV)
 | [.v u,.sl none els]=>(match waysL els with | some r=>some (u=g0∧bigW l∧bigW r,bv (decide (l=r))) | none=>none)
 | _=>none
def dEqXX (g0:Value) (l:List (List Int)):DFn:=dX dLyW [(g0,wrows l)] (gEqXX g0 l)
theorem eqXX_ok (g0:Value) (l:List (List Int)):Fine Tryd.prog 12 (dEqXX g0 l).con:=by
 refine fine_X eqIntSS_ok _ _ fun args c r h hc=>?_
 unfold gEqXX at h
 split at h
 rotate_left
 ·cases h
 split at h
 rotate_left
 ·cases h
 rename_i u els _ r' hl
 obtain rfl:=waysL_eq hl
 obtain ⟨rfl,rfl⟩:=Prod.mk.inj (Option.some.inj h)
 obtain ⟨rfl,h1,h2⟩:=hc
 refine ⟨[wsl l,wsl r'],(bigW l∧bigW r'),_,⟨.inr ⟨_,List.mem_singleton.2 rfl,rfl,rfl⟩,.inl rfl,trivial⟩,fun x hx=>?_,by simp only [dLyW,gLyW,waysL_rows],⟨h1,h2⟩,rfl⟩
 simp only [List.mem_cons,List.not_mem_nil,or_false] at hx
 rcases hx with rfl | rfl<;>rfl
def gHdX (g0:Value) (l:List Int):List AV→Option (Prop × AV)
 | [.v u,.v (.int .i64 k)]=>some (u=g0∧l.length≤2000000∧0≤k∧k≤1000000000,iv (hldI k l))
 | _=>none
def dHdX (g0:Value) (l:List Int):DFn:=dX dHldI [(g0,rows l)] (gHdX g0 l)
theorem hdX_ok (g0:Value) (l:List Int):Fine Tryd.prog 15 (dHdX g0 l).con:=by
 refine fine_X heldIntS_ok _ _ fun args c r h hc=>?_
 unfold gHdX at h
 split at h
 rotate_left
 ·cases h
 obtain ⟨rfl,rfl⟩:=Prod.mk.inj (Option.some.inj h)
 rename_i u k
 obtain ⟨rfl,h1,h2⟩:=hc
 refine ⟨[isl l,iv k],(l.length≤2000000∧0≤k∧k≤1000000000),_,⟨.inr ⟨_,List.mem_singleton.2 rfl,rfl,rfl⟩,.inl rfl,trivial⟩,fun x hx=>?_,by simp only [dHldI,gHldI,intsL_rows],⟨h1,h2⟩,rfl⟩
 simp only [List.mem_cons,List.not_mem_nil,or_false] at hx
 rcases hx with rfl | rfl<;>rfl
def gHdXX (g0:Value) (l:List (List Int)):List AV→Option (Prop × AV)
 | [.v u,.v (.int .i64 k)]=>some (u=g0∧bigM l∧0≤k∧k + totL l≤1000000000,iv (hldW k l))
 | _=>none
def dHdXX (g0:Value) (l:List (List Int)):DFn:=dX dHldW [(g0,wrows l)] (gHdXX g0 l)
theorem rdx_one {w w':World} {v:Value} {els:List (List DV)} (h:RdD w (allS w) (.sl els) v) (hg:w.grownBy w' none):Rdx w' [(v,els)] :=
 Rdx_inh (z:=[(v,els)]) (w:=w) (fun p hp=>by obtain rfl:=List.mem_singleton.1 hp;exact h) hg
attribute [go_sem] gEqX dEqX gEqXX dEqXX gHdX dHdX gHdXX dHdXX dX
end Go.Proofs.W
end
section
namespace Go.Proofs.W
open Go Go.Eng Go.RowKit Go.WideShapes Go.ChangeShapes
set_option maxRecDepth 100000
def InWays (W:World) (v:Value):Prop:=∃ R:List (List Int),longW R∧RdD W (fun b o=>∃ x,W.cell? ⟨b,o,none⟩=some x∧x.oneCell'=true) (.sl (wrows R)) v
theorem open_ways {H:Type} {enc:TypeId × Value→H} {W:World} {base:Nat} {v:Value} {d:DataW H} {p:List MemPlace} (hval:Value.okWide Tryd.prog W .any base 22 v)
  (h:DataW.Trod enc Tryd.prog W 0 (fun _=>true) true 22 v d p):InWays W v:=by
 obtain ⟨a1,len,cap,rfl⟩:=okWide_slice Tryd.underlying22 hval
 have hspot:∀ a,a1=some a→a.spot=none:=fun a e=>by
  subst e
  simp only [Value.okWide,Tryd.underlying22,Cell.okWide,Cell.ok] at hval
  exact hval.2.2.2.1
 obtain ⟨fuel,hf⟩:=h
 rcases Go.Deep.open_int_rows Tryd.underlying22 Tryd.underlying24 Tryd.underlying3 (by kernel_rfl) (by kernel_rfl) hf with ⟨hcs,_⟩ | ⟨a,len',cap',A,L,C,Z,hcs,_,hl,hm,_,hrow⟩
 ·simp [Value.cells] at hcs
  obtain ⟨rfl,rfl,rfl⟩:=hcs
  exact ⟨[],⟨by simp,fun r hr=>by cases hr⟩,.nil⟩
 ·simp [Value.cells] at hcs
  obtain ⟨rfl,rfl,rfl⟩:=hcs
  obtain ⟨b,off,spot⟩:=a
  obtain rfl:spot=none:=hspot _ rfl
  have hlen:((List.range len).map fun r=>(Z r).take (L r)).length=len:=by simp
  have hget:∀ i,i < len→((List.range len).map fun r=>(Z r).take (L r)).getD i []=(Z i).take (L i):=fun i hi=>by
   rw [List.getD_eq_getElem?_getD,List.getElem?_map,List.getElem?_range hi];rfl
  have hzl:∀ i,i < cap→((Z i).take (L i)).length=L i:=fun i hi=>by
   obtain ⟨_,h1,_,h3,_⟩:=hrow i hi
   rw [List.length_take,h3];omega
  refine ⟨(List.range len).map fun r=>(Z r).take (L r),⟨by rw [hlen];unfold maxLen at hm;omega,fun r hr=>?_⟩,?_⟩
  ·obtain ⟨i,hi,rfl⟩:=List.mem_map.1 hr
   have hi:=List.mem_range.1 hi
   obtain ⟨_,h1,h2,_⟩:=hrow i (by omega)
   rw [hzl i (by omega)];unfold maxLen at h2;omega
  ·have key:∀ i,i < len→RdD W (fun b o=>∃ x,W.cell? ⟨b,o,none⟩=some x∧x.oneCell'=true) (.sl (rows ((Z i).take (L i)))) (.slice (A i) (L i) (C i)):=fun i hi=>by
    obtain ⟨_,h1,h2,h3,_,h5,h6⟩:=hrow i (by omega)
    cases hA:A i with
    | none =>
     have hC:=h5 hA
     have hL:L i=0:=by omega
     rw [hC,hL];exact .nil
    | some a' =>
     obtain ⟨_,hcell⟩:=h6 a' hA
     by_cases hC:C i=0
     ·have hL:L i=0:=by omega
      rw [hC,hL];exact .em a'
     ·have h0:=hcell 0 (by omega)
      obtain ⟨b',o',sp'⟩:=a'
      obtain rfl:sp'=none:=by simpa [Addr.add] using World.cell?_spot h0
      have hz:=hzl i (by omega)
      have:=rdd_is (W:=W) (S:=fun b o=>∃ x,W.cell? ⟨b,o,none⟩=some x∧x.oneCell'=true) (zs:=(Z i).take (L i)) (b:=b') (off:=o') (cap:=C i) (by omega) (fun k hk=>by
       have hk':k < L i:=by omega
       have hc:=hcell k (by omega)
       rw [add_none] at hc
       have e:((Z i).take (L i)).getD k 0=(Z i).getD k 0:=by
        rw [List.getD_eq_getElem?_getD,List.getD_eq_getElem?_getD,List.getElem?_take,if_pos hk']
       rw [e]
       exact ⟨⟨_,hc,rfl⟩,hc⟩)
      rwa [hz] at this
   refine .sl _ b off len cap 1 (fun k=>.slice (A k) (L k) (C k)) (by rw [wrows_len,hlen]) hl (fun row hr=>wrows_row _ row hr) (fun k hk=>?_) fun i j row x hr hx=>?_
   ·obtain ⟨hc,_⟩:=hrow k (by omega)
    rw [add_none] at hc
    exact ⟨⟨_,hc,rfl⟩,hc⟩
   ·have hi:i < len:=by have:=(List.getElem?_eq_some_iff.1 hr).1;rwa [wrows_len,hlen] at this
    rw [wrows_get _ i (by rw [hlen];exact hi),hget i hi] at hr
    obtain rfl:=Option.some.inj hr
    match j,hx with
    | 0,hx =>
     obtain rfl:=Option.some.inj hx
     simp only [Nat.mul_one,Nat.add_zero]
     exact key i hi
theorem laidOut:laidOutB Tryd.prog=true:=by kernel_rfl
theorem back_ways {H:Type} {enc:TypeId × Value→H} {W:World} {v:Value} {d:DataW H} {p:List MemPlace} {t:TypeId} (hr:Tryd.prog.readableRec t=true) (ht:t < Tryd.prog.types.size)
  (h:DataW.Trod enc Tryd.prog W 0 (fun _=>true) true t v d p) (hlt:∀ x ∈ p,x.block < W.heap.size):∀ W':World,Below W.heap.size W W'→∀ sp:Nat→Bool,(∀ x ∈ p,sp x.block=true)→DataW.Trod enc Tryd.prog W' 0 sp true t v d p :=
 fun _ hb _ hsp=>WideElems.Trod_stays laidOut hr ht h (fun x hx=>hb.same (hlt x hx)) hsp
theorem below_gb {w w':World} (hg:w.grownBy w' none):Below w.heap.size w w':=⟨hg.os,hg.tape,hg.output,hg.size,fun i hi=>hg.block i hi (by simp)⟩
end Go.Proofs.W
end
section
namespace Go.Proofs.W
open Go Go.Eng Go.RowKit
set_option maxRecDepth 100000
theorem sz_big {R:List (List Int)} {l:Int} (h0:0≤l) (h1:l≤1048576) (h:¬ szW R l < 0):bigM R∧bigW R∧szW R l≤l:=by
 obtain ⟨g1,g2,g3⟩:=szW_ok (R:=R) h0
 obtain ⟨a,b⟩:=g3 (by omega)
 exact ⟨⟨by omega,fun r hr=>by have:=b r hr;omega⟩,⟨by omega,fun r hr=>by have:=b r hr;omega⟩,g1⟩
theorem szWR_tot:∀ (R:List (List Int)) (l:Int),0≤l→0≤szWR R l→totL R≤l
 | [],l,h,_=>by simpa [totL] using h
 | r::R,l,h,h2=>by
  unfold szWR at h2
  split at h2
  ·omega
  ·rename_i hn
   have:=szWR_tot R (szI r.length l) (by omega) h2
   obtain ⟨_,_,z3⟩:=szI_le r.length l h
   unfold szI at this hn
   split at hn
   ·omega
   ·rename_i hn2
    rw [if_neg hn2] at this
    rw [totL];omega
theorem szW_tot {R:List (List Int)} {l:Int} (h0:0≤l) (h:¬ szW R l < 0):totL R≤l:=by
 unfold szW at h
 split at h
 ·omega
 ·rename_i hn
  have:=szWR_tot R (l - R.length) (by omega) (by omega)
  omega
set_option maxHeartbeats 8000000 in
theorem pkLaw {pb:Addr} {w:World} (hI:WP pb w) {R W:List (List Int)} {h a:Int} {v v2:Value} (hv:RdD w (allS w) (.sl (wrows R)) v) (hv2:RdD w (allS w) (.sl (wrows W)) v2) (hlR:longW R) (hlW:longW W) :
  Calls Tryd.prog 3 #[v,.int .i64 h,v2,.int .i64 a] w fun e w'=>e = .returned (.bool true)∧w.grownBy w' none:=by
 refine ax_enter Tryd.func3 rfl Tryd.ntmps3 (by rw [Tryd.results3]) rfl rfl (S:=allS w) (fun _=>0) (fun _=>False) (args:=[wsl R,iv h,wsl W,iv a]) (m1:=[]) (fun _ _ h=>allS_lk h) (fun _ _ _ h hv=>allS_one h hv) rfl (by simp) (fun j x hx=>?_) (fun d ls h=>by cases h) (fun d d' ls ls' h=>by cases h) ?_
 ·match j,hx with
  | 0,hx=>obtain rfl:=Option.some.inj hx;exact .sl none _ v hv trivial
  | 1,hx=>obtain rfl:=Option.some.inj hx;exact .v _ rfl
  | 2,hx=>obtain rfl:=Option.some.inj hx;exact .sl none _ v2 hv2 trivial
  | 3,hx=>obtain rfl:=Option.some.inj hx;exact .v _ rfl
 obtain ⟨E0,hE0⟩:∃ E,E=en0 Tryd.prog w (allS w) (fun _=>0) (fun _=>False):=⟨_,rfl⟩
 rw [← hE0]
 have C0:Cur w [] E0:=by rw [hE0];exact ⟨rfl,rfl,fun _ h=>h,⟨rfl,rfl,rfl,Nat.le_refl _,fun _ _ _=>rfl⟩,fun z hz=>(by cases hz),fun z hz=>(by cases hz)⟩
 have hw0:E0.w0=w:=by rw [hE0];rfl
 have hWP:∀ w',w.grownBy w' none→WP pb w':=fun w' hg=>wp_inh pb w w' 0 hI hg
 have hE:=C0.tb (D:=[(7,dSzW),(9,dToW),(8,dNetPick)]) (DOk.cons szIntSS_ok (fun _ _=>trivial) (DOk.cons toIntSS_ok (fun _ _=>trivial) (DOk.cons sNetPick_ok (fun _ _=>trivial) DOk.nil)))
 have ret:∀ {E:En} {Z:List (Nat × Nat)} (_:Cur w Z E),AQ Tryd.prog E (bodyPost Tryd.prog Tryd.f3 fun e w'=>e = .returned (.bool true)∧w.grownBy w' none) .ret ⟨102,[(8,bv true)],[],0⟩:=fun {E Z} C=>bp_ret (by rw [Tryd.results3]) fun a c hc=>by
  have h8:Rd c (bv true) (a.tmps.getD 8 undef):=hc.2.1 8
  have e8:a.tmps.getD 8 undef = .bool true:=v_eq h8
  exact ⟨by rw [e8],gb_trans C.gr (C.now hc)⟩
 unfold Eng.stM
 refine Ax_st hE [0,1,2,3] [] fun K hK=>?_
 simp only [go_sem,seval]
 refine hK _ ?_;clear hK K
 refine Ax_st hE [0,1,2,3,9] [] fun K hK=>?_
 simp only [go_sem,seval]
 refine hK _ ?_;clear hK K
 refine Ax_st hE [0,1,2,3,9] [] fun K hK=>?_
 simp only [go_sem,seval,hlR]
 repeat refine sd0 ?_
 refine hK _ ?_;clear hK K
 refine Ax_sq fun B1 hB1 hR1 hX1=>?_
 refine Ax_st hE [0,1,2,3,9,22] [] fun K hK=>?_
 simp only [go_sem,seval]
 refine hK _ (Ax_cond rfl (fun hc2=>?_) (fun hc2=>?_))
 ·refine Ax_st hE [8] [] fun K hK=>?_
  simp only [go_sem,seval]
  refine hK _ (Ax_ret (hR1 _ (ret C0)))
 simp only [dfn] at hc2
 obtain ⟨hbR,hbR2,hl1⟩:=sz_big (by decide) (by decide) hc2
 have htR:=szW_tot (by decide) hc2
 refine Ax_skip (hB1 _ ?_)
 refine Ax_st hE [0,1,2,3,9] [] fun K hK=>?_
 simp only [go_sem,seval,hlW]
 repeat refine sd0 ?_
 refine hK _ ?_;clear hK K
 refine Ax_sq fun B3 hB3 hR3 hX3=>?_
 refine Ax_st hE [0,1,2,3,27] [] fun K hK=>?_
 simp only [go_sem,seval]
 refine hK _ (Ax_cond rfl (fun hc4=>?_) (fun hc4=>?_))
 ·refine Ax_st hE [8] [] fun K hK=>?_
  simp only [go_sem,seval]
  refine hK _ (Ax_ret (hR3 _ (ret C0)))
 simp only [dfn] at hc4
 obtain ⟨hbW,hbW2,_⟩:=sz_big (by omega) (by omega) hc4
 have htW:=szW_tot (by omega) hc4
 have hnR:=totL_nn R
 have hnW:=totL_nn W
 refine Ax_skip (hB3 _ ?_)
 refine Ax_st hE [0,1,2,3,10] [] fun K hK=>?_
 simp only [go_sem,seval,hbR,hbW]
 refine hK _ ?_;clear hK K
 obtain ⟨lr,hlr⟩:∃ l,l=npk (R,h,W,a):=⟨_,rfl⟩
 have hlr2:lr.length≤1000000:=by
  rw [hlr]
  show (if netOk R h W && hIb R.length a then pickN R.length (ofR R) h (toS W) a else []).length≤1000000
  split
  ·rename_i hok
   obtain ⟨hok,h1⟩:=Bool.and_eq_true_iff.1 hok
   obtain ⟨q1,q2,q3⟩:=netOk_iff.1 hok
   have hn5:=(relsOk_iff.1 q1).1.2
   have hwp:=wayPick_ok (n:=R.length) (of:=ofR R) (home:=h) hn5 q3 (h:=a) (hIb_iff.1 h1)
   by_cases e:pickN R.length (ofR R) h (toS W) a=[]
   ·rw [e];simp
   ·have:=pathOk_len ((wayOk_iff e).1 hwp).2.2.1;omega
  ·simp
 have hlr':(if netOk R h W && hIb R.length a then pickN R.length (ofR R) h (toS W) a else [])=lr:=hlr.symm
 rw [hlr']
 -- x0
 refine Ax_sp hE 1 fun K hK=>?_
 simp only [go_sem,seval,List.take_succ_cons,List.take_zero]
 refine hK _ fun a1 w1 hr1=>?_
 clear hK K
 obtain ⟨c1,rfl,h1⟩:=hr1.rc
 refine sp_call rfl rfl toIntSS_ok.1 ?_
 simp only [List.map_toArray,List.map_cons,List.map_nil,Act.eval]
 refine (toW_calls h1.1.sx h1.1.s1 (sl_rd (h1.2.1 35:Rd c1 (wsl R) _)) hbR).mono ?_
 rintro e w2 ⟨x0,rfl,hg1,hx0⟩
 refine ⟨x0,rfl,?_⟩
 obtain ⟨E1,hw1,hd1,C1,hR1',hs1⟩:=C0.new h1 rfl hg1 hx0.one 36
 clear hE
 have hE:=C1.tb (D:=[]) DOk.nil
 refine sp_go hE C1.P hR1' ?_
 simp only [go_sem,seval,St.re,List.drop_succ_cons,List.drop_zero]
 refine sp_ax ?_
 -- x2
 refine Ax_sp hE 1 fun K hK=>?_
 simp only [go_sem,seval,List.take_succ_cons,List.take_zero]
 refine hK _ fun a2 w2' hr2=>?_
 clear hK K
 obtain ⟨c2,rfl,h2⟩:=hr2.rc
 refine sp_call rfl rfl toIntSS_ok.1 ?_
 simp only [List.map_toArray,List.map_cons,List.map_nil,Act.eval]
 refine (toW_calls h2.1.sx h2.1.s1 (sl_rd (h2.2.1 37:Rd c2 (wsl W) _)) hbW).mono ?_
 rintro e w3 ⟨x2,rfl,hg2,hx2⟩
 refine ⟨x2,rfl,?_⟩
 have hn2:=C1.now h2
 obtain ⟨E2,hw2,hd2,C2,hR2',hs2⟩:=C1.new h2 rfl hg2 hx2.one 38
 rw [hw1] at hs2 hn2
 have hx0a:=hx0.same fun b _ _ hlt=>hs2.block b hlt (by simp)
 clear hE
 have hE:=C2.tb (D:=[]) DOk.nil
 refine sp_go hE C2.P hR2' ?_
 simp only [go_sem,seval,St.re,List.drop_succ_cons,List.drop_zero]
 refine sp_ax ?_
 -- g0
 refine Ax_sp hE 4 fun K hK=>?_
 simp only [go_sem,seval,List.take_succ_cons,List.take_zero]
 refine hK _ fun a3 w3' hr3=>?_
 clear hK K
 obtain ⟨c3,rfl,h3⟩:=hr3.rc
 refine sp_call rfl rfl (iNetPick_ok pb).1 ?_
 simp only [List.map_toArray,List.map_cons,List.map_nil,Act.eval]
 have hn3:=C2.now h3
 rw [v_eq (h3.2.1 39:Rd c3 (.v x0) _),v_eq (h3.2.1 40:Rd c3 (iv h) _),v_eq (h3.2.1 41:Rd c3 (.v x2) _),v_eq (h3.2.1 42:Rd c3 (iv a) _)]
 rw [hw2] at hn3
 refine (npk_calls (hWP _ (gb_trans C2.gr (C2.now h3))) (hx0a.same fun b _ _ hlt=>hn3.block b hlt (by simp)).rd (hx2.same fun b _ _ hlt=>hn3.block b hlt (by simp)).rd hbR hbW).mono ?_
 rintro e w4 ⟨g0,bg,rfl,hg3,hbg,hro⟩
 rw [← hlr] at hro
 refine ⟨g0,rfl,?_⟩
 obtain ⟨E3,hw3,hd3,C3,hR3',hs3⟩:=C2.new h3 rfl hg3 hro.one 43
 rw [hw2] at hs3
 have hx0b:=hx0a.same fun b _ _ hlt=>hs3.block b hlt (by simp)
 have hx2b:=hx2.same fun b _ _ hlt=>hs3.block b hlt (by simp)
 clear hE
 have hE:=C3.tb (D:=[(11,dEqX g0 lr),(9,dToW),(12,dEqXX x0 R)]) (DOk.cons (eqX_ok g0 lr) (fun w' hg=>⟨trivial,rdx_one hro.rd (hw3 ▸ hg)⟩) (DOk.cons toIntSS_ok (fun _ _=>trivial) (DOk.cons (eqXX_ok x0 R) (fun w' hg=>⟨trivial,rdx_one hx0b.rd (hw3 ▸ hg)⟩) DOk.nil)))
 refine sp_go hE C3.P hR3' ?_
 simp only [go_sem,seval,St.re,List.drop_succ_cons,List.drop_zero]
 refine sp_ax ?_
 have hll:lr.length≤4294967296:=by omega
 refine Ax_sq fun B5 hB5 hR5 hX5=>?_
 refine Ax_st hE [0,1,2,3,10,11,12,13,47] [] fun K hK=>?_
 simp only [go_sem,seval,decide_true,Bool.not_true,hll]
 repeat (refine And.intro (by first | omega | assumption | (and_intros<;>first | omega | assumption | decide) | fail) ?_)
 refine hK _ (Ax_no rfl (Ax_skip (hB5 _ ?_)))
 refine Ax_sq fun B7 hB7 hR7 hX7=>?_
 refine Ax_st hE [0,1,2,3,10,11,12,13,52] [] fun K hK=>?_
 simp only [go_sem,seval,hbR,hbR2,decide_true,Bool.not_true]
 repeat (refine And.intro (by first | omega | assumption | (and_intros<;>first | omega | assumption | decide) | fail) ?_)
 refine hK _ (Ax_no rfl (Ax_skip (hB7 _ ?_)))
 clear hE
 have hE:=C3.tb (D:=[(9,dToW),(12,dEqXX x2 W)]) (DOk.cons toIntSS_ok (fun _ _=>trivial) (DOk.cons (eqXX_ok x2 W) (fun w' hg=>⟨trivial,rdx_one hx2b.rd (hw3 ▸ hg)⟩) DOk.nil))
 refine Ax_sq fun B9 hB9 hR9 hX9=>?_
 refine Ax_st hE [0,1,2,3,10,11,12,13,57] [] fun K hK=>?_
 simp only [go_sem,seval,hbW,hbW2,decide_true,Bool.not_true]
 repeat (refine And.intro (by first | omega | assumption | (and_intros<;>first | omega | assumption | decide) | fail) ?_)
 refine hK _ (Ax_no rfl (Ax_skip (hB9 _ ?_)))
 refine Ax_st hE [0,1,2,3,10,11,12,13,14] [] fun K hK=>?_
 simp only [go_sem,seval]
 refine hK _ ?_;clear hK K
 -- x0 is marked
 refine Ax_sp hE 2 fun K hK=>?_
 simp only [go_sem,seval,List.take_succ_cons,List.take_zero]
 refine hK _ fun a4 w4' hr4=>?_
 clear hK K
 obtain ⟨c4,rfl,h4⟩:=hr4.rc
 refine sp_call rfl rfl ⟨_,Tryd.func13,rfl,rfl⟩ ?_
 simp only [List.map_toArray,List.map_cons,List.map_nil,Act.eval]
 have hn4:=C3.now h4
 rw [hw3] at hn4
 rw [v_eq (h4.2.1 58:Rd c4 (.v x0) _),v_eq (h4.2.1 59:Rd c4 (iv 1) _)]
 refine (nest_calls (hx0b.same fun b _ _ hlt=>hn4.block b hlt (by simp)) hbR (by decide) (by omega)).mono ?_
 rintro e w5 ⟨rfl,hg4,_⟩
 refine ⟨_,rfl,?_⟩
 have hr01:w2.heap.size≤c2.w.heap.size:=hn2.size
 have hr02:w3.heap.size≤c3.w.heap.size:=hn3.size
 have hr03:=hg1.size
 have hr04:=hg2.size
 have hr05:=hg3.size
 obtain ⟨E4,hw4,hd4,C4,hR4',hs4⟩:=C3.mark h4 rfl (z:=(c1.w.heap.size,w2.heap.size)) (by simp) hg4 (u:=.int .i64 (1 + totL R)) rfl 60
 rw [hw3] at hs4
 have hx2c:=hx2b.same fun b h1 _ hlt=>hs4 b hlt (by simp only;omega)
 have hroc:=hro.same fun hlt=>hs4 bg hlt (by simp only;omega)
 clear hE
 have hE:=C4.tb (D:=[]) DOk.nil
 refine sp_go hE C4.P hR4' ?_
 simp only [go_sem,seval,St.re,List.drop_succ_cons,List.drop_zero]
 refine sp_ax ?_
 -- x2 is marked
 refine Ax_sp hE 2 fun K hK=>?_
 simp only [go_sem,seval,List.take_succ_cons,List.take_zero]
 refine hK _ fun a5 w5' hr5=>?_
 clear hK K
 obtain ⟨c5,rfl,h5⟩:=hr5.rc
 refine sp_call rfl rfl ⟨_,Tryd.func13,rfl,rfl⟩ ?_
 simp only [List.map_toArray,List.map_cons,List.map_nil,Act.eval]
 have hn5:=C4.now h5
 rw [hw4] at hn5
 rw [v_eq (h5.2.1 61:Rd c5 (.v x2) _),v_eq (h5.2.1 62:Rd c5 (iv (1 + totL R)) _)]
 refine (nest_calls (hx2c.same fun b _ _ hlt=>hn5.block b hlt (by simp)) hbW (by omega) (by omega)).mono ?_
 rintro e w6 ⟨rfl,hg5,_⟩
 refine ⟨_,rfl,?_⟩
 obtain ⟨E5,hw5,hd5,C5,hR5',hs5⟩:=C4.mark h5 rfl (z:=(c2.w.heap.size,w3.heap.size)) (by simp) hg5 (u:=.int .i64 (1 + totL R + totL W)) rfl 63
 rw [hw4] at hs5
 have hrod:=hroc.same fun hlt=>hs5 bg hlt (by simp only;omega)
 clear hE
 have hE:=C5.tb (D:=[(11,dEqX g0 lr)]) (DOk.cons (eqX_ok g0 lr) (fun w' hg=>⟨trivial,rdx_one hrod.rd (hw5 ▸ hg)⟩) DOk.nil)
 refine sp_go hE C5.P hR5' ?_
 simp only [go_sem,seval,St.re,List.drop_succ_cons,List.drop_zero]
 refine sp_ax ?_
 have hk0:decide (1 + totL R + totL W < 0)=false:=decide_eq_false (by omega)
 refine Ax_sq fun B11 hB11 hR11 hX11=>?_
 refine Ax_st hE [0,1,2,3,10,13,71] [] fun K hK=>?_
 simp only [go_sem,seval,hk0,decide_true,Bool.not_true,hll]
 repeat (refine And.intro (by first | omega | assumption | (and_intros<;>first | omega | assumption | decide) | fail) ?_)
 refine hK _ (Ax_no rfl (Ax_skip (hB11 _ ?_)))
 refine Ax_st hE [0,1,2,3,10,13,15] [] fun K hK=>?_
 simp only [go_sem,seval]
 refine hK _ ?_;clear hK K
 -- g0 is marked
 refine Ax_sp hE 2 fun K hK=>?_
 simp only [go_sem,seval,List.take_succ_cons,List.take_zero]
 refine hK _ fun a6 w6' hr6=>?_
 clear hK K
 obtain ⟨c6,rfl,h6⟩:=hr6.rc
 refine sp_call rfl rfl markI0_ok.1 ?_
 simp only [List.map_toArray,List.map_cons,List.map_nil,Act.eval]
 have hn6:=C5.now h6
 rw [hw5] at hn6
 rw [v_eq (h6.2.1 72:Rd c6 (.v g0) _),v_eq (h6.2.1 73:Rd c6 (iv 1) _)]
 have hltg:lr≠[]→bg < w4.heap.size:=fun hne=>(hro.resolve_right fun h=>hne h.2).lt
 refine (mk_calls (hrod.same fun hlt=>hn6.block bg hlt (by simp)) (by omega) (by decide) (by decide) markI0_ok).mono ?_
 rintro e w7 ⟨rfl,hg6,hroe⟩
 refine ⟨_,rfl,?_⟩
 obtain ⟨E6,hw6,hd6,C6,hR6',hs6⟩:=C5.mark h6 rfl (z:=(c3.w.heap.size,w4.heap.size)) (by simp) (hg6.mono fun x ⟨e1,e2⟩=>by have:=hltg e2;subst e1;exact ⟨hbg,this⟩) (u:=.int .i64 (1 + lr.length)) rfl 74
 clear hE
 have hE:=C6.tb (D:=[(15,dHdX g0 (iotaL 1 lr.length)),(9,dToW),(10,dNetPickI pb),(11,dLyI)]) (DOk.cons (hdX_ok g0 _) (fun w' hg=>⟨trivial,rdx_one hroe.rd (hw6 ▸ hg)⟩) (DOk.cons toIntSS_ok (fun _ _=>trivial) (DOk.cons (iNetPick_ok pb) (fun w' hg=>hWP _ (gb_trans C6.gr hg)) (DOk.cons eqIntS_ok (fun _ _=>trivial) DOk.nil))))
 refine sp_go hE C6.P hR6' ?_
 simp only [go_sem,seval,St.re,List.drop_succ_cons,List.drop_zero]
 refine sp_ax ?_
 have hk1:decide ((1:Int) + lr.length < 0)=false:=decide_eq_false (by omega)
 have hil:(iotaL 1 lr.length).length=lr.length:=iotaL_len _ _
 have hih:=hldI_iota 1 lr.length
 refine Ax_st hE [0,1,2,3,10,13,15,16] [] fun K hK=>?_
 simp only [go_sem,seval]
 refine hK _ ?_;clear hK K
 refine Ax_st hE [0,1,2,3,10,13,15,16] [] fun K hK=>?_
 simp only [go_sem,seval,hil,hih]
 repeat refine sd0 ?_
 refine hK _ ?_;clear hK K
 refine Ax_sq fun B13 hB13 hR13 hX13=>?_
 refine Ax_st hE [0,1,2,3,10,13,15,16,79] [] fun K hK=>?_
 simp only [go_sem,seval,hk1]
 refine hK _ (Ax_no rfl (Ax_skip (hB13 _ ?_)))
 refine Ax_sq fun B15 hB15 hR15 hX15=>?_
 refine Ax_st hE [0,1,2,3,10,13,15,82] [] fun K hK=>?_
 simp only [go_sem,seval,decide_true,Bool.not_true]
 refine hK _ (Ax_no rfl (Ax_skip (hB15 _ ?_)))
 refine Ax_st hE [10,13,15,17] [] fun K hK=>?_
 simp only [go_sem,seval,hbR,hbW]
 refine hK _ ?_;clear hK K
 rw [hlr']
 refine Ax_sq fun B17 hB17 hR17 hX17=>?_
 refine Ax_st hE [13,15,93] [] fun K hK=>?_
 simp only [go_sem,seval,decide_true,Bool.not_true,hll]
 repeat (refine And.intro (by first | omega | assumption | (and_intros<;>first | omega | assumption | decide) | fail) ?_)
 refine hK _ (Ax_no rfl (Ax_skip (hB17 _ ?_)))
 refine Ax_st hE [13,15,16] [] fun K hK=>?_
 simp only [go_sem,seval]
 refine hK _ ?_;clear hK K
 refine Ax_st hE [15,16] [] fun K hK=>?_
 simp only [go_sem,seval,hil,hih]
 repeat refine sd0 ?_
 refine hK _ ?_;clear hK K
 refine Ax_sq fun B19 hB19 hR19 hX19=>?_
 refine Ax_st hE [15,16,98] [] fun K hK=>?_
 simp only [go_sem,seval,hk1]
 refine hK _ (Ax_no rfl (Ax_skip (hB19 _ ?_)))
 refine Ax_sq fun B21 hB21 hR21 hX21=>?_
 refine Ax_st hE [101] [] fun K hK=>?_
 simp only [go_sem,seval,decide_true,Bool.not_true]
 refine hK _ (Ax_no rfl (Ax_skip (hB21 _ ?_)))
 refine Ax_st hE [8] [] fun K hK=>?_
 simp only [go_sem,seval]
 refine hK _ (Ax_ret (ret C6))
end Go.Proofs.W
end
