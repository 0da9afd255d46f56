/- YtgfclgpljhiicaaDoorWc: part of the proof that laws hold, for every input that the row speaks of (no condition of ours). -/
import Derived.Test.YtgfclgpljhiicaaDoorWb
import Derived.Test.YtgfclgpljhiicaaDoorEc
set_option linter.unusedVariables false
set_option linter.unusedSimpArgs false
section
namespace Go.Proofs.W
open Go Go.Eng Go.RowKit
set_option maxRecDepth 100000
def outV (W:List (List Int)) (r:AV) (m2:List (Nat × List AV)):Prop:=∃ c:Nat,r = .xs 900 0 W.length (c + W.length) 1∧m2=[(900,cWs W++jN c)]
theorem outV_eq (W:List (List Int)) (P:AV→List (Nat × List AV)→Prop):(∀ r m2,outV W r m2→P r m2) = ∀ c:Nat,P (.xs 900 0 W.length (c + W.length) 1) [(900,cWs W++jN c)]:=by
 apply propext
 exact ⟨fun h c=>h _ _ ⟨c,rfl,rfl⟩,fun h r m2 ⟨c,e1,e2⟩=>by rw [e1,e2];exact h c⟩
theorem fl_w (v:List Int):flatA [[DV.sl (rows v)]]=[isl v]:=rfl
theorem sl_nl:[[DV.sl []]]=[[DV.sl (rows [])]]:=rfl
theorem isl_z:(AV.sl none []:AV)=isl []:=rfl
theorem lf_w (v:List Int):allLeaf [isl v]=true:=rfl
theorem one_w (v:List Int):(∀ row ∈ [[DV.sl (rows v)]],row.length=1)=True:=by simp
theorem wrow_put (q:List (List Int)) (e:Nat) (v:List Int):(cWs q++jN (e + 1)).set q.length (isl v)=cWs (q++[v])++jN e:=by
 rw [List.set_append_right _ _ (by rw [cWs_len];exact Nat.le_refl _),cWs_len,Nat.sub_self,jN_s,List.set_cons_zero]
 simp [cWs]
theorem wrow_snoc (q:List (List Int)) (v:List Int) (n:Nat):cWs q++(isl v::jN n)=cWs (q++[v])++jN n:=by simp [cWs]
theorem wrow_take (q:List (List Int)) (e:Nat):(cWs q++jN e).take q.length=cWs q:=List.take_left' (cWs_len q)
theorem wrow_len (q:List (List Int)) (e:Nat):(cWs q++jN e).length=q.length + e:=by rw [List.length_append,cWs_len,jN_len]
theorem wrow_swb (d d':Nat) (l:List (List Int)) (c:Nat):AV.swbAll d d' (cWs l++jN c)=cWs l++jN c:=by
 rw [AV.swbAll_eq,List.map_append,← AV.swbAll_eq,← AV.swbAll_eq,jN_swb,cWs_swb]
theorem wrow_stripA (d:Nat) (l:List (List Int)) (c:Nat):AV.stripAll d (cWs l++jN c)=cWs l++jN c:=by
 rw [AV.stripAll_eq,List.map_append,← AV.stripAll_eq,← AV.stripAll_eq,jN_stripA,cWs_stripA]
theorem wrow_stripL (d:Nat) (l:List (List Int)) (c:Nat):AV.stripLAll d (cWs l++jN c)=cWs l++jN c:=by
 rw [AV.stripLAll_eq,List.map_append,← AV.stripLAll_eq,← AV.stripLAll_eq,jN_strip,cWs_strip]
theorem avL_app:∀ (a b:List AV),avLeL a a=True→avLeL b b=True→avLeL (a++b) (a++b)=True
 | [],_,_,hb=>hb
 | x::a,b,ha,hb=>by
  simp only [List.cons_append,avLeL] at ha ⊢
  have h:=of_eq_true ha
  exact eq_true ⟨h.1,of_eq_true (avL_app a b (eq_true h.2) hb)⟩
theorem wrow_le (l:List (List Int)) (c:Nat):avLeL (cWs l++jN c) (cWs l++jN c)=True:=avL_app _ _ (cWs_le l) (jN_le c)
theorem ofAll_wrow {l:List (List Int)} {n c:Nat} (h:l.length=n):DV.ofAll ((cWs l++jN c).take n)=some (wD l):=by
 rw [List.take_left' (by rw [cWs_len];exact h)];exact ofAll_cWs l
theorem jN_mvnW (f:Nat→Option Nat) (n:Nat):AV.mvnAll f (jN n)=jN n:=by rw [mvnAll_eq,jN,List.map_replicate];rfl
theorem wrow_nt (l:List (List Int)) (c:Nat):AV.ntAll (cWs l++jN c)=cWs l++jN c:=by
 rw [ntAll_eq,List.map_append,← ntAll_eq,← ntAll_eq,jN_nt,cWs_nt]
attribute [go_sem] jN_mvnW wrow_nt fl_w lf_w one_w wrow_take wrow_swb wrow_stripA wrow_stripL wrow_le wrow_len
def cNoneM:ConM:=mkM (fun _=>True) (fun i:List (List Int) × Int=>([wsl i.1,iv i.2],[])) (fun i=>i.1.length≤1000∧1≤i.2∧i.2≤i.1.length) fun i=>outV (noneL i.1.length i.2)
theorem noneM_inj (i j:List (List Int) × Int) (h:(([wsl i.1,iv i.2],[]):List AV × List (Nat × List AV))=([wsl j.1,iv j.2],[])):i=j:=by
 obtain ⟨h1,_⟩:=Prod.mk.inj h
 obtain ⟨h1,h2⟩:=List.cons.inj h1
 obtain ⟨h2,_⟩:=List.cons.inj h2
 exact Prod.ext (wsl_inj (congrArg (fun z=>[z]) h1)) (by simpa using h2)
theorem noneM_pre (R:List (List Int)) (x:Int):cNoneM.pre [wsl R,iv x] []=(R.length≤1000∧1≤x∧x≤R.length):=mkM_pre noneM_inj (R,x) rfl
theorem noneM_post (R:List (List Int)) (x:Int) (K:AV→List (Nat × List AV)→Prop):(∀ r m2,cNoneM.post [wsl R,iv x] [] r m2→K r m2) = ∀ c:Nat,K (.xs 900 0 (noneL R.length x).length (c + (noneL R.length x).length) 1) [(900,cWs (noneL R.length x)++jN c)]:=(mkM_post noneM_inj (R,x) rfl K).trans (outV_eq _ _)
attribute [go_sem] noneM_pre noneM_post
def cNetNoneM:ConM:=mkM (fun _=>True) (fun i:List (List Int) × Int=>([wsl i.1,iv i.2],[])) (fun i=>bigM i.1) fun i=>outV (if relsOk i.1 && hIb i.1.length i.2 then noneL i.1.length i.2 else [])
theorem netNoneM_pre (R:List (List Int)) (x:Int):cNetNoneM.pre [wsl R,iv x] []=bigM R:=mkM_pre noneM_inj (R,x) rfl
theorem netNoneM_post (R:List (List Int)) (x:Int) {T:List (List Int)} (hT:(if relsOk R && hIb R.length x then noneL R.length x else [])=T) (K:AV→List (Nat × List AV)→Prop):(∀ r m2,cNetNoneM.post [wsl R,iv x] [] r m2→K r m2) = ∀ c:Nat,K (.xs 900 0 T.length (c + T.length) 1) [(900,cWs T++jN c)]:=by
 subst hT;exact (mkM_post noneM_inj (R,x) rfl K).trans (outV_eq _ _)
attribute [go_sem] netNoneM_pre
structure StI where
 R:List (List Int)
 x:Int
 W:List (List Int)
 h:Int
def cStepM:ConM:=mkM (fun _=>True) (fun i:StI=>([wsl i.R,iv i.x,wsl i.W,iv i.h],[])) (fun i=>sqR i.R∧inW i.R.length i.W) fun i=>outV (stepC i.R.length (ofR i.R) i.x i.W i.h)
theorem stepM_inj (i j:StI) (h:(([wsl i.R,iv i.x,wsl i.W,iv i.h],[]):List AV × List (Nat × List AV))=([wsl j.R,iv j.x,wsl j.W,iv j.h],[])):i=j:=by
 obtain ⟨h1,_⟩:=Prod.mk.inj h
 obtain ⟨h1,h2⟩:=List.cons.inj h1
 obtain ⟨h2,h3⟩:=List.cons.inj h2
 obtain ⟨h3,h4⟩:=List.cons.inj h3
 obtain ⟨h4,_⟩:=List.cons.inj h4
 obtain ⟨R,x,W,h⟩:=i
 obtain ⟨R',x',W',h'⟩:=j
 obtain rfl:R=R':=wsl_inj (congrArg (fun z=>[z]) h1)
 obtain rfl:W=W':=wsl_inj (congrArg (fun z=>[z]) h3)
 simp only [AV.v.injEq,Value.int.injEq,true_and] at h2 h4
 rw [h2,h4]
theorem stepM_pre (R:List (List Int)) (x:Int) (W:List (List Int)) (h:Int):cStepM.pre [wsl R,iv x,wsl W,iv h] []=(sqR R∧inW R.length W):=mkM_pre stepM_inj ⟨R,x,W,h⟩ rfl
theorem stepM_post (R:List (List Int)) (x:Int) (W:List (List Int)) (h:Int) {T:List (List Int)} (hT:stepC R.length (ofR R) x W h=T) (K:AV→List (Nat × List AV)→Prop):(∀ r m2,cStepM.post [wsl R,iv x,wsl W,iv h] [] r m2→K r m2) = ∀ c:Nat,K (.xs 900 0 T.length (c + T.length) 1) [(900,cWs T++jN c)]:=by
 subst hT;exact (mkM_post stepM_inj ⟨R,x,W,h⟩ rfl K).trans (outV_eq _ _)
attribute [go_sem] stepM_pre
theorem sNoneM_ok:FineM Tryd.prog 53 cNoneM:=by
 refine fineM_of [] ms_nil [] mm_nil [7,21,25] [] ex_nil (T:=TT) Tryd.func53 rfl Tryd.ntmps53 (by rw [Tryd.results53]) rfl rfl tt gs_nil ds_nil ?_
 rintro args m1 ⟨⟨R,home⟩,e,hR,hh1,hh2⟩
 obtain ⟨rfl,rfl⟩:=Prod.mk.inj e.symm
 simp only at hR hh1 hh2
 refine ⟨by simp,fun E hE Q hQ=>?_⟩
 have hnl:(noneL R.length home).length=R.length:=noneL_len
 refine Aw_st hE [0,1] [7,21,25,750] fun K hK=>?_
 simp only [go_sem,seval]
 refine hK _ ?_;clear hK K
 refine Aw_st hE [0,1,5] [7,21,25,750] fun K hK=>?_
 simp only [go_sem,seval]
 refine hK _ ?_;clear hK K
 refine Aw_sq fun B1 hB1 hR1 hX1=>?_
 refine Aw_st hE [0,1,5,6] [7,21,25,750] fun K hK=>?_
 simp only [go_sem,seval]
 refine hK _ ?_;clear hK K
 refine Aw_bk fun B2 hN2 hE2 hR2 hX2=>?_
 refine Aw_lp (fun i:Nat × Nat=>⟨27,[(0,wsl R),(1,iv home),(5,.xs 750 0 ((noneL R.length home).take i.1).length (i.2 + ((noneL R.length home).take i.1).length) 1),(6,iv ((i.1:Int) + 1))],[(750,cWs ((noneL R.length home).take i.1)++jN i.2)],0⟩) (fun i=>i.1≤R.length) (fun i=>R.length - i.1) (0,0) ((Le_swb _ 7 750 (by decide) (by decide)).trans (by
  simp only [St.swb,swbσ,swbm,AV.swb,AV.swbAll,swp,Nat.reduceEqDiff,if_true,if_false,reduceIte]
  exact Le_wc (by simp only [go_sem,seval,List.take_zero,List.length_nil,List.append_nil]) (by simp only [go_sem,seval,List.take_zero,List.append_nil]))) (by simp) fun i hi B3 hN3 hR3 hX3=>?_
 obtain ⟨i,c⟩:=i
 simp only at hi
 have hol:((noneL R.length home).take i).length=i:=by rw [List.length_take];omega
 refine Aw_sq fun B4 hB4 hR4 hX4=>?_
 refine Aw_st hE [0,1,5,6,11] [7,21,25,750] fun K hK=>?_
 simp only [go_sem,seval]
 refine hK _ (Aw_cond rfl (fun hc5=>?_) (fun hc5=>?_))
 ·simp only [dte] at hc5
  have hg:=noneL_get (n:=R.length) (home:=home) (i:=i) ⟨hh1,hh2⟩ (by omega)
  have hst:=take_one (noneL R.length home) i [] (by omega)
  have hls:((noneL R.length home).take (i + 1)).length=((noneL R.length home).take i).length + 1:=by rw [List.length_take,List.length_take];omega
  refine Aw_skip (hB4 _ ?_)
  refine Aw_sq fun B6 hB6 hR6 hX6=>?_
  refine Aw_bk fun B7 hN7 hE7 hR7 hX7=>?_
  refine Aw_st hE [0,1,5,6,16] [7,21,25,750] fun K hK=>?_
  simp only [go_sem,seval]
  refine hK _ (Aw_cond rfl (fun hc8=>?_) (fun hc8=>?_))
  ·simp only [dte] at hc8
   rw [hg,if_pos hc8] at hst
   refine Aw_tx hE [0,1,5,6] [7,21,25,750] fun K hK=>?_
   simp only [go_sem,seval,none_row]
   repeat refine sd0 ?_
   refine ⟨fun hroom=>?_,fun hfull cap' hcap'=>?_⟩
   ·obtain ⟨e',rfl⟩:∃ e',c=e' + 1:=⟨c - 1,by omega⟩
    rw [wrow_put,← hst]
    refine hK _ (hN7 _ (hB6 _ ?_))
    refine Aw_tx hE [0,1,5,6] [7,21,25,750] fun K hK=>?_
    simp only [go_sem,seval]
    repeat refine sd0 ?_
    refine hK _ (hN3 (i + 1,e') _ (by simp only;omega) (by simp only;omega) ?_)
    simp only [hls]
    rw [show e' + 1 + (List.take i (noneL R.length home)).length=e' + ((List.take i (noneL R.length home)).length + 1) by omega]
    exact Le_wb (by simp only [go_sem,seval,Int.natCast_add,Int.natCast_one])
   ·obtain ⟨e',rfl⟩:∃ e',cap'=e' + ((List.take i (noneL R.length home)).length + 1):=⟨cap' - ((List.take i (noneL R.length home)).length + 1),by omega⟩
    rw [Nat.add_sub_cancel,List.append_assoc,List.singleton_append,wrow_snoc,← hst]
    refine hK _ (hN7 _ (hB6 _ ?_))
    refine Aw_tx hE [0,1,5,6] [7,21,25,750] fun K hK=>?_
    simp only [go_sem,seval]
    repeat refine sd0 ?_
    refine hK _ (hN3 (i + 1,e') _ (by simp only;omega) (by simp only;omega) ?_)
    simp only [hls]
    refine (Le_swb _ 21 750 (by decide) (by decide)).trans ?_
    simp only [St.swb,swbσ,swbm,AV.swb,AV.swbAll,swp,jN_swb,wrow_swb,Nat.reduceEqDiff,if_true,if_false,reduceIte]
    exact Le_wb (by simp only [go_sem,seval,Int.natCast_add,Int.natCast_one])
  ·simp only [dfn] at hc8
   rw [hg,if_neg hc8] at hst
   refine Aw_tx hE [0,1,5,6] [7,21,25,750] fun K hK=>?_
   simp only [go_sem,seval,sl_nl]
   repeat refine sd0 ?_
   refine ⟨fun hroom=>?_,fun hfull cap' hcap'=>?_⟩
   ·obtain ⟨e',rfl⟩:∃ e',c=e' + 1:=⟨c - 1,by omega⟩
    rw [wrow_put,← hst]
    refine hK _ (hN7 _ (hB6 _ ?_))
    refine Aw_tx hE [0,1,5,6] [7,21,25,750] fun K hK=>?_
    simp only [go_sem,seval]
    repeat refine sd0 ?_
    refine hK _ (hN3 (i + 1,e') _ (by simp only;omega) (by simp only;omega) ?_)
    simp only [hls]
    rw [show e' + 1 + (List.take i (noneL R.length home)).length=e' + ((List.take i (noneL R.length home)).length + 1) by omega]
    exact Le_wb (by simp only [go_sem,seval,Int.natCast_add,Int.natCast_one])
   ·obtain ⟨e',rfl⟩:∃ e',cap'=e' + ((List.take i (noneL R.length home)).length + 1):=⟨cap' - ((List.take i (noneL R.length home)).length + 1),by omega⟩
    rw [Nat.add_sub_cancel,List.append_assoc,List.singleton_append,isl_z,wrow_snoc,← hst]
    refine hK _ (hN7 _ (hB6 _ ?_))
    refine Aw_tx hE [0,1,5,6] [7,21,25,750] fun K hK=>?_
    simp only [go_sem,seval]
    repeat refine sd0 ?_
    refine hK _ (hN3 (i + 1,e') _ (by simp only;omega) (by simp only;omega) ?_)
    simp only [hls]
    refine (Le_swb _ 25 750 (by decide) (by decide)).trans ?_
    simp only [St.swb,swbσ,swbm,AV.swb,AV.swbAll,swp,jN_swb,wrow_swb,Nat.reduceEqDiff,if_true,if_false,reduceIte]
    exact Le_wb (by simp only [go_sem,seval,Int.natCast_add,Int.natCast_one])
 ·simp only [dfn] at hc5
  have hn:i=R.length:=by omega
  have htk:(noneL R.length home).take i=noneL R.length home:=List.take_of_length_le (by omega)
  refine Aw_exit (hX4 _ _ (hX3 _ _ (hE2 _ (hB1 _ ?_))))
  refine Aw_st hE [4] [7,21,25,750] fun K hK=>?_
  simp only [go_sem,seval,htk]
  refine hK _ ?_
  refine Aw.leE (LeE_of (Le_swb _ 750 900 (by decide) (by decide))) ?_
  simp only [St.swb,swbσ,swbm,AV.swb,AV.swbAll,swp,jN_swb,wrow_swb,Nat.reduceEqDiff,if_true,if_false,reduceIte]
  refine Aw_ret (hQ _ ?_)
  simp only [go_sem,seval]
  exact ⟨(R,home),rfl,c,by simp only [noneL_len],by simp only [noneL_len]⟩
theorem sNetNoneM_ok:FineM Tryd.prog 62 cNetNoneM:=by
 refine fineM_of [] ms_nil [(53,(cNoneM,[],[(900,200)]))] (mm_cons sNoneM_ok (by decide) mm_nil) [15] [] ex_nil (T:=TT) Tryd.func62 rfl Tryd.ntmps62 (by rw [Tryd.results62]) rfl rfl tt gs_nil (ds_cons sRelsOk_ok (ds_cons in_ok ds_nil)) ?_
 rintro args m1 ⟨⟨R,home⟩,e,hc⟩
 obtain ⟨rfl,rfl⟩:=Prod.mk.inj e.symm
 simp only at hc
 refine ⟨by simp,fun E hE Q hQ=>?_⟩
 have no:(relsOk R && hIb R.length home)=false→outV (if relsOk R && hIb R.length home then noneL R.length home else []) (.xs 900 0 0 0 1) [(900,[])]:=fun e=>by
  rw [e];exact ⟨0,rfl,rfl⟩
 refine Aw_st hE [0,1] [15,218] fun K hK=>?_
 simp only [go_sem,seval]
 refine hK _ ?_;clear hK K
 refine Aw_sq fun B1 hB1 hR1 hX1=>?_
 refine Aw_st hE [0,1,14] [15,218] fun K hK=>?_
 simp only [go_sem,seval,hc]
 refine ⟨fun hg3=>?_,fun hg3=>?_⟩
 ·simp only [Bool.not_eq_true'] at hg3
  refine hK _ (Aw_yes rfl ?_)
  refine Aw_st hE [4] [15,218] fun K hK=>?_
  simp only [go_sem,seval]
  refine hK _ ?_
  refine Aw.leE (LeE_of (Le_swb _ 15 900 (by decide) (by decide))) ?_
  simp only [St.swb,swbσ,swbm,AV.swb,AV.swbAll,swp,Nat.reduceEqDiff,if_true,if_false,reduceIte]
  refine Aw_ret (hR1 _ (hQ _ ?_))
  simp only [go_sem,seval]
  exact ⟨(R,home),rfl,no (by rw [hg3];rfl)⟩
 repeat refine sd0 ?_
 simp only [Bool.not_eq_false'] at hg3
 refine hK _ (Aw_cond rfl (fun hc4=>?_) (fun hc4=>?_))
 ·simp only [Bool.not_eq_true'] at hc4
  have hb:hIb R.length home=false:=hc4
  refine Aw_st hE [4] [15,218] fun K hK=>?_
  simp only [go_sem,seval]
  refine hK _ ?_
  refine Aw.leE (LeE_of (Le_swb _ 15 900 (by decide) (by decide))) ?_
  simp only [St.swb,swbσ,swbm,AV.swb,AV.swbAll,swp,Nat.reduceEqDiff,if_true,if_false,reduceIte]
  refine Aw_ret (hR1 _ (hQ _ ?_))
  simp only [go_sem,seval]
  exact ⟨(R,home),rfl,no (by rw [hb,Bool.and_false])⟩
 ·simp only [Bool.not_eq_false'] at hc4
  have hb:hIb R.length home=true:=hc4
  obtain ⟨h1,h2⟩:=hIb_iff.1 hb
  have h5:=(relsOk_iff.1 hg3).1.2
  have h6:R.length≤1000:=by omega
  refine Aw_skip (hB1 _ ?_)
  refine Aw_st hE [4] [15,218] fun K hK=>?_
  simp only [go_sem,seval,h1,h2,h6]
  repeat refine sd0 ?_
  intro c
  refine hK _ ?_
  refine Aw.leE (LeE_of (Le_swb _ 218 900 (by decide) (by decide))) ?_
  simp only [St.swb,swbσ,swbm,AV.swb,AV.swbAll,swp,jN_swb,wrow_swb,Nat.reduceEqDiff,if_true,if_false,reduceIte]
  refine Aw_ret (hQ _ ?_)
  simp only [go_sem,seval]
  refine ⟨(R,home),rfl,c,?_,?_⟩
  ·simp only [hg3,hb,Bool.and_self,reduceIte,noneL_len]
  ·simp only [hg3,hb,Bool.and_self,reduceIte,noneL_len,jN_mvnW,wrow_swb,wrow_nt]
theorem sStepM_ok:FineM Tryd.prog 49 cStepM:=by
 refine fineM_of [] ms_nil [] mm_nil [11,29,38] [] ex_nil (T:=TT) Tryd.func49 rfl Tryd.ntmps49 (by rw [Tryd.results49]) rfl rfl tt gs_nil (ds_cons sPick_ok ds_nil) ?_
 rintro args m1 ⟨⟨R,home,W,a⟩,e,hsq,hwl,hwx⟩
 obtain ⟨rfl,rfl⟩:=Prod.mk.inj e.symm
 simp only at hsq hwl hwx
 refine ⟨by simp,fun E hE Q hQ=>?_⟩
 have hR:=hsq.1
 have hnl:(stepC R.length (ofR R) home W a).length=R.length:=by rw [stepC_len,hwl]
 refine Aw_st hE [0,1,2,3] [11,29,38,750] fun K hK=>?_
 simp only [go_sem,seval]
 refine hK _ ?_;clear hK K
 refine Aw_st hE [0,1,2,3,9] [11,29,38,750] fun K hK=>?_
 simp only [go_sem,seval]
 refine hK _ ?_;clear hK K
 refine Aw_sq fun B1 hB1 hR1 hX1=>?_
 refine Aw_st hE [0,1,2,3,9,10] [11,29,38,750] fun K hK=>?_
 simp only [go_sem,seval]
 refine hK _ ?_;clear hK K
 refine Aw_bk fun B2 hN2 hE2 hR2 hX2=>?_
 refine Aw_lp (fun i:Nat × Nat=>⟨40,[(0,wsl R),(1,iv home),(2,wsl W),(3,iv a),(9,.xs 750 0 ((stepC R.length (ofR R) home W a).take i.1).length (i.2 + ((stepC R.length (ofR R) home W a).take i.1).length) 1),(10,iv (i.1:Int))],[(750,cWs ((stepC R.length (ofR R) home W a).take i.1)++jN i.2)],0⟩) (fun i=>i.1≤R.length) (fun i=>R.length - i.1) (0,0) ((Le_swb _ 11 750 (by decide) (by decide)).trans (by
  simp only [St.swb,swbσ,swbm,AV.swb,AV.swbAll,swp,Nat.reduceEqDiff,if_true,if_false,reduceIte]
  exact Le_wc (by simp only [go_sem,seval,List.take_zero,List.length_nil,List.append_nil]) (by simp only [go_sem,seval,List.take_zero,List.append_nil]))) (by simp) fun i hi B3 hN3 hR3 hX3=>?_
 obtain ⟨i,c⟩:=i
 simp only at hi
 have hol:((stepC R.length (ofR R) home W a).take i).length=i:=by rw [List.length_take];omega
 refine Aw_sq fun B4 hB4 hR4 hX4=>?_
 refine Aw_st hE [0,1,2,3,9,10,15] [11,29,38,750] fun K hK=>?_
 simp only [go_sem,seval]
 refine hK _ (Aw_cond rfl (fun hc5=>?_) (fun hc5=>?_))
 ·simp only [dte] at hc5
  have hil:i < R.length:=by omega
  have hg:=stepC_get (n:=R.length) (of:=ofR R) (home:=home) (h:=a) hwl hil
  have hst:=take_one (stepC R.length (ofR R) home W a) i [] (by omega)
  have hls:((stepC R.length (ofR R) home W a).take (i + 1)).length=((stepC R.length (ofR R) home W a).take i).length + 1:=by rw [List.length_take,List.length_take];omega
  have hgw:=wrows_get W i (by omega)
  have hwi:=(hwx _ (getD_memL W i (by omega))).1
  refine Aw_skip (hB4 _ ?_)
  refine Aw_sq fun B6 hB6 hR6 hX6=>?_
  refine Aw_bk fun B7 hN7 hE7 hR7 hX7=>?_
  refine Aw_st hE [0,1,2,3,9,10,21] [11,29,38,750] fun K hK=>?_
  simp only [go_sem,seval]
  repeat refine sd0 ?_
  refine hK _ (Aw_cond rfl (fun hc8=>?_) (fun hc8=>?_))
  ·simp only [dte] at hc8
   rw [hg,if_pos hc8] at hst
   have hin:inW R.length W:=⟨hwl,hwx⟩
   have ha1:1≤a:=by omega
   have ha2:a≤R.length:=by omega
   refine Aw_tx hE [0,1,2,3,9,10] [11,29,38,750] fun K hK=>?_
   simp only [go_sem,seval,hsq,hin,ha1,ha2]
   repeat refine sd0 ?_
   refine ⟨fun hroom=>?_,fun hfull cap' hcap'=>?_⟩
   ·obtain ⟨e',rfl⟩:∃ e',c=e' + 1:=⟨c - 1,by omega⟩
    rw [wrow_put,← hst]
    refine hK _ (hN7 _ (hB6 _ ?_))
    refine Aw_tx hE [0,1,2,3,9,10] [11,29,38,750] fun K hK=>?_
    simp only [go_sem,seval]
    repeat refine sd0 ?_
    refine hK _ (hN3 (i + 1,e') _ (by simp only;omega) (by simp only;omega) ?_)
    simp only [hls]
    rw [show e' + 1 + (List.take i (stepC R.length (ofR R) home W a)).length=e' + ((List.take i (stepC R.length (ofR R) home W a)).length + 1) by omega]
    exact Le_wb (by simp only [go_sem,seval,Int.natCast_add,Int.natCast_one])
   ·obtain ⟨e',rfl⟩:∃ e',cap'=e' + ((List.take i (stepC R.length (ofR R) home W a)).length + 1):=⟨cap' - ((List.take i (stepC R.length (ofR R) home W a)).length + 1),by omega⟩
    rw [Nat.add_sub_cancel,List.append_assoc,List.singleton_append,wrow_snoc,← hst]
    refine hK _ (hN7 _ (hB6 _ ?_))
    refine Aw_tx hE [0,1,2,3,9,10] [11,29,38,750] fun K hK=>?_
    simp only [go_sem,seval]
    repeat refine sd0 ?_
    refine hK _ (hN3 (i + 1,e') _ (by simp only;omega) (by simp only;omega) ?_)
    simp only [hls]
    refine (Le_swb _ 29 750 (by decide) (by decide)).trans ?_
    simp only [St.swb,swbσ,swbm,AV.swb,AV.swbAll,swp,jN_swb,wrow_swb,Nat.reduceEqDiff,if_true,if_false,reduceIte]
    exact Le_wb (by simp only [go_sem,seval,Int.natCast_add,Int.natCast_one])
  ·simp only [dfn] at hc8
   rw [hg,if_neg hc8] at hst
   refine Aw_tx hE [0,1,2,3,9,10] [11,29,38,750] fun K hK=>?_
   simp only [go_sem,seval,hgw]
   repeat refine sd0 ?_
   refine ⟨fun hroom=>?_,fun hfull cap' hcap'=>?_⟩
   ·obtain ⟨e',rfl⟩:∃ e',c=e' + 1:=⟨c - 1,by omega⟩
    rw [wrow_put,← hst]
    refine hK _ (hN7 _ (hB6 _ ?_))
    refine Aw_tx hE [0,1,2,3,9,10] [11,29,38,750] fun K hK=>?_
    simp only [go_sem,seval]
    repeat refine sd0 ?_
    refine hK _ (hN3 (i + 1,e') _ (by simp only;omega) (by simp only;omega) ?_)
    simp only [hls]
    rw [show e' + 1 + (List.take i (stepC R.length (ofR R) home W a)).length=e' + ((List.take i (stepC R.length (ofR R) home W a)).length + 1) by omega]
    exact Le_wb (by simp only [go_sem,seval,Int.natCast_add,Int.natCast_one])
   ·obtain ⟨e',rfl⟩:∃ e',cap'=e' + ((List.take i (stepC R.length (ofR R) home W a)).length + 1):=⟨cap' - ((List.take i (stepC R.length (ofR R) home W a)).length + 1),by omega⟩
    rw [Nat.add_sub_cancel,List.append_assoc,List.singleton_append,wrow_snoc,← hst]
    refine hK _ (hN7 _ (hB6 _ ?_))
    refine Aw_tx hE [0,1,2,3,9,10] [11,29,38,750] fun K hK=>?_
    simp only [go_sem,seval]
    repeat refine sd0 ?_
    refine hK _ (hN3 (i + 1,e') _ (by simp only;omega) (by simp only;omega) ?_)
    simp only [hls]
    refine (Le_swb _ 38 750 (by decide) (by decide)).trans ?_
    simp only [St.swb,swbσ,swbm,AV.swb,AV.swbAll,swp,jN_swb,wrow_swb,Nat.reduceEqDiff,if_true,if_false,reduceIte]
    exact Le_wb (by simp only [go_sem,seval,Int.natCast_add,Int.natCast_one])
 ·simp only [dfn] at hc5
  have hn:i=R.length:=by omega
  have htk:(stepC R.length (ofR R) home W a).take i=stepC R.length (ofR R) home W a:=List.take_of_length_le (by omega)
  refine Aw_exit (hX4 _ _ (hX3 _ _ (hE2 _ (hB1 _ ?_))))
  refine Aw_st hE [8] [11,29,38,750] fun K hK=>?_
  simp only [go_sem,seval,htk]
  refine hK _ ?_
  refine Aw.leE (LeE_of (Le_swb _ 750 900 (by decide) (by decide))) ?_
  simp only [St.swb,swbσ,swbm,AV.swb,AV.swbAll,swp,jN_swb,wrow_swb,Nat.reduceEqDiff,if_true,if_false,reduceIte]
  refine Aw_ret (hQ _ ?_)
  simp only [go_sem,seval]
  exact ⟨⟨R,home,W,a⟩,rfl,c,rfl,rfl⟩
theorem relsT2 {E:En} (hE:TbOk E tbRels) {k:Nat} (hk:k + 40≤1099511627776) {Q:Exit→St→Prop} (hQ:∀ (L:List (List Int)) (rn:Nat),(2≤L.length∧L.length≤5)→(∀ w ∈ L,w.length=L.length)→rn≤k + 40→Aw E .ret ⟨111,[(2,wsl L)],[],rn⟩ Q) {r:Nat→List Int} (hr:∀ q,(r q).length=2) {d:Nat→Nat} {c rn:Nat} (hrn:rn≤k + 30):Aw E (seqB (seqB (seqB (seqB (seqB (seqB (seqB (Tryd.f30.body.getD .skip)))))))) ⟨111,[(0,.rd),(4,.xs 700 0 2 (c + 2) 1)],(700,vws 2 d 710 2++jN c)::bxs 2 d r 710 2,rn⟩ Q:=by
 have hr0:=hr 0
 have hr1:=hr 1
 have fin:∀ (q:Nat→List Int) (rn:Nat),(∀ x,(q x).length=2)→rn≤k + 40→Aw E (seqB (seqB (seqB (seqB (seqB (seqB (seqB (seqB (Tryd.f30.body.getD .skip))))))))) ⟨111,[(4,.xs 700 0 2 (c + 2) 1)],(700,vws 2 d 710 2++jN c)::bxs 2 d q 710 2,rn⟩ Q:=by
  intro q rn hq hrn
  refine Aw_st hE [2] [700,701,710,711,712,713,714,720,721,722,723,724] fun K hK=>?_
  simp only [go_sem,seval]
  refine hK _ ?_
  refine Aw_frz hE rfl 710 2 (ls:=cI (q 0)++jN (d 0)) (ys:=iD (q 0)) rfl (ofAll_iD (hq 0)) ?_
  simp only [go_sem,seval,↓frz_xs (d:=710) (cap:=d 0 + 2) (hq 0)]
  refine Aw_frz hE rfl 711 2 (ls:=cI (q 1)++jN (d 1)) (ys:=iD (q 1)) rfl (ofAll_iD (hq 1)) ?_
  simp only [go_sem,seval,↓frz_xs (d:=711) (cap:=d 1 + 2) (hq 1)]
  refine Aw_frz hE rfl 700 2 (ls:=cWs [q 0,q 1]++jN c) (ys:=wD [q 0,q 1]) rfl (by rw [List.take_left' (by rfl)];exact ofAll_cWs _) ?_
  simp only [go_sem,seval,↓frz_xsW (d:=700) (n:=2) (cap:=c + 2) (L:=[q 0,q 1]) rfl]
  refine Aw.leE (LeE_of (show Le _ ⟨111,[(2,wsl [q 0,q 1])],[],_⟩ from Le_wa)) (hQ [q 0,q 1] rn ⟨by simp,by simp⟩ (fun w hw=>by simp only [List.mem_cons,List.not_mem_nil,or_false] at hw;rcases hw with rfl | rfl<;>exact hq _) hrn)
 refine Aw_sqJ (fun i:(Nat→List Int) × Nat=>⟨111,[(4,.xs 700 0 2 (c + 2) 1)],(700,vws 2 d 710 2++jN c)::bxs 2 d i.1 710 2,i.2⟩) (fun i=>(∀ x,(i.1 x).length=2)∧i.2≤k + 40) (fun i hi=>fin i.1 i.2 hi.1 hi.2) fun B1 hB1 hR1 hX1=>?_
 refine Aw_st hE [0,4,103] [700,701,710,711,712,713,714,720,721,722,723,724] fun K hK=>?_
 simp only [go_sem,seval]
 refine ⟨by omega,fun x hx1 hx2=>?_⟩
 refine hK _ (Aw_cond rfl (fun hc=>?_) (fun hc=>?_))
 ·have hset:=fun y=>cI_set (r 0) (d 0) 1 y (by omega)
  refine Aw_td hE [4] [700,701,710,711,712,713,714,720,721,722,723,724] 6 (by kernel_rfl) fun K hK=>?_
  simp only [go_sem,seval,hset]
  refine ⟨by omega,fun y hy1 hy2=>⟨by omega,?_⟩⟩
  exact hK _ (hB1 (upd r 0 1 y,rn + 2) _ ⟨upd_len hr,by omega⟩ (LeE_of (Le_wc (by simp only [go_sem,seval]) (by simp only [go_sem,seval,upd]))))
 ·exact Aw_skip (hB1 (r,rn + 1) _ ⟨hr,by omega⟩ (LeE_of (Le_wa)))
set_option maxHeartbeats 8000000 in
theorem relsT3 {E:En} (hE:TbOk E tbRels) {k:Nat} (hk:k + 40≤1099511627776) {Q:Exit→St→Prop} (hQ:∀ (L:List (List Int)) (rn:Nat),(2≤L.length∧L.length≤5)→(∀ w ∈ L,w.length=L.length)→rn≤k + 40→Aw E .ret ⟨111,[(2,wsl L)],[],rn⟩ Q) {r:Nat→List Int} (hr:∀ q,(r q).length=3) {d:Nat→Nat} {c rn:Nat} (hrn:rn≤k + 30):Aw E (seqB (seqB (seqB (seqB (seqB (seqB (seqB (Tryd.f30.body.getD .skip)))))))) ⟨111,[(0,.rd),(4,.xs 700 0 3 (c + 3) 1)],(700,vws 3 d 710 3++jN c)::bxs 3 d r 710 3,rn⟩ Q:=by
 have hr0:=hr 0
 have hr1:=hr 1
 have hr2:=hr 2
 have fin:∀ (q:Nat→List Int) (rn:Nat),(∀ x,(q x).length=3)→rn≤k + 40→Aw E (seqB (seqB (seqB (seqB (seqB (seqB (seqB (seqB (Tryd.f30.body.getD .skip))))))))) ⟨111,[(4,.xs 700 0 3 (c + 3) 1)],(700,vws 3 d 710 3++jN c)::bxs 3 d q 710 3,rn⟩ Q:=by
  intro q rn hq hrn
  refine Aw_st hE [2] [700,701,710,711,712,713,714,720,721,722,723,724] fun K hK=>?_
  simp only [go_sem,seval]
  refine hK _ ?_
  refine Aw_frz hE rfl 710 3 (ls:=cI (q 0)++jN (d 0)) (ys:=iD (q 0)) rfl (ofAll_iD (hq 0)) ?_
  simp only [go_sem,seval,↓frz_xs (d:=710) (cap:=d 0 + 3) (hq 0)]
  refine Aw_frz hE rfl 711 3 (ls:=cI (q 1)++jN (d 1)) (ys:=iD (q 1)) rfl (ofAll_iD (hq 1)) ?_
  simp only [go_sem,seval,↓frz_xs (d:=711) (cap:=d 1 + 3) (hq 1)]
  refine Aw_frz hE rfl 712 3 (ls:=cI (q 2)++jN (d 2)) (ys:=iD (q 2)) rfl (ofAll_iD (hq 2)) ?_
  simp only [go_sem,seval,↓frz_xs (d:=712) (cap:=d 2 + 3) (hq 2)]
  refine Aw_frz hE rfl 700 3 (ls:=cWs [q 0,q 1,q 2]++jN c) (ys:=wD [q 0,q 1,q 2]) rfl (by rw [List.take_left' (by rfl)];exact ofAll_cWs _) ?_
  simp only [go_sem,seval,↓frz_xsW (d:=700) (n:=3) (cap:=c + 3) (L:=[q 0,q 1,q 2]) rfl]
  refine Aw.leE (LeE_of (show Le _ ⟨111,[(2,wsl [q 0,q 1,q 2])],[],_⟩ from Le_wa)) (hQ [q 0,q 1,q 2] rn ⟨by simp,by simp⟩ (fun w hw=>by simp only [List.mem_cons,List.not_mem_nil,or_false] at hw;rcases hw with rfl | rfl | rfl<;>exact hq _) hrn)
 refine Aw_sqJ (fun i:(Nat→List Int) × Nat=>⟨111,[(4,.xs 700 0 3 (c + 3) 1)],(700,vws 3 d 710 3++jN c)::bxs 3 d i.1 710 3,i.2⟩) (fun i=>(∀ x,(i.1 x).length=3)∧i.2≤k + 40) (fun i hi=>fin i.1 i.2 hi.1 hi.2) fun B1 hB1 hR1 hX1=>?_
 refine Aw_st hE [0,4,103] [700,701,710,711,712,713,714,720,721,722,723,724] fun K hK=>?_
 simp only [go_sem,seval]
 refine ⟨by omega,fun x hx1 hx2=>?_⟩
 refine hK _ (Aw_cond rfl (fun hc=>?_) (fun hc=>?_))
 ·have hset:=fun y=>cI_set (r 0) (d 0) 1 y (by omega)
  refine Aw_td hE [4] [700,701,710,711,712,713,714,720,721,722,723,724] 6 (by kernel_rfl) fun K hK=>?_
  simp only [go_sem,seval,hset]
  refine ⟨by omega,fun y hy1 hy2=>⟨by omega,?_⟩⟩
  exact hK _ (hB1 (upd r 0 1 y,rn + 2) _ ⟨upd_len hr,by omega⟩ (LeE_of (Le_wc (by simp only [go_sem,seval]) (by simp only [go_sem,seval,upd]))))
 ·exact Aw_skip (hB1 (r,rn + 1) _ ⟨hr,by omega⟩ (LeE_of (Le_wa)))
set_option maxHeartbeats 8000000 in
theorem relsT4 {E:En} (hE:TbOk E tbRels) {k:Nat} (hk:k + 40≤1099511627776) {Q:Exit→St→Prop} (hQ:∀ (L:List (List Int)) (rn:Nat),(2≤L.length∧L.length≤5)→(∀ w ∈ L,w.length=L.length)→rn≤k + 40→Aw E .ret ⟨111,[(2,wsl L)],[],rn⟩ Q) {r:Nat→List Int} (hr:∀ q,(r q).length=4) {d:Nat→Nat} {c rn:Nat} (hrn:rn≤k + 30):Aw E (seqB (seqB (seqB (seqB (seqB (seqB (seqB (Tryd.f30.body.getD .skip)))))))) ⟨111,[(0,.rd),(4,.xs 700 0 4 (c + 4) 1)],(700,vws 4 d 710 4++jN c)::bxs 4 d r 710 4,rn⟩ Q:=by
 have hr0:=hr 0
 have hr1:=hr 1
 have hr2:=hr 2
 have hr3:=hr 3
 have fin:∀ (q:Nat→List Int) (rn:Nat),(∀ x,(q x).length=4)→rn≤k + 40→Aw E (seqB (seqB (seqB (seqB (seqB (seqB (seqB (seqB (Tryd.f30.body.getD .skip))))))))) ⟨111,[(4,.xs 700 0 4 (c + 4) 1)],(700,vws 4 d 710 4++jN c)::bxs 4 d q 710 4,rn⟩ Q:=by
  intro q rn hq hrn
  refine Aw_st hE [2] [700,701,710,711,712,713,714,720,721,722,723,724] fun K hK=>?_
  simp only [go_sem,seval]
  refine hK _ ?_
  refine Aw_frz hE rfl 710 4 (ls:=cI (q 0)++jN (d 0)) (ys:=iD (q 0)) rfl (ofAll_iD (hq 0)) ?_
  simp only [go_sem,seval,↓frz_xs (d:=710) (cap:=d 0 + 4) (hq 0)]
  refine Aw_frz hE rfl 711 4 (ls:=cI (q 1)++jN (d 1)) (ys:=iD (q 1)) rfl (ofAll_iD (hq 1)) ?_
  simp only [go_sem,seval,↓frz_xs (d:=711) (cap:=d 1 + 4) (hq 1)]
  refine Aw_frz hE rfl 712 4 (ls:=cI (q 2)++jN (d 2)) (ys:=iD (q 2)) rfl (ofAll_iD (hq 2)) ?_
  simp only [go_sem,seval,↓frz_xs (d:=712) (cap:=d 2 + 4) (hq 2)]
  refine Aw_frz hE rfl 713 4 (ls:=cI (q 3)++jN (d 3)) (ys:=iD (q 3)) rfl (ofAll_iD (hq 3)) ?_
  simp only [go_sem,seval,↓frz_xs (d:=713) (cap:=d 3 + 4) (hq 3)]
  refine Aw_frz hE rfl 700 4 (ls:=cWs [q 0,q 1,q 2,q 3]++jN c) (ys:=wD [q 0,q 1,q 2,q 3]) rfl (by rw [List.take_left' (by rfl)];exact ofAll_cWs _) ?_
  simp only [go_sem,seval,↓frz_xsW (d:=700) (n:=4) (cap:=c + 4) (L:=[q 0,q 1,q 2,q 3]) rfl]
  refine Aw.leE (LeE_of (show Le _ ⟨111,[(2,wsl [q 0,q 1,q 2,q 3])],[],_⟩ from Le_wa)) (hQ [q 0,q 1,q 2,q 3] rn ⟨by simp,by simp⟩ (fun w hw=>by simp only [List.mem_cons,List.not_mem_nil,or_false] at hw;rcases hw with rfl | rfl | rfl | rfl<;>exact hq _) hrn)
 refine Aw_sqJ (fun i:(Nat→List Int) × Nat=>⟨111,[(4,.xs 700 0 4 (c + 4) 1)],(700,vws 4 d 710 4++jN c)::bxs 4 d i.1 710 4,i.2⟩) (fun i=>(∀ x,(i.1 x).length=4)∧i.2≤k + 40) (fun i hi=>fin i.1 i.2 hi.1 hi.2) fun B1 hB1 hR1 hX1=>?_
 refine Aw_st hE [0,4,103] [700,701,710,711,712,713,714,720,721,722,723,724] fun K hK=>?_
 simp only [go_sem,seval]
 refine ⟨by omega,fun x hx1 hx2=>?_⟩
 refine hK _ (Aw_cond rfl (fun hc=>?_) (fun hc=>?_))
 ·have hset:=fun y=>cI_set (r 0) (d 0) 1 y (by omega)
  refine Aw_td hE [4] [700,701,710,711,712,713,714,720,721,722,723,724] 6 (by kernel_rfl) fun K hK=>?_
  simp only [go_sem,seval,hset]
  refine ⟨by omega,fun y hy1 hy2=>⟨by omega,?_⟩⟩
  exact hK _ (hB1 (upd r 0 1 y,rn + 2) _ ⟨upd_len hr,by omega⟩ (LeE_of (Le_wc (by simp only [go_sem,seval]) (by simp only [go_sem,seval,upd]))))
 ·exact Aw_skip (hB1 (r,rn + 1) _ ⟨hr,by omega⟩ (LeE_of (Le_wa)))
set_option maxHeartbeats 8000000 in
theorem relsT5 {E:En} (hE:TbOk E tbRels) {k:Nat} (hk:k + 40≤1099511627776) {Q:Exit→St→Prop} (hQ:∀ (L:List (List Int)) (rn:Nat),(2≤L.length∧L.length≤5)→(∀ w ∈ L,w.length=L.length)→rn≤k + 40→Aw E .ret ⟨111,[(2,wsl L)],[],rn⟩ Q) {r:Nat→List Int} (hr:∀ q,(r q).length=5) {d:Nat→Nat} {c rn:Nat} (hrn:rn≤k + 30):Aw E (seqB (seqB (seqB (seqB (seqB (seqB (seqB (Tryd.f30.body.getD .skip)))))))) ⟨111,[(0,.rd),(4,.xs 700 0 5 (c + 5) 1)],(700,vws 5 d 710 5++jN c)::bxs 5 d r 710 5,rn⟩ Q:=by
 have hr0:=hr 0
 have hr1:=hr 1
 have hr2:=hr 2
 have hr3:=hr 3
 have hr4:=hr 4
 have fin:∀ (q:Nat→List Int) (rn:Nat),(∀ x,(q x).length=5)→rn≤k + 40→Aw E (seqB (seqB (seqB (seqB (seqB (seqB (seqB (seqB (Tryd.f30.body.getD .skip))))))))) ⟨111,[(4,.xs 700 0 5 (c + 5) 1)],(700,vws 5 d 710 5++jN c)::bxs 5 d q 710 5,rn⟩ Q:=by
  intro q rn hq hrn
  refine Aw_st hE [2] [700,701,710,711,712,713,714,720,721,722,723,724] fun K hK=>?_
  simp only [go_sem,seval]
  refine hK _ ?_
  refine Aw_frz hE rfl 710 5 (ls:=cI (q 0)++jN (d 0)) (ys:=iD (q 0)) rfl (ofAll_iD (hq 0)) ?_
  simp only [go_sem,seval,↓frz_xs (d:=710) (cap:=d 0 + 5) (hq 0)]
  refine Aw_frz hE rfl 711 5 (ls:=cI (q 1)++jN (d 1)) (ys:=iD (q 1)) rfl (ofAll_iD (hq 1)) ?_
  simp only [go_sem,seval,↓frz_xs (d:=711) (cap:=d 1 + 5) (hq 1)]
  refine Aw_frz hE rfl 712 5 (ls:=cI (q 2)++jN (d 2)) (ys:=iD (q 2)) rfl (ofAll_iD (hq 2)) ?_
  simp only [go_sem,seval,↓frz_xs (d:=712) (cap:=d 2 + 5) (hq 2)]
  refine Aw_frz hE rfl 713 5 (ls:=cI (q 3)++jN (d 3)) (ys:=iD (q 3)) rfl (ofAll_iD (hq 3)) ?_
  simp only [go_sem,seval,↓frz_xs (d:=713) (cap:=d 3 + 5) (hq 3)]
  refine Aw_frz hE rfl 714 5 (ls:=cI (q 4)++jN (d 4)) (ys:=iD (q 4)) rfl (ofAll_iD (hq 4)) ?_
  simp only [go_sem,seval,↓frz_xs (d:=714) (cap:=d 4 + 5) (hq 4)]
  refine Aw_frz hE rfl 700 5 (ls:=cWs [q 0,q 1,q 2,q 3,q 4]++jN c) (ys:=wD [q 0,q 1,q 2,q 3,q 4]) rfl (by rw [List.take_left' (by rfl)];exact ofAll_cWs _) ?_
  simp only [go_sem,seval,↓frz_xsW (d:=700) (n:=5) (cap:=c + 5) (L:=[q 0,q 1,q 2,q 3,q 4]) rfl]
  refine Aw.leE (LeE_of (show Le _ ⟨111,[(2,wsl [q 0,q 1,q 2,q 3,q 4])],[],_⟩ from Le_wa)) (hQ [q 0,q 1,q 2,q 3,q 4] rn ⟨by simp,by simp⟩ (fun w hw=>by simp only [List.mem_cons,List.not_mem_nil,or_false] at hw;rcases hw with rfl | rfl | rfl | rfl | rfl<;>exact hq _) hrn)
 refine Aw_sqJ (fun i:(Nat→List Int) × Nat=>⟨111,[(4,.xs 700 0 5 (c + 5) 1)],(700,vws 5 d 710 5++jN c)::bxs 5 d i.1 710 5,i.2⟩) (fun i=>(∀ x,(i.1 x).length=5)∧i.2≤k + 40) (fun i hi=>fin i.1 i.2 hi.1 hi.2) fun B1 hB1 hR1 hX1=>?_
 refine Aw_st hE [0,4,103] [700,701,710,711,712,713,714,720,721,722,723,724] fun K hK=>?_
 simp only [go_sem,seval]
 refine ⟨by omega,fun x hx1 hx2=>?_⟩
 refine hK _ (Aw_cond rfl (fun hc=>?_) (fun hc=>?_))
 ·have hset:=fun y=>cI_set (r 0) (d 0) 1 y (by omega)
  refine Aw_td hE [4] [700,701,710,711,712,713,714,720,721,722,723,724] 6 (by kernel_rfl) fun K hK=>?_
  simp only [go_sem,seval,hset]
  refine ⟨by omega,fun y hy1 hy2=>⟨by omega,?_⟩⟩
  exact hK _ (hB1 (upd r 0 1 y,rn + 2) _ ⟨upd_len hr,by omega⟩ (LeE_of (Le_wc (by simp only [go_sem,seval]) (by simp only [go_sem,seval,upd]))))
 ·exact Aw_skip (hB1 (r,rn + 1) _ ⟨hr,by omega⟩ (LeE_of (Le_wa)))
theorem relsR2 {E:En} (hE:TbOk E tbRels) {k:Nat} (hk:k + 40≤1099511627776) {Q:Exit→St→Prop} (hQ:∀ (L:List (List Int)) (rn:Nat),(2≤L.length∧L.length≤5)→(∀ w ∈ L,w.length=L.length)→rn≤k + 40→Aw E .ret ⟨111,[(2,wsl L)],[],rn⟩ Q) {r:Nat→List Int} (hr:∀ q,(r q).length=2) {d:Nat→Nat} {c rn:Nat} (hrn:rn≤k + 29):Aw E (seqB (seqB (seqB (seqB (seqB (seqB (Tryd.f30.body.getD .skip))))))) ⟨111,[(0,.rd),(3,iv 2),(4,.xs 700 0 2 (c + 2) 1)],(700,vws 2 d 710 2++jN c)::bxs 2 d r 710 2,rn⟩ Q:=by
 have hr0:=hr 0
 have hr1:=hr 1
 refine Aw_sqJ (fun i:(Nat→Nat) × (Nat→List Int) × Nat × Nat=>⟨111,[(0,.rd),(4,.xs 700 0 2 (i.2.2.1 + 2) 1)],(700,vws 2 i.1 710 2++jN i.2.2.1)::bxs 2 i.1 i.2.1 710 2,i.2.2.2⟩) (fun i=>(∀ x,(i.2.1 x).length=2)∧i.2.2.2≤k + 30) (fun i hi=>relsT2 hE hk hQ hi.1 hi.2) fun B1 hB1 hR1 hX1=>?_
 refine Aw_st hE [0,3,4,71] [72,79,95,99,700,701,710,711,712,713,714,720,721,722,723,724,740] fun K hK=>?_
 simp only [go_sem,seval]
 refine ⟨by omega,fun x hx1 hx2=>?_⟩
 refine hK _ (Aw_cond rfl (fun hc=>?_) (fun hc=>?_))
 rotate_left
 ·exact Aw_skip (hB1 (d,r,c,rn + 1) _ ⟨hr,by simp only;omega⟩ (LeE_of (Le_wa)))
 refine Aw_st hE [0,3,4,10] [72,79,95,99,700,701,710,711,712,713,714,720,721,722,723,724,740] fun K hK=>?_
 simp only [go_sem,seval]
 refine hK _ ?_;clear hK K
 refine Aw_sq fun B2 hB2 hR2 hX2=>?_
 refine Aw_st hE [0,3,4,10,11] [72,79,95,99,700,701,710,711,712,713,714,720,721,722,723,724,740] fun K hK=>?_
 simp only [go_sem,seval]
 refine hK _ ?_;clear hK K
 refine Aw_bk fun B3 hN3 hE3 hR3 hX3=>?_
 refine Aw_lp (fun i:Nat × Nat × (Nat→Nat) × (Nat→List Int)=>⟨111,[(0,.rd),(3,iv 2),(4,.xs 700 0 2 (c + 2) 1),(10,.xs 701 0 i.1 (i.2.1 + i.1) 1),(11,iv ((2:Int) - 1 - (i.1:Int)))],(700,vws 2 d 710 2++jN c)::(701,vws 2 i.2.2.1 720 i.1++jN i.2.1)::(bxs 2 d r 710 2++bxs 2 i.2.2.1 i.2.2.2 720 i.1),rn + 1⟩) (fun i=>i.1≤2∧∀ x,(i.2.2.2 x).length=2) (fun i=>2 - i.1) (0,0,d,r) ?_ ⟨by omega,hr⟩ fun i hi B4 hN4 hR4 hX4=>?_
 ·refine (Le_swb _ 72 701 (by decide) (by decide)).trans ?_
  simp only [St.swb,swbσ,swbm,AV.swb,AV.swbAll,swp,jN_swb,row_swb,Nat.reduceEqDiff,if_true,if_false,reduceIte]
  exact Le_wa
 obtain ⟨i,c',d',r'⟩:=i
 obtain ⟨hi,hr'⟩:=hi
 simp only at hi hr'
 refine Aw_sq fun B5 hB5 hR5 hX5=>?_
 rcases (show i=2∨i=0∨i=1 by omega) with rfl | rfl | rfl
 ·refine Aw_st hE [0,3,4,10,11,76] [72,79,95,99,700,701,710,711,712,713,714,720,721,722,723,724,740] fun K hK=>?_
  simp only [go_sem,seval]
  refine hK _ (Aw_no rfl (Aw_exit (hX5 _ _ (hX4 _ _ (hE3 _ (hB2 _ ?_))))))
  refine Aw_tx hE [0,4] [72,79,95,99,700,701,710,711,712,713,714,720,721,722,723,724,740] fun K hK=>?_
  simp only [go_sem,seval]
  refine hK _ (hB1 (d',r',c',rn + 1) _ ⟨hr',by simp only;omega⟩ (LeE_of ?_))
  refine (Le_swb _ 701 700 (by decide) (by decide)).trans ((Le_swb _ 720 710 (by decide) (by decide)).trans ((Le_swb _ 721 711 (by decide) (by decide)).trans ?_))
  simp only [St.swb,swbσ,swbm,AV.swb,AV.swbAll,swp,jN_swb,row_swb,Nat.reduceEqDiff,if_true,if_false,reduceIte]
  exact Le_wa
 ·refine Aw_st hE [0,3,4,10,11,76] [72,79,95,99,700,701,710,711,712,713,714,720,721,722,723,724,740] fun K hK=>?_
  simp only [go_sem,seval]
  refine hK _ (Aw_yes rfl (Aw_skip (hB5 _ ?_)))
  refine Aw_sq fun B6 hB6 hR6 hX6=>?_
  refine Aw_bk fun B7 hN7 hE7 hR7 hX7=>?_
  refine Aw_st hE [0,3,4,10,11,12] [72,79,95,99,700,701,710,711,712,713,714,720,721,722,723,724,740] fun K hK=>?_
  simp only [go_sem,seval]
  refine hK _ ?_;clear hK K
  refine Aw_sq fun B8 hB8 hR8 hX8=>?_
  refine Aw_st hE [0,3,4,10,11,12,13] [72,79,95,99,700,701,710,711,712,713,714,720,721,722,723,724,740] fun K hK=>?_
  simp only [go_sem,seval]
  refine hK _ ?_;clear hK K
  refine Aw_bk fun B9 hN9 hE9 hR9 hX9=>?_
  refine Aw_lp (fun j:Nat × Nat × List Int=>⟨111,[(0,.rd),(3,iv 2),(4,.xs 700 0 2 (c + 2) 1),(10,.xs 701 0 0 (c' + 0) 1),(11,iv 1),(12,.xs 740 0 j.2.2.length (j.2.1 + j.2.2.length) 1),(13,iv ((j.1:Int) - 1))],(740,cI j.2.2++jN j.2.1)::(700,vws 2 d 710 2++jN c)::(701,vws 2 d' 720 0++jN c')::(bxs 2 d r 710 2++bxs 2 d' r' 720 0),rn + 1⟩) (fun j=>j.2.2.length + j.1=2) (fun j=>j.1) (2,0,[]) ?_ (by simp) fun j hj B10 hN10 hR10 hX10=>?_
  ·refine (Le_swb _ 79 740 (by decide) (by decide)).trans ?_
   simp only [St.swb,swbσ,swbm,AV.swb,AV.swbAll,swp,jN_swb,row_swb,Nat.reduceEqDiff,if_true,if_false,reduceIte]
   exact Le_wa
  obtain ⟨m,e,q⟩:=j
  simp only at hj
  refine Aw_sq fun B11 hB11 hR11 hX11=>?_
  refine Aw_st hE [0,3,4,10,11,12,13,83] [72,79,95,99,700,701,710,711,712,713,714,720,721,722,723,724,740] fun K hK=>?_
  simp only [go_sem,seval]
  refine hK _ (Aw_cond rfl (fun hc38=>?_) (fun hc38=>?_))
  ·simp only [dte] at hc38
   have hg:=rowI_drop (r 1) (d 1) ((m:Int) - 1).toNat (by omega)
   refine Aw_skip (hB11 _ ?_)
   refine Aw_sq fun B12 hB12 hR12 hX12=>?_
   refine Aw_bk fun B13 hN13 hE13 hR13 hX13=>?_
   refine Aw_tx hE [0,3,4,10,11,12,13] [72,79,95,99,700,701,710,711,712,713,714,720,721,722,723,724,740] fun K hK=>?_
   simp only [go_sem,seval,hg]
   refine ⟨⟨by omega,by omega⟩,⟨by omega,by omega⟩,fun h=>?_,fun h cap' hcap'=>?_⟩
   ·obtain ⟨e',rfl⟩:∃ e',e=e' + 1:=⟨e - 1,by omega⟩
    rw [row_put]
    refine hK _ (hN13 _ (hB12 _ ?_))
    refine Aw_tx hE [0,3,4,10,11,12,13] [72,79,95,99,700,701,710,711,712,713,714,720,721,722,723,724,740] fun K hK=>?_
    simp only [go_sem,seval]
    repeat refine sd0 ?_
    have hl1:(q++[(r 1).getD ((m:Int) - 1).toNat 0]).length=q.length + 1:=by simp
    have hmc:((m - 1:Nat):Int)=(m:Int) - 1:=by omega
    have hec:e' + 1 + q.length=e' + (q.length + 1):=by omega
    refine hK _ (hN10 (m - 1,e',q++[(r 1).getD ((m:Int) - 1).toNat 0]) _ (by simp only [hl1];omega) (by simp only;omega) ?_)
    simp only [hl1,hmc,hec]
    exact Le_wa
   ·obtain ⟨e',rfl⟩:∃ e',cap'=e' + (q.length + 1):=⟨cap' - (q.length + 1),by omega⟩
    rw [Nat.add_sub_cancel,List.append_assoc,List.singleton_append,row_snoc]
    refine hK _ (hN13 _ (hB12 _ ?_))
    refine Aw_tx hE [0,3,4,10,11,12,13] [72,79,95,99,700,701,710,711,712,713,714,720,721,722,723,724,740] fun K hK=>?_
    simp only [go_sem,seval]
    repeat refine sd0 ?_
    have hl1:(q++[(r 1).getD ((m:Int) - 1).toNat 0]).length=q.length + 1:=by simp
    have hmc:((m - 1:Nat):Int)=(m:Int) - 1:=by omega
    have hec:e' + 1 + q.length=e' + (q.length + 1):=by omega
    refine hK _ (hN10 (m - 1,e',q++[(r 1).getD ((m:Int) - 1).toNat 0]) _ (by simp only [hl1];omega) (by simp only;omega) ?_)
    simp only [hl1,hmc,hec]
    refine (Le_swb _ 95 740 (by decide) (by decide)).trans ?_
    simp only [St.swb,swbσ,swbm,AV.swb,AV.swbAll,swp,jN_swb,row_swb,Nat.reduceEqDiff,if_true,if_false,reduceIte]
    exact Le_wa
  ·simp only [dfn] at hc38
   have hq:q.length=2:=by omega
   refine Aw_exit (hX11 _ _ (hX10 _ _ (hE9 _ (hB8 _ ?_))))
   refine Aw_tx hE [0,3,4,10,11] [72,79,95,99,700,701,710,711,712,713,714,720,721,722,723,724,740] fun K hK=>?_
   simp only [go_sem,seval,hq]
   refine ⟨fun h=>?_,fun h cap' hcap'=>?_⟩
   ·obtain ⟨c1,rfl⟩:∃ c1,c'=c1 + 1:=⟨c' - 1,by omega⟩
    simp only [jN_s,List.set_cons_zero]
    refine hK _ (hN7 _ (hB6 _ ?_))
    refine Aw_tx hE [0,3,4,10,11] [72,79,95,99,700,701,710,711,712,713,714,720,721,722,723,724,740] fun K hK=>?_
    simp only [go_sem,seval]
    repeat refine sd0 ?_
    refine hK _ (hN4 (1,c1,put d' 0 e,put r' 0 q) _ ⟨by omega,put_len hr' hq⟩ (by simp only;omega) ?_)
    refine (Le_swb _ 740 720 (by decide) (by decide)).trans ?_
    simp only [St.swb,swbσ,swbm,AV.swb,AV.swbAll,swp,jN_swb,row_swb,Nat.reduceEqDiff,if_true,if_false,reduceIte]
    exact Le_wc (by simp only [go_sem,seval,put,Nat.add_assoc]) (by simp only [go_sem,seval,put])
   ·obtain ⟨c1,rfl⟩:∃ c1,cap'=c1 + 1:=⟨cap' - 1,by omega⟩
    rw [Nat.add_sub_cancel]
    refine hK _ (hN7 _ (hB6 _ ?_))
    refine Aw_tx hE [0,3,4,10,11] [72,79,95,99,700,701,710,711,712,713,714,720,721,722,723,724,740] fun K hK=>?_
    simp only [go_sem,seval]
    repeat refine sd0 ?_
    refine hK _ (hN4 (1,c1,put d' 0 e,put r' 0 q) _ ⟨by omega,put_len hr' hq⟩ (by simp only;omega) ?_)
    refine (Le_swb _ 740 720 (by decide) (by decide)).trans ?_
    simp only [St.swb,swbσ,swbm,AV.swb,AV.swbAll,swp,jN_swb,row_swb,Nat.reduceEqDiff,if_true,if_false,reduceIte]
    refine (Le_swb _ 99 701 (by decide) (by decide)).trans ?_
    simp only [St.swb,swbσ,swbm,AV.swb,AV.swbAll,swp,jN_swb,row_swb,Nat.reduceEqDiff,if_true,if_false,reduceIte]
    exact Le_wc (by simp only [go_sem,seval,put,Nat.add_assoc]) (by simp only [go_sem,seval,put])
 ·refine Aw_st hE [0,3,4,10,11,76] [72,79,95,99,700,701,710,711,712,713,714,720,721,722,723,724,740] fun K hK=>?_
  simp only [go_sem,seval]
  refine hK _ (Aw_yes rfl (Aw_skip (hB5 _ ?_)))
  refine Aw_sq fun B6 hB6 hR6 hX6=>?_
  refine Aw_bk fun B7 hN7 hE7 hR7 hX7=>?_
  refine Aw_st hE [0,3,4,10,11,12] [72,79,95,99,700,701,710,711,712,713,714,720,721,722,723,724,740] fun K hK=>?_
  simp only [go_sem,seval]
  refine hK _ ?_;clear hK K
  refine Aw_sq fun B8 hB8 hR8 hX8=>?_
  refine Aw_st hE [0,3,4,10,11,12,13] [72,79,95,99,700,701,710,711,712,713,714,720,721,722,723,724,740] fun K hK=>?_
  simp only [go_sem,seval]
  refine hK _ ?_;clear hK K
  refine Aw_bk fun B9 hN9 hE9 hR9 hX9=>?_
  refine Aw_lp (fun j:Nat × Nat × List Int=>⟨111,[(0,.rd),(3,iv 2),(4,.xs 700 0 2 (c + 2) 1),(10,.xs 701 0 1 (c' + 1) 1),(11,iv 0),(12,.xs 740 0 j.2.2.length (j.2.1 + j.2.2.length) 1),(13,iv ((j.1:Int) - 1))],(740,cI j.2.2++jN j.2.1)::(700,vws 2 d 710 2++jN c)::(701,vws 2 d' 720 1++jN c')::(bxs 2 d r 710 2++bxs 2 d' r' 720 1),rn + 1⟩) (fun j=>j.2.2.length + j.1=2) (fun j=>j.1) (2,0,[]) ?_ (by simp) fun j hj B10 hN10 hR10 hX10=>?_
  ·refine (Le_swb _ 79 740 (by decide) (by decide)).trans ?_
   simp only [St.swb,swbσ,swbm,AV.swb,AV.swbAll,swp,jN_swb,row_swb,Nat.reduceEqDiff,if_true,if_false,reduceIte]
   exact Le_wa
  obtain ⟨m,e,q⟩:=j
  simp only at hj
  refine Aw_sq fun B11 hB11 hR11 hX11=>?_
  refine Aw_st hE [0,3,4,10,11,12,13,83] [72,79,95,99,700,701,710,711,712,713,714,720,721,722,723,724,740] fun K hK=>?_
  simp only [go_sem,seval]
  refine hK _ (Aw_cond rfl (fun hc38=>?_) (fun hc38=>?_))
  ·simp only [dte] at hc38
   have hg:=rowI_drop (r 0) (d 0) ((m:Int) - 1).toNat (by omega)
   refine Aw_skip (hB11 _ ?_)
   refine Aw_sq fun B12 hB12 hR12 hX12=>?_
   refine Aw_bk fun B13 hN13 hE13 hR13 hX13=>?_
   refine Aw_tx hE [0,3,4,10,11,12,13] [72,79,95,99,700,701,710,711,712,713,714,720,721,722,723,724,740] fun K hK=>?_
   simp only [go_sem,seval,hg]
   refine ⟨⟨by omega,by omega⟩,⟨by omega,by omega⟩,fun h=>?_,fun h cap' hcap'=>?_⟩
   ·obtain ⟨e',rfl⟩:∃ e',e=e' + 1:=⟨e - 1,by omega⟩
    rw [row_put]
    refine hK _ (hN13 _ (hB12 _ ?_))
    refine Aw_tx hE [0,3,4,10,11,12,13] [72,79,95,99,700,701,710,711,712,713,714,720,721,722,723,724,740] fun K hK=>?_
    simp only [go_sem,seval]
    repeat refine sd0 ?_
    have hl1:(q++[(r 0).getD ((m:Int) - 1).toNat 0]).length=q.length + 1:=by simp
    have hmc:((m - 1:Nat):Int)=(m:Int) - 1:=by omega
    have hec:e' + 1 + q.length=e' + (q.length + 1):=by omega
    refine hK _ (hN10 (m - 1,e',q++[(r 0).getD ((m:Int) - 1).toNat 0]) _ (by simp only [hl1];omega) (by simp only;omega) ?_)
    simp only [hl1,hmc,hec]
    exact Le_wa
   ·obtain ⟨e',rfl⟩:∃ e',cap'=e' + (q.length + 1):=⟨cap' - (q.length + 1),by omega⟩
    rw [Nat.add_sub_cancel,List.append_assoc,List.singleton_append,row_snoc]
    refine hK _ (hN13 _ (hB12 _ ?_))
    refine Aw_tx hE [0,3,4,10,11,12,13] [72,79,95,99,700,701,710,711,712,713,714,720,721,722,723,724,740] fun K hK=>?_
    simp only [go_sem,seval]
    repeat refine sd0 ?_
    have hl1:(q++[(r 0).getD ((m:Int) - 1).toNat 0]).length=q.length + 1:=by simp
    have hmc:((m - 1:Nat):Int)=(m:Int) - 1:=by omega
    have hec:e' + 1 + q.length=e' + (q.length + 1):=by omega
    refine hK _ (hN10 (m - 1,e',q++[(r 0).getD ((m:Int) - 1).toNat 0]) _ (by simp only [hl1];omega) (by simp only;omega) ?_)
    simp only [hl1,hmc,hec]
    refine (Le_swb _ 95 740 (by decide) (by decide)).trans ?_
    simp only [St.swb,swbσ,swbm,AV.swb,AV.swbAll,swp,jN_swb,row_swb,Nat.reduceEqDiff,if_true,if_false,reduceIte]
    exact Le_wa
  ·simp only [dfn] at hc38
   have hq:q.length=2:=by omega
   refine Aw_exit (hX11 _ _ (hX10 _ _ (hE9 _ (hB8 _ ?_))))
   refine Aw_tx hE [0,3,4,10,11] [72,79,95,99,700,701,710,711,712,713,714,720,721,722,723,724,740] fun K hK=>?_
   simp only [go_sem,seval,hq]
   refine ⟨fun h=>?_,fun h cap' hcap'=>?_⟩
   ·obtain ⟨c1,rfl⟩:∃ c1,c'=c1 + 1:=⟨c' - 1,by omega⟩
    simp only [jN_s,List.set_cons_zero]
    refine hK _ (hN7 _ (hB6 _ ?_))
    refine Aw_tx hE [0,3,4,10,11] [72,79,95,99,700,701,710,711,712,713,714,720,721,722,723,724,740] fun K hK=>?_
    simp only [go_sem,seval]
    repeat refine sd0 ?_
    refine hK _ (hN4 (2,c1,put d' 1 e,put r' 1 q) _ ⟨by omega,put_len hr' hq⟩ (by simp only;omega) ?_)
    refine (Le_swb _ 740 721 (by decide) (by decide)).trans ?_
    simp only [St.swb,swbσ,swbm,AV.swb,AV.swbAll,swp,jN_swb,row_swb,Nat.reduceEqDiff,if_true,if_false,reduceIte]
    exact Le_wc (by simp only [go_sem,seval,put,Nat.add_assoc]) (by simp only [go_sem,seval,put])
   ·obtain ⟨c1,rfl⟩:∃ c1,cap'=c1 + 2:=⟨cap' - 2,by omega⟩
    rw [Nat.add_sub_cancel]
    refine hK _ (hN7 _ (hB6 _ ?_))
    refine Aw_tx hE [0,3,4,10,11] [72,79,95,99,700,701,710,711,712,713,714,720,721,722,723,724,740] fun K hK=>?_
    simp only [go_sem,seval]
    repeat refine sd0 ?_
    refine hK _ (hN4 (2,c1,put d' 1 e,put r' 1 q) _ ⟨by omega,put_len hr' hq⟩ (by simp only;omega) ?_)
    refine (Le_swb _ 740 721 (by decide) (by decide)).trans ?_
    simp only [St.swb,swbσ,swbm,AV.swb,AV.swbAll,swp,jN_swb,row_swb,Nat.reduceEqDiff,if_true,if_false,reduceIte]
    refine (Le_swb _ 99 701 (by decide) (by decide)).trans ?_
    simp only [St.swb,swbσ,swbm,AV.swb,AV.swbAll,swp,jN_swb,row_swb,Nat.reduceEqDiff,if_true,if_false,reduceIte]
    exact Le_wc (by simp only [go_sem,seval,put,Nat.add_assoc]) (by simp only [go_sem,seval,put])
set_option maxHeartbeats 16000000 in
theorem relsR3 {E:En} (hE:TbOk E tbRels) {k:Nat} (hk:k + 40≤1099511627776) {Q:Exit→St→Prop} (hQ:∀ (L:List (List Int)) (rn:Nat),(2≤L.length∧L.length≤5)→(∀ w ∈ L,w.length=L.length)→rn≤k + 40→Aw E .ret ⟨111,[(2,wsl L)],[],rn⟩ Q) {r:Nat→List Int} (hr:∀ q,(r q).length=3) {d:Nat→Nat} {c rn:Nat} (hrn:rn≤k + 29):Aw E (seqB (seqB (seqB (seqB (seqB (seqB (Tryd.f30.body.getD .skip))))))) ⟨111,[(0,.rd),(3,iv 3),(4,.xs 700 0 3 (c + 3) 1)],(700,vws 3 d 710 3++jN c)::bxs 3 d r 710 3,rn⟩ Q:=by
 have hr0:=hr 0
 have hr1:=hr 1
 have hr2:=hr 2
 refine Aw_sqJ (fun i:(Nat→Nat) × (Nat→List Int) × Nat × Nat=>⟨111,[(0,.rd),(4,.xs 700 0 3 (i.2.2.1 + 3) 1)],(700,vws 3 i.1 710 3++jN i.2.2.1)::bxs 3 i.1 i.2.1 710 3,i.2.2.2⟩) (fun i=>(∀ x,(i.2.1 x).length=3)∧i.2.2.2≤k + 30) (fun i hi=>relsT3 hE hk hQ hi.1 hi.2) fun B1 hB1 hR1 hX1=>?_
 refine Aw_st hE [0,3,4,71] [72,79,95,99,700,701,710,711,712,713,714,720,721,722,723,724,740] fun K hK=>?_
 simp only [go_sem,seval]
 refine ⟨by omega,fun x hx1 hx2=>?_⟩
 refine hK _ (Aw_cond rfl (fun hc=>?_) (fun hc=>?_))
 rotate_left
 ·exact Aw_skip (hB1 (d,r,c,rn + 1) _ ⟨hr,by simp only;omega⟩ (LeE_of (Le_wa)))
 refine Aw_st hE [0,3,4,10] [72,79,95,99,700,701,710,711,712,713,714,720,721,722,723,724,740] fun K hK=>?_
 simp only [go_sem,seval]
 refine hK _ ?_;clear hK K
 refine Aw_sq fun B2 hB2 hR2 hX2=>?_
 refine Aw_st hE [0,3,4,10,11] [72,79,95,99,700,701,710,711,712,713,714,720,721,722,723,724,740] fun K hK=>?_
 simp only [go_sem,seval]
 refine hK _ ?_;clear hK K
 refine Aw_bk fun B3 hN3 hE3 hR3 hX3=>?_
 refine Aw_lp (fun i:Nat × Nat × (Nat→Nat) × (Nat→List Int)=>⟨111,[(0,.rd),(3,iv 3),(4,.xs 700 0 3 (c + 3) 1),(10,.xs 701 0 i.1 (i.2.1 + i.1) 1),(11,iv ((3:Int) - 1 - (i.1:Int)))],(700,vws 3 d 710 3++jN c)::(701,vws 3 i.2.2.1 720 i.1++jN i.2.1)::(bxs 3 d r 710 3++bxs 3 i.2.2.1 i.2.2.2 720 i.1),rn + 1⟩) (fun i=>i.1≤3∧∀ x,(i.2.2.2 x).length=3) (fun i=>3 - i.1) (0,0,d,r) ?_ ⟨by omega,hr⟩ fun i hi B4 hN4 hR4 hX4=>?_
 ·refine (Le_swb _ 72 701 (by decide) (by decide)).trans ?_
  simp only [St.swb,swbσ,swbm,AV.swb,AV.swbAll,swp,jN_swb,row_swb,Nat.reduceEqDiff,if_true,if_false,reduceIte]
  exact Le_wa
 obtain ⟨i,c',d',r'⟩:=i
 obtain ⟨hi,hr'⟩:=hi
 simp only at hi hr'
 refine Aw_sq fun B5 hB5 hR5 hX5=>?_
 rcases (show i=3∨i=0∨i=1∨i=2 by omega) with rfl | rfl | rfl | rfl
 ·refine Aw_st hE [0,3,4,10,11,76] [72,79,95,99,700,701,710,711,712,713,714,720,721,722,723,724,740] fun K hK=>?_
  simp only [go_sem,seval]
  refine hK _ (Aw_no rfl (Aw_exit (hX5 _ _ (hX4 _ _ (hE3 _ (hB2 _ ?_))))))
  refine Aw_tx hE [0,4] [72,79,95,99,700,701,710,711,712,713,714,720,721,722,723,724,740] fun K hK=>?_
  simp only [go_sem,seval]
  refine hK _ (hB1 (d',r',c',rn + 1) _ ⟨hr',by simp only;omega⟩ (LeE_of ?_))
  refine (Le_swb _ 701 700 (by decide) (by decide)).trans ((Le_swb _ 720 710 (by decide) (by decide)).trans ((Le_swb _ 721 711 (by decide) (by decide)).trans ((Le_swb _ 722 712 (by decide) (by decide)).trans ?_)))
  simp only [St.swb,swbσ,swbm,AV.swb,AV.swbAll,swp,jN_swb,row_swb,Nat.reduceEqDiff,if_true,if_false,reduceIte]
  exact Le_wa
 ·refine Aw_st hE [0,3,4,10,11,76] [72,79,95,99,700,701,710,711,712,713,714,720,721,722,723,724,740] fun K hK=>?_
  simp only [go_sem,seval]
  refine hK _ (Aw_yes rfl (Aw_skip (hB5 _ ?_)))
  refine Aw_sq fun B6 hB6 hR6 hX6=>?_
  refine Aw_bk fun B7 hN7 hE7 hR7 hX7=>?_
  refine Aw_st hE [0,3,4,10,11,12] [72,79,95,99,700,701,710,711,712,713,714,720,721,722,723,724,740] fun K hK=>?_
  simp only [go_sem,seval]
  refine hK _ ?_;clear hK K
  refine Aw_sq fun B8 hB8 hR8 hX8=>?_
  refine Aw_st hE [0,3,4,10,11,12,13] [72,79,95,99,700,701,710,711,712,713,714,720,721,722,723,724,740] fun K hK=>?_
  simp only [go_sem,seval]
  refine hK _ ?_;clear hK K
  refine Aw_bk fun B9 hN9 hE9 hR9 hX9=>?_
  refine Aw_lp (fun j:Nat × Nat × List Int=>⟨111,[(0,.rd),(3,iv 3),(4,.xs 700 0 3 (c + 3) 1),(10,.xs 701 0 0 (c' + 0) 1),(11,iv 2),(12,.xs 740 0 j.2.2.length (j.2.1 + j.2.2.length) 1),(13,iv ((j.1:Int) - 1))],(740,cI j.2.2++jN j.2.1)::(700,vws 3 d 710 3++jN c)::(701,vws 3 d' 720 0++jN c')::(bxs 3 d r 710 3++bxs 3 d' r' 720 0),rn + 1⟩) (fun j=>j.2.2.length + j.1=3) (fun j=>j.1) (3,0,[]) ?_ (by simp) fun j hj B10 hN10 hR10 hX10=>?_
  ·refine (Le_swb _ 79 740 (by decide) (by decide)).trans ?_
   simp only [St.swb,swbσ,swbm,AV.swb,AV.swbAll,swp,jN_swb,row_swb,Nat.reduceEqDiff,if_true,if_false,reduceIte]
   exact Le_wa
  obtain ⟨m,e,q⟩:=j
  simp only at hj
  refine Aw_sq fun B11 hB11 hR11 hX11=>?_
  refine Aw_st hE [0,3,4,10,11,12,13,83] [72,79,95,99,700,701,710,711,712,713,714,720,721,722,723,724,740] fun K hK=>?_
  simp only [go_sem,seval]
  refine hK _ (Aw_cond rfl (fun hc38=>?_) (fun hc38=>?_))
  ·simp only [dte] at hc38
   have hg:=rowI_drop (r 2) (d 2) ((m:Int) - 1).toNat (by omega)
   refine Aw_skip (hB11 _ ?_)
   refine Aw_sq fun B12 hB12 hR12 hX12=>?_
   refine Aw_bk fun B13 hN13 hE13 hR13 hX13=>?_
   refine Aw_tx hE [0,3,4,10,11,12,13] [72,79,95,99,700,701,710,711,712,713,714,720,721,722,723,724,740] fun K hK=>?_
   simp only [go_sem,seval,hg]
   refine ⟨⟨by omega,by omega⟩,⟨by omega,by omega⟩,fun h=>?_,fun h cap' hcap'=>?_⟩
   ·obtain ⟨e',rfl⟩:∃ e',e=e' + 1:=⟨e - 1,by omega⟩
    rw [row_put]
    refine hK _ (hN13 _ (hB12 _ ?_))
    refine Aw_tx hE [0,3,4,10,11,12,13] [72,79,95,99,700,701,710,711,712,713,714,720,721,722,723,724,740] fun K hK=>?_
    simp only [go_sem,seval]
    repeat refine sd0 ?_
    have hl1:(q++[(r 2).getD ((m:Int) - 1).toNat 0]).length=q.length + 1:=by simp
    have hmc:((m - 1:Nat):Int)=(m:Int) - 1:=by omega
    have hec:e' + 1 + q.length=e' + (q.length + 1):=by omega
    refine hK _ (hN10 (m - 1,e',q++[(r 2).getD ((m:Int) - 1).toNat 0]) _ (by simp only [hl1];omega) (by simp only;omega) ?_)
    simp only [hl1,hmc,hec]
    exact Le_wa
   ·obtain ⟨e',rfl⟩:∃ e',cap'=e' + (q.length + 1):=⟨cap' - (q.length + 1),by omega⟩
    rw [Nat.add_sub_cancel,List.append_assoc,List.singleton_append,row_snoc]
    refine hK _ (hN13 _ (hB12 _ ?_))
    refine Aw_tx hE [0,3,4,10,11,12,13] [72,79,95,99,700,701,710,711,712,713,714,720,721,722,723,724,740] fun K hK=>?_
    simp only [go_sem,seval]
    repeat refine sd0 ?_
    have hl1:(q++[(r 2).getD ((m:Int) - 1).toNat 0]).length=q.length + 1:=by simp
    have hmc:((m - 1:Nat):Int)=(m:Int) - 1:=by omega
    have hec:e' + 1 + q.length=e' + (q.length + 1):=by omega
    refine hK _ (hN10 (m - 1,e',q++[(r 2).getD ((m:Int) - 1).toNat 0]) _ (by simp only [hl1];omega) (by simp only;omega) ?_)
    simp only [hl1,hmc,hec]
    refine (Le_swb _ 95 740 (by decide) (by decide)).trans ?_
    simp only [St.swb,swbσ,swbm,AV.swb,AV.swbAll,swp,jN_swb,row_swb,Nat.reduceEqDiff,if_true,if_false,reduceIte]
    exact Le_wa
  ·simp only [dfn] at hc38
   have hq:q.length=3:=by omega
   refine Aw_exit (hX11 _ _ (hX10 _ _ (hE9 _ (hB8 _ ?_))))
   refine Aw_tx hE [0,3,4,10,11] [72,79,95,99,700,701,710,711,712,713,714,720,721,722,723,724,740] fun K hK=>?_
   simp only [go_sem,seval,hq]
   refine ⟨fun h=>?_,fun h cap' hcap'=>?_⟩
   ·obtain ⟨c1,rfl⟩:∃ c1,c'=c1 + 1:=⟨c' - 1,by omega⟩
    simp only [jN_s,List.set_cons_zero]
    refine hK _ (hN7 _ (hB6 _ ?_))
    refine Aw_tx hE [0,3,4,10,11] [72,79,95,99,700,701,710,711,712,713,714,720,721,722,723,724,740] fun K hK=>?_
    simp only [go_sem,seval]
    repeat refine sd0 ?_
    refine hK _ (hN4 (1,c1,put d' 0 e,put r' 0 q) _ ⟨by omega,put_len hr' hq⟩ (by simp only;omega) ?_)
    refine (Le_swb _ 740 720 (by decide) (by decide)).trans ?_
    simp only [St.swb,swbσ,swbm,AV.swb,AV.swbAll,swp,jN_swb,row_swb,Nat.reduceEqDiff,if_true,if_false,reduceIte]
    exact Le_wc (by simp only [go_sem,seval,put,Nat.add_assoc]) (by simp only [go_sem,seval,put])
   ·obtain ⟨c1,rfl⟩:∃ c1,cap'=c1 + 1:=⟨cap' - 1,by omega⟩
    rw [Nat.add_sub_cancel]
    refine hK _ (hN7 _ (hB6 _ ?_))
    refine Aw_tx hE [0,3,4,10,11] [72,79,95,99,700,701,710,711,712,713,714,720,721,722,723,724,740] fun K hK=>?_
    simp only [go_sem,seval]
    repeat refine sd0 ?_
    refine hK _ (hN4 (1,c1,put d' 0 e,put r' 0 q) _ ⟨by omega,put_len hr' hq⟩ (by simp only;omega) ?_)
    refine (Le_swb _ 740 720 (by decide) (by decide)).trans ?_
    simp only [St.swb,swbσ,swbm,AV.swb,AV.swbAll,swp,jN_swb,row_swb,Nat.reduceEqDiff,if_true,if_false,reduceIte]
    refine (Le_swb _ 99 701 (by decide) (by decide)).trans ?_
    simp only [St.swb,swbσ,swbm,AV.swb,AV.swbAll,swp,jN_swb,row_swb,Nat.reduceEqDiff,if_true,if_false,reduceIte]
    exact Le_wc (by simp only [go_sem,seval,put,Nat.add_assoc]) (by simp only [go_sem,seval,put])
 ·refine Aw_st hE [0,3,4,10,11,76] [72,79,95,99,700,701,710,711,712,713,714,720,721,722,723,724,740] fun K hK=>?_
  simp only [go_sem,seval]
  refine hK _ (Aw_yes rfl (Aw_skip (hB5 _ ?_)))
  refine Aw_sq fun B6 hB6 hR6 hX6=>?_
  refine Aw_bk fun B7 hN7 hE7 hR7 hX7=>?_
  refine Aw_st hE [0,3,4,10,11,12] [72,79,95,99,700,701,710,711,712,713,714,720,721,722,723,724,740] fun K hK=>?_
  simp only [go_sem,seval]
  refine hK _ ?_;clear hK K
  refine Aw_sq fun B8 hB8 hR8 hX8=>?_
  refine Aw_st hE [0,3,4,10,11,12,13] [72,79,95,99,700,701,710,711,712,713,714,720,721,722,723,724,740] fun K hK=>?_
  simp only [go_sem,seval]
  refine hK _ ?_;clear hK K
  refine Aw_bk fun B9 hN9 hE9 hR9 hX9=>?_
  refine Aw_lp (fun j:Nat × Nat × List Int=>⟨111,[(0,.rd),(3,iv 3),(4,.xs 700 0 3 (c + 3) 1),(10,.xs 701 0 1 (c' + 1) 1),(11,iv 1),(12,.xs 740 0 j.2.2.length (j.2.1 + j.2.2.length) 1),(13,iv ((j.1:Int) - 1))],(740,cI j.2.2++jN j.2.1)::(700,vws 3 d 710 3++jN c)::(701,vws 3 d' 720 1++jN c')::(bxs 3 d r 710 3++bxs 3 d' r' 720 1),rn + 1⟩) (fun j=>j.2.2.length + j.1=3) (fun j=>j.1) (3,0,[]) ?_ (by simp) fun j hj B10 hN10 hR10 hX10=>?_
  ·refine (Le_swb _ 79 740 (by decide) (by decide)).trans ?_
   simp only [St.swb,swbσ,swbm,AV.swb,AV.swbAll,swp,jN_swb,row_swb,Nat.reduceEqDiff,if_true,if_false,reduceIte]
   exact Le_wa
  obtain ⟨m,e,q⟩:=j
  simp only at hj
  refine Aw_sq fun B11 hB11 hR11 hX11=>?_
  refine Aw_st hE [0,3,4,10,11,12,13,83] [72,79,95,99,700,701,710,711,712,713,714,720,721,722,723,724,740] fun K hK=>?_
  simp only [go_sem,seval]
  refine hK _ (Aw_cond rfl (fun hc38=>?_) (fun hc38=>?_))
  ·simp only [dte] at hc38
   have hg:=rowI_drop (r 1) (d 1) ((m:Int) - 1).toNat (by omega)
   refine Aw_skip (hB11 _ ?_)
   refine Aw_sq fun B12 hB12 hR12 hX12=>?_
   refine Aw_bk fun B13 hN13 hE13 hR13 hX13=>?_
   refine Aw_tx hE [0,3,4,10,11,12,13] [72,79,95,99,700,701,710,711,712,713,714,720,721,722,723,724,740] fun K hK=>?_
   simp only [go_sem,seval,hg]
   refine ⟨⟨by omega,by omega⟩,⟨by omega,by omega⟩,fun h=>?_,fun h cap' hcap'=>?_⟩
   ·obtain ⟨e',rfl⟩:∃ e',e=e' + 1:=⟨e - 1,by omega⟩
    rw [row_put]
    refine hK _ (hN13 _ (hB12 _ ?_))
    refine Aw_tx hE [0,3,4,10,11,12,13] [72,79,95,99,700,701,710,711,712,713,714,720,721,722,723,724,740] fun K hK=>?_
    simp only [go_sem,seval]
    repeat refine sd0 ?_
    have hl1:(q++[(r 1).getD ((m:Int) - 1).toNat 0]).length=q.length + 1:=by simp
    have hmc:((m - 1:Nat):Int)=(m:Int) - 1:=by omega
    have hec:e' + 1 + q.length=e' + (q.length + 1):=by omega
    refine hK _ (hN10 (m - 1,e',q++[(r 1).getD ((m:Int) - 1).toNat 0]) _ (by simp only [hl1];omega) (by simp only;omega) ?_)
    simp only [hl1,hmc,hec]
    exact Le_wa
   ·obtain ⟨e',rfl⟩:∃ e',cap'=e' + (q.length + 1):=⟨cap' - (q.length + 1),by omega⟩
    rw [Nat.add_sub_cancel,List.append_assoc,List.singleton_append,row_snoc]
    refine hK _ (hN13 _ (hB12 _ ?_))
    refine Aw_tx hE [0,3,4,10,11,12,13] [72,79,95,99,700,701,710,711,712,713,714,720,721,722,723,724,740] fun K hK=>?_
    simp only [go_sem,seval]
    repeat refine sd0 ?_
    have hl1:(q++[(r 1).getD ((m:Int) - 1).toNat 0]).length=q.length + 1:=by simp
    have hmc:((m - 1:Nat):Int)=(m:Int) - 1:=by omega
    have hec:e' + 1 + q.length=e' + (q.length + 1):=by omega
    refine hK _ (hN10 (m - 1,e',q++[(r 1).getD ((m:Int) - 1).toNat 0]) _ (by simp only [hl1];omega) (by simp only;omega) ?_)
    simp only [hl1,hmc,hec]
    refine (Le_swb _ 95 740 (by decide) (by decide)).trans ?_
    simp only [St.swb,swbσ,swbm,AV.swb,AV.swbAll,swp,jN_swb,row_swb,Nat.reduceEqDiff,if_true,if_false,reduceIte]
    exact Le_wa
  ·simp only [dfn] at hc38
   have hq:q.length=3:=by omega
   refine Aw_exit (hX11 _ _ (hX10 _ _ (hE9 _ (hB8 _ ?_))))
   refine Aw_tx hE [0,3,4,10,11] [72,79,95,99,700,701,710,711,712,713,714,720,721,722,723,724,740] fun K hK=>?_
   simp only [go_sem,seval,hq]
   refine ⟨fun h=>?_,fun h cap' hcap'=>?_⟩
   ·obtain ⟨c1,rfl⟩:∃ c1,c'=c1 + 1:=⟨c' - 1,by omega⟩
    simp only [jN_s,List.set_cons_zero]
    refine hK _ (hN7 _ (hB6 _ ?_))
    refine Aw_tx hE [0,3,4,10,11] [72,79,95,99,700,701,710,711,712,713,714,720,721,722,723,724,740] fun K hK=>?_
    simp only [go_sem,seval]
    repeat refine sd0 ?_
    refine hK _ (hN4 (2,c1,put d' 1 e,put r' 1 q) _ ⟨by omega,put_len hr' hq⟩ (by simp only;omega) ?_)
    refine (Le_swb _ 740 721 (by decide) (by decide)).trans ?_
    simp only [St.swb,swbσ,swbm,AV.swb,AV.swbAll,swp,jN_swb,row_swb,Nat.reduceEqDiff,if_true,if_false,reduceIte]
    exact Le_wc (by simp only [go_sem,seval,put,Nat.add_assoc]) (by simp only [go_sem,seval,put])
   ·obtain ⟨c1,rfl⟩:∃ c1,cap'=c1 + 2:=⟨cap' - 2,by omega⟩
    rw [Nat.add_sub_cancel]
    refine hK _ (hN7 _ (hB6 _ ?_))
    refine Aw_tx hE [0,3,4,10,11] [72,79,95,99,700,701,710,711,712,713,714,720,721,722,723,724,740] fun K hK=>?_
    simp only [go_sem,seval]
    repeat refine sd0 ?_
    refine hK _ (hN4 (2,c1,put d' 1 e,put r' 1 q) _ ⟨by omega,put_len hr' hq⟩ (by simp only;omega) ?_)
    refine (Le_swb _ 740 721 (by decide) (by decide)).trans ?_
    simp only [St.swb,swbσ,swbm,AV.swb,AV.swbAll,swp,jN_swb,row_swb,Nat.reduceEqDiff,if_true,if_false,reduceIte]
    refine (Le_swb _ 99 701 (by decide) (by decide)).trans ?_
    simp only [St.swb,swbσ,swbm,AV.swb,AV.swbAll,swp,jN_swb,row_swb,Nat.reduceEqDiff,if_true,if_false,reduceIte]
    exact Le_wc (by simp only [go_sem,seval,put,Nat.add_assoc]) (by simp only [go_sem,seval,put])
 ·refine Aw_st hE [0,3,4,10,11,76] [72,79,95,99,700,701,710,711,712,713,714,720,721,722,723,724,740] fun K hK=>?_
  simp only [go_sem,seval]
  refine hK _ (Aw_yes rfl (Aw_skip (hB5 _ ?_)))
  refine Aw_sq fun B6 hB6 hR6 hX6=>?_
  refine Aw_bk fun B7 hN7 hE7 hR7 hX7=>?_
  refine Aw_st hE [0,3,4,10,11,12] [72,79,95,99,700,701,710,711,712,713,714,720,721,722,723,724,740] fun K hK=>?_
  simp only [go_sem,seval]
  refine hK _ ?_;clear hK K
  refine Aw_sq fun B8 hB8 hR8 hX8=>?_
  refine Aw_st hE [0,3,4,10,11,12,13] [72,79,95,99,700,701,710,711,712,713,714,720,721,722,723,724,740] fun K hK=>?_
  simp only [go_sem,seval]
  refine hK _ ?_;clear hK K
  refine Aw_bk fun B9 hN9 hE9 hR9 hX9=>?_
  refine Aw_lp (fun j:Nat × Nat × List Int=>⟨111,[(0,.rd),(3,iv 3),(4,.xs 700 0 3 (c + 3) 1),(10,.xs 701 0 2 (c' + 2) 1),(11,iv 0),(12,.xs 740 0 j.2.2.length (j.2.1 + j.2.2.length) 1),(13,iv ((j.1:Int) - 1))],(740,cI j.2.2++jN j.2.1)::(700,vws 3 d 710 3++jN c)::(701,vws 3 d' 720 2++jN c')::(bxs 3 d r 710 3++bxs 3 d' r' 720 2),rn + 1⟩) (fun j=>j.2.2.length + j.1=3) (fun j=>j.1) (3,0,[]) ?_ (by simp) fun j hj B10 hN10 hR10 hX10=>?_
  ·refine (Le_swb _ 79 740 (by decide) (by decide)).trans ?_
   simp only [St.swb,swbσ,swbm,AV.swb,AV.swbAll,swp,jN_swb,row_swb,Nat.reduceEqDiff,if_true,if_false,reduceIte]
   exact Le_wa
  obtain ⟨m,e,q⟩:=j
  simp only at hj
  refine Aw_sq fun B11 hB11 hR11 hX11=>?_
  refine Aw_st hE [0,3,4,10,11,12,13,83] [72,79,95,99,700,701,710,711,712,713,714,720,721,722,723,724,740] fun K hK=>?_
  simp only [go_sem,seval]
  refine hK _ (Aw_cond rfl (fun hc38=>?_) (fun hc38=>?_))
  ·simp only [dte] at hc38
   have hg:=rowI_drop (r 0) (d 0) ((m:Int) - 1).toNat (by omega)
   refine Aw_skip (hB11 _ ?_)
   refine Aw_sq fun B12 hB12 hR12 hX12=>?_
   refine Aw_bk fun B13 hN13 hE13 hR13 hX13=>?_
   refine Aw_tx hE [0,3,4,10,11,12,13] [72,79,95,99,700,701,710,711,712,713,714,720,721,722,723,724,740] fun K hK=>?_
   simp only [go_sem,seval,hg]
   refine ⟨⟨by omega,by omega⟩,⟨by omega,by omega⟩,fun h=>?_,fun h cap' hcap'=>?_⟩
   ·obtain ⟨e',rfl⟩:∃ e',e=e' + 1:=⟨e - 1,by omega⟩
    rw [row_put]
    refine hK _ (hN13 _ (hB12 _ ?_))
    refine Aw_tx hE [0,3,4,10,11,12,13] [72,79,95,99,700,701,710,711,712,713,714,720,721,722,723,724,740] fun K hK=>?_
    simp only [go_sem,seval]
    repeat refine sd0 ?_
    have hl1:(q++[(r 0).getD ((m:Int) - 1).toNat 0]).length=q.length + 1:=by simp
    have hmc:((m - 1:Nat):Int)=(m:Int) - 1:=by omega
    have hec:e' + 1 + q.length=e' + (q.length + 1):=by omega
    refine hK _ (hN10 (m - 1,e',q++[(r 0).getD ((m:Int) - 1).toNat 0]) _ (by simp only [hl1];omega) (by simp only;omega) ?_)
    simp only [hl1,hmc,hec]
    exact Le_wa
   ·obtain ⟨e',rfl⟩:∃ e',cap'=e' + (q.length + 1):=⟨cap' - (q.length + 1),by omega⟩
    rw [Nat.add_sub_cancel,List.append_assoc,List.singleton_append,row_snoc]
    refine hK _ (hN13 _ (hB12 _ ?_))
    refine Aw_tx hE [0,3,4,10,11,12,13] [72,79,95,99,700,701,710,711,712,713,714,720,721,722,723,724,740] fun K hK=>?_
    simp only [go_sem,seval]
    repeat refine sd0 ?_
    have hl1:(q++[(r 0).getD ((m:Int) - 1).toNat 0]).length=q.length + 1:=by simp
    have hmc:((m - 1:Nat):Int)=(m:Int) - 1:=by omega
    have hec:e' + 1 + q.length=e' + (q.length + 1):=by omega
    refine hK _ (hN10 (m - 1,e',q++[(r 0).getD ((m:Int) - 1).toNat 0]) _ (by simp only [hl1];omega) (by simp only;omega) ?_)
    simp only [hl1,hmc,hec]
    refine (Le_swb _ 95 740 (by decide) (by decide)).trans ?_
    simp only [St.swb,swbσ,swbm,AV.swb,AV.swbAll,swp,jN_swb,row_swb,Nat.reduceEqDiff,if_true,if_false,reduceIte]
    exact Le_wa
  ·simp only [dfn] at hc38
   have hq:q.length=3:=by omega
   refine Aw_exit (hX11 _ _ (hX10 _ _ (hE9 _ (hB8 _ ?_))))
   refine Aw_tx hE [0,3,4,10,11] [72,79,95,99,700,701,710,711,712,713,714,720,721,722,723,724,740] fun K hK=>?_
   simp only [go_sem,seval,hq]
   refine ⟨fun h=>?_,fun h cap' hcap'=>?_⟩
   ·obtain ⟨c1,rfl⟩:∃ c1,c'=c1 + 1:=⟨c' - 1,by omega⟩
    simp only [jN_s,List.set_cons_zero]
    refine hK _ (hN7 _ (hB6 _ ?_))
    refine Aw_tx hE [0,3,4,10,11] [72,79,95,99,700,701,710,711,712,713,714,720,721,722,723,724,740] fun K hK=>?_
    simp only [go_sem,seval]
    repeat refine sd0 ?_
    refine hK _ (hN4 (3,c1,put d' 2 e,put r' 2 q) _ ⟨by omega,put_len hr' hq⟩ (by simp only;omega) ?_)
    refine (Le_swb _ 740 722 (by decide) (by decide)).trans ?_
    simp only [St.swb,swbσ,swbm,AV.swb,AV.swbAll,swp,jN_swb,row_swb,Nat.reduceEqDiff,if_true,if_false,reduceIte]
    exact Le_wc (by simp only [go_sem,seval,put,Nat.add_assoc]) (by simp only [go_sem,seval,put])
   ·obtain ⟨c1,rfl⟩:∃ c1,cap'=c1 + 3:=⟨cap' - 3,by omega⟩
    rw [Nat.add_sub_cancel]
    refine hK _ (hN7 _ (hB6 _ ?_))
    refine Aw_tx hE [0,3,4,10,11] [72,79,95,99,700,701,710,711,712,713,714,720,721,722,723,724,740] fun K hK=>?_
    simp only [go_sem,seval]
    repeat refine sd0 ?_
    refine hK _ (hN4 (3,c1,put d' 2 e,put r' 2 q) _ ⟨by omega,put_len hr' hq⟩ (by simp only;omega) ?_)
    refine (Le_swb _ 740 722 (by decide) (by decide)).trans ?_
    simp only [St.swb,swbσ,swbm,AV.swb,AV.swbAll,swp,jN_swb,row_swb,Nat.reduceEqDiff,if_true,if_false,reduceIte]
    refine (Le_swb _ 99 701 (by decide) (by decide)).trans ?_
    simp only [St.swb,swbσ,swbm,AV.swb,AV.swbAll,swp,jN_swb,row_swb,Nat.reduceEqDiff,if_true,if_false,reduceIte]
    exact Le_wc (by simp only [go_sem,seval,put,Nat.add_assoc]) (by simp only [go_sem,seval,put])
set_option maxHeartbeats 16000000 in
theorem relsR4 {E:En} (hE:TbOk E tbRels) {k:Nat} (hk:k + 40≤1099511627776) {Q:Exit→St→Prop} (hQ:∀ (L:List (List Int)) (rn:Nat),(2≤L.length∧L.length≤5)→(∀ w ∈ L,w.length=L.length)→rn≤k + 40→Aw E .ret ⟨111,[(2,wsl L)],[],rn⟩ Q) {r:Nat→List Int} (hr:∀ q,(r q).length=4) {d:Nat→Nat} {c rn:Nat} (hrn:rn≤k + 29):Aw E (seqB (seqB (seqB (seqB (seqB (seqB (Tryd.f30.body.getD .skip))))))) ⟨111,[(0,.rd),(3,iv 4),(4,.xs 700 0 4 (c + 4) 1)],(700,vws 4 d 710 4++jN c)::bxs 4 d r 710 4,rn⟩ Q:=by
 have hr0:=hr 0
 have hr1:=hr 1
 have hr2:=hr 2
 have hr3:=hr 3
 refine Aw_sqJ (fun i:(Nat→Nat) × (Nat→List Int) × Nat × Nat=>⟨111,[(0,.rd),(4,.xs 700 0 4 (i.2.2.1 + 4) 1)],(700,vws 4 i.1 710 4++jN i.2.2.1)::bxs 4 i.1 i.2.1 710 4,i.2.2.2⟩) (fun i=>(∀ x,(i.2.1 x).length=4)∧i.2.2.2≤k + 30) (fun i hi=>relsT4 hE hk hQ hi.1 hi.2) fun B1 hB1 hR1 hX1=>?_
 refine Aw_st hE [0,3,4,71] [72,79,95,99,700,701,710,711,712,713,714,720,721,722,723,724,740] fun K hK=>?_
 simp only [go_sem,seval]
 refine ⟨by omega,fun x hx1 hx2=>?_⟩
 refine hK _ (Aw_cond rfl (fun hc=>?_) (fun hc=>?_))
 rotate_left
 ·exact Aw_skip (hB1 (d,r,c,rn + 1) _ ⟨hr,by simp only;omega⟩ (LeE_of (Le_wa)))
 refine Aw_st hE [0,3,4,10] [72,79,95,99,700,701,710,711,712,713,714,720,721,722,723,724,740] fun K hK=>?_
 simp only [go_sem,seval]
 refine hK _ ?_;clear hK K
 refine Aw_sq fun B2 hB2 hR2 hX2=>?_
 refine Aw_st hE [0,3,4,10,11] [72,79,95,99,700,701,710,711,712,713,714,720,721,722,723,724,740] fun K hK=>?_
 simp only [go_sem,seval]
 refine hK _ ?_;clear hK K
 refine Aw_bk fun B3 hN3 hE3 hR3 hX3=>?_
 refine Aw_lp (fun i:Nat × Nat × (Nat→Nat) × (Nat→List Int)=>⟨111,[(0,.rd),(3,iv 4),(4,.xs 700 0 4 (c + 4) 1),(10,.xs 701 0 i.1 (i.2.1 + i.1) 1),(11,iv ((4:Int) - 1 - (i.1:Int)))],(700,vws 4 d 710 4++jN c)::(701,vws 4 i.2.2.1 720 i.1++jN i.2.1)::(bxs 4 d r 710 4++bxs 4 i.2.2.1 i.2.2.2 720 i.1),rn + 1⟩) (fun i=>i.1≤4∧∀ x,(i.2.2.2 x).length=4) (fun i=>4 - i.1) (0,0,d,r) ?_ ⟨by omega,hr⟩ fun i hi B4 hN4 hR4 hX4=>?_
 ·refine (Le_swb _ 72 701 (by decide) (by decide)).trans ?_
  simp only [St.swb,swbσ,swbm,AV.swb,AV.swbAll,swp,jN_swb,row_swb,Nat.reduceEqDiff,if_true,if_false,reduceIte]
  exact Le_wa
 obtain ⟨i,c',d',r'⟩:=i
 obtain ⟨hi,hr'⟩:=hi
 simp only at hi hr'
 refine Aw_sq fun B5 hB5 hR5 hX5=>?_
 rcases (show i=4∨i=0∨i=1∨i=2∨i=3 by omega) with rfl | rfl | rfl | rfl | rfl
 ·refine Aw_st hE [0,3,4,10,11,76] [72,79,95,99,700,701,710,711,712,713,714,720,721,722,723,724,740] fun K hK=>?_
  simp only [go_sem,seval]
  refine hK _ (Aw_no rfl (Aw_exit (hX5 _ _ (hX4 _ _ (hE3 _ (hB2 _ ?_))))))
  refine Aw_tx hE [0,4] [72,79,95,99,700,701,710,711,712,713,714,720,721,722,723,724,740] fun K hK=>?_
  simp only [go_sem,seval]
  refine hK _ (hB1 (d',r',c',rn + 1) _ ⟨hr',by simp only;omega⟩ (LeE_of ?_))
  refine (Le_swb _ 701 700 (by decide) (by decide)).trans ((Le_swb _ 720 710 (by decide) (by decide)).trans ((Le_swb _ 721 711 (by decide) (by decide)).trans ((Le_swb _ 722 712 (by decide) (by decide)).trans ((Le_swb _ 723 713 (by decide) (by decide)).trans ?_))))
  simp only [St.swb,swbσ,swbm,AV.swb,AV.swbAll,swp,jN_swb,row_swb,Nat.reduceEqDiff,if_true,if_false,reduceIte]
  exact Le_wa
 ·refine Aw_st hE [0,3,4,10,11,76] [72,79,95,99,700,701,710,711,712,713,714,720,721,722,723,724,740] fun K hK=>?_
  simp only [go_sem,seval]
  refine hK _ (Aw_yes rfl (Aw_skip (hB5 _ ?_)))
  refine Aw_sq fun B6 hB6 hR6 hX6=>?_
  refine Aw_bk fun B7 hN7 hE7 hR7 hX7=>?_
  refine Aw_st hE [0,3,4,10,11,12] [72,79,95,99,700,701,710,711,712,713,714,720,721,722,723,724,740] fun K hK=>?_
  simp only [go_sem,seval]
  refine hK _ ?_;clear hK K
  refine Aw_sq fun B8 hB8 hR8 hX8=>?_
  refine Aw_st hE [0,3,4,10,11,12,13] [72,79,95,99,700,701,710,711,712,713,714,720,721,722,723,724,740] fun K hK=>?_
  simp only [go_sem,seval]
  refine hK _ ?_;clear hK K
  refine Aw_bk fun B9 hN9 hE9 hR9 hX9=>?_
  refine Aw_lp (fun j:Nat × Nat × List Int=>⟨111,[(0,.rd),(3,iv 4),(4,.xs 700 0 4 (c + 4) 1),(10,.xs 701 0 0 (c' + 0) 1),(11,iv 3),(12,.xs 740 0 j.2.2.length (j.2.1 + j.2.2.length) 1),(13,iv ((j.1:Int) - 1))],(740,cI j.2.2++jN j.2.1)::(700,vws 4 d 710 4++jN c)::(701,vws 4 d' 720 0++jN c')::(bxs 4 d r 710 4++bxs 4 d' r' 720 0),rn + 1⟩) (fun j=>j.2.2.length + j.1=4) (fun j=>j.1) (4,0,[]) ?_ (by simp) fun j hj B10 hN10 hR10 hX10=>?_
  ·refine (Le_swb _ 79 740 (by decide) (by decide)).trans ?_
   simp only [St.swb,swbσ,swbm,AV.swb,AV.swbAll,swp,jN_swb,row_swb,Nat.reduceEqDiff,if_true,if_false,reduceIte]
   exact Le_wa
  obtain ⟨m,e,q⟩:=j
  simp only at hj
  refine Aw_sq fun B11 hB11 hR11 hX11=>?_
  refine Aw_st hE [0,3,4,10,11,12,13,83] [72,79,95,99,700,701,710,711,712,713,714,720,721,722,723,724,740] fun K hK=>?_
  simp only [go_sem,seval]
  refine hK _ (Aw_cond rfl (fun hc38=>?_) (fun hc38=>?_))
  ·simp only [dte] at hc38
   have hg:=rowI_drop (r 3) (d 3) ((m:Int) - 1).toNat (by omega)
   refine Aw_skip (hB11 _ ?_)
   refine Aw_sq fun B12 hB12 hR12 hX12=>?_
   refine Aw_bk fun B13 hN13 hE13 hR13 hX13=>?_
   refine Aw_tx hE [0,3,4,10,11,12,13] [72,79,95,99,700,701,710,711,712,713,714,720,721,722,723,724,740] fun K hK=>?_
   simp only [go_sem,seval,hg]
   refine ⟨⟨by omega,by omega⟩,⟨by omega,by omega⟩,fun h=>?_,fun h cap' hcap'=>?_⟩
   ·obtain ⟨e',rfl⟩:∃ e',e=e' + 1:=⟨e - 1,by omega⟩
    rw [row_put]
    refine hK _ (hN13 _ (hB12 _ ?_))
    refine Aw_tx hE [0,3,4,10,11,12,13] [72,79,95,99,700,701,710,711,712,713,714,720,721,722,723,724,740] fun K hK=>?_
    simp only [go_sem,seval]
    repeat refine sd0 ?_
    have hl1:(q++[(r 3).getD ((m:Int) - 1).toNat 0]).length=q.length + 1:=by simp
    have hmc:((m - 1:Nat):Int)=(m:Int) - 1:=by omega
    have hec:e' + 1 + q.length=e' + (q.length + 1):=by omega
    refine hK _ (hN10 (m - 1,e',q++[(r 3).getD ((m:Int) - 1).toNat 0]) _ (by simp only [hl1];omega) (by simp only;omega) ?_)
    simp only [hl1,hmc,hec]
    exact Le_wa
   ·obtain ⟨e',rfl⟩:∃ e',cap'=e' + (q.length + 1):=⟨cap' - (q.length + 1),by omega⟩
    rw [Nat.add_sub_cancel,List.append_assoc,List.singleton_append,row_snoc]
    refine hK _ (hN13 _ (hB12 _ ?_))
    refine Aw_tx hE [0,3,4,10,11,12,13] [72,79,95,99,700,701,710,711,712,713,714,720,721,722,723,724,740] fun K hK=>?_
    simp only [go_sem,seval]
    repeat refine sd0 ?_
    have hl1:(q++[(r 3).getD ((m:Int) - 1).toNat 0]).length=q.length + 1:=by simp
    have hmc:((m - 1:Nat):Int)=(m:Int) - 1:=by omega
    have hec:e' + 1 + q.length=e' + (q.length + 1):=by omega
    refine hK _ (hN10 (m - 1,e',q++[(r 3).getD ((m:Int) - 1).toNat 0]) _ (by simp only [hl1];omega) (by simp only;omega) ?_)
    simp only [hl1,hmc,hec]
    refine (Le_swb _ 95 740 (by decide) (by decide)).trans ?_
    simp only [St.swb,swbσ,swbm,AV.swb,AV.swbAll,swp,jN_swb,row_swb,Nat.reduceEqDiff,if_true,if_false,reduceIte]
    exact Le_wa
  ·simp only [dfn] at hc38
   have hq:q.length=4:=by omega
   refine Aw_exit (hX11 _ _ (hX10 _ _ (hE9 _ (hB8 _ ?_))))
   refine Aw_tx hE [0,3,4,10,11] [72,79,95,99,700,701,710,711,712,713,714,720,721,722,723,724,740] fun K hK=>?_
   simp only [go_sem,seval,hq]
   refine ⟨fun h=>?_,fun h cap' hcap'=>?_⟩
   ·obtain ⟨c1,rfl⟩:∃ c1,c'=c1 + 1:=⟨c' - 1,by omega⟩
    simp only [jN_s,List.set_cons_zero]
    refine hK _ (hN7 _ (hB6 _ ?_))
    refine Aw_tx hE [0,3,4,10,11] [72,79,95,99,700,701,710,711,712,713,714,720,721,722,723,724,740] fun K hK=>?_
    simp only [go_sem,seval]
    repeat refine sd0 ?_
    refine hK _ (hN4 (1,c1,put d' 0 e,put r' 0 q) _ ⟨by omega,put_len hr' hq⟩ (by simp only;omega) ?_)
    refine (Le_swb _ 740 720 (by decide) (by decide)).trans ?_
    simp only [St.swb,swbσ,swbm,AV.swb,AV.swbAll,swp,jN_swb,row_swb,Nat.reduceEqDiff,if_true,if_false,reduceIte]
    exact Le_wc (by simp only [go_sem,seval,put,Nat.add_assoc]) (by simp only [go_sem,seval,put])
   ·obtain ⟨c1,rfl⟩:∃ c1,cap'=c1 + 1:=⟨cap' - 1,by omega⟩
    rw [Nat.add_sub_cancel]
    refine hK _ (hN7 _ (hB6 _ ?_))
    refine Aw_tx hE [0,3,4,10,11] [72,79,95,99,700,701,710,711,712,713,714,720,721,722,723,724,740] fun K hK=>?_
    simp only [go_sem,seval]
    repeat refine sd0 ?_
    refine hK _ (hN4 (1,c1,put d' 0 e,put r' 0 q) _ ⟨by omega,put_len hr' hq⟩ (by simp only;omega) ?_)
    refine (Le_swb _ 740 720 (by decide) (by decide)).trans ?_
    simp only [St.swb,swbσ,swbm,AV.swb,AV.swbAll,swp,jN_swb,row_swb,Nat.reduceEqDiff,if_true,if_false,reduceIte]
    refine (Le_swb _ 99 701 (by decide) (by decide)).trans ?_
    simp only [St.swb,swbσ,swbm,AV.swb,AV.swbAll,swp,jN_swb,row_swb,Nat.reduceEqDiff,if_true,if_false,reduceIte]
    exact Le_wc (by simp only [go_sem,seval,put,Nat.add_assoc]) (by simp only [go_sem,seval,put])
 ·refine Aw_st hE [0,3,4,10,11,76] [72,79,95,99,700,701,710,711,712,713,714,720,721,722,723,724,740] fun K hK=>?_
  simp only [go_sem,seval]
  refine hK _ (Aw_yes rfl (Aw_skip (hB5 _ ?_)))
  refine Aw_sq fun B6 hB6 hR6 hX6=>?_
  refine Aw_bk fun B7 hN7 hE7 hR7 hX7=>?_
  refine Aw_st hE [0,3,4,10,11,12] [72,79,95,99,700,701,710,711,712,713,714,720,721,722,723,724,740] fun K hK=>?_
  simp only [go_sem,seval]
  refine hK _ ?_;clear hK K
  refine Aw_sq fun B8 hB8 hR8 hX8=>?_
  refine Aw_st hE [0,3,4,10,11,12,13] [72,79,95,99,700,701,710,711,712,713,714,720,721,722,723,724,740] fun K hK=>?_
  simp only [go_sem,seval]
  refine hK _ ?_;clear hK K
  refine Aw_bk fun B9 hN9 hE9 hR9 hX9=>?_
  refine Aw_lp (fun j:Nat × Nat × List Int=>⟨111,[(0,.rd),(3,iv 4),(4,.xs 700 0 4 (c + 4) 1),(10,.xs 701 0 1 (c' + 1) 1),(11,iv 2),(12,.xs 740 0 j.2.2.length (j.2.1 + j.2.2.length) 1),(13,iv ((j.1:Int) - 1))],(740,cI j.2.2++jN j.2.1)::(700,vws 4 d 710 4++jN c)::(701,vws 4 d' 720 1++jN c')::(bxs 4 d r 710 4++bxs 4 d' r' 720 1),rn + 1⟩) (fun j=>j.2.2.length + j.1=4) (fun j=>j.1) (4,0,[]) ?_ (by simp) fun j hj B10 hN10 hR10 hX10=>?_
  ·refine (Le_swb _ 79 740 (by decide) (by decide)).trans ?_
   simp only [St.swb,swbσ,swbm,AV.swb,AV.swbAll,swp,jN_swb,row_swb,Nat.reduceEqDiff,if_true,if_false,reduceIte]
   exact Le_wa
  obtain ⟨m,e,q⟩:=j
  simp only at hj
  refine Aw_sq fun B11 hB11 hR11 hX11=>?_
  refine Aw_st hE [0,3,4,10,11,12,13,83] [72,79,95,99,700,701,710,711,712,713,714,720,721,722,723,724,740] fun K hK=>?_
  simp only [go_sem,seval]
  refine hK _ (Aw_cond rfl (fun hc38=>?_) (fun hc38=>?_))
  ·simp only [dte] at hc38
   have hg:=rowI_drop (r 2) (d 2) ((m:Int) - 1).toNat (by omega)
   refine Aw_skip (hB11 _ ?_)
   refine Aw_sq fun B12 hB12 hR12 hX12=>?_
   refine Aw_bk fun B13 hN13 hE13 hR13 hX13=>?_
   refine Aw_tx hE [0,3,4,10,11,12,13] [72,79,95,99,700,701,710,711,712,713,714,720,721,722,723,724,740] fun K hK=>?_
   simp only [go_sem,seval,hg]
   refine ⟨⟨by omega,by omega⟩,⟨by omega,by omega⟩,fun h=>?_,fun h cap' hcap'=>?_⟩
   ·obtain ⟨e',rfl⟩:∃ e',e=e' + 1:=⟨e - 1,by omega⟩
    rw [row_put]
    refine hK _ (hN13 _ (hB12 _ ?_))
    refine Aw_tx hE [0,3,4,10,11,12,13] [72,79,95,99,700,701,710,711,712,713,714,720,721,722,723,724,740] fun K hK=>?_
    simp only [go_sem,seval]
    repeat refine sd0 ?_
    have hl1:(q++[(r 2).getD ((m:Int) - 1).toNat 0]).length=q.length + 1:=by simp
    have hmc:((m - 1:Nat):Int)=(m:Int) - 1:=by omega
    have hec:e' + 1 + q.length=e' + (q.length + 1):=by omega
    refine hK _ (hN10 (m - 1,e',q++[(r 2).getD ((m:Int) - 1).toNat 0]) _ (by simp only [hl1];omega) (by simp only;omega) ?_)
    simp only [hl1,hmc,hec]
    exact Le_wa
   ·obtain ⟨e',rfl⟩:∃ e',cap'=e' + (q.length + 1):=⟨cap' - (q.length + 1),by omega⟩
    rw [Nat.add_sub_cancel,List.append_assoc,List.singleton_append,row_snoc]
    refine hK _ (hN13 _ (hB12 _ ?_))
    refine Aw_tx hE [0,3,4,10,11,12,13] [72,79,95,99,700,701,710,711,712,713,714,720,721,722,723,724,740] fun K hK=>?_
    simp only [go_sem,seval]
    repeat refine sd0 ?_
    have hl1:(q++[(r 2).getD ((m:Int) - 1).toNat 0]).length=q.length + 1:=by simp
    have hmc:((m - 1:Nat):Int)=(m:Int) - 1:=by omega
    have hec:e' + 1 + q.length=e' + (q.length + 1):=by omega
    refine hK _ (hN10 (m - 1,e',q++[(r 2).getD ((m:Int) - 1).toNat 0]) _ (by simp only [hl1];omega) (by simp only;omega) ?_)
    simp only [hl1,hmc,hec]
    refine (Le_swb _ 95 740 (by decide) (by decide)).trans ?_
    simp only [St.swb,swbσ,swbm,AV.swb,AV.swbAll,swp,jN_swb,row_swb,Nat.reduceEqDiff,if_true,if_false,reduceIte]
    exact Le_wa
  ·simp only [dfn] at hc38
   have hq:q.length=4:=by omega
   refine Aw_exit (hX11 _ _ (hX10 _ _ (hE9 _ (hB8 _ ?_))))
   refine Aw_tx hE [0,3,4,10,11] [72,79,95,99,700,701,710,711,712,713,714,720,721,722,723,724,740] fun K hK=>?_
   simp only [go_sem,seval,hq]
   refine ⟨fun h=>?_,fun h cap' hcap'=>?_⟩
   ·obtain ⟨c1,rfl⟩:∃ c1,c'=c1 + 1:=⟨c' - 1,by omega⟩
    simp only [jN_s,List.set_cons_zero]
    refine hK _ (hN7 _ (hB6 _ ?_))
    refine Aw_tx hE [0,3,4,10,11] [72,79,95,99,700,701,710,711,712,713,714,720,721,722,723,724,740] fun K hK=>?_
    simp only [go_sem,seval]
    repeat refine sd0 ?_
    refine hK _ (hN4 (2,c1,put d' 1 e,put r' 1 q) _ ⟨by omega,put_len hr' hq⟩ (by simp only;omega) ?_)
    refine (Le_swb _ 740 721 (by decide) (by decide)).trans ?_
    simp only [St.swb,swbσ,swbm,AV.swb,AV.swbAll,swp,jN_swb,row_swb,Nat.reduceEqDiff,if_true,if_false,reduceIte]
    exact Le_wc (by simp only [go_sem,seval,put,Nat.add_assoc]) (by simp only [go_sem,seval,put])
   ·obtain ⟨c1,rfl⟩:∃ c1,cap'=c1 + 2:=⟨cap' - 2,by omega⟩
    rw [Nat.add_sub_cancel]
    refine hK _ (hN7 _ (hB6 _ ?_))
    refine Aw_tx hE [0,3,4,10,11] [72,79,95,99,700,701,710,711,712,713,714,720,721,722,723,724,740] fun K hK=>?_
    simp only [go_sem,seval]
    repeat refine sd0 ?_
    refine hK _ (hN4 (2,c1,put d' 1 e,put r' 1 q) _ ⟨by omega,put_len hr' hq⟩ (by simp only;omega) ?_)
    refine (Le_swb _ 740 721 (by decide) (by decide)).trans ?_
    simp only [St.swb,swbσ,swbm,AV.swb,AV.swbAll,swp,jN_swb,row_swb,Nat.reduceEqDiff,if_true,if_false,reduceIte]
    refine (Le_swb _ 99 701 (by decide) (by decide)).trans ?_
    simp only [St.swb,swbσ,swbm,AV.swb,AV.swbAll,swp,jN_swb,row_swb,Nat.reduceEqDiff,if_true,if_false,reduceIte]
    exact Le_wc (by simp only [go_sem,seval,put,Nat.add_assoc]) (by simp only [go_sem,seval,put])
 ·refine Aw_st hE [0,3,4,10,11,76] [72,79,95,99,700,701,710,711,712,713,714,720,721,722,723,724,740] fun K hK=>?_
  simp only [go_sem,seval]
  refine hK _ (Aw_yes rfl (Aw_skip (hB5 _ ?_)))
  refine Aw_sq fun B6 hB6 hR6 hX6=>?_
  refine Aw_bk fun B7 hN7 hE7 hR7 hX7=>?_
  refine Aw_st hE [0,3,4,10,11,12] [72,79,95,99,700,701,710,711,712,713,714,720,721,722,723,724,740] fun K hK=>?_
  simp only [go_sem,seval]
  refine hK _ ?_;clear hK K
  refine Aw_sq fun B8 hB8 hR8 hX8=>?_
  refine Aw_st hE [0,3,4,10,11,12,13] [72,79,95,99,700,701,710,711,712,713,714,720,721,722,723,724,740] fun K hK=>?_
  simp only [go_sem,seval]
  refine hK _ ?_;clear hK K
  refine Aw_bk fun B9 hN9 hE9 hR9 hX9=>?_
  refine Aw_lp (fun j:Nat × Nat × List Int=>⟨111,[(0,.rd),(3,iv 4),(4,.xs 700 0 4 (c + 4) 1),(10,.xs 701 0 2 (c' + 2) 1),(11,iv 1),(12,.xs 740 0 j.2.2.length (j.2.1 + j.2.2.length) 1),(13,iv ((j.1:Int) - 1))],(740,cI j.2.2++jN j.2.1)::(700,vws 4 d 710 4++jN c)::(701,vws 4 d' 720 2++jN c')::(bxs 4 d r 710 4++bxs 4 d' r' 720 2),rn + 1⟩) (fun j=>j.2.2.length + j.1=4) (fun j=>j.1) (4,0,[]) ?_ (by simp) fun j hj B10 hN10 hR10 hX10=>?_
  ·refine (Le_swb _ 79 740 (by decide) (by decide)).trans ?_
   simp only [St.swb,swbσ,swbm,AV.swb,AV.swbAll,swp,jN_swb,row_swb,Nat.reduceEqDiff,if_true,if_false,reduceIte]
   exact Le_wa
  obtain ⟨m,e,q⟩:=j
  simp only at hj
  refine Aw_sq fun B11 hB11 hR11 hX11=>?_
  refine Aw_st hE [0,3,4,10,11,12,13,83] [72,79,95,99,700,701,710,711,712,713,714,720,721,722,723,724,740] fun K hK=>?_
  simp only [go_sem,seval]
  refine hK _ (Aw_cond rfl (fun hc38=>?_) (fun hc38=>?_))
  ·simp only [dte] at hc38
   have hg:=rowI_drop (r 1) (d 1) ((m:Int) - 1).toNat (by omega)
   refine Aw_skip (hB11 _ ?_)
   refine Aw_sq fun B12 hB12 hR12 hX12=>?_
   refine Aw_bk fun B13 hN13 hE13 hR13 hX13=>?_
   refine Aw_tx hE [0,3,4,10,11,12,13] [72,79,95,99,700,701,710,711,712,713,714,720,721,722,723,724,740] fun K hK=>?_
   simp only [go_sem,seval,hg]
   refine ⟨⟨by omega,by omega⟩,⟨by omega,by omega⟩,fun h=>?_,fun h cap' hcap'=>?_⟩
   ·obtain ⟨e',rfl⟩:∃ e',e=e' + 1:=⟨e - 1,by omega⟩
    rw [row_put]
    refine hK _ (hN13 _ (hB12 _ ?_))
    refine Aw_tx hE [0,3,4,10,11,12,13] [72,79,95,99,700,701,710,711,712,713,714,720,721,722,723,724,740] fun K hK=>?_
    simp only [go_sem,seval]
    repeat refine sd0 ?_
    have hl1:(q++[(r 1).getD ((m:Int) - 1).toNat 0]).length=q.length + 1:=by simp
    have hmc:((m - 1:Nat):Int)=(m:Int) - 1:=by omega
    have hec:e' + 1 + q.length=e' + (q.length + 1):=by omega
    refine hK _ (hN10 (m - 1,e',q++[(r 1).getD ((m:Int) - 1).toNat 0]) _ (by simp only [hl1];omega) (by simp only;omega) ?_)
    simp only [hl1,hmc,hec]
    exact Le_wa
   ·obtain ⟨e',rfl⟩:∃ e',cap'=e' + (q.length + 1):=⟨cap' - (q.length + 1),by omega⟩
    rw [Nat.add_sub_cancel,List.append_assoc,List.singleton_append,row_snoc]
    refine hK _ (hN13 _ (hB12 _ ?_))
    refine Aw_tx hE [0,3,4,10,11,12,13] [72,79,95,99,700,701,710,711,712,713,714,720,721,722,723,724,740] fun K hK=>?_
    simp only [go_sem,seval]
    repeat refine sd0 ?_
    have hl1:(q++[(r 1).getD ((m:Int) - 1).toNat 0]).length=q.length + 1:=by simp
    have hmc:((m - 1:Nat):Int)=(m:Int) - 1:=by omega
    have hec:e' + 1 + q.length=e' + (q.length + 1):=by omega
    refine hK _ (hN10 (m - 1,e',q++[(r 1).getD ((m:Int) - 1).toNat 0]) _ (by simp only [hl1];omega) (by simp only;omega) ?_)
    simp only [hl1,hmc,hec]
    refine (Le_swb _ 95 740 (by decide) (by decide)).trans ?_
    simp only [St.swb,swbσ,swbm,AV.swb,AV.swbAll,swp,jN_swb,row_swb,Nat.reduceEqDiff,if_true,if_false,reduceIte]
    exact Le_wa
  ·simp only [dfn] at hc38
   have hq:q.length=4:=by omega
   refine Aw_exit (hX11 _ _ (hX10 _ _ (hE9 _ (hB8 _ ?_))))
   refine Aw_tx hE [0,3,4,10,11] [72,79,95,99,700,701,710,711,712,713,714,720,721,722,723,724,740] fun K hK=>?_
   simp only [go_sem,seval,hq]
   refine ⟨fun h=>?_,fun h cap' hcap'=>?_⟩
   ·obtain ⟨c1,rfl⟩:∃ c1,c'=c1 + 1:=⟨c' - 1,by omega⟩
    simp only [jN_s,List.set_cons_zero]
    refine hK _ (hN7 _ (hB6 _ ?_))
    refine Aw_tx hE [0,3,4,10,11] [72,79,95,99,700,701,710,711,712,713,714,720,721,722,723,724,740] fun K hK=>?_
    simp only [go_sem,seval]
    repeat refine sd0 ?_
    refine hK _ (hN4 (3,c1,put d' 2 e,put r' 2 q) _ ⟨by omega,put_len hr' hq⟩ (by simp only;omega) ?_)
    refine (Le_swb _ 740 722 (by decide) (by decide)).trans ?_
    simp only [St.swb,swbσ,swbm,AV.swb,AV.swbAll,swp,jN_swb,row_swb,Nat.reduceEqDiff,if_true,if_false,reduceIte]
    exact Le_wc (by simp only [go_sem,seval,put,Nat.add_assoc]) (by simp only [go_sem,seval,put])
   ·obtain ⟨c1,rfl⟩:∃ c1,cap'=c1 + 3:=⟨cap' - 3,by omega⟩
    rw [Nat.add_sub_cancel]
    refine hK _ (hN7 _ (hB6 _ ?_))
    refine Aw_tx hE [0,3,4,10,11] [72,79,95,99,700,701,710,711,712,713,714,720,721,722,723,724,740] fun K hK=>?_
    simp only [go_sem,seval]
    repeat refine sd0 ?_
    refine hK _ (hN4 (3,c1,put d' 2 e,put r' 2 q) _ ⟨by omega,put_len hr' hq⟩ (by simp only;omega) ?_)
    refine (Le_swb _ 740 722 (by decide) (by decide)).trans ?_
    simp only [St.swb,swbσ,swbm,AV.swb,AV.swbAll,swp,jN_swb,row_swb,Nat.reduceEqDiff,if_true,if_false,reduceIte]
    refine (Le_swb _ 99 701 (by decide) (by decide)).trans ?_
    simp only [St.swb,swbσ,swbm,AV.swb,AV.swbAll,swp,jN_swb,row_swb,Nat.reduceEqDiff,if_true,if_false,reduceIte]
    exact Le_wc (by simp only [go_sem,seval,put,Nat.add_assoc]) (by simp only [go_sem,seval,put])
 ·refine Aw_st hE [0,3,4,10,11,76] [72,79,95,99,700,701,710,711,712,713,714,720,721,722,723,724,740] fun K hK=>?_
  simp only [go_sem,seval]
  refine hK _ (Aw_yes rfl (Aw_skip (hB5 _ ?_)))
  refine Aw_sq fun B6 hB6 hR6 hX6=>?_
  refine Aw_bk fun B7 hN7 hE7 hR7 hX7=>?_
  refine Aw_st hE [0,3,4,10,11,12] [72,79,95,99,700,701,710,711,712,713,714,720,721,722,723,724,740] fun K hK=>?_
  simp only [go_sem,seval]
  refine hK _ ?_;clear hK K
  refine Aw_sq fun B8 hB8 hR8 hX8=>?_
  refine Aw_st hE [0,3,4,10,11,12,13] [72,79,95,99,700,701,710,711,712,713,714,720,721,722,723,724,740] fun K hK=>?_
  simp only [go_sem,seval]
  refine hK _ ?_;clear hK K
  refine Aw_bk fun B9 hN9 hE9 hR9 hX9=>?_
  refine Aw_lp (fun j:Nat × Nat × List Int=>⟨111,[(0,.rd),(3,iv 4),(4,.xs 700 0 4 (c + 4) 1),(10,.xs 701 0 3 (c' + 3) 1),(11,iv 0),(12,.xs 740 0 j.2.2.length (j.2.1 + j.2.2.length) 1),(13,iv ((j.1:Int) - 1))],(740,cI j.2.2++jN j.2.1)::(700,vws 4 d 710 4++jN c)::(701,vws 4 d' 720 3++jN c')::(bxs 4 d r 710 4++bxs 4 d' r' 720 3),rn + 1⟩) (fun j=>j.2.2.length + j.1=4) (fun j=>j.1) (4,0,[]) ?_ (by simp) fun j hj B10 hN10 hR10 hX10=>?_
  ·refine (Le_swb _ 79 740 (by decide) (by decide)).trans ?_
   simp only [St.swb,swbσ,swbm,AV.swb,AV.swbAll,swp,jN_swb,row_swb,Nat.reduceEqDiff,if_true,if_false,reduceIte]
   exact Le_wa
  obtain ⟨m,e,q⟩:=j
  simp only at hj
  refine Aw_sq fun B11 hB11 hR11 hX11=>?_
  refine Aw_st hE [0,3,4,10,11,12,13,83] [72,79,95,99,700,701,710,711,712,713,714,720,721,722,723,724,740] fun K hK=>?_
  simp only [go_sem,seval]
  refine hK _ (Aw_cond rfl (fun hc38=>?_) (fun hc38=>?_))
  ·simp only [dte] at hc38
   have hg:=rowI_drop (r 0) (d 0) ((m:Int) - 1).toNat (by omega)
   refine Aw_skip (hB11 _ ?_)
   refine Aw_sq fun B12 hB12 hR12 hX12=>?_
   refine Aw_bk fun B13 hN13 hE13 hR13 hX13=>?_
   refine Aw_tx hE [0,3,4,10,11,12,13] [72,79,95,99,700,701,710,711,712,713,714,720,721,722,723,724,740] fun K hK=>?_
   simp only [go_sem,seval,hg]
   refine ⟨⟨by omega,by omega⟩,⟨by omega,by omega⟩,fun h=>?_,fun h cap' hcap'=>?_⟩
   ·obtain ⟨e',rfl⟩:∃ e',e=e' + 1:=⟨e - 1,by omega⟩
    rw [row_put]
    refine hK _ (hN13 _ (hB12 _ ?_))
    refine Aw_tx hE [0,3,4,10,11,12,13] [72,79,95,99,700,701,710,711,712,713,714,720,721,722,723,724,740] fun K hK=>?_
    simp only [go_sem,seval]
    repeat refine sd0 ?_
    have hl1:(q++[(r 0).getD ((m:Int) - 1).toNat 0]).length=q.length + 1:=by simp
    have hmc:((m - 1:Nat):Int)=(m:Int) - 1:=by omega
    have hec:e' + 1 + q.length=e' + (q.length + 1):=by omega
    refine hK _ (hN10 (m - 1,e',q++[(r 0).getD ((m:Int) - 1).toNat 0]) _ (by simp only [hl1];omega) (by simp only;omega) ?_)
    simp only [hl1,hmc,hec]
    exact Le_wa
   ·obtain ⟨e',rfl⟩:∃ e',cap'=e' + (q.length + 1):=⟨cap' - (q.length + 1),by omega⟩
    rw [Nat.add_sub_cancel,List.append_assoc,List.singleton_append,row_snoc]
    refine hK _ (hN13 _ (hB12 _ ?_))
    refine Aw_tx hE [0,3,4,10,11,12,13] [72,79,95,99,700,701,710,711,712,713,714,720,721,722,723,724,740] fun K hK=>?_
    simp only [go_sem,seval]
    repeat refine sd0 ?_
    have hl1:(q++[(r 0).getD ((m:Int) - 1).toNat 0]).length=q.length + 1:=by simp
    have hmc:((m - 1:Nat):Int)=(m:Int) - 1:=by omega
    have hec:e' + 1 + q.length=e' + (q.length + 1):=by omega
    refine hK _ (hN10 (m - 1,e',q++[(r 0).getD ((m:Int) - 1).toNat 0]) _ (by simp only [hl1];omega) (by simp only;omega) ?_)
    simp only [hl1,hmc,hec]
    refine (Le_swb _ 95 740 (by decide) (by decide)).trans ?_
    simp only [St.swb,swbσ,swbm,AV.swb,AV.swbAll,swp,jN_swb,row_swb,Nat.reduceEqDiff,if_true,if_false,reduceIte]
    exact Le_wa
  ·simp only [dfn] at hc38
   have hq:q.length=4:=by omega
   refine Aw_exit (hX11 _ _ (hX10 _ _ (hE9 _ (hB8 _ ?_))))
   refine Aw_tx hE [0,3,4,10,11] [72,79,95,99,700,701,710,711,712,713,714,720,721,722,723,724,740] fun K hK=>?_
   simp only [go_sem,seval,hq]
   refine ⟨fun h=>?_,fun h cap' hcap'=>?_⟩
   ·obtain ⟨c1,rfl⟩:∃ c1,c'=c1 + 1:=⟨c' - 1,by omega⟩
    simp only [jN_s,List.set_cons_zero]
    refine hK _ (hN7 _ (hB6 _ ?_))
    refine Aw_tx hE [0,3,4,10,11] [72,79,95,99,700,701,710,711,712,713,714,720,721,722,723,724,740] fun K hK=>?_
    simp only [go_sem,seval]
    repeat refine sd0 ?_
    refine hK _ (hN4 (4,c1,put d' 3 e,put r' 3 q) _ ⟨by omega,put_len hr' hq⟩ (by simp only;omega) ?_)
    refine (Le_swb _ 740 723 (by decide) (by decide)).trans ?_
    simp only [St.swb,swbσ,swbm,AV.swb,AV.swbAll,swp,jN_swb,row_swb,Nat.reduceEqDiff,if_true,if_false,reduceIte]
    exact Le_wc (by simp only [go_sem,seval,put,Nat.add_assoc]) (by simp only [go_sem,seval,put])
   ·obtain ⟨c1,rfl⟩:∃ c1,cap'=c1 + 4:=⟨cap' - 4,by omega⟩
    rw [Nat.add_sub_cancel]
    refine hK _ (hN7 _ (hB6 _ ?_))
    refine Aw_tx hE [0,3,4,10,11] [72,79,95,99,700,701,710,711,712,713,714,720,721,722,723,724,740] fun K hK=>?_
    simp only [go_sem,seval]
    repeat refine sd0 ?_
    refine hK _ (hN4 (4,c1,put d' 3 e,put r' 3 q) _ ⟨by omega,put_len hr' hq⟩ (by simp only;omega) ?_)
    refine (Le_swb _ 740 723 (by decide) (by decide)).trans ?_
    simp only [St.swb,swbσ,swbm,AV.swb,AV.swbAll,swp,jN_swb,row_swb,Nat.reduceEqDiff,if_true,if_false,reduceIte]
    refine (Le_swb _ 99 701 (by decide) (by decide)).trans ?_
    simp only [St.swb,swbσ,swbm,AV.swb,AV.swbAll,swp,jN_swb,row_swb,Nat.reduceEqDiff,if_true,if_false,reduceIte]
    exact Le_wc (by simp only [go_sem,seval,put,Nat.add_assoc]) (by simp only [go_sem,seval,put])
set_option maxHeartbeats 16000000 in
theorem relsR5 {E:En} (hE:TbOk E tbRels) {k:Nat} (hk:k + 40≤1099511627776) {Q:Exit→St→Prop} (hQ:∀ (L:List (List Int)) (rn:Nat),(2≤L.length∧L.length≤5)→(∀ w ∈ L,w.length=L.length)→rn≤k + 40→Aw E .ret ⟨111,[(2,wsl L)],[],rn⟩ Q) {r:Nat→List Int} (hr:∀ q,(r q).length=5) {d:Nat→Nat} {c rn:Nat} (hrn:rn≤k + 29):Aw E (seqB (seqB (seqB (seqB (seqB (seqB (Tryd.f30.body.getD .skip))))))) ⟨111,[(0,.rd),(3,iv 5),(4,.xs 700 0 5 (c + 5) 1)],(700,vws 5 d 710 5++jN c)::bxs 5 d r 710 5,rn⟩ Q:=by
 have hr0:=hr 0
 have hr1:=hr 1
 have hr2:=hr 2
 have hr3:=hr 3
 have hr4:=hr 4
 refine Aw_sqJ (fun i:(Nat→Nat) × (Nat→List Int) × Nat × Nat=>⟨111,[(0,.rd),(4,.xs 700 0 5 (i.2.2.1 + 5) 1)],(700,vws 5 i.1 710 5++jN i.2.2.1)::bxs 5 i.1 i.2.1 710 5,i.2.2.2⟩) (fun i=>(∀ x,(i.2.1 x).length=5)∧i.2.2.2≤k + 30) (fun i hi=>relsT5 hE hk hQ hi.1 hi.2) fun B1 hB1 hR1 hX1=>?_
 refine Aw_st hE [0,3,4,71] [72,79,95,99,700,701,710,711,712,713,714,720,721,722,723,724,740] fun K hK=>?_
 simp only [go_sem,seval]
 refine ⟨by omega,fun x hx1 hx2=>?_⟩
 refine hK _ (Aw_cond rfl (fun hc=>?_) (fun hc=>?_))
 rotate_left
 ·exact Aw_skip (hB1 (d,r,c,rn + 1) _ ⟨hr,by simp only;omega⟩ (LeE_of (Le_wa)))
 refine Aw_st hE [0,3,4,10] [72,79,95,99,700,701,710,711,712,713,714,720,721,722,723,724,740] fun K hK=>?_
 simp only [go_sem,seval]
 refine hK _ ?_;clear hK K
 refine Aw_sq fun B2 hB2 hR2 hX2=>?_
 refine Aw_st hE [0,3,4,10,11] [72,79,95,99,700,701,710,711,712,713,714,720,721,722,723,724,740] fun K hK=>?_
 simp only [go_sem,seval]
 refine hK _ ?_;clear hK K
 refine Aw_bk fun B3 hN3 hE3 hR3 hX3=>?_
 refine Aw_lp (fun i:Nat × Nat × (Nat→Nat) × (Nat→List Int)=>⟨111,[(0,.rd),(3,iv 5),(4,.xs 700 0 5 (c + 5) 1),(10,.xs 701 0 i.1 (i.2.1 + i.1) 1),(11,iv ((5:Int) - 1 - (i.1:Int)))],(700,vws 5 d 710 5++jN c)::(701,vws 5 i.2.2.1 720 i.1++jN i.2.1)::(bxs 5 d r 710 5++bxs 5 i.2.2.1 i.2.2.2 720 i.1),rn + 1⟩) (fun i=>i.1≤5∧∀ x,(i.2.2.2 x).length=5) (fun i=>5 - i.1) (0,0,d,r) ?_ ⟨by omega,hr⟩ fun i hi B4 hN4 hR4 hX4=>?_
 ·refine (Le_swb _ 72 701 (by decide) (by decide)).trans ?_
  simp only [St.swb,swbσ,swbm,AV.swb,AV.swbAll,swp,jN_swb,row_swb,Nat.reduceEqDiff,if_true,if_false,reduceIte]
  exact Le_wa
 obtain ⟨i,c',d',r'⟩:=i
 obtain ⟨hi,hr'⟩:=hi
 simp only at hi hr'
 refine Aw_sq fun B5 hB5 hR5 hX5=>?_
 rcases (show i=5∨i=0∨i=1∨i=2∨i=3∨i=4 by omega) with rfl | rfl | rfl | rfl | rfl | rfl
 ·refine Aw_st hE [0,3,4,10,11,76] [72,79,95,99,700,701,710,711,712,713,714,720,721,722,723,724,740] fun K hK=>?_
  simp only [go_sem,seval]
  refine hK _ (Aw_no rfl (Aw_exit (hX5 _ _ (hX4 _ _ (hE3 _ (hB2 _ ?_))))))
  refine Aw_tx hE [0,4] [72,79,95,99,700,701,710,711,712,713,714,720,721,722,723,724,740] fun K hK=>?_
  simp only [go_sem,seval]
  refine hK _ (hB1 (d',r',c',rn + 1) _ ⟨hr',by simp only;omega⟩ (LeE_of ?_))
  refine (Le_swb _ 701 700 (by decide) (by decide)).trans ((Le_swb _ 720 710 (by decide) (by decide)).trans ((Le_swb _ 721 711 (by decide) (by decide)).trans ((Le_swb _ 722 712 (by decide) (by decide)).trans ((Le_swb _ 723 713 (by decide) (by decide)).trans ((Le_swb _ 724 714 (by decide) (by decide)).trans ?_)))))
  simp only [St.swb,swbσ,swbm,AV.swb,AV.swbAll,swp,jN_swb,row_swb,Nat.reduceEqDiff,if_true,if_false,reduceIte]
  exact Le_wa
 ·refine Aw_st hE [0,3,4,10,11,76] [72,79,95,99,700,701,710,711,712,713,714,720,721,722,723,724,740] fun K hK=>?_
  simp only [go_sem,seval]
  refine hK _ (Aw_yes rfl (Aw_skip (hB5 _ ?_)))
  refine Aw_sq fun B6 hB6 hR6 hX6=>?_
  refine Aw_bk fun B7 hN7 hE7 hR7 hX7=>?_
  refine Aw_st hE [0,3,4,10,11,12] [72,79,95,99,700,701,710,711,712,713,714,720,721,722,723,724,740] fun K hK=>?_
  simp only [go_sem,seval]
  refine hK _ ?_;clear hK K
  refine Aw_sq fun B8 hB8 hR8 hX8=>?_
  refine Aw_st hE [0,3,4,10,11,12,13] [72,79,95,99,700,701,710,711,712,713,714,720,721,722,723,724,740] fun K hK=>?_
  simp only [go_sem,seval]
  refine hK _ ?_;clear hK K
  refine Aw_bk fun B9 hN9 hE9 hR9 hX9=>?_
  refine Aw_lp (fun j:Nat × Nat × List Int=>⟨111,[(0,.rd),(3,iv 5),(4,.xs 700 0 5 (c + 5) 1),(10,.xs 701 0 0 (c' + 0) 1),(11,iv 4),(12,.xs 740 0 j.2.2.length (j.2.1 + j.2.2.length) 1),(13,iv ((j.1:Int) - 1))],(740,cI j.2.2++jN j.2.1)::(700,vws 5 d 710 5++jN c)::(701,vws 5 d' 720 0++jN c')::(bxs 5 d r 710 5++bxs 5 d' r' 720 0),rn + 1⟩) (fun j=>j.2.2.length + j.1=5) (fun j=>j.1) (5,0,[]) ?_ (by simp) fun j hj B10 hN10 hR10 hX10=>?_
  ·refine (Le_swb _ 79 740 (by decide) (by decide)).trans ?_
   simp only [St.swb,swbσ,swbm,AV.swb,AV.swbAll,swp,jN_swb,row_swb,Nat.reduceEqDiff,if_true,if_false,reduceIte]
   exact Le_wa
  obtain ⟨m,e,q⟩:=j
  simp only at hj
  refine Aw_sq fun B11 hB11 hR11 hX11=>?_
  refine Aw_st hE [0,3,4,10,11,12,13,83] [72,79,95,99,700,701,710,711,712,713,714,720,721,722,723,724,740] fun K hK=>?_
  simp only [go_sem,seval]
  refine hK _ (Aw_cond rfl (fun hc38=>?_) (fun hc38=>?_))
  ·simp only [dte] at hc38
   have hg:=rowI_drop (r 4) (d 4) ((m:Int) - 1).toNat (by omega)
   refine Aw_skip (hB11 _ ?_)
   refine Aw_sq fun B12 hB12 hR12 hX12=>?_
   refine Aw_bk fun B13 hN13 hE13 hR13 hX13=>?_
   refine Aw_tx hE [0,3,4,10,11,12,13] [72,79,95,99,700,701,710,711,712,713,714,720,721,722,723,724,740] fun K hK=>?_
   simp only [go_sem,seval,hg]
   refine ⟨⟨by omega,by omega⟩,⟨by omega,by omega⟩,fun h=>?_,fun h cap' hcap'=>?_⟩
   ·obtain ⟨e',rfl⟩:∃ e',e=e' + 1:=⟨e - 1,by omega⟩
    rw [row_put]
    refine hK _ (hN13 _ (hB12 _ ?_))
    refine Aw_tx hE [0,3,4,10,11,12,13] [72,79,95,99,700,701,710,711,712,713,714,720,721,722,723,724,740] fun K hK=>?_
    simp only [go_sem,seval]
    repeat refine sd0 ?_
    have hl1:(q++[(r 4).getD ((m:Int) - 1).toNat 0]).length=q.length + 1:=by simp
    have hmc:((m - 1:Nat):Int)=(m:Int) - 1:=by omega
    have hec:e' + 1 + q.length=e' + (q.length + 1):=by omega
    refine hK _ (hN10 (m - 1,e',q++[(r 4).getD ((m:Int) - 1).toNat 0]) _ (by simp only [hl1];omega) (by simp only;omega) ?_)
    simp only [hl1,hmc,hec]
    exact Le_wa
   ·obtain ⟨e',rfl⟩:∃ e',cap'=e' + (q.length + 1):=⟨cap' - (q.length + 1),by omega⟩
    rw [Nat.add_sub_cancel,List.append_assoc,List.singleton_append,row_snoc]
    refine hK _ (hN13 _ (hB12 _ ?_))
    refine Aw_tx hE [0,3,4,10,11,12,13] [72,79,95,99,700,701,710,711,712,713,714,720,721,722,723,724,740] fun K hK=>?_
    simp only [go_sem,seval]
    repeat refine sd0 ?_
    have hl1:(q++[(r 4).getD ((m:Int) - 1).toNat 0]).length=q.length + 1:=by simp
    have hmc:((m - 1:Nat):Int)=(m:Int) - 1:=by omega
    have hec:e' + 1 + q.length=e' + (q.length + 1):=by omega
    refine hK _ (hN10 (m - 1,e',q++[(r 4).getD ((m:Int) - 1).toNat 0]) _ (by simp only [hl1];omega) (by simp only;omega) ?_)
    simp only [hl1,hmc,hec]
    refine (Le_swb _ 95 740 (by decide) (by decide)).trans ?_
    simp only [St.swb,swbσ,swbm,AV.swb,AV.swbAll,swp,jN_swb,row_swb,Nat.reduceEqDiff,if_true,if_false,reduceIte]
    exact Le_wa
  ·simp only [dfn] at hc38
   have hq:q.length=5:=by omega
   refine Aw_exit (hX11 _ _ (hX10 _ _ (hE9 _ (hB8 _ ?_))))
   refine Aw_tx hE [0,3,4,10,11] [72,79,95,99,700,701,710,711,712,713,714,720,721,722,723,724,740] fun K hK=>?_
   simp only [go_sem,seval,hq]
   refine ⟨fun h=>?_,fun h cap' hcap'=>?_⟩
   ·obtain ⟨c1,rfl⟩:∃ c1,c'=c1 + 1:=⟨c' - 1,by omega⟩
    simp only [jN_s,List.set_cons_zero]
    refine hK _ (hN7 _ (hB6 _ ?_))
    refine Aw_tx hE [0,3,4,10,11] [72,79,95,99,700,701,710,711,712,713,714,720,721,722,723,724,740] fun K hK=>?_
    simp only [go_sem,seval]
    repeat refine sd0 ?_
    refine hK _ (hN4 (1,c1,put d' 0 e,put r' 0 q) _ ⟨by omega,put_len hr' hq⟩ (by simp only;omega) ?_)
    refine (Le_swb _ 740 720 (by decide) (by decide)).trans ?_
    simp only [St.swb,swbσ,swbm,AV.swb,AV.swbAll,swp,jN_swb,row_swb,Nat.reduceEqDiff,if_true,if_false,reduceIte]
    exact Le_wc (by simp only [go_sem,seval,put,Nat.add_assoc]) (by simp only [go_sem,seval,put])
   ·obtain ⟨c1,rfl⟩:∃ c1,cap'=c1 + 1:=⟨cap' - 1,by omega⟩
    rw [Nat.add_sub_cancel]
    refine hK _ (hN7 _ (hB6 _ ?_))
    refine Aw_tx hE [0,3,4,10,11] [72,79,95,99,700,701,710,711,712,713,714,720,721,722,723,724,740] fun K hK=>?_
    simp only [go_sem,seval]
    repeat refine sd0 ?_
    refine hK _ (hN4 (1,c1,put d' 0 e,put r' 0 q) _ ⟨by omega,put_len hr' hq⟩ (by simp only;omega) ?_)
    refine (Le_swb _ 740 720 (by decide) (by decide)).trans ?_
    simp only [St.swb,swbσ,swbm,AV.swb,AV.swbAll,swp,jN_swb,row_swb,Nat.reduceEqDiff,if_true,if_false,reduceIte]
    refine (Le_swb _ 99 701 (by decide) (by decide)).trans ?_
    simp only [St.swb,swbσ,swbm,AV.swb,AV.swbAll,swp,jN_swb,row_swb,Nat.reduceEqDiff,if_true,if_false,reduceIte]
    exact Le_wc (by simp only [go_sem,seval,put,Nat.add_assoc]) (by simp only [go_sem,seval,put])
 ·refine Aw_st hE [0,3,4,10,11,76] [72,79,95,99,700,701,710,711,712,713,714,720,721,722,723,724,740] fun K hK=>?_
  simp only [go_sem,seval]
  refine hK _ (Aw_yes rfl (Aw_skip (hB5 _ ?_)))
  refine Aw_sq fun B6 hB6 hR6 hX6=>?_
  refine Aw_bk fun B7 hN7 hE7 hR7 hX7=>?_
  refine Aw_st hE [0,3,4,10,11,12] [72,79,95,99,700,701,710,711,712,713,714,720,721,722,723,724,740] fun K hK=>?_
  simp only [go_sem,seval]
  refine hK _ ?_;clear hK K
  refine Aw_sq fun B8 hB8 hR8 hX8=>?_
  refine Aw_st hE [0,3,4,10,11,12,13] [72,79,95,99,700,701,710,711,712,713,714,720,721,722,723,724,740] fun K hK=>?_
  simp only [go_sem,seval]
  refine hK _ ?_;clear hK K
  refine Aw_bk fun B9 hN9 hE9 hR9 hX9=>?_
  refine Aw_lp (fun j:Nat × Nat × List Int=>⟨111,[(0,.rd),(3,iv 5),(4,.xs 700 0 5 (c + 5) 1),(10,.xs 701 0 1 (c' + 1) 1),(11,iv 3),(12,.xs 740 0 j.2.2.length (j.2.1 + j.2.2.length) 1),(13,iv ((j.1:Int) - 1))],(740,cI j.2.2++jN j.2.1)::(700,vws 5 d 710 5++jN c)::(701,vws 5 d' 720 1++jN c')::(bxs 5 d r 710 5++bxs 5 d' r' 720 1),rn + 1⟩) (fun j=>j.2.2.length + j.1=5) (fun j=>j.1) (5,0,[]) ?_ (by simp) fun j hj B10 hN10 hR10 hX10=>?_
  ·refine (Le_swb _ 79 740 (by decide) (by decide)).trans ?_
   simp only [St.swb,swbσ,swbm,AV.swb,AV.swbAll,swp,jN_swb,row_swb,Nat.reduceEqDiff,if_true,if_false,reduceIte]
   exact Le_wa
  obtain ⟨m,e,q⟩:=j
  simp only at hj
  refine Aw_sq fun B11 hB11 hR11 hX11=>?_
  refine Aw_st hE [0,3,4,10,11,12,13,83] [72,79,95,99,700,701,710,711,712,713,714,720,721,722,723,724,740] fun K hK=>?_
  simp only [go_sem,seval]
  refine hK _ (Aw_cond rfl (fun hc38=>?_) (fun hc38=>?_))
  ·simp only [dte] at hc38
   have hg:=rowI_drop (r 3) (d 3) ((m:Int) - 1).toNat (by omega)
   refine Aw_skip (hB11 _ ?_)
   refine Aw_sq fun B12 hB12 hR12 hX12=>?_
   refine Aw_bk fun B13 hN13 hE13 hR13 hX13=>?_
   refine Aw_tx hE [0,3,4,10,11,12,13] [72,79,95,99,700,701,710,711,712,713,714,720,721,722,723,724,740] fun K hK=>?_
   simp only [go_sem,seval,hg]
   refine ⟨⟨by omega,by omega⟩,⟨by omega,by omega⟩,fun h=>?_,fun h cap' hcap'=>?_⟩
   ·obtain ⟨e',rfl⟩:∃ e',e=e' + 1:=⟨e - 1,by omega⟩
    rw [row_put]
    refine hK _ (hN13 _ (hB12 _ ?_))
    refine Aw_tx hE [0,3,4,10,11,12,13] [72,79,95,99,700,701,710,711,712,713,714,720,721,722,723,724,740] fun K hK=>?_
    simp only [go_sem,seval]
    repeat refine sd0 ?_
    have hl1:(q++[(r 3).getD ((m:Int) - 1).toNat 0]).length=q.length + 1:=by simp
    have hmc:((m - 1:Nat):Int)=(m:Int) - 1:=by omega
    have hec:e' + 1 + q.length=e' + (q.length + 1):=by omega
    refine hK _ (hN10 (m - 1,e',q++[(r 3).getD ((m:Int) - 1).toNat 0]) _ (by simp only [hl1];omega) (by simp only;omega) ?_)
    simp only [hl1,hmc,hec]
    exact Le_wa
   ·obtain ⟨e',rfl⟩:∃ e',cap'=e' + (q.length + 1):=⟨cap' - (q.length + 1),by omega⟩
    rw [Nat.add_sub_cancel,List.append_assoc,List.singleton_append,row_snoc]
    refine hK _ (hN13 _ (hB12 _ ?_))
    refine Aw_tx hE [0,3,4,10,11,12,13] [72,79,95,99,700,701,710,711,712,713,714,720,721,722,723,724,740] fun K hK=>?_
    simp only [go_sem,seval]
    repeat refine sd0 ?_
    have hl1:(q++[(r 3).getD ((m:Int) - 1).toNat 0]).length=q.length + 1:=by simp
    have hmc:((m - 1:Nat):Int)=(m:Int) - 1:=by omega
    have hec:e' + 1 + q.length=e' + (q.length + 1):=by omega
    refine hK _ (hN10 (m - 1,e',q++[(r 3).getD ((m:Int) - 1).toNat 0]) _ (by simp only [hl1];omega) (by simp only;omega) ?_)
    simp only [hl1,hmc,hec]
    refine (Le_swb _ 95 740 (by decide) (by decide)).trans ?_
    simp only [St.swb,swbσ,swbm,AV.swb,AV.swbAll,swp,jN_swb,row_swb,Nat.reduceEqDiff,if_true,if_false,reduceIte]
    exact Le_wa
  ·simp only [dfn] at hc38
   have hq:q.length=5:=by omega
   refine Aw_exit (hX11 _ _ (hX10 _ _ (hE9 _ (hB8 _ ?_))))
   refine Aw_tx hE [0,3,4,10,11] [72,79,95,99,700,701,710,711,712,713,714,720,721,722,723,724,740] fun K hK=>?_
   simp only [go_sem,seval,hq]
   refine ⟨fun h=>?_,fun h cap' hcap'=>?_⟩
   ·obtain ⟨c1,rfl⟩:∃ c1,c'=c1 + 1:=⟨c' - 1,by omega⟩
    simp only [jN_s,List.set_cons_zero]
    refine hK _ (hN7 _ (hB6 _ ?_))
    refine Aw_tx hE [0,3,4,10,11] [72,79,95,99,700,701,710,711,712,713,714,720,721,722,723,724,740] fun K hK=>?_
    simp only [go_sem,seval]
    repeat refine sd0 ?_
    refine hK _ (hN4 (2,c1,put d' 1 e,put r' 1 q) _ ⟨by omega,put_len hr' hq⟩ (by simp only;omega) ?_)
    refine (Le_swb _ 740 721 (by decide) (by decide)).trans ?_
    simp only [St.swb,swbσ,swbm,AV.swb,AV.swbAll,swp,jN_swb,row_swb,Nat.reduceEqDiff,if_true,if_false,reduceIte]
    exact Le_wc (by simp only [go_sem,seval,put,Nat.add_assoc]) (by simp only [go_sem,seval,put])
   ·obtain ⟨c1,rfl⟩:∃ c1,cap'=c1 + 2:=⟨cap' - 2,by omega⟩
    rw [Nat.add_sub_cancel]
    refine hK _ (hN7 _ (hB6 _ ?_))
    refine Aw_tx hE [0,3,4,10,11] [72,79,95,99,700,701,710,711,712,713,714,720,721,722,723,724,740] fun K hK=>?_
    simp only [go_sem,seval]
    repeat refine sd0 ?_
    refine hK _ (hN4 (2,c1,put d' 1 e,put r' 1 q) _ ⟨by omega,put_len hr' hq⟩ (by simp only;omega) ?_)
    refine (Le_swb _ 740 721 (by decide) (by decide)).trans ?_
    simp only [St.swb,swbσ,swbm,AV.swb,AV.swbAll,swp,jN_swb,row_swb,Nat.reduceEqDiff,if_true,if_false,reduceIte]
    refine (Le_swb _ 99 701 (by decide) (by decide)).trans ?_
    simp only [St.swb,swbσ,swbm,AV.swb,AV.swbAll,swp,jN_swb,row_swb,Nat.reduceEqDiff,if_true,if_false,reduceIte]
    exact Le_wc (by simp only [go_sem,seval,put,Nat.add_assoc]) (by simp only [go_sem,seval,put])
 ·refine Aw_st hE [0,3,4,10,11,76] [72,79,95,99,700,701,710,711,712,713,714,720,721,722,723,724,740] fun K hK=>?_
  simp only [go_sem,seval]
  refine hK _ (Aw_yes rfl (Aw_skip (hB5 _ ?_)))
  refine Aw_sq fun B6 hB6 hR6 hX6=>?_
  refine Aw_bk fun B7 hN7 hE7 hR7 hX7=>?_
  refine Aw_st hE [0,3,4,10,11,12] [72,79,95,99,700,701,710,711,712,713,714,720,721,722,723,724,740] fun K hK=>?_
  simp only [go_sem,seval]
  refine hK _ ?_;clear hK K
  refine Aw_sq fun B8 hB8 hR8 hX8=>?_
  refine Aw_st hE [0,3,4,10,11,12,13] [72,79,95,99,700,701,710,711,712,713,714,720,721,722,723,724,740] fun K hK=>?_
  simp only [go_sem,seval]
  refine hK _ ?_;clear hK K
  refine Aw_bk fun B9 hN9 hE9 hR9 hX9=>?_
  refine Aw_lp (fun j:Nat × Nat × List Int=>⟨111,[(0,.rd),(3,iv 5),(4,.xs 700 0 5 (c + 5) 1),(10,.xs 701 0 2 (c' + 2) 1),(11,iv 2),(12,.xs 740 0 j.2.2.length (j.2.1 + j.2.2.length) 1),(13,iv ((j.1:Int) - 1))],(740,cI j.2.2++jN j.2.1)::(700,vws 5 d 710 5++jN c)::(701,vws 5 d' 720 2++jN c')::(bxs 5 d r 710 5++bxs 5 d' r' 720 2),rn + 1⟩) (fun j=>j.2.2.length + j.1=5) (fun j=>j.1) (5,0,[]) ?_ (by simp) fun j hj B10 hN10 hR10 hX10=>?_
  ·refine (Le_swb _ 79 740 (by decide) (by decide)).trans ?_
   simp only [St.swb,swbσ,swbm,AV.swb,AV.swbAll,swp,jN_swb,row_swb,Nat.reduceEqDiff,if_true,if_false,reduceIte]
   exact Le_wa
  obtain ⟨m,e,q⟩:=j
  simp only at hj
  refine Aw_sq fun B11 hB11 hR11 hX11=>?_
  refine Aw_st hE [0,3,4,10,11,12,13,83] [72,79,95,99,700,701,710,711,712,713,714,720,721,722,723,724,740] fun K hK=>?_
  simp only [go_sem,seval]
  refine hK _ (Aw_cond rfl (fun hc38=>?_) (fun hc38=>?_))
  ·simp only [dte] at hc38
   have hg:=rowI_drop (r 2) (d 2) ((m:Int) - 1).toNat (by omega)
   refine Aw_skip (hB11 _ ?_)
   refine Aw_sq fun B12 hB12 hR12 hX12=>?_
   refine Aw_bk fun B13 hN13 hE13 hR13 hX13=>?_
   refine Aw_tx hE [0,3,4,10,11,12,13] [72,79,95,99,700,701,710,711,712,713,714,720,721,722,723,724,740] fun K hK=>?_
   simp only [go_sem,seval,hg]
   refine ⟨⟨by omega,by omega⟩,⟨by omega,by omega⟩,fun h=>?_,fun h cap' hcap'=>?_⟩
   ·obtain ⟨e',rfl⟩:∃ e',e=e' + 1:=⟨e - 1,by omega⟩
    rw [row_put]
    refine hK _ (hN13 _ (hB12 _ ?_))
    refine Aw_tx hE [0,3,4,10,11,12,13] [72,79,95,99,700,701,710,711,712,713,714,720,721,722,723,724,740] fun K hK=>?_
    simp only [go_sem,seval]
    repeat refine sd0 ?_
    have hl1:(q++[(r 2).getD ((m:Int) - 1).toNat 0]).length=q.length + 1:=by simp
    have hmc:((m - 1:Nat):Int)=(m:Int) - 1:=by omega
    have hec:e' + 1 + q.length=e' + (q.length + 1):=by omega
    refine hK _ (hN10 (m - 1,e',q++[(r 2).getD ((m:Int) - 1).toNat 0]) _ (by simp only [hl1];omega) (by simp only;omega) ?_)
    simp only [hl1,hmc,hec]
    exact Le_wa
   ·obtain ⟨e',rfl⟩:∃ e',cap'=e' + (q.length + 1):=⟨cap' - (q.length + 1),by omega⟩
    rw [Nat.add_sub_cancel,List.append_assoc,List.singleton_append,row_snoc]
    refine hK _ (hN13 _ (hB12 _ ?_))
    refine Aw_tx hE [0,3,4,10,11,12,13] [72,79,95,99,700,701,710,711,712,713,714,720,721,722,723,724,740] fun K hK=>?_
    simp only [go_sem,seval]
    repeat refine sd0 ?_
    have hl1:(q++[(r 2).getD ((m:Int) - 1).toNat 0]).length=q.length + 1:=by simp
    have hmc:((m - 1:Nat):Int)=(m:Int) - 1:=by omega
    have hec:e' + 1 + q.length=e' + (q.length + 1):=by omega
    refine hK _ (hN10 (m - 1,e',q++[(r 2).getD ((m:Int) - 1).toNat 0]) _ (by simp only [hl1];omega) (by simp only;omega) ?_)
    simp only [hl1,hmc,hec]
    refine (Le_swb _ 95 740 (by decide) (by decide)).trans ?_
    simp only [St.swb,swbσ,swbm,AV.swb,AV.swbAll,swp,jN_swb,row_swb,Nat.reduceEqDiff,if_true,if_false,reduceIte]
    exact Le_wa
  ·simp only [dfn] at hc38
   have hq:q.length=5:=by omega
   refine Aw_exit (hX11 _ _ (hX10 _ _ (hE9 _ (hB8 _ ?_))))
   refine Aw_tx hE [0,3,4,10,11] [72,79,95,99,700,701,710,711,712,713,714,720,721,722,723,724,740] fun K hK=>?_
   simp only [go_sem,seval,hq]
   refine ⟨fun h=>?_,fun h cap' hcap'=>?_⟩
   ·obtain ⟨c1,rfl⟩:∃ c1,c'=c1 + 1:=⟨c' - 1,by omega⟩
    simp only [jN_s,List.set_cons_zero]
    refine hK _ (hN7 _ (hB6 _ ?_))
    refine Aw_tx hE [0,3,4,10,11] [72,79,95,99,700,701,710,711,712,713,714,720,721,722,723,724,740] fun K hK=>?_
    simp only [go_sem,seval]
    repeat refine sd0 ?_
    refine hK _ (hN4 (3,c1,put d' 2 e,put r' 2 q) _ ⟨by omega,put_len hr' hq⟩ (by simp only;omega) ?_)
    refine (Le_swb _ 740 722 (by decide) (by decide)).trans ?_
    simp only [St.swb,swbσ,swbm,AV.swb,AV.swbAll,swp,jN_swb,row_swb,Nat.reduceEqDiff,if_true,if_false,reduceIte]
    exact Le_wc (by simp only [go_sem,seval,put,Nat.add_assoc]) (by simp only [go_sem,seval,put])
   ·obtain ⟨c1,rfl⟩:∃ c1,cap'=c1 + 3:=⟨cap' - 3,by omega⟩
    rw [Nat.add_sub_cancel]
    refine hK _ (hN7 _ (hB6 _ ?_))
    refine Aw_tx hE [0,3,4,10,11] [72,79,95,99,700,701,710,711,712,713,714,720,721,722,723,724,740] fun K hK=>?_
    simp only [go_sem,seval]
    repeat refine sd0 ?_
    refine hK _ (hN4 (3,c1,put d' 2 e,put r' 2 q) _ ⟨by omega,put_len hr' hq⟩ (by simp only;omega) ?_)
    refine (Le_swb _ 740 722 (by decide) (by decide)).trans ?_
    simp only [St.swb,swbσ,swbm,AV.swb,AV.swbAll,swp,jN_swb,row_swb,Nat.reduceEqDiff,if_true,if_false,reduceIte]
    refine (Le_swb _ 99 701 (by decide) (by decide)).trans ?_
    simp only [St.swb,swbσ,swbm,AV.swb,AV.swbAll,swp,jN_swb,row_swb,Nat.reduceEqDiff,if_true,if_false,reduceIte]
    exact Le_wc (by simp only [go_sem,seval,put,Nat.add_assoc]) (by simp only [go_sem,seval,put])
 ·refine Aw_st hE [0,3,4,10,11,76] [72,79,95,99,700,701,710,711,712,713,714,720,721,722,723,724,740] fun K hK=>?_
  simp only [go_sem,seval]
  refine hK _ (Aw_yes rfl (Aw_skip (hB5 _ ?_)))
  refine Aw_sq fun B6 hB6 hR6 hX6=>?_
  refine Aw_bk fun B7 hN7 hE7 hR7 hX7=>?_
  refine Aw_st hE [0,3,4,10,11,12] [72,79,95,99,700,701,710,711,712,713,714,720,721,722,723,724,740] fun K hK=>?_
  simp only [go_sem,seval]
  refine hK _ ?_;clear hK K
  refine Aw_sq fun B8 hB8 hR8 hX8=>?_
  refine Aw_st hE [0,3,4,10,11,12,13] [72,79,95,99,700,701,710,711,712,713,714,720,721,722,723,724,740] fun K hK=>?_
  simp only [go_sem,seval]
  refine hK _ ?_;clear hK K
  refine Aw_bk fun B9 hN9 hE9 hR9 hX9=>?_
  refine Aw_lp (fun j:Nat × Nat × List Int=>⟨111,[(0,.rd),(3,iv 5),(4,.xs 700 0 5 (c + 5) 1),(10,.xs 701 0 3 (c' + 3) 1),(11,iv 1),(12,.xs 740 0 j.2.2.length (j.2.1 + j.2.2.length) 1),(13,iv ((j.1:Int) - 1))],(740,cI j.2.2++jN j.2.1)::(700,vws 5 d 710 5++jN c)::(701,vws 5 d' 720 3++jN c')::(bxs 5 d r 710 5++bxs 5 d' r' 720 3),rn + 1⟩) (fun j=>j.2.2.length + j.1=5) (fun j=>j.1) (5,0,[]) ?_ (by simp) fun j hj B10 hN10 hR10 hX10=>?_
  ·refine (Le_swb _ 79 740 (by decide) (by decide)).trans ?_
   simp only [St.swb,swbσ,swbm,AV.swb,AV.swbAll,swp,jN_swb,row_swb,Nat.reduceEqDiff,if_true,if_false,reduceIte]
   exact Le_wa
  obtain ⟨m,e,q⟩:=j
  simp only at hj
  refine Aw_sq fun B11 hB11 hR11 hX11=>?_
  refine Aw_st hE [0,3,4,10,11,12,13,83] [72,79,95,99,700,701,710,711,712,713,714,720,721,722,723,724,740] fun K hK=>?_
  simp only [go_sem,seval]
  refine hK _ (Aw_cond rfl (fun hc38=>?_) (fun hc38=>?_))
  ·simp only [dte] at hc38
   have hg:=rowI_drop (r 1) (d 1) ((m:Int) - 1).toNat (by omega)
   refine Aw_skip (hB11 _ ?_)
   refine Aw_sq fun B12 hB12 hR12 hX12=>?_
   refine Aw_bk fun B13 hN13 hE13 hR13 hX13=>?_
   refine Aw_tx hE [0,3,4,10,11,12,13] [72,79,95,99,700,701,710,711,712,713,714,720,721,722,723,724,740] fun K hK=>?_
   simp only [go_sem,seval,hg]
   refine ⟨⟨by omega,by omega⟩,⟨by omega,by omega⟩,fun h=>?_,fun h cap' hcap'=>?_⟩
   ·obtain ⟨e',rfl⟩:∃ e',e=e' + 1:=⟨e - 1,by omega⟩
    rw [row_put]
    refine hK _ (hN13 _ (hB12 _ ?_))
    refine Aw_tx hE [0,3,4,10,11,12,13] [72,79,95,99,700,701,710,711,712,713,714,720,721,722,723,724,740] fun K hK=>?_
    simp only [go_sem,seval]
    repeat refine sd0 ?_
    have hl1:(q++[(r 1).getD ((m:Int) - 1).toNat 0]).length=q.length + 1:=by simp
    have hmc:((m - 1:Nat):Int)=(m:Int) - 1:=by omega
    have hec:e' + 1 + q.length=e' + (q.length + 1):=by omega
    refine hK _ (hN10 (m - 1,e',q++[(r 1).getD ((m:Int) - 1).toNat 0]) _ (by simp only [hl1];omega) (by simp only;omega) ?_)
    simp only [hl1,hmc,hec]
    exact Le_wa
   ·obtain ⟨e',rfl⟩:∃ e',cap'=e' + (q.length + 1):=⟨cap' - (q.length + 1),by omega⟩
    rw [Nat.add_sub_cancel,List.append_assoc,List.singleton_append,row_snoc]
    refine hK _ (hN13 _ (hB12 _ ?_))
    refine Aw_tx hE [0,3,4,10,11,12,13] [72,79,95,99,700,701,710,711,712,713,714,720,721,722,723,724,740] fun K hK=>?_
    simp only [go_sem,seval]
    repeat refine sd0 ?_
    have hl1:(q++[(r 1).getD ((m:Int) - 1).toNat 0]).length=q.length + 1:=by simp
    have hmc:((m - 1:Nat):Int)=(m:Int) - 1:=by omega
    have hec:e' + 1 + q.length=e' + (q.length + 1):=by omega
    refine hK _ (hN10 (m - 1,e',q++[(r 1).getD ((m:Int) - 1).toNat 0]) _ (by simp only [hl1];omega) (by simp only;omega) ?_)
    simp only [hl1,hmc,hec]
    refine (Le_swb _ 95 740 (by decide) (by decide)).trans ?_
    simp only [St.swb,swbσ,swbm,AV.swb,AV.swbAll,swp,jN_swb,row_swb,Nat.reduceEqDiff,if_true,if_false,reduceIte]
    exact Le_wa
  ·simp only [dfn] at hc38
   have hq:q.length=5:=by omega
   refine Aw_exit (hX11 _ _ (hX10 _ _ (hE9 _ (hB8 _ ?_))))
   refine Aw_tx hE [0,3,4,10,11] [72,79,95,99,700,701,710,711,712,713,714,720,721,722,723,724,740] fun K hK=>?_
   simp only [go_sem,seval,hq]
   refine ⟨fun h=>?_,fun h cap' hcap'=>?_⟩
   ·obtain ⟨c1,rfl⟩:∃ c1,c'=c1 + 1:=⟨c' - 1,by omega⟩
    simp only [jN_s,List.set_cons_zero]
    refine hK _ (hN7 _ (hB6 _ ?_))
    refine Aw_tx hE [0,3,4,10,11] [72,79,95,99,700,701,710,711,712,713,714,720,721,722,723,724,740] fun K hK=>?_
    simp only [go_sem,seval]
    repeat refine sd0 ?_
    refine hK _ (hN4 (4,c1,put d' 3 e,put r' 3 q) _ ⟨by omega,put_len hr' hq⟩ (by simp only;omega) ?_)
    refine (Le_swb _ 740 723 (by decide) (by decide)).trans ?_
    simp only [St.swb,swbσ,swbm,AV.swb,AV.swbAll,swp,jN_swb,row_swb,Nat.reduceEqDiff,if_true,if_false,reduceIte]
    exact Le_wc (by simp only [go_sem,seval,put,Nat.add_assoc]) (by simp only [go_sem,seval,put])
   ·obtain ⟨c1,rfl⟩:∃ c1,cap'=c1 + 4:=⟨cap' - 4,by omega⟩
    rw [Nat.add_sub_cancel]
    refine hK _ (hN7 _ (hB6 _ ?_))
    refine Aw_tx hE [0,3,4,10,11] [72,79,95,99,700,701,710,711,712,713,714,720,721,722,723,724,740] fun K hK=>?_
    simp only [go_sem,seval]
    repeat refine sd0 ?_
    refine hK _ (hN4 (4,c1,put d' 3 e,put r' 3 q) _ ⟨by omega,put_len hr' hq⟩ (by simp only;omega) ?_)
    refine (Le_swb _ 740 723 (by decide) (by decide)).trans ?_
    simp only [St.swb,swbσ,swbm,AV.swb,AV.swbAll,swp,jN_swb,row_swb,Nat.reduceEqDiff,if_true,if_false,reduceIte]
    refine (Le_swb _ 99 701 (by decide) (by decide)).trans ?_
    simp only [St.swb,swbσ,swbm,AV.swb,AV.swbAll,swp,jN_swb,row_swb,Nat.reduceEqDiff,if_true,if_false,reduceIte]
    exact Le_wc (by simp only [go_sem,seval,put,Nat.add_assoc]) (by simp only [go_sem,seval,put])
 ·refine Aw_st hE [0,3,4,10,11,76] [72,79,95,99,700,701,710,711,712,713,714,720,721,722,723,724,740] fun K hK=>?_
  simp only [go_sem,seval]
  refine hK _ (Aw_yes rfl (Aw_skip (hB5 _ ?_)))
  refine Aw_sq fun B6 hB6 hR6 hX6=>?_
  refine Aw_bk fun B7 hN7 hE7 hR7 hX7=>?_
  refine Aw_st hE [0,3,4,10,11,12] [72,79,95,99,700,701,710,711,712,713,714,720,721,722,723,724,740] fun K hK=>?_
  simp only [go_sem,seval]
  refine hK _ ?_;clear hK K
  refine Aw_sq fun B8 hB8 hR8 hX8=>?_
  refine Aw_st hE [0,3,4,10,11,12,13] [72,79,95,99,700,701,710,711,712,713,714,720,721,722,723,724,740] fun K hK=>?_
  simp only [go_sem,seval]
  refine hK _ ?_;clear hK K
  refine Aw_bk fun B9 hN9 hE9 hR9 hX9=>?_
  refine Aw_lp (fun j:Nat × Nat × List Int=>⟨111,[(0,.rd),(3,iv 5),(4,.xs 700 0 5 (c + 5) 1),(10,.xs 701 0 4 (c' + 4) 1),(11,iv 0),(12,.xs 740 0 j.2.2.length (j.2.1 + j.2.2.length) 1),(13,iv ((j.1:Int) - 1))],(740,cI j.2.2++jN j.2.1)::(700,vws 5 d 710 5++jN c)::(701,vws 5 d' 720 4++jN c')::(bxs 5 d r 710 5++bxs 5 d' r' 720 4),rn + 1⟩) (fun j=>j.2.2.length + j.1=5) (fun j=>j.1) (5,0,[]) ?_ (by simp) fun j hj B10 hN10 hR10 hX10=>?_
  ·refine (Le_swb _ 79 740 (by decide) (by decide)).trans ?_
   simp only [St.swb,swbσ,swbm,AV.swb,AV.swbAll,swp,jN_swb,row_swb,Nat.reduceEqDiff,if_true,if_false,reduceIte]
   exact Le_wa
  obtain ⟨m,e,q⟩:=j
  simp only at hj
  refine Aw_sq fun B11 hB11 hR11 hX11=>?_
  refine Aw_st hE [0,3,4,10,11,12,13,83] [72,79,95,99,700,701,710,711,712,713,714,720,721,722,723,724,740] fun K hK=>?_
  simp only [go_sem,seval]
  refine hK _ (Aw_cond rfl (fun hc38=>?_) (fun hc38=>?_))
  ·simp only [dte] at hc38
   have hg:=rowI_drop (r 0) (d 0) ((m:Int) - 1).toNat (by omega)
   refine Aw_skip (hB11 _ ?_)
   refine Aw_sq fun B12 hB12 hR12 hX12=>?_
   refine Aw_bk fun B13 hN13 hE13 hR13 hX13=>?_
   refine Aw_tx hE [0,3,4,10,11,12,13] [72,79,95,99,700,701,710,711,712,713,714,720,721,722,723,724,740] fun K hK=>?_
   simp only [go_sem,seval,hg]
   refine ⟨⟨by omega,by omega⟩,⟨by omega,by omega⟩,fun h=>?_,fun h cap' hcap'=>?_⟩
   ·obtain ⟨e',rfl⟩:∃ e',e=e' + 1:=⟨e - 1,by omega⟩
    rw [row_put]
    refine hK _ (hN13 _ (hB12 _ ?_))
    refine Aw_tx hE [0,3,4,10,11,12,13] [72,79,95,99,700,701,710,711,712,713,714,720,721,722,723,724,740] fun K hK=>?_
    simp only [go_sem,seval]
    repeat refine sd0 ?_
    have hl1:(q++[(r 0).getD ((m:Int) - 1).toNat 0]).length=q.length + 1:=by simp
    have hmc:((m - 1:Nat):Int)=(m:Int) - 1:=by omega
    have hec:e' + 1 + q.length=e' + (q.length + 1):=by omega
    refine hK _ (hN10 (m - 1,e',q++[(r 0).getD ((m:Int) - 1).toNat 0]) _ (by simp only [hl1];omega) (by simp only;omega) ?_)
    simp only [hl1,hmc,hec]
    exact Le_wa
   ·obtain ⟨e',rfl⟩:∃ e',cap'=e' + (q.length + 1):=⟨cap' - (q.length + 1),by omega⟩
    rw [Nat.add_sub_cancel,List.append_assoc,List.singleton_append,row_snoc]
    refine hK _ (hN13 _ (hB12 _ ?_))
    refine Aw_tx hE [0,3,4,10,11,12,13] [72,79,95,99,700,701,710,711,712,713,714,720,721,722,723,724,740] fun K hK=>?_
    simp only [go_sem,seval]
    repeat refine sd0 ?_
    have hl1:(q++[(r 0).getD ((m:Int) - 1).toNat 0]).length=q.length + 1:=by simp
    have hmc:((m - 1:Nat):Int)=(m:Int) - 1:=by omega
    have hec:e' + 1 + q.length=e' + (q.length + 1):=by omega
    refine hK _ (hN10 (m - 1,e',q++[(r 0).getD ((m:Int) - 1).toNat 0]) _ (by simp only [hl1];omega) (by simp only;omega) ?_)
    simp only [hl1,hmc,hec]
    refine (Le_swb _ 95 740 (by decide) (by decide)).trans ?_
    simp only [St.swb,swbσ,swbm,AV.swb,AV.swbAll,swp,jN_swb,row_swb,Nat.reduceEqDiff,if_true,if_false,reduceIte]
    exact Le_wa
  ·simp only [dfn] at hc38
   have hq:q.length=5:=by omega
   refine Aw_exit (hX11 _ _ (hX10 _ _ (hE9 _ (hB8 _ ?_))))
   refine Aw_tx hE [0,3,4,10,11] [72,79,95,99,700,701,710,711,712,713,714,720,721,722,723,724,740] fun K hK=>?_
   simp only [go_sem,seval,hq]
   refine ⟨fun h=>?_,fun h cap' hcap'=>?_⟩
   ·obtain ⟨c1,rfl⟩:∃ c1,c'=c1 + 1:=⟨c' - 1,by omega⟩
    simp only [jN_s,List.set_cons_zero]
    refine hK _ (hN7 _ (hB6 _ ?_))
    refine Aw_tx hE [0,3,4,10,11] [72,79,95,99,700,701,710,711,712,713,714,720,721,722,723,724,740] fun K hK=>?_
    simp only [go_sem,seval]
    repeat refine sd0 ?_
    refine hK _ (hN4 (5,c1,put d' 4 e,put r' 4 q) _ ⟨by omega,put_len hr' hq⟩ (by simp only;omega) ?_)
    refine (Le_swb _ 740 724 (by decide) (by decide)).trans ?_
    simp only [St.swb,swbσ,swbm,AV.swb,AV.swbAll,swp,jN_swb,row_swb,Nat.reduceEqDiff,if_true,if_false,reduceIte]
    exact Le_wc (by simp only [go_sem,seval,put,Nat.add_assoc]) (by simp only [go_sem,seval,put])
   ·obtain ⟨c1,rfl⟩:∃ c1,cap'=c1 + 5:=⟨cap' - 5,by omega⟩
    rw [Nat.add_sub_cancel]
    refine hK _ (hN7 _ (hB6 _ ?_))
    refine Aw_tx hE [0,3,4,10,11] [72,79,95,99,700,701,710,711,712,713,714,720,721,722,723,724,740] fun K hK=>?_
    simp only [go_sem,seval]
    repeat refine sd0 ?_
    refine hK _ (hN4 (5,c1,put d' 4 e,put r' 4 q) _ ⟨by omega,put_len hr' hq⟩ (by simp only;omega) ?_)
    refine (Le_swb _ 740 724 (by decide) (by decide)).trans ?_
    simp only [St.swb,swbσ,swbm,AV.swb,AV.swbAll,swp,jN_swb,row_swb,Nat.reduceEqDiff,if_true,if_false,reduceIte]
    refine (Le_swb _ 99 701 (by decide) (by decide)).trans ?_
    simp only [St.swb,swbσ,swbm,AV.swb,AV.swbAll,swp,jN_swb,row_swb,Nat.reduceEqDiff,if_true,if_false,reduceIte]
    exact Le_wc (by simp only [go_sem,seval,put,Nat.add_assoc]) (by simp only [go_sem,seval,put])
theorem relsB2 {E:En} (hE:TbOk E tbRels) {k:Nat} (hk:k + 40≤1099511627776) {Q:Exit→St→Prop} (hQ:∀ (L:List (List Int)) (rn:Nat),(2≤L.length∧L.length≤5)→(∀ w ∈ L,w.length=L.length)→rn≤k + 40→Aw E .ret ⟨111,[(2,wsl L)],[],rn⟩ Q) {r:Nat→List Int} (hr:∀ q,(r q).length=2) {d:Nat→Nat} {c:Nat}:Aw E (seqB (seqB (seqB (seqB (Tryd.f30.body.getD .skip))))) ⟨111,[(0,.rd),(3,iv 2),(4,.xs 700 0 2 (c + 2) 1)],(700,vws 2 d 710 2++jN c)::bxs 2 d r 710 2,k + 1⟩ Q:=by
 refine Aw_st hE [0,3,4,6] [700,701,710,711,712,713,714,720,721,722,723,724] fun K hK=>?_
 simp only [go_sem,seval]
 refine ⟨by omega,fun x hx1 hx2=>?_⟩
 generalize decide (x=0)=bb
 refine hK _ ?_;clear hK K
 refine Aw_sqJ (fun i:(Nat→List Int) × Nat=>⟨111,[(0,.rd),(3,iv 2),(4,.xs 700 0 2 (c + 2) 1)],(700,vws 2 d 710 2++jN c)::bxs 2 d i.1 710 2,i.2⟩) (fun i=>(∀ x,(i.1 x).length=2)∧i.2≤k + 29) (fun i hi=>relsR2 hE hk hQ hi.1 hi.2) fun B1 hB1 hR1 hX1=>?_
 refine Aw_st hE [0,3,4,6,7] [700,701,710,711,712,713,714,720,721,722,723,724] fun K hK=>?_
 simp only [go_sem,seval]
 refine hK _ ?_;clear hK K
 refine Aw_bk fun B2 hN2 hE2 hR2 hX2=>?_
 refine Aw_lp (fun i:Nat × (Nat→List Int)=>⟨111,[(0,.rd),(3,iv 2),(4,.xs 700 0 2 (c + 2) 1),(6,bv bb),(7,iv (i.1:Int))],(700,vws 2 d 710 2++jN c)::bxs 2 d i.2 710 2,k + 2 + i.1 * (3 - i.1)⟩) (fun i=>i.1≤2∧∀ x,(i.2 x).length=2) (fun i=>2 - i.1) (0,r) (Le_wa) ⟨by omega,hr⟩ fun i hi B3 hN3 hR3 hX3=>?_
 obtain ⟨a,r⟩:=i
 obtain ⟨hi,hr⟩:=hi
 simp only at hi hr
 refine Aw_sq fun B4 hB4 hR4 hX4=>?_
 rcases (show a=2∨a=0∨a=1 by omega) with rfl | rfl | rfl
 ·refine Aw_st hE [0,3,4,6,7,33] [700,701,710,711,712,713,714,720,721,722,723,724] fun K hK=>?_
  simp only [go_sem,seval]
  refine hK _ (Aw_no rfl (Aw_exit (hX4 _ _ (hX3 _ _ (hE2 _ (hB1 (r,k + 29) _ ⟨hr,by simp only;omega⟩ (LeE_of (Le_wa))))))))
 ·refine Aw_st hE [0,3,4,6,7,33] [700,701,710,711,712,713,714,720,721,722,723,724] fun K hK=>?_
  simp only [go_sem,seval]
  refine hK _ (Aw_yes rfl (Aw_skip (hB4 _ ?_)))
  refine Aw_sq fun B6 hB6 hR6 hX6=>?_
  refine Aw_bk fun B7 hN7 hE7 hR7 hX7=>?_
  refine Aw_st hE [0,3,4,6,7,8] [700,701,710,711,712,713,714,720,721,722,723,724] fun K hK=>?_
  simp only [go_sem,seval]
  refine hK _ ?_;clear hK K
  refine Aw_bk fun B8 hN8 hE8 hR8 hX8=>?_
  refine Aw_lp (fun i:Nat × (Nat→List Int)=>⟨111,[(0,.rd),(3,iv 2),(4,.xs 700 0 2 (c + 2) 1),(6,bv bb),(7,iv 0),(8,iv (i.1:Int))],(700,vws 2 d 710 2++jN c)::bxs 2 d i.2 710 2,k + 0 + 2 * i.1⟩) (fun i=>1≤i.1∧i.1≤2∧∀ x,(i.2 x).length=2) (fun i=>2 - i.1) (1,r) (Le_wa) ⟨by omega,by omega,hr⟩ fun i hi B9 hN9 hR9 hX9=>?_
  obtain ⟨b,r⟩:=i
  obtain ⟨hi1,hi2,hr⟩:=hi
  simp only at hi1 hi2 hr
  have hr0:=hr 0
  have hr1:=hr 1
  refine Aw_sq fun B10 hB10 hR10 hX10=>?_
  rcases (show b=2∨b=1 by omega) with rfl | rfl
  ·refine Aw_st hE [0,3,4,6,7,8,40] [700,701,710,711,712,713,714,720,721,722,723,724] fun K hK=>?_
   simp only [go_sem,seval]
   refine hK _ (Aw_no rfl (Aw_exit (hX10 _ _ (hX9 _ _ (hE8 _ ?_)))))
   refine hN7 _ (hB6 _ ?_)
   refine Aw_tx hE [0,3,4,6,7] [700,701,710,711,712,713,714,720,721,722,723,724] fun K hK=>?_
   simp only [go_sem,seval]
   repeat refine sd0 ?_
   refine hK _ (hN3 (1,r) _ ⟨by omega,hr⟩ (by simp only;omega) (Le_wa))
  ·refine Aw_st hE [0,3,4,6,7,8,40] [700,701,710,711,712,713,714,720,721,722,723,724] fun K hK=>?_
   simp only [go_sem,seval]
   refine hK _ (Aw_yes rfl (Aw_skip (hB10 _ ?_)))
   refine Aw_sq fun B11 hB11 hR11 hX11=>?_
   refine Aw_bk fun B12 hN12 hE12 hR12 hX12=>?_
   refine Aw_st hE [0,3,4,6,7,8,9] [700,701,710,711,712,713,714,720,721,722,723,724] fun K hK=>?_
   refine aops_cut 3 fun K1 hK1=>?_
   simp only [go_sem,seval]
   repeat refine sd0 ?_
   intro x hx1 hx2
   obtain ⟨v,hv,hv1,hv2⟩:=pick4 x hx1 hx2
   refine hK1 _ ?_
   clear hK1
   simp only [go_sem,seval,hv]
   repeat refine sd0 ?_
   refine hK _ ?_;clear hK K
   refine Aw_sqJ (fun v:Int=>⟨111,[(0,.rd),(3,iv 2),(4,.xs 700 0 2 (c + 2) 1),(6,bv bb),(7,iv 0),(8,iv 1),(9,iv v)],(700,vws 2 d 710 2++jN c)::bxs 2 d r 710 2,k + 4⟩) (fun v=>0≤v∧v≤3) (fun v hv=>?_) fun B13 hB13 hR13 hX13=>?_
   ·have hs1:=cI_set (r 0) (d 0) 1 v (by omega)
    have hs2:=fun y=>cI_set (r 1) (d 1) 0 y (by omega)
    obtain ⟨hv1,hv2⟩:=hv
    refine Aw_st hE [0,3,4,6,7,8,9] [700,701,710,711,712,713,714,720,721,722,723,724] fun K hK=>?_
    simp only [go_sem,seval,hs1]
    refine ⟨by omega,?_⟩
    refine hK _ ?_;clear hK K
    refine Aw_td hE [0,3,4,6,7,8] [700,701,710,711,712,713,714,720,721,722,723,724] 6 (by kernel_rfl) fun K hK=>?_
    simp only [go_sem,seval,hs2,hv1,hv2]
    refine ⟨by omega,hK _ (hN12 _ (hB11 _ ?_))⟩
    refine Aw_tx hE [0,3,4,6,7,8] [700,701,710,711,712,713,714,720,721,722,723,724] fun K hK=>?_
    simp only [go_sem,seval]
    repeat refine sd0 ?_
    refine hK _ (hN9 (2,upd (upd r 0 1 v) 1 0 (mirr v)) _ ⟨by omega,by omega,upd_len (upd_len hr)⟩ (by simp only;omega) (Le_wc (by simp only [go_sem,seval,upd]) (by simp only [go_sem,seval,upd])))
   ·refine Aw_st hE [0,3,4,6,7,8,9,53] [700,701,710,711,712,713,714,720,721,722,723,724] fun K hK=>?_
    simp only [go_sem,seval]
    refine ⟨fun hg23=>⟨by omega,fun y hy1 hy2=>?_⟩,fun hg23=>?_⟩
    ·refine hK _ (Aw_cond rfl (fun hc24=>?_) (fun hc24=>?_))
     ·refine Aw_tx hE [0,3,4,6,7,8,9] [700,701,710,711,712,713,714,720,721,722,723,724] fun K hK=>?_
      simp only [go_sem,seval]
      exact hK _ (hB13 3 _ ⟨by decide,by decide⟩ (LeE_of (Le_wa)))
     ·exact Aw_skip (hB13 v _ ⟨hv1,hv2⟩ (LeE_of (Le_wa)))
    ·exact hK _ (Aw_no rfl (Aw_skip (hB13 v _ ⟨hv1,hv2⟩ (LeE_of (Le_wa)))))
 ·refine Aw_st hE [0,3,4,6,7,33] [700,701,710,711,712,713,714,720,721,722,723,724] fun K hK=>?_
  simp only [go_sem,seval]
  refine hK _ (Aw_yes rfl (Aw_skip (hB4 _ ?_)))
  refine Aw_sq fun B6 hB6 hR6 hX6=>?_
  refine Aw_bk fun B7 hN7 hE7 hR7 hX7=>?_
  refine Aw_st hE [0,3,4,6,7,8] [700,701,710,711,712,713,714,720,721,722,723,724] fun K hK=>?_
  simp only [go_sem,seval]
  refine hK _ ?_;clear hK K
  refine Aw_bk fun B8 hN8 hE8 hR8 hX8=>?_
  refine Aw_lp (fun i:Nat × (Nat→List Int)=>⟨111,[(0,.rd),(3,iv 2),(4,.xs 700 0 2 (c + 2) 1),(6,bv bb),(7,iv 1),(8,iv (i.1:Int))],(700,vws 2 d 710 2++jN c)::bxs 2 d i.2 710 2,k + 0 + 2 * i.1⟩) (fun i=>2≤i.1∧i.1≤2∧∀ x,(i.2 x).length=2) (fun i=>2 - i.1) (2,r) (Le_wa) ⟨by omega,by omega,hr⟩ fun i hi B9 hN9 hR9 hX9=>?_
  obtain ⟨b,r⟩:=i
  obtain ⟨hi1,hi2,hr⟩:=hi
  simp only at hi1 hi2 hr
  have hr0:=hr 0
  have hr1:=hr 1
  refine Aw_sq fun B10 hB10 hR10 hX10=>?_
  obtain rfl:b=2:=by omega
  ·refine Aw_st hE [0,3,4,6,7,8,40] [700,701,710,711,712,713,714,720,721,722,723,724] fun K hK=>?_
   simp only [go_sem,seval]
   refine hK _ (Aw_no rfl (Aw_exit (hX10 _ _ (hX9 _ _ (hE8 _ ?_)))))
   refine hN7 _ (hB6 _ ?_)
   refine Aw_tx hE [0,3,4,6,7] [700,701,710,711,712,713,714,720,721,722,723,724] fun K hK=>?_
   simp only [go_sem,seval]
   repeat refine sd0 ?_
   refine hK _ (hN3 (2,r) _ ⟨by omega,hr⟩ (by simp only;omega) (Le_wa))
set_option maxHeartbeats 16000000 in
theorem relsB3 {E:En} (hE:TbOk E tbRels) {k:Nat} (hk:k + 40≤1099511627776) {Q:Exit→St→Prop} (hQ:∀ (L:List (List Int)) (rn:Nat),(2≤L.length∧L.length≤5)→(∀ w ∈ L,w.length=L.length)→rn≤k + 40→Aw E .ret ⟨111,[(2,wsl L)],[],rn⟩ Q) {r:Nat→List Int} (hr:∀ q,(r q).length=3) {d:Nat→Nat} {c:Nat}:Aw E (seqB (seqB (seqB (seqB (Tryd.f30.body.getD .skip))))) ⟨111,[(0,.rd),(3,iv 3),(4,.xs 700 0 3 (c + 3) 1)],(700,vws 3 d 710 3++jN c)::bxs 3 d r 710 3,k + 1⟩ Q:=by
 refine Aw_st hE [0,3,4,6] [700,701,710,711,712,713,714,720,721,722,723,724] fun K hK=>?_
 simp only [go_sem,seval]
 refine ⟨by omega,fun x hx1 hx2=>?_⟩
 generalize decide (x=0)=bb
 refine hK _ ?_;clear hK K
 refine Aw_sqJ (fun i:(Nat→List Int) × Nat=>⟨111,[(0,.rd),(3,iv 3),(4,.xs 700 0 3 (c + 3) 1)],(700,vws 3 d 710 3++jN c)::bxs 3 d i.1 710 3,i.2⟩) (fun i=>(∀ x,(i.1 x).length=3)∧i.2≤k + 29) (fun i hi=>relsR3 hE hk hQ hi.1 hi.2) fun B1 hB1 hR1 hX1=>?_
 refine Aw_st hE [0,3,4,6,7] [700,701,710,711,712,713,714,720,721,722,723,724] fun K hK=>?_
 simp only [go_sem,seval]
 refine hK _ ?_;clear hK K
 refine Aw_bk fun B2 hN2 hE2 hR2 hX2=>?_
 refine Aw_lp (fun i:Nat × (Nat→List Int)=>⟨111,[(0,.rd),(3,iv 3),(4,.xs 700 0 3 (c + 3) 1),(6,bv bb),(7,iv (i.1:Int))],(700,vws 3 d 710 3++jN c)::bxs 3 d i.2 710 3,k + 2 + i.1 * (5 - i.1)⟩) (fun i=>i.1≤3∧∀ x,(i.2 x).length=3) (fun i=>3 - i.1) (0,r) (Le_wa) ⟨by omega,hr⟩ fun i hi B3 hN3 hR3 hX3=>?_
 obtain ⟨a,r⟩:=i
 obtain ⟨hi,hr⟩:=hi
 simp only at hi hr
 refine Aw_sq fun B4 hB4 hR4 hX4=>?_
 rcases (show a=3∨a=0∨a=1∨a=2 by omega) with rfl | rfl | rfl | rfl
 ·refine Aw_st hE [0,3,4,6,7,33] [700,701,710,711,712,713,714,720,721,722,723,724] fun K hK=>?_
  simp only [go_sem,seval]
  refine hK _ (Aw_no rfl (Aw_exit (hX4 _ _ (hX3 _ _ (hE2 _ (hB1 (r,k + 29) _ ⟨hr,by simp only;omega⟩ (LeE_of (Le_wa))))))))
 ·refine Aw_st hE [0,3,4,6,7,33] [700,701,710,711,712,713,714,720,721,722,723,724] fun K hK=>?_
  simp only [go_sem,seval]
  refine hK _ (Aw_yes rfl (Aw_skip (hB4 _ ?_)))
  refine Aw_sq fun B6 hB6 hR6 hX6=>?_
  refine Aw_bk fun B7 hN7 hE7 hR7 hX7=>?_
  refine Aw_st hE [0,3,4,6,7,8] [700,701,710,711,712,713,714,720,721,722,723,724] fun K hK=>?_
  simp only [go_sem,seval]
  refine hK _ ?_;clear hK K
  refine Aw_bk fun B8 hN8 hE8 hR8 hX8=>?_
  refine Aw_lp (fun i:Nat × (Nat→List Int)=>⟨111,[(0,.rd),(3,iv 3),(4,.xs 700 0 3 (c + 3) 1),(6,bv bb),(7,iv 0),(8,iv (i.1:Int))],(700,vws 3 d 710 3++jN c)::bxs 3 d i.2 710 3,k + 0 + 2 * i.1⟩) (fun i=>1≤i.1∧i.1≤3∧∀ x,(i.2 x).length=3) (fun i=>3 - i.1) (1,r) (Le_wa) ⟨by omega,by omega,hr⟩ fun i hi B9 hN9 hR9 hX9=>?_
  obtain ⟨b,r⟩:=i
  obtain ⟨hi1,hi2,hr⟩:=hi
  simp only at hi1 hi2 hr
  have hr0:=hr 0
  have hr1:=hr 1
  have hr2:=hr 2
  refine Aw_sq fun B10 hB10 hR10 hX10=>?_
  rcases (show b=3∨b=1∨b=2 by omega) with rfl | rfl | rfl
  ·refine Aw_st hE [0,3,4,6,7,8,40] [700,701,710,711,712,713,714,720,721,722,723,724] fun K hK=>?_
   simp only [go_sem,seval]
   refine hK _ (Aw_no rfl (Aw_exit (hX10 _ _ (hX9 _ _ (hE8 _ ?_)))))
   refine hN7 _ (hB6 _ ?_)
   refine Aw_tx hE [0,3,4,6,7] [700,701,710,711,712,713,714,720,721,722,723,724] fun K hK=>?_
   simp only [go_sem,seval]
   repeat refine sd0 ?_
   refine hK _ (hN3 (1,r) _ ⟨by omega,hr⟩ (by simp only;omega) (Le_wa))
  ·refine Aw_st hE [0,3,4,6,7,8,40] [700,701,710,711,712,713,714,720,721,722,723,724] fun K hK=>?_
   simp only [go_sem,seval]
   refine hK _ (Aw_yes rfl (Aw_skip (hB10 _ ?_)))
   refine Aw_sq fun B11 hB11 hR11 hX11=>?_
   refine Aw_bk fun B12 hN12 hE12 hR12 hX12=>?_
   refine Aw_st hE [0,3,4,6,7,8,9] [700,701,710,711,712,713,714,720,721,722,723,724] fun K hK=>?_
   refine aops_cut 3 fun K1 hK1=>?_
   simp only [go_sem,seval]
   repeat refine sd0 ?_
   intro x hx1 hx2
   obtain ⟨v,hv,hv1,hv2⟩:=pick4 x hx1 hx2
   refine hK1 _ ?_
   clear hK1
   simp only [go_sem,seval,hv]
   repeat refine sd0 ?_
   refine hK _ ?_;clear hK K
   refine Aw_sqJ (fun v:Int=>⟨111,[(0,.rd),(3,iv 3),(4,.xs 700 0 3 (c + 3) 1),(6,bv bb),(7,iv 0),(8,iv 1),(9,iv v)],(700,vws 3 d 710 3++jN c)::bxs 3 d r 710 3,k + 4⟩) (fun v=>0≤v∧v≤3) (fun v hv=>?_) fun B13 hB13 hR13 hX13=>?_
   ·have hs1:=cI_set (r 0) (d 0) 1 v (by omega)
    have hs2:=fun y=>cI_set (r 1) (d 1) 0 y (by omega)
    obtain ⟨hv1,hv2⟩:=hv
    refine Aw_st hE [0,3,4,6,7,8,9] [700,701,710,711,712,713,714,720,721,722,723,724] fun K hK=>?_
    simp only [go_sem,seval,hs1]
    refine ⟨by omega,?_⟩
    refine hK _ ?_;clear hK K
    refine Aw_td hE [0,3,4,6,7,8] [700,701,710,711,712,713,714,720,721,722,723,724] 6 (by kernel_rfl) fun K hK=>?_
    simp only [go_sem,seval,hs2,hv1,hv2]
    refine ⟨by omega,hK _ (hN12 _ (hB11 _ ?_))⟩
    refine Aw_tx hE [0,3,4,6,7,8] [700,701,710,711,712,713,714,720,721,722,723,724] fun K hK=>?_
    simp only [go_sem,seval]
    repeat refine sd0 ?_
    refine hK _ (hN9 (2,upd (upd r 0 1 v) 1 0 (mirr v)) _ ⟨by omega,by omega,upd_len (upd_len hr)⟩ (by simp only;omega) (Le_wc (by simp only [go_sem,seval,upd]) (by simp only [go_sem,seval,upd])))
   ·refine Aw_st hE [0,3,4,6,7,8,9,53] [700,701,710,711,712,713,714,720,721,722,723,724] fun K hK=>?_
    simp only [go_sem,seval]
    refine ⟨fun hg23=>⟨by omega,fun y hy1 hy2=>?_⟩,fun hg23=>?_⟩
    ·refine hK _ (Aw_cond rfl (fun hc24=>?_) (fun hc24=>?_))
     ·refine Aw_tx hE [0,3,4,6,7,8,9] [700,701,710,711,712,713,714,720,721,722,723,724] fun K hK=>?_
      simp only [go_sem,seval]
      exact hK _ (hB13 3 _ ⟨by decide,by decide⟩ (LeE_of (Le_wa)))
     ·exact Aw_skip (hB13 v _ ⟨hv1,hv2⟩ (LeE_of (Le_wa)))
    ·exact hK _ (Aw_no rfl (Aw_skip (hB13 v _ ⟨hv1,hv2⟩ (LeE_of (Le_wa)))))
  ·refine Aw_st hE [0,3,4,6,7,8,40] [700,701,710,711,712,713,714,720,721,722,723,724] fun K hK=>?_
   simp only [go_sem,seval]
   refine hK _ (Aw_yes rfl (Aw_skip (hB10 _ ?_)))
   refine Aw_sq fun B11 hB11 hR11 hX11=>?_
   refine Aw_bk fun B12 hN12 hE12 hR12 hX12=>?_
   refine Aw_st hE [0,3,4,6,7,8,9] [700,701,710,711,712,713,714,720,721,722,723,724] fun K hK=>?_
   refine aops_cut 3 fun K1 hK1=>?_
   simp only [go_sem,seval]
   repeat refine sd0 ?_
   intro x hx1 hx2
   obtain ⟨v,hv,hv1,hv2⟩:=pick4 x hx1 hx2
   refine hK1 _ ?_
   clear hK1
   simp only [go_sem,seval,hv]
   repeat refine sd0 ?_
   refine hK _ ?_;clear hK K
   refine Aw_sqJ (fun v:Int=>⟨111,[(0,.rd),(3,iv 3),(4,.xs 700 0 3 (c + 3) 1),(6,bv bb),(7,iv 0),(8,iv 2),(9,iv v)],(700,vws 3 d 710 3++jN c)::bxs 3 d r 710 3,k + 6⟩) (fun v=>0≤v∧v≤3) (fun v hv=>?_) fun B13 hB13 hR13 hX13=>?_
   ·have hs1:=cI_set (r 0) (d 0) 2 v (by omega)
    have hs2:=fun y=>cI_set (r 2) (d 2) 0 y (by omega)
    obtain ⟨hv1,hv2⟩:=hv
    refine Aw_st hE [0,3,4,6,7,8,9] [700,701,710,711,712,713,714,720,721,722,723,724] fun K hK=>?_
    simp only [go_sem,seval,hs1]
    refine ⟨by omega,?_⟩
    refine hK _ ?_;clear hK K
    refine Aw_td hE [0,3,4,6,7,8] [700,701,710,711,712,713,714,720,721,722,723,724] 6 (by kernel_rfl) fun K hK=>?_
    simp only [go_sem,seval,hs2,hv1,hv2]
    refine ⟨by omega,hK _ (hN12 _ (hB11 _ ?_))⟩
    refine Aw_tx hE [0,3,4,6,7,8] [700,701,710,711,712,713,714,720,721,722,723,724] fun K hK=>?_
    simp only [go_sem,seval]
    repeat refine sd0 ?_
    refine hK _ (hN9 (3,upd (upd r 0 2 v) 2 0 (mirr v)) _ ⟨by omega,by omega,upd_len (upd_len hr)⟩ (by simp only;omega) (Le_wc (by simp only [go_sem,seval,upd]) (by simp only [go_sem,seval,upd])))
   ·refine Aw_st hE [0,3,4,6,7,8,9,53] [700,701,710,711,712,713,714,720,721,722,723,724] fun K hK=>?_
    simp only [go_sem,seval]
    refine ⟨fun hg23=>⟨by omega,fun y hy1 hy2=>?_⟩,fun hg23=>?_⟩
    ·refine hK _ (Aw_cond rfl (fun hc24=>?_) (fun hc24=>?_))
     ·refine Aw_tx hE [0,3,4,6,7,8,9] [700,701,710,711,712,713,714,720,721,722,723,724] fun K hK=>?_
      simp only [go_sem,seval]
      exact hK _ (hB13 3 _ ⟨by decide,by decide⟩ (LeE_of (Le_wa)))
     ·exact Aw_skip (hB13 v _ ⟨hv1,hv2⟩ (LeE_of (Le_wa)))
    ·exact hK _ (Aw_no rfl (Aw_skip (hB13 v _ ⟨hv1,hv2⟩ (LeE_of (Le_wa)))))
 ·refine Aw_st hE [0,3,4,6,7,33] [700,701,710,711,712,713,714,720,721,722,723,724] fun K hK=>?_
  simp only [go_sem,seval]
  refine hK _ (Aw_yes rfl (Aw_skip (hB4 _ ?_)))
  refine Aw_sq fun B6 hB6 hR6 hX6=>?_
  refine Aw_bk fun B7 hN7 hE7 hR7 hX7=>?_
  refine Aw_st hE [0,3,4,6,7,8] [700,701,710,711,712,713,714,720,721,722,723,724] fun K hK=>?_
  simp only [go_sem,seval]
  refine hK _ ?_;clear hK K
  refine Aw_bk fun B8 hN8 hE8 hR8 hX8=>?_
  refine Aw_lp (fun i:Nat × (Nat→List Int)=>⟨111,[(0,.rd),(3,iv 3),(4,.xs 700 0 3 (c + 3) 1),(6,bv bb),(7,iv 1),(8,iv (i.1:Int))],(700,vws 3 d 710 3++jN c)::bxs 3 d i.2 710 3,k + 2 + 2 * i.1⟩) (fun i=>2≤i.1∧i.1≤3∧∀ x,(i.2 x).length=3) (fun i=>3 - i.1) (2,r) (Le_wa) ⟨by omega,by omega,hr⟩ fun i hi B9 hN9 hR9 hX9=>?_
  obtain ⟨b,r⟩:=i
  obtain ⟨hi1,hi2,hr⟩:=hi
  simp only at hi1 hi2 hr
  have hr0:=hr 0
  have hr1:=hr 1
  have hr2:=hr 2
  refine Aw_sq fun B10 hB10 hR10 hX10=>?_
  rcases (show b=3∨b=2 by omega) with rfl | rfl
  ·refine Aw_st hE [0,3,4,6,7,8,40] [700,701,710,711,712,713,714,720,721,722,723,724] fun K hK=>?_
   simp only [go_sem,seval]
   refine hK _ (Aw_no rfl (Aw_exit (hX10 _ _ (hX9 _ _ (hE8 _ ?_)))))
   refine hN7 _ (hB6 _ ?_)
   refine Aw_tx hE [0,3,4,6,7] [700,701,710,711,712,713,714,720,721,722,723,724] fun K hK=>?_
   simp only [go_sem,seval]
   repeat refine sd0 ?_
   refine hK _ (hN3 (2,r) _ ⟨by omega,hr⟩ (by simp only;omega) (Le_wa))
  ·refine Aw_st hE [0,3,4,6,7,8,40] [700,701,710,711,712,713,714,720,721,722,723,724] fun K hK=>?_
   simp only [go_sem,seval]
   refine hK _ (Aw_yes rfl (Aw_skip (hB10 _ ?_)))
   refine Aw_sq fun B11 hB11 hR11 hX11=>?_
   refine Aw_bk fun B12 hN12 hE12 hR12 hX12=>?_
   refine Aw_st hE [0,3,4,6,7,8,9] [700,701,710,711,712,713,714,720,721,722,723,724] fun K hK=>?_
   refine aops_cut 3 fun K1 hK1=>?_
   simp only [go_sem,seval]
   repeat refine sd0 ?_
   intro x hx1 hx2
   obtain ⟨v,hv,hv1,hv2⟩:=pick4 x hx1 hx2
   refine hK1 _ ?_
   clear hK1
   simp only [go_sem,seval,hv]
   repeat refine sd0 ?_
   refine hK _ ?_;clear hK K
   refine Aw_sqJ (fun v:Int=>⟨111,[(0,.rd),(3,iv 3),(4,.xs 700 0 3 (c + 3) 1),(6,bv bb),(7,iv 1),(8,iv 2),(9,iv v)],(700,vws 3 d 710 3++jN c)::bxs 3 d r 710 3,k + 8⟩) (fun v=>0≤v∧v≤3) (fun v hv=>?_) fun B13 hB13 hR13 hX13=>?_
   ·have hs1:=cI_set (r 1) (d 1) 2 v (by omega)
    have hs2:=fun y=>cI_set (r 2) (d 2) 1 y (by omega)
    obtain ⟨hv1,hv2⟩:=hv
    refine Aw_st hE [0,3,4,6,7,8,9] [700,701,710,711,712,713,714,720,721,722,723,724] fun K hK=>?_
    simp only [go_sem,seval,hs1]
    refine ⟨by omega,?_⟩
    refine hK _ ?_;clear hK K
    refine Aw_td hE [0,3,4,6,7,8] [700,701,710,711,712,713,714,720,721,722,723,724] 6 (by kernel_rfl) fun K hK=>?_
    simp only [go_sem,seval,hs2,hv1,hv2]
    refine ⟨by omega,hK _ (hN12 _ (hB11 _ ?_))⟩
    refine Aw_tx hE [0,3,4,6,7,8] [700,701,710,711,712,713,714,720,721,722,723,724] fun K hK=>?_
    simp only [go_sem,seval]
    repeat refine sd0 ?_
    refine hK _ (hN9 (3,upd (upd r 1 2 v) 2 1 (mirr v)) _ ⟨by omega,by omega,upd_len (upd_len hr)⟩ (by simp only;omega) (Le_wc (by simp only [go_sem,seval,upd]) (by simp only [go_sem,seval,upd])))
   ·refine Aw_st hE [0,3,4,6,7,8,9,53] [700,701,710,711,712,713,714,720,721,722,723,724] fun K hK=>?_
    simp only [go_sem,seval]
    refine ⟨fun hg23=>⟨by omega,fun y hy1 hy2=>?_⟩,fun hg23=>?_⟩
    ·refine hK _ (Aw_cond rfl (fun hc24=>?_) (fun hc24=>?_))
     ·refine Aw_tx hE [0,3,4,6,7,8,9] [700,701,710,711,712,713,714,720,721,722,723,724] fun K hK=>?_
      simp only [go_sem,seval]
      exact hK _ (hB13 3 _ ⟨by decide,by decide⟩ (LeE_of (Le_wa)))
     ·exact Aw_skip (hB13 v _ ⟨hv1,hv2⟩ (LeE_of (Le_wa)))
    ·exact hK _ (Aw_no rfl (Aw_skip (hB13 v _ ⟨hv1,hv2⟩ (LeE_of (Le_wa)))))
 ·refine Aw_st hE [0,3,4,6,7,33] [700,701,710,711,712,713,714,720,721,722,723,724] fun K hK=>?_
  simp only [go_sem,seval]
  refine hK _ (Aw_yes rfl (Aw_skip (hB4 _ ?_)))
  refine Aw_sq fun B6 hB6 hR6 hX6=>?_
  refine Aw_bk fun B7 hN7 hE7 hR7 hX7=>?_
  refine Aw_st hE [0,3,4,6,7,8] [700,701,710,711,712,713,714,720,721,722,723,724] fun K hK=>?_
  simp only [go_sem,seval]
  refine hK _ ?_;clear hK K
  refine Aw_bk fun B8 hN8 hE8 hR8 hX8=>?_
  refine Aw_lp (fun i:Nat × (Nat→List Int)=>⟨111,[(0,.rd),(3,iv 3),(4,.xs 700 0 3 (c + 3) 1),(6,bv bb),(7,iv 2),(8,iv (i.1:Int))],(700,vws 3 d 710 3++jN c)::bxs 3 d i.2 710 3,k + 2 + 2 * i.1⟩) (fun i=>3≤i.1∧i.1≤3∧∀ x,(i.2 x).length=3) (fun i=>3 - i.1) (3,r) (Le_wa) ⟨by omega,by omega,hr⟩ fun i hi B9 hN9 hR9 hX9=>?_
  obtain ⟨b,r⟩:=i
  obtain ⟨hi1,hi2,hr⟩:=hi
  simp only at hi1 hi2 hr
  have hr0:=hr 0
  have hr1:=hr 1
  have hr2:=hr 2
  refine Aw_sq fun B10 hB10 hR10 hX10=>?_
  obtain rfl:b=3:=by omega
  ·refine Aw_st hE [0,3,4,6,7,8,40] [700,701,710,711,712,713,714,720,721,722,723,724] fun K hK=>?_
   simp only [go_sem,seval]
   refine hK _ (Aw_no rfl (Aw_exit (hX10 _ _ (hX9 _ _ (hE8 _ ?_)))))
   refine hN7 _ (hB6 _ ?_)
   refine Aw_tx hE [0,3,4,6,7] [700,701,710,711,712,713,714,720,721,722,723,724] fun K hK=>?_
   simp only [go_sem,seval]
   repeat refine sd0 ?_
   refine hK _ (hN3 (3,r) _ ⟨by omega,hr⟩ (by simp only;omega) (Le_wa))
set_option maxHeartbeats 16000000 in
theorem relsB4 {E:En} (hE:TbOk E tbRels) {k:Nat} (hk:k + 40≤1099511627776) {Q:Exit→St→Prop} (hQ:∀ (L:List (List Int)) (rn:Nat),(2≤L.length∧L.length≤5)→(∀ w ∈ L,w.length=L.length)→rn≤k + 40→Aw E .ret ⟨111,[(2,wsl L)],[],rn⟩ Q) {r:Nat→List Int} (hr:∀ q,(r q).length=4) {d:Nat→Nat} {c:Nat}:Aw E (seqB (seqB (seqB (seqB (Tryd.f30.body.getD .skip))))) ⟨111,[(0,.rd),(3,iv 4),(4,.xs 700 0 4 (c + 4) 1)],(700,vws 4 d 710 4++jN c)::bxs 4 d r 710 4,k + 1⟩ Q:=by
 refine Aw_st hE [0,3,4,6] [700,701,710,711,712,713,714,720,721,722,723,724] fun K hK=>?_
 simp only [go_sem,seval]
 refine ⟨by omega,fun x hx1 hx2=>?_⟩
 generalize decide (x=0)=bb
 refine hK _ ?_;clear hK K
 refine Aw_sqJ (fun i:(Nat→List Int) × Nat=>⟨111,[(0,.rd),(3,iv 4),(4,.xs 700 0 4 (c + 4) 1)],(700,vws 4 d 710 4++jN c)::bxs 4 d i.1 710 4,i.2⟩) (fun i=>(∀ x,(i.1 x).length=4)∧i.2≤k + 29) (fun i hi=>relsR4 hE hk hQ hi.1 hi.2) fun B1 hB1 hR1 hX1=>?_
 refine Aw_st hE [0,3,4,6,7] [700,701,710,711,712,713,714,720,721,722,723,724] fun K hK=>?_
 simp only [go_sem,seval]
 refine hK _ ?_;clear hK K
 refine Aw_bk fun B2 hN2 hE2 hR2 hX2=>?_
 refine Aw_lp (fun i:Nat × (Nat→List Int)=>⟨111,[(0,.rd),(3,iv 4),(4,.xs 700 0 4 (c + 4) 1),(6,bv bb),(7,iv (i.1:Int))],(700,vws 4 d 710 4++jN c)::bxs 4 d i.2 710 4,k + 2 + i.1 * (7 - i.1)⟩) (fun i=>i.1≤4∧∀ x,(i.2 x).length=4) (fun i=>4 - i.1) (0,r) (Le_wa) ⟨by omega,hr⟩ fun i hi B3 hN3 hR3 hX3=>?_
 obtain ⟨a,r⟩:=i
 obtain ⟨hi,hr⟩:=hi
 simp only at hi hr
 refine Aw_sq fun B4 hB4 hR4 hX4=>?_
 rcases (show a=4∨a=0∨a=1∨a=2∨a=3 by omega) with rfl | rfl | rfl | rfl | rfl
 ·refine Aw_st hE [0,3,4,6,7,33] [700,701,710,711,712,713,714,720,721,722,723,724] fun K hK=>?_
  simp only [go_sem,seval]
  refine hK _ (Aw_no rfl (Aw_exit (hX4 _ _ (hX3 _ _ (hE2 _ (hB1 (r,k + 29) _ ⟨hr,by simp only;omega⟩ (LeE_of (Le_wa))))))))
 ·refine Aw_st hE [0,3,4,6,7,33] [700,701,710,711,712,713,714,720,721,722,723,724] fun K hK=>?_
  simp only [go_sem,seval]
  refine hK _ (Aw_yes rfl (Aw_skip (hB4 _ ?_)))
  refine Aw_sq fun B6 hB6 hR6 hX6=>?_
  refine Aw_bk fun B7 hN7 hE7 hR7 hX7=>?_
  refine Aw_st hE [0,3,4,6,7,8] [700,701,710,711,712,713,714,720,721,722,723,724] fun K hK=>?_
  simp only [go_sem,seval]
  refine hK _ ?_;clear hK K
  refine Aw_bk fun B8 hN8 hE8 hR8 hX8=>?_
  refine Aw_lp (fun i:Nat × (Nat→List Int)=>⟨111,[(0,.rd),(3,iv 4),(4,.xs 700 0 4 (c + 4) 1),(6,bv bb),(7,iv 0),(8,iv (i.1:Int))],(700,vws 4 d 710 4++jN c)::bxs 4 d i.2 710 4,k + 0 + 2 * i.1⟩) (fun i=>1≤i.1∧i.1≤4∧∀ x,(i.2 x).length=4) (fun i=>4 - i.1) (1,r) (Le_wa) ⟨by omega,by omega,hr⟩ fun i hi B9 hN9 hR9 hX9=>?_
  obtain ⟨b,r⟩:=i
  obtain ⟨hi1,hi2,hr⟩:=hi
  simp only at hi1 hi2 hr
  have hr0:=hr 0
  have hr1:=hr 1
  have hr2:=hr 2
  have hr3:=hr 3
  refine Aw_sq fun B10 hB10 hR10 hX10=>?_
  rcases (show b=4∨b=1∨b=2∨b=3 by omega) with rfl | rfl | rfl | rfl
  ·refine Aw_st hE [0,3,4,6,7,8,40] [700,701,710,711,712,713,714,720,721,722,723,724] fun K hK=>?_
   simp only [go_sem,seval]
   refine hK _ (Aw_no rfl (Aw_exit (hX10 _ _ (hX9 _ _ (hE8 _ ?_)))))
   refine hN7 _ (hB6 _ ?_)
   refine Aw_tx hE [0,3,4,6,7] [700,701,710,711,712,713,714,720,721,722,723,724] fun K hK=>?_
   simp only [go_sem,seval]
   repeat refine sd0 ?_
   refine hK _ (hN3 (1,r) _ ⟨by omega,hr⟩ (by simp only;omega) (Le_wa))
  ·refine Aw_st hE [0,3,4,6,7,8,40] [700,701,710,711,712,713,714,720,721,722,723,724] fun K hK=>?_
   simp only [go_sem,seval]
   refine hK _ (Aw_yes rfl (Aw_skip (hB10 _ ?_)))
   refine Aw_sq fun B11 hB11 hR11 hX11=>?_
   refine Aw_bk fun B12 hN12 hE12 hR12 hX12=>?_
   refine Aw_st hE [0,3,4,6,7,8,9] [700,701,710,711,712,713,714,720,721,722,723,724] fun K hK=>?_
   refine aops_cut 3 fun K1 hK1=>?_
   simp only [go_sem,seval]
   repeat refine sd0 ?_
   intro x hx1 hx2
   obtain ⟨v,hv,hv1,hv2⟩:=pick4 x hx1 hx2
   refine hK1 _ ?_
   clear hK1
   simp only [go_sem,seval,hv]
   repeat refine sd0 ?_
   refine hK _ ?_;clear hK K
   refine Aw_sqJ (fun v:Int=>⟨111,[(0,.rd),(3,iv 4),(4,.xs 700 0 4 (c + 4) 1),(6,bv bb),(7,iv 0),(8,iv 1),(9,iv v)],(700,vws 4 d 710 4++jN c)::bxs 4 d r 710 4,k + 4⟩) (fun v=>0≤v∧v≤3) (fun v hv=>?_) fun B13 hB13 hR13 hX13=>?_
   ·have hs1:=cI_set (r 0) (d 0) 1 v (by omega)
    have hs2:=fun y=>cI_set (r 1) (d 1) 0 y (by omega)
    obtain ⟨hv1,hv2⟩:=hv
    refine Aw_st hE [0,3,4,6,7,8,9] [700,701,710,711,712,713,714,720,721,722,723,724] fun K hK=>?_
    simp only [go_sem,seval,hs1]
    refine ⟨by omega,?_⟩
    refine hK _ ?_;clear hK K
    refine Aw_td hE [0,3,4,6,7,8] [700,701,710,711,712,713,714,720,721,722,723,724] 6 (by kernel_rfl) fun K hK=>?_
    simp only [go_sem,seval,hs2,hv1,hv2]
    refine ⟨by omega,hK _ (hN12 _ (hB11 _ ?_))⟩
    refine Aw_tx hE [0,3,4,6,7,8] [700,701,710,711,712,713,714,720,721,722,723,724] fun K hK=>?_
    simp only [go_sem,seval]
    repeat refine sd0 ?_
    refine hK _ (hN9 (2,upd (upd r 0 1 v) 1 0 (mirr v)) _ ⟨by omega,by omega,upd_len (upd_len hr)⟩ (by simp only;omega) (Le_wc (by simp only [go_sem,seval,upd]) (by simp only [go_sem,seval,upd])))
   ·refine Aw_st hE [0,3,4,6,7,8,9,53] [700,701,710,711,712,713,714,720,721,722,723,724] fun K hK=>?_
    simp only [go_sem,seval]
    refine ⟨fun hg23=>⟨by omega,fun y hy1 hy2=>?_⟩,fun hg23=>?_⟩
    ·refine hK _ (Aw_cond rfl (fun hc24=>?_) (fun hc24=>?_))
     ·refine Aw_tx hE [0,3,4,6,7,8,9] [700,701,710,711,712,713,714,720,721,722,723,724] fun K hK=>?_
      simp only [go_sem,seval]
      exact hK _ (hB13 3 _ ⟨by decide,by decide⟩ (LeE_of (Le_wa)))
     ·exact Aw_skip (hB13 v _ ⟨hv1,hv2⟩ (LeE_of (Le_wa)))
    ·exact hK _ (Aw_no rfl (Aw_skip (hB13 v _ ⟨hv1,hv2⟩ (LeE_of (Le_wa)))))
  ·refine Aw_st hE [0,3,4,6,7,8,40] [700,701,710,711,712,713,714,720,721,722,723,724] fun K hK=>?_
   simp only [go_sem,seval]
   refine hK _ (Aw_yes rfl (Aw_skip (hB10 _ ?_)))
   refine Aw_sq fun B11 hB11 hR11 hX11=>?_
   refine Aw_bk fun B12 hN12 hE12 hR12 hX12=>?_
   refine Aw_st hE [0,3,4,6,7,8,9] [700,701,710,711,712,713,714,720,721,722,723,724] fun K hK=>?_
   refine aops_cut 3 fun K1 hK1=>?_
   simp only [go_sem,seval]
   repeat refine sd0 ?_
   intro x hx1 hx2
   obtain ⟨v,hv,hv1,hv2⟩:=pick4 x hx1 hx2
   refine hK1 _ ?_
   clear hK1
   simp only [go_sem,seval,hv]
   repeat refine sd0 ?_
   refine hK _ ?_;clear hK K
   refine Aw_sqJ (fun v:Int=>⟨111,[(0,.rd),(3,iv 4),(4,.xs 700 0 4 (c + 4) 1),(6,bv bb),(7,iv 0),(8,iv 2),(9,iv v)],(700,vws 4 d 710 4++jN c)::bxs 4 d r 710 4,k + 6⟩) (fun v=>0≤v∧v≤3) (fun v hv=>?_) fun B13 hB13 hR13 hX13=>?_
   ·have hs1:=cI_set (r 0) (d 0) 2 v (by omega)
    have hs2:=fun y=>cI_set (r 2) (d 2) 0 y (by omega)
    obtain ⟨hv1,hv2⟩:=hv
    refine Aw_st hE [0,3,4,6,7,8,9] [700,701,710,711,712,713,714,720,721,722,723,724] fun K hK=>?_
    simp only [go_sem,seval,hs1]
    refine ⟨by omega,?_⟩
    refine hK _ ?_;clear hK K
    refine Aw_td hE [0,3,4,6,7,8] [700,701,710,711,712,713,714,720,721,722,723,724] 6 (by kernel_rfl) fun K hK=>?_
    simp only [go_sem,seval,hs2,hv1,hv2]
    refine ⟨by omega,hK _ (hN12 _ (hB11 _ ?_))⟩
    refine Aw_tx hE [0,3,4,6,7,8] [700,701,710,711,712,713,714,720,721,722,723,724] fun K hK=>?_
    simp only [go_sem,seval]
    repeat refine sd0 ?_
    refine hK _ (hN9 (3,upd (upd r 0 2 v) 2 0 (mirr v)) _ ⟨by omega,by omega,upd_len (upd_len hr)⟩ (by simp only;omega) (Le_wc (by simp only [go_sem,seval,upd]) (by simp only [go_sem,seval,upd])))
   ·refine Aw_st hE [0,3,4,6,7,8,9,53] [700,701,710,711,712,713,714,720,721,722,723,724] fun K hK=>?_
    simp only [go_sem,seval]
    refine ⟨fun hg23=>⟨by omega,fun y hy1 hy2=>?_⟩,fun hg23=>?_⟩
    ·refine hK _ (Aw_cond rfl (fun hc24=>?_) (fun hc24=>?_))
     ·refine Aw_tx hE [0,3,4,6,7,8,9] [700,701,710,711,712,713,714,720,721,722,723,724] fun K hK=>?_
      simp only [go_sem,seval]
      exact hK _ (hB13 3 _ ⟨by decide,by decide⟩ (LeE_of (Le_wa)))
     ·exact Aw_skip (hB13 v _ ⟨hv1,hv2⟩ (LeE_of (Le_wa)))
    ·exact hK _ (Aw_no rfl (Aw_skip (hB13 v _ ⟨hv1,hv2⟩ (LeE_of (Le_wa)))))
  ·refine Aw_st hE [0,3,4,6,7,8,40] [700,701,710,711,712,713,714,720,721,722,723,724] fun K hK=>?_
   simp only [go_sem,seval]
   refine hK _ (Aw_yes rfl (Aw_skip (hB10 _ ?_)))
   refine Aw_sq fun B11 hB11 hR11 hX11=>?_
   refine Aw_bk fun B12 hN12 hE12 hR12 hX12=>?_
   refine Aw_st hE [0,3,4,6,7,8,9] [700,701,710,711,712,713,714,720,721,722,723,724] fun K hK=>?_
   refine aops_cut 3 fun K1 hK1=>?_
   simp only [go_sem,seval]
   repeat refine sd0 ?_
   intro x hx1 hx2
   obtain ⟨v,hv,hv1,hv2⟩:=pick4 x hx1 hx2
   refine hK1 _ ?_
   clear hK1
   simp only [go_sem,seval,hv]
   repeat refine sd0 ?_
   refine hK _ ?_;clear hK K
   refine Aw_sqJ (fun v:Int=>⟨111,[(0,.rd),(3,iv 4),(4,.xs 700 0 4 (c + 4) 1),(6,bv bb),(7,iv 0),(8,iv 3),(9,iv v)],(700,vws 4 d 710 4++jN c)::bxs 4 d r 710 4,k + 8⟩) (fun v=>0≤v∧v≤3) (fun v hv=>?_) fun B13 hB13 hR13 hX13=>?_
   ·have hs1:=cI_set (r 0) (d 0) 3 v (by omega)
    have hs2:=fun y=>cI_set (r 3) (d 3) 0 y (by omega)
    obtain ⟨hv1,hv2⟩:=hv
    refine Aw_st hE [0,3,4,6,7,8,9] [700,701,710,711,712,713,714,720,721,722,723,724] fun K hK=>?_
    simp only [go_sem,seval,hs1]
    refine ⟨by omega,?_⟩
    refine hK _ ?_;clear hK K
    refine Aw_td hE [0,3,4,6,7,8] [700,701,710,711,712,713,714,720,721,722,723,724] 6 (by kernel_rfl) fun K hK=>?_
    simp only [go_sem,seval,hs2,hv1,hv2]
    refine ⟨by omega,hK _ (hN12 _ (hB11 _ ?_))⟩
    refine Aw_tx hE [0,3,4,6,7,8] [700,701,710,711,712,713,714,720,721,722,723,724] fun K hK=>?_
    simp only [go_sem,seval]
    repeat refine sd0 ?_
    refine hK _ (hN9 (4,upd (upd r 0 3 v) 3 0 (mirr v)) _ ⟨by omega,by omega,upd_len (upd_len hr)⟩ (by simp only;omega) (Le_wc (by simp only [go_sem,seval,upd]) (by simp only [go_sem,seval,upd])))
   ·refine Aw_st hE [0,3,4,6,7,8,9,53] [700,701,710,711,712,713,714,720,721,722,723,724] fun K hK=>?_
    simp only [go_sem,seval]
    refine ⟨fun hg23=>⟨by omega,fun y hy1 hy2=>?_⟩,fun hg23=>?_⟩
    ·refine hK _ (Aw_cond rfl (fun hc24=>?_) (fun hc24=>?_))
     ·refine Aw_tx hE [0,3,4,6,7,8,9] [700,701,710,711,712,713,714,720,721,722,723,724] fun K hK=>?_
      simp only [go_sem,seval]
      exact hK _ (hB13 3 _ ⟨by decide,by decide⟩ (LeE_of (Le_wa)))
     ·exact Aw_skip (hB13 v _ ⟨hv1,hv2⟩ (LeE_of (Le_wa)))
    ·exact hK _ (Aw_no rfl (Aw_skip (hB13 v _ ⟨hv1,hv2⟩ (LeE_of (Le_wa)))))
 ·refine Aw_st hE [0,3,4,6,7,33] [700,701,710,711,712,713,714,720,721,722,723,724] fun K hK=>?_
  simp only [go_sem,seval]
  refine hK _ (Aw_yes rfl (Aw_skip (hB4 _ ?_)))
  refine Aw_sq fun B6 hB6 hR6 hX6=>?_
  refine Aw_bk fun B7 hN7 hE7 hR7 hX7=>?_
  refine Aw_st hE [0,3,4,6,7,8] [700,701,710,711,712,713,714,720,721,722,723,724] fun K hK=>?_
  simp only [go_sem,seval]
  refine hK _ ?_;clear hK K
  refine Aw_bk fun B8 hN8 hE8 hR8 hX8=>?_
  refine Aw_lp (fun i:Nat × (Nat→List Int)=>⟨111,[(0,.rd),(3,iv 4),(4,.xs 700 0 4 (c + 4) 1),(6,bv bb),(7,iv 1),(8,iv (i.1:Int))],(700,vws 4 d 710 4++jN c)::bxs 4 d i.2 710 4,k + 4 + 2 * i.1⟩) (fun i=>2≤i.1∧i.1≤4∧∀ x,(i.2 x).length=4) (fun i=>4 - i.1) (2,r) (Le_wa) ⟨by omega,by omega,hr⟩ fun i hi B9 hN9 hR9 hX9=>?_
  obtain ⟨b,r⟩:=i
  obtain ⟨hi1,hi2,hr⟩:=hi
  simp only at hi1 hi2 hr
  have hr0:=hr 0
  have hr1:=hr 1
  have hr2:=hr 2
  have hr3:=hr 3
  refine Aw_sq fun B10 hB10 hR10 hX10=>?_
  rcases (show b=4∨b=2∨b=3 by omega) with rfl | rfl | rfl
  ·refine Aw_st hE [0,3,4,6,7,8,40] [700,701,710,711,712,713,714,720,721,722,723,724] fun K hK=>?_
   simp only [go_sem,seval]
   refine hK _ (Aw_no rfl (Aw_exit (hX10 _ _ (hX9 _ _ (hE8 _ ?_)))))
   refine hN7 _ (hB6 _ ?_)
   refine Aw_tx hE [0,3,4,6,7] [700,701,710,711,712,713,714,720,721,722,723,724] fun K hK=>?_
   simp only [go_sem,seval]
   repeat refine sd0 ?_
   refine hK _ (hN3 (2,r) _ ⟨by omega,hr⟩ (by simp only;omega) (Le_wa))
  ·refine Aw_st hE [0,3,4,6,7,8,40] [700,701,710,711,712,713,714,720,721,722,723,724] fun K hK=>?_
   simp only [go_sem,seval]
   refine hK _ (Aw_yes rfl (Aw_skip (hB10 _ ?_)))
   refine Aw_sq fun B11 hB11 hR11 hX11=>?_
   refine Aw_bk fun B12 hN12 hE12 hR12 hX12=>?_
   refine Aw_st hE [0,3,4,6,7,8,9] [700,701,710,711,712,713,714,720,721,722,723,724] fun K hK=>?_
   refine aops_cut 3 fun K1 hK1=>?_
   simp only [go_sem,seval]
   repeat refine sd0 ?_
   intro x hx1 hx2
   obtain ⟨v,hv,hv1,hv2⟩:=pick4 x hx1 hx2
   refine hK1 _ ?_
   clear hK1
   simp only [go_sem,seval,hv]
   repeat refine sd0 ?_
   refine hK _ ?_;clear hK K
   refine Aw_sqJ (fun v:Int=>⟨111,[(0,.rd),(3,iv 4),(4,.xs 700 0 4 (c + 4) 1),(6,bv bb),(7,iv 1),(8,iv 2),(9,iv v)],(700,vws 4 d 710 4++jN c)::bxs 4 d r 710 4,k + 10⟩) (fun v=>0≤v∧v≤3) (fun v hv=>?_) fun B13 hB13 hR13 hX13=>?_
   ·have hs1:=cI_set (r 1) (d 1) 2 v (by omega)
    have hs2:=fun y=>cI_set (r 2) (d 2) 1 y (by omega)
    obtain ⟨hv1,hv2⟩:=hv
    refine Aw_st hE [0,3,4,6,7,8,9] [700,701,710,711,712,713,714,720,721,722,723,724] fun K hK=>?_
    simp only [go_sem,seval,hs1]
    refine ⟨by omega,?_⟩
    refine hK _ ?_;clear hK K
    refine Aw_td hE [0,3,4,6,7,8] [700,701,710,711,712,713,714,720,721,722,723,724] 6 (by kernel_rfl) fun K hK=>?_
    simp only [go_sem,seval,hs2,hv1,hv2]
    refine ⟨by omega,hK _ (hN12 _ (hB11 _ ?_))⟩
    refine Aw_tx hE [0,3,4,6,7,8] [700,701,710,711,712,713,714,720,721,722,723,724] fun K hK=>?_
    simp only [go_sem,seval]
    repeat refine sd0 ?_
    refine hK _ (hN9 (3,upd (upd r 1 2 v) 2 1 (mirr v)) _ ⟨by omega,by omega,upd_len (upd_len hr)⟩ (by simp only;omega) (Le_wc (by simp only [go_sem,seval,upd]) (by simp only [go_sem,seval,upd])))
   ·refine Aw_st hE [0,3,4,6,7,8,9,53] [700,701,710,711,712,713,714,720,721,722,723,724] fun K hK=>?_
    simp only [go_sem,seval]
    refine ⟨fun hg23=>⟨by omega,fun y hy1 hy2=>?_⟩,fun hg23=>?_⟩
    ·refine hK _ (Aw_cond rfl (fun hc24=>?_) (fun hc24=>?_))
     ·refine Aw_tx hE [0,3,4,6,7,8,9] [700,701,710,711,712,713,714,720,721,722,723,724] fun K hK=>?_
      simp only [go_sem,seval]
      exact hK _ (hB13 3 _ ⟨by decide,by decide⟩ (LeE_of (Le_wa)))
     ·exact Aw_skip (hB13 v _ ⟨hv1,hv2⟩ (LeE_of (Le_wa)))
    ·exact hK _ (Aw_no rfl (Aw_skip (hB13 v _ ⟨hv1,hv2⟩ (LeE_of (Le_wa)))))
  ·refine Aw_st hE [0,3,4,6,7,8,40] [700,701,710,711,712,713,714,720,721,722,723,724] fun K hK=>?_
   simp only [go_sem,seval]
   refine hK _ (Aw_yes rfl (Aw_skip (hB10 _ ?_)))
   refine Aw_sq fun B11 hB11 hR11 hX11=>?_
   refine Aw_bk fun B12 hN12 hE12 hR12 hX12=>?_
   refine Aw_st hE [0,3,4,6,7,8,9] [700,701,710,711,712,713,714,720,721,722,723,724] fun K hK=>?_
   refine aops_cut 3 fun K1 hK1=>?_
   simp only [go_sem,seval]
   repeat refine sd0 ?_
   intro x hx1 hx2
   obtain ⟨v,hv,hv1,hv2⟩:=pick4 x hx1 hx2
   refine hK1 _ ?_
   clear hK1
   simp only [go_sem,seval,hv]
   repeat refine sd0 ?_
   refine hK _ ?_;clear hK K
   refine Aw_sqJ (fun v:Int=>⟨111,[(0,.rd),(3,iv 4),(4,.xs 700 0 4 (c + 4) 1),(6,bv bb),(7,iv 1),(8,iv 3),(9,iv v)],(700,vws 4 d 710 4++jN c)::bxs 4 d r 710 4,k + 12⟩) (fun v=>0≤v∧v≤3) (fun v hv=>?_) fun B13 hB13 hR13 hX13=>?_
   ·have hs1:=cI_set (r 1) (d 1) 3 v (by omega)
    have hs2:=fun y=>cI_set (r 3) (d 3) 1 y (by omega)
    obtain ⟨hv1,hv2⟩:=hv
    refine Aw_st hE [0,3,4,6,7,8,9] [700,701,710,711,712,713,714,720,721,722,723,724] fun K hK=>?_
    simp only [go_sem,seval,hs1]
    refine ⟨by omega,?_⟩
    refine hK _ ?_;clear hK K
    refine Aw_td hE [0,3,4,6,7,8] [700,701,710,711,712,713,714,720,721,722,723,724] 6 (by kernel_rfl) fun K hK=>?_
    simp only [go_sem,seval,hs2,hv1,hv2]
    refine ⟨by omega,hK _ (hN12 _ (hB11 _ ?_))⟩
    refine Aw_tx hE [0,3,4,6,7,8] [700,701,710,711,712,713,714,720,721,722,723,724] fun K hK=>?_
    simp only [go_sem,seval]
    repeat refine sd0 ?_
    refine hK _ (hN9 (4,upd (upd r 1 3 v) 3 1 (mirr v)) _ ⟨by omega,by omega,upd_len (upd_len hr)⟩ (by simp only;omega) (Le_wc (by simp only [go_sem,seval,upd]) (by simp only [go_sem,seval,upd])))
   ·refine Aw_st hE [0,3,4,6,7,8,9,53] [700,701,710,711,712,713,714,720,721,722,723,724] fun K hK=>?_
    simp only [go_sem,seval]
    refine ⟨fun hg23=>⟨by omega,fun y hy1 hy2=>?_⟩,fun hg23=>?_⟩
    ·refine hK _ (Aw_cond rfl (fun hc24=>?_) (fun hc24=>?_))
     ·refine Aw_tx hE [0,3,4,6,7,8,9] [700,701,710,711,712,713,714,720,721,722,723,724] fun K hK=>?_
      simp only [go_sem,seval]
      exact hK _ (hB13 3 _ ⟨by decide,by decide⟩ (LeE_of (Le_wa)))
     ·exact Aw_skip (hB13 v _ ⟨hv1,hv2⟩ (LeE_of (Le_wa)))
    ·exact hK _ (Aw_no rfl (Aw_skip (hB13 v _ ⟨hv1,hv2⟩ (LeE_of (Le_wa)))))
 ·refine Aw_st hE [0,3,4,6,7,33] [700,701,710,711,712,713,714,720,721,722,723,724] fun K hK=>?_
  simp only [go_sem,seval]
  refine hK _ (Aw_yes rfl (Aw_skip (hB4 _ ?_)))
  refine Aw_sq fun B6 hB6 hR6 hX6=>?_
  refine Aw_bk fun B7 hN7 hE7 hR7 hX7=>?_
  refine Aw_st hE [0,3,4,6,7,8] [700,701,710,711,712,713,714,720,721,722,723,724] fun K hK=>?_
  simp only [go_sem,seval]
  refine hK _ ?_;clear hK K
  refine Aw_bk fun B8 hN8 hE8 hR8 hX8=>?_
  refine Aw_lp (fun i:Nat × (Nat→List Int)=>⟨111,[(0,.rd),(3,iv 4),(4,.xs 700 0 4 (c + 4) 1),(6,bv bb),(7,iv 2),(8,iv (i.1:Int))],(700,vws 4 d 710 4++jN c)::bxs 4 d i.2 710 4,k + 6 + 2 * i.1⟩) (fun i=>3≤i.1∧i.1≤4∧∀ x,(i.2 x).length=4) (fun i=>4 - i.1) (3,r) (Le_wa) ⟨by omega,by omega,hr⟩ fun i hi B9 hN9 hR9 hX9=>?_
  obtain ⟨b,r⟩:=i
  obtain ⟨hi1,hi2,hr⟩:=hi
  simp only at hi1 hi2 hr
  have hr0:=hr 0
  have hr1:=hr 1
  have hr2:=hr 2
  have hr3:=hr 3
  refine Aw_sq fun B10 hB10 hR10 hX10=>?_
  rcases (show b=4∨b=3 by omega) with rfl | rfl
  ·refine Aw_st hE [0,3,4,6,7,8,40] [700,701,710,711,712,713,714,720,721,722,723,724] fun K hK=>?_
   simp only [go_sem,seval]
   refine hK _ (Aw_no rfl (Aw_exit (hX10 _ _ (hX9 _ _ (hE8 _ ?_)))))
   refine hN7 _ (hB6 _ ?_)
   refine Aw_tx hE [0,3,4,6,7] [700,701,710,711,712,713,714,720,721,722,723,724] fun K hK=>?_
   simp only [go_sem,seval]
   repeat refine sd0 ?_
   refine hK _ (hN3 (3,r) _ ⟨by omega,hr⟩ (by simp only;omega) (Le_wa))
  ·refine Aw_st hE [0,3,4,6,7,8,40] [700,701,710,711,712,713,714,720,721,722,723,724] fun K hK=>?_
   simp only [go_sem,seval]
   refine hK _ (Aw_yes rfl (Aw_skip (hB10 _ ?_)))
   refine Aw_sq fun B11 hB11 hR11 hX11=>?_
   refine Aw_bk fun B12 hN12 hE12 hR12 hX12=>?_
   refine Aw_st hE [0,3,4,6,7,8,9] [700,701,710,711,712,713,714,720,721,722,723,724] fun K hK=>?_
   refine aops_cut 3 fun K1 hK1=>?_
   simp only [go_sem,seval]
   repeat refine sd0 ?_
   intro x hx1 hx2
   obtain ⟨v,hv,hv1,hv2⟩:=pick4 x hx1 hx2
   refine hK1 _ ?_
   clear hK1
   simp only [go_sem,seval,hv]
   repeat refine sd0 ?_
   refine hK _ ?_;clear hK K
   refine Aw_sqJ (fun v:Int=>⟨111,[(0,.rd),(3,iv 4),(4,.xs 700 0 4 (c + 4) 1),(6,bv bb),(7,iv 2),(8,iv 3),(9,iv v)],(700,vws 4 d 710 4++jN c)::bxs 4 d r 710 4,k + 14⟩) (fun v=>0≤v∧v≤3) (fun v hv=>?_) fun B13 hB13 hR13 hX13=>?_
   ·have hs1:=cI_set (r 2) (d 2) 3 v (by omega)
    have hs2:=fun y=>cI_set (r 3) (d 3) 2 y (by omega)
    obtain ⟨hv1,hv2⟩:=hv
    refine Aw_st hE [0,3,4,6,7,8,9] [700,701,710,711,712,713,714,720,721,722,723,724] fun K hK=>?_
    simp only [go_sem,seval,hs1]
    refine ⟨by omega,?_⟩
    refine hK _ ?_;clear hK K
    refine Aw_td hE [0,3,4,6,7,8] [700,701,710,711,712,713,714,720,721,722,723,724] 6 (by kernel_rfl) fun K hK=>?_
    simp only [go_sem,seval,hs2,hv1,hv2]
    refine ⟨by omega,hK _ (hN12 _ (hB11 _ ?_))⟩
    refine Aw_tx hE [0,3,4,6,7,8] [700,701,710,711,712,713,714,720,721,722,723,724] fun K hK=>?_
    simp only [go_sem,seval]
    repeat refine sd0 ?_
    refine hK _ (hN9 (4,upd (upd r 2 3 v) 3 2 (mirr v)) _ ⟨by omega,by omega,upd_len (upd_len hr)⟩ (by simp only;omega) (Le_wc (by simp only [go_sem,seval,upd]) (by simp only [go_sem,seval,upd])))
   ·refine Aw_st hE [0,3,4,6,7,8,9,53] [700,701,710,711,712,713,714,720,721,722,723,724] fun K hK=>?_
    simp only [go_sem,seval]
    refine ⟨fun hg23=>⟨by omega,fun y hy1 hy2=>?_⟩,fun hg23=>?_⟩
    ·refine hK _ (Aw_cond rfl (fun hc24=>?_) (fun hc24=>?_))
     ·refine Aw_tx hE [0,3,4,6,7,8,9] [700,701,710,711,712,713,714,720,721,722,723,724] fun K hK=>?_
      simp only [go_sem,seval]
      exact hK _ (hB13 3 _ ⟨by decide,by decide⟩ (LeE_of (Le_wa)))
     ·exact Aw_skip (hB13 v _ ⟨hv1,hv2⟩ (LeE_of (Le_wa)))
    ·exact hK _ (Aw_no rfl (Aw_skip (hB13 v _ ⟨hv1,hv2⟩ (LeE_of (Le_wa)))))
 ·refine Aw_st hE [0,3,4,6,7,33] [700,701,710,711,712,713,714,720,721,722,723,724] fun K hK=>?_
  simp only [go_sem,seval]
  refine hK _ (Aw_yes rfl (Aw_skip (hB4 _ ?_)))
  refine Aw_sq fun B6 hB6 hR6 hX6=>?_
  refine Aw_bk fun B7 hN7 hE7 hR7 hX7=>?_
  refine Aw_st hE [0,3,4,6,7,8] [700,701,710,711,712,713,714,720,721,722,723,724] fun K hK=>?_
  simp only [go_sem,seval]
  refine hK _ ?_;clear hK K
  refine Aw_bk fun B8 hN8 hE8 hR8 hX8=>?_
  refine Aw_lp (fun i:Nat × (Nat→List Int)=>⟨111,[(0,.rd),(3,iv 4),(4,.xs 700 0 4 (c + 4) 1),(6,bv bb),(7,iv 3),(8,iv (i.1:Int))],(700,vws 4 d 710 4++jN c)::bxs 4 d i.2 710 4,k + 6 + 2 * i.1⟩) (fun i=>4≤i.1∧i.1≤4∧∀ x,(i.2 x).length=4) (fun i=>4 - i.1) (4,r) (Le_wa) ⟨by omega,by omega,hr⟩ fun i hi B9 hN9 hR9 hX9=>?_
  obtain ⟨b,r⟩:=i
  obtain ⟨hi1,hi2,hr⟩:=hi
  simp only at hi1 hi2 hr
  have hr0:=hr 0
  have hr1:=hr 1
  have hr2:=hr 2
  have hr3:=hr 3
  refine Aw_sq fun B10 hB10 hR10 hX10=>?_
  obtain rfl:b=4:=by omega
  ·refine Aw_st hE [0,3,4,6,7,8,40] [700,701,710,711,712,713,714,720,721,722,723,724] fun K hK=>?_
   simp only [go_sem,seval]
   refine hK _ (Aw_no rfl (Aw_exit (hX10 _ _ (hX9 _ _ (hE8 _ ?_)))))
   refine hN7 _ (hB6 _ ?_)
   refine Aw_tx hE [0,3,4,6,7] [700,701,710,711,712,713,714,720,721,722,723,724] fun K hK=>?_
   simp only [go_sem,seval]
   repeat refine sd0 ?_
   refine hK _ (hN3 (4,r) _ ⟨by omega,hr⟩ (by simp only;omega) (Le_wa))
set_option maxHeartbeats 16000000 in
theorem relsB5 {E:En} (hE:TbOk E tbRels) {k:Nat} (hk:k + 40≤1099511627776) {Q:Exit→St→Prop} (hQ:∀ (L:List (List Int)) (rn:Nat),(2≤L.length∧L.length≤5)→(∀ w ∈ L,w.length=L.length)→rn≤k + 40→Aw E .ret ⟨111,[(2,wsl L)],[],rn⟩ Q) {r:Nat→List Int} (hr:∀ q,(r q).length=5) {d:Nat→Nat} {c:Nat}:Aw E (seqB (seqB (seqB (seqB (Tryd.f30.body.getD .skip))))) ⟨111,[(0,.rd),(3,iv 5),(4,.xs 700 0 5 (c + 5) 1)],(700,vws 5 d 710 5++jN c)::bxs 5 d r 710 5,k + 1⟩ Q:=by
 refine Aw_st hE [0,3,4,6] [700,701,710,711,712,713,714,720,721,722,723,724] fun K hK=>?_
 simp only [go_sem,seval]
 refine ⟨by omega,fun x hx1 hx2=>?_⟩
 generalize decide (x=0)=bb
 refine hK _ ?_;clear hK K
 refine Aw_sqJ (fun i:(Nat→List Int) × Nat=>⟨111,[(0,.rd),(3,iv 5),(4,.xs 700 0 5 (c + 5) 1)],(700,vws 5 d 710 5++jN c)::bxs 5 d i.1 710 5,i.2⟩) (fun i=>(∀ x,(i.1 x).length=5)∧i.2≤k + 29) (fun i hi=>relsR5 hE hk hQ hi.1 hi.2) fun B1 hB1 hR1 hX1=>?_
 refine Aw_st hE [0,3,4,6,7] [700,701,710,711,712,713,714,720,721,722,723,724] fun K hK=>?_
 simp only [go_sem,seval]
 refine hK _ ?_;clear hK K
 refine Aw_bk fun B2 hN2 hE2 hR2 hX2=>?_
 refine Aw_lp (fun i:Nat × (Nat→List Int)=>⟨111,[(0,.rd),(3,iv 5),(4,.xs 700 0 5 (c + 5) 1),(6,bv bb),(7,iv (i.1:Int))],(700,vws 5 d 710 5++jN c)::bxs 5 d i.2 710 5,k + 2 + i.1 * (9 - i.1)⟩) (fun i=>i.1≤5∧∀ x,(i.2 x).length=5) (fun i=>5 - i.1) (0,r) (Le_wa) ⟨by omega,hr⟩ fun i hi B3 hN3 hR3 hX3=>?_
 obtain ⟨a,r⟩:=i
 obtain ⟨hi,hr⟩:=hi
 simp only at hi hr
 refine Aw_sq fun B4 hB4 hR4 hX4=>?_
 rcases (show a=5∨a=0∨a=1∨a=2∨a=3∨a=4 by omega) with rfl | rfl | rfl | rfl | rfl | rfl
 ·refine Aw_st hE [0,3,4,6,7,33] [700,701,710,711,712,713,714,720,721,722,723,724] fun K hK=>?_
  simp only [go_sem,seval]
  refine hK _ (Aw_no rfl (Aw_exit (hX4 _ _ (hX3 _ _ (hE2 _ (hB1 (r,k + 29) _ ⟨hr,by simp only;omega⟩ (LeE_of (Le_wa))))))))
 ·refine Aw_st hE [0,3,4,6,7,33] [700,701,710,711,712,713,714,720,721,722,723,724] fun K hK=>?_
  simp only [go_sem,seval]
  refine hK _ (Aw_yes rfl (Aw_skip (hB4 _ ?_)))
  refine Aw_sq fun B6 hB6 hR6 hX6=>?_
  refine Aw_bk fun B7 hN7 hE7 hR7 hX7=>?_
  refine Aw_st hE [0,3,4,6,7,8] [700,701,710,711,712,713,714,720,721,722,723,724] fun K hK=>?_
  simp only [go_sem,seval]
  refine hK _ ?_;clear hK K
  refine Aw_bk fun B8 hN8 hE8 hR8 hX8=>?_
  refine Aw_lp (fun i:Nat × (Nat→List Int)=>⟨111,[(0,.rd),(3,iv 5),(4,.xs 700 0 5 (c + 5) 1),(6,bv bb),(7,iv 0),(8,iv (i.1:Int))],(700,vws 5 d 710 5++jN c)::bxs 5 d i.2 710 5,k + 0 + 2 * i.1⟩) (fun i=>1≤i.1∧i.1≤5∧∀ x,(i.2 x).length=5) (fun i=>5 - i.1) (1,r) (Le_wa) ⟨by omega,by omega,hr⟩ fun i hi B9 hN9 hR9 hX9=>?_
  obtain ⟨b,r⟩:=i
  obtain ⟨hi1,hi2,hr⟩:=hi
  simp only at hi1 hi2 hr
  have hr0:=hr 0
  have hr1:=hr 1
  have hr2:=hr 2
  have hr3:=hr 3
  have hr4:=hr 4
  refine Aw_sq fun B10 hB10 hR10 hX10=>?_
  rcases (show b=5∨b=1∨b=2∨b=3∨b=4 by omega) with rfl | rfl | rfl | rfl | rfl
  ·refine Aw_st hE [0,3,4,6,7,8,40] [700,701,710,711,712,713,714,720,721,722,723,724] fun K hK=>?_
   simp only [go_sem,seval]
   refine hK _ (Aw_no rfl (Aw_exit (hX10 _ _ (hX9 _ _ (hE8 _ ?_)))))
   refine hN7 _ (hB6 _ ?_)
   refine Aw_tx hE [0,3,4,6,7] [700,701,710,711,712,713,714,720,721,722,723,724] fun K hK=>?_
   simp only [go_sem,seval]
   repeat refine sd0 ?_
   refine hK _ (hN3 (1,r) _ ⟨by omega,hr⟩ (by simp only;omega) (Le_wa))
  ·refine Aw_st hE [0,3,4,6,7,8,40] [700,701,710,711,712,713,714,720,721,722,723,724] fun K hK=>?_
   simp only [go_sem,seval]
   refine hK _ (Aw_yes rfl (Aw_skip (hB10 _ ?_)))
   refine Aw_sq fun B11 hB11 hR11 hX11=>?_
   refine Aw_bk fun B12 hN12 hE12 hR12 hX12=>?_
   refine Aw_st hE [0,3,4,6,7,8,9] [700,701,710,711,712,713,714,720,721,722,723,724] fun K hK=>?_
   refine aops_cut 3 fun K1 hK1=>?_
   simp only [go_sem,seval]
   repeat refine sd0 ?_
   intro x hx1 hx2
   obtain ⟨v,hv,hv1,hv2⟩:=pick4 x hx1 hx2
   refine hK1 _ ?_
   clear hK1
   simp only [go_sem,seval,hv]
   repeat refine sd0 ?_
   refine hK _ ?_;clear hK K
   refine Aw_sqJ (fun v:Int=>⟨111,[(0,.rd),(3,iv 5),(4,.xs 700 0 5 (c + 5) 1),(6,bv bb),(7,iv 0),(8,iv 1),(9,iv v)],(700,vws 5 d 710 5++jN c)::bxs 5 d r 710 5,k + 4⟩) (fun v=>0≤v∧v≤3) (fun v hv=>?_) fun B13 hB13 hR13 hX13=>?_
   ·have hs1:=cI_set (r 0) (d 0) 1 v (by omega)
    have hs2:=fun y=>cI_set (r 1) (d 1) 0 y (by omega)
    obtain ⟨hv1,hv2⟩:=hv
    refine Aw_st hE [0,3,4,6,7,8,9] [700,701,710,711,712,713,714,720,721,722,723,724] fun K hK=>?_
    simp only [go_sem,seval,hs1]
    refine ⟨by omega,?_⟩
    refine hK _ ?_;clear hK K
    refine Aw_td hE [0,3,4,6,7,8] [700,701,710,711,712,713,714,720,721,722,723,724] 6 (by kernel_rfl) fun K hK=>?_
    simp only [go_sem,seval,hs2,hv1,hv2]
    refine ⟨by omega,hK _ (hN12 _ (hB11 _ ?_))⟩
    refine Aw_tx hE [0,3,4,6,7,8] [700,701,710,711,712,713,714,720,721,722,723,724] fun K hK=>?_
    simp only [go_sem,seval]
    repeat refine sd0 ?_
    refine hK _ (hN9 (2,upd (upd r 0 1 v) 1 0 (mirr v)) _ ⟨by omega,by omega,upd_len (upd_len hr)⟩ (by simp only;omega) (Le_wc (by simp only [go_sem,seval,upd]) (by simp only [go_sem,seval,upd])))
   ·refine Aw_st hE [0,3,4,6,7,8,9,53] [700,701,710,711,712,713,714,720,721,722,723,724] fun K hK=>?_
    simp only [go_sem,seval]
    refine ⟨fun hg23=>⟨by omega,fun y hy1 hy2=>?_⟩,fun hg23=>?_⟩
    ·refine hK _ (Aw_cond rfl (fun hc24=>?_) (fun hc24=>?_))
     ·refine Aw_tx hE [0,3,4,6,7,8,9] [700,701,710,711,712,713,714,720,721,722,723,724] fun K hK=>?_
      simp only [go_sem,seval]
      exact hK _ (hB13 3 _ ⟨by decide,by decide⟩ (LeE_of (Le_wa)))
     ·exact Aw_skip (hB13 v _ ⟨hv1,hv2⟩ (LeE_of (Le_wa)))
    ·exact hK _ (Aw_no rfl (Aw_skip (hB13 v _ ⟨hv1,hv2⟩ (LeE_of (Le_wa)))))
  ·refine Aw_st hE [0,3,4,6,7,8,40] [700,701,710,711,712,713,714,720,721,722,723,724] fun K hK=>?_
   simp only [go_sem,seval]
   refine hK _ (Aw_yes rfl (Aw_skip (hB10 _ ?_)))
   refine Aw_sq fun B11 hB11 hR11 hX11=>?_
   refine Aw_bk fun B12 hN12 hE12 hR12 hX12=>?_
   refine Aw_st hE [0,3,4,6,7,8,9] [700,701,710,711,712,713,714,720,721,722,723,724] fun K hK=>?_
   refine aops_cut 3 fun K1 hK1=>?_
   simp only [go_sem,seval]
   repeat refine sd0 ?_
   intro x hx1 hx2
   obtain ⟨v,hv,hv1,hv2⟩:=pick4 x hx1 hx2
   refine hK1 _ ?_
   clear hK1
   simp only [go_sem,seval,hv]
   repeat refine sd0 ?_
   refine hK _ ?_;clear hK K
   refine Aw_sqJ (fun v:Int=>⟨111,[(0,.rd),(3,iv 5),(4,.xs 700 0 5 (c + 5) 1),(6,bv bb),(7,iv 0),(8,iv 2),(9,iv v)],(700,vws 5 d 710 5++jN c)::bxs 5 d r 710 5,k + 6⟩) (fun v=>0≤v∧v≤3) (fun v hv=>?_) fun B13 hB13 hR13 hX13=>?_
   ·have hs1:=cI_set (r 0) (d 0) 2 v (by omega)
    have hs2:=fun y=>cI_set (r 2) (d 2) 0 y (by omega)
    obtain ⟨hv1,hv2⟩:=hv
    refine Aw_st hE [0,3,4,6,7,8,9] [700,701,710,711,712,713,714,720,721,722,723,724] fun K hK=>?_
    simp only [go_sem,seval,hs1]
    refine ⟨by omega,?_⟩
    refine hK _ ?_;clear hK K
    refine Aw_td hE [0,3,4,6,7,8] [700,701,710,711,712,713,714,720,721,722,723,724] 6 (by kernel_rfl) fun K hK=>?_
    simp only [go_sem,seval,hs2,hv1,hv2]
    refine ⟨by omega,hK _ (hN12 _ (hB11 _ ?_))⟩
    refine Aw_tx hE [0,3,4,6,7,8] [700,701,710,711,712,713,714,720,721,722,723,724] fun K hK=>?_
    simp only [go_sem,seval]
    repeat refine sd0 ?_
    refine hK _ (hN9 (3,upd (upd r 0 2 v) 2 0 (mirr v)) _ ⟨by omega,by omega,upd_len (upd_len hr)⟩ (by simp only;omega) (Le_wc (by simp only [go_sem,seval,upd]) (by simp only [go_sem,seval,upd])))
   ·refine Aw_st hE [0,3,4,6,7,8,9,53] [700,701,710,711,712,713,714,720,721,722,723,724] fun K hK=>?_
    simp only [go_sem,seval]
    refine ⟨fun hg23=>⟨by omega,fun y hy1 hy2=>?_⟩,fun hg23=>?_⟩
    ·refine hK _ (Aw_cond rfl (fun hc24=>?_) (fun hc24=>?_))
     ·refine Aw_tx hE [0,3,4,6,7,8,9] [700,701,710,711,712,713,714,720,721,722,723,724] fun K hK=>?_
      simp only [go_sem,seval]
      exact hK _ (hB13 3 _ ⟨by decide,by decide⟩ (LeE_of (Le_wa)))
     ·exact Aw_skip (hB13 v _ ⟨hv1,hv2⟩ (LeE_of (Le_wa)))
    ·exact hK _ (Aw_no rfl (Aw_skip (hB13 v _ ⟨hv1,hv2⟩ (LeE_of (Le_wa)))))
  ·refine Aw_st hE [0,3,4,6,7,8,40] [700,701,710,711,712,713,714,720,721,722,723,724] fun K hK=>?_
   simp only [go_sem,seval]
   refine hK _ (Aw_yes rfl (Aw_skip (hB10 _ ?_)))
   refine Aw_sq fun B11 hB11 hR11 hX11=>?_
   refine Aw_bk fun B12 hN12 hE12 hR12 hX12=>?_
   refine Aw_st hE [0,3,4,6,7,8,9] [700,701,710,711,712,713,714,720,721,722,723,724] fun K hK=>?_
   refine aops_cut 3 fun K1 hK1=>?_
   simp only [go_sem,seval]
   repeat refine sd0 ?_
   intro x hx1 hx2
   obtain ⟨v,hv,hv1,hv2⟩:=pick4 x hx1 hx2
   refine hK1 _ ?_
   clear hK1
   simp only [go_sem,seval,hv]
   repeat refine sd0 ?_
   refine hK _ ?_;clear hK K
   refine Aw_sqJ (fun v:Int=>⟨111,[(0,.rd),(3,iv 5),(4,.xs 700 0 5 (c + 5) 1),(6,bv bb),(7,iv 0),(8,iv 3),(9,iv v)],(700,vws 5 d 710 5++jN c)::bxs 5 d r 710 5,k + 8⟩) (fun v=>0≤v∧v≤3) (fun v hv=>?_) fun B13 hB13 hR13 hX13=>?_
   ·have hs1:=cI_set (r 0) (d 0) 3 v (by omega)
    have hs2:=fun y=>cI_set (r 3) (d 3) 0 y (by omega)
    obtain ⟨hv1,hv2⟩:=hv
    refine Aw_st hE [0,3,4,6,7,8,9] [700,701,710,711,712,713,714,720,721,722,723,724] fun K hK=>?_
    simp only [go_sem,seval,hs1]
    refine ⟨by omega,?_⟩
    refine hK _ ?_;clear hK K
    refine Aw_td hE [0,3,4,6,7,8] [700,701,710,711,712,713,714,720,721,722,723,724] 6 (by kernel_rfl) fun K hK=>?_
    simp only [go_sem,seval,hs2,hv1,hv2]
    refine ⟨by omega,hK _ (hN12 _ (hB11 _ ?_))⟩
    refine Aw_tx hE [0,3,4,6,7,8] [700,701,710,711,712,713,714,720,721,722,723,724] fun K hK=>?_
    simp only [go_sem,seval]
    repeat refine sd0 ?_
    refine hK _ (hN9 (4,upd (upd r 0 3 v) 3 0 (mirr v)) _ ⟨by omega,by omega,upd_len (upd_len hr)⟩ (by simp only;omega) (Le_wc (by simp only [go_sem,seval,upd]) (by simp only [go_sem,seval,upd])))
   ·refine Aw_st hE [0,3,4,6,7,8,9,53] [700,701,710,711,712,713,714,720,721,722,723,724] fun K hK=>?_
    simp only [go_sem,seval]
    refine ⟨fun hg23=>⟨by omega,fun y hy1 hy2=>?_⟩,fun hg23=>?_⟩
    ·refine hK _ (Aw_cond rfl (fun hc24=>?_) (fun hc24=>?_))
     ·refine Aw_tx hE [0,3,4,6,7,8,9] [700,701,710,711,712,713,714,720,721,722,723,724] fun K hK=>?_
      simp only [go_sem,seval]
      exact hK _ (hB13 3 _ ⟨by decide,by decide⟩ (LeE_of (Le_wa)))
     ·exact Aw_skip (hB13 v _ ⟨hv1,hv2⟩ (LeE_of (Le_wa)))
    ·exact hK _ (Aw_no rfl (Aw_skip (hB13 v _ ⟨hv1,hv2⟩ (LeE_of (Le_wa)))))
  ·refine Aw_st hE [0,3,4,6,7,8,40] [700,701,710,711,712,713,714,720,721,722,723,724] fun K hK=>?_
   simp only [go_sem,seval]
   refine hK _ (Aw_yes rfl (Aw_skip (hB10 _ ?_)))
   refine Aw_sq fun B11 hB11 hR11 hX11=>?_
   refine Aw_bk fun B12 hN12 hE12 hR12 hX12=>?_
   refine Aw_st hE [0,3,4,6,7,8,9] [700,701,710,711,712,713,714,720,721,722,723,724] fun K hK=>?_
   refine aops_cut 3 fun K1 hK1=>?_
   simp only [go_sem,seval]
   repeat refine sd0 ?_
   intro x hx1 hx2
   obtain ⟨v,hv,hv1,hv2⟩:=pick4 x hx1 hx2
   refine hK1 _ ?_
   clear hK1
   simp only [go_sem,seval,hv]
   repeat refine sd0 ?_
   refine hK _ ?_;clear hK K
   refine Aw_sqJ (fun v:Int=>⟨111,[(0,.rd),(3,iv 5),(4,.xs 700 0 5 (c + 5) 1),(6,bv bb),(7,iv 0),(8,iv 4),(9,iv v)],(700,vws 5 d 710 5++jN c)::bxs 5 d r 710 5,k + 10⟩) (fun v=>0≤v∧v≤3) (fun v hv=>?_) fun B13 hB13 hR13 hX13=>?_
   ·have hs1:=cI_set (r 0) (d 0) 4 v (by omega)
    have hs2:=fun y=>cI_set (r 4) (d 4) 0 y (by omega)
    obtain ⟨hv1,hv2⟩:=hv
    refine Aw_st hE [0,3,4,6,7,8,9] [700,701,710,711,712,713,714,720,721,722,723,724] fun K hK=>?_
    simp only [go_sem,seval,hs1]
    refine ⟨by omega,?_⟩
    refine hK _ ?_;clear hK K
    refine Aw_td hE [0,3,4,6,7,8] [700,701,710,711,712,713,714,720,721,722,723,724] 6 (by kernel_rfl) fun K hK=>?_
    simp only [go_sem,seval,hs2,hv1,hv2]
    refine ⟨by omega,hK _ (hN12 _ (hB11 _ ?_))⟩
    refine Aw_tx hE [0,3,4,6,7,8] [700,701,710,711,712,713,714,720,721,722,723,724] fun K hK=>?_
    simp only [go_sem,seval]
    repeat refine sd0 ?_
    refine hK _ (hN9 (5,upd (upd r 0 4 v) 4 0 (mirr v)) _ ⟨by omega,by omega,upd_len (upd_len hr)⟩ (by simp only;omega) (Le_wc (by simp only [go_sem,seval,upd]) (by simp only [go_sem,seval,upd])))
   ·refine Aw_st hE [0,3,4,6,7,8,9,53] [700,701,710,711,712,713,714,720,721,722,723,724] fun K hK=>?_
    simp only [go_sem,seval]
    refine ⟨fun hg23=>⟨by omega,fun y hy1 hy2=>?_⟩,fun hg23=>?_⟩
    ·refine hK _ (Aw_cond rfl (fun hc24=>?_) (fun hc24=>?_))
     ·refine Aw_tx hE [0,3,4,6,7,8,9] [700,701,710,711,712,713,714,720,721,722,723,724] fun K hK=>?_
      simp only [go_sem,seval]
      exact hK _ (hB13 3 _ ⟨by decide,by decide⟩ (LeE_of (Le_wa)))
     ·exact Aw_skip (hB13 v _ ⟨hv1,hv2⟩ (LeE_of (Le_wa)))
    ·exact hK _ (Aw_no rfl (Aw_skip (hB13 v _ ⟨hv1,hv2⟩ (LeE_of (Le_wa)))))
 ·refine Aw_st hE [0,3,4,6,7,33] [700,701,710,711,712,713,714,720,721,722,723,724] fun K hK=>?_
  simp only [go_sem,seval]
  refine hK _ (Aw_yes rfl (Aw_skip (hB4 _ ?_)))
  refine Aw_sq fun B6 hB6 hR6 hX6=>?_
  refine Aw_bk fun B7 hN7 hE7 hR7 hX7=>?_
  refine Aw_st hE [0,3,4,6,7,8] [700,701,710,711,712,713,714,720,721,722,723,724] fun K hK=>?_
  simp only [go_sem,seval]
  refine hK _ ?_;clear hK K
  refine Aw_bk fun B8 hN8 hE8 hR8 hX8=>?_
  refine Aw_lp (fun i:Nat × (Nat→List Int)=>⟨111,[(0,.rd),(3,iv 5),(4,.xs 700 0 5 (c + 5) 1),(6,bv bb),(7,iv 1),(8,iv (i.1:Int))],(700,vws 5 d 710 5++jN c)::bxs 5 d i.2 710 5,k + 6 + 2 * i.1⟩) (fun i=>2≤i.1∧i.1≤5∧∀ x,(i.2 x).length=5) (fun i=>5 - i.1) (2,r) (Le_wa) ⟨by omega,by omega,hr⟩ fun i hi B9 hN9 hR9 hX9=>?_
  obtain ⟨b,r⟩:=i
  obtain ⟨hi1,hi2,hr⟩:=hi
  simp only at hi1 hi2 hr
  have hr0:=hr 0
  have hr1:=hr 1
  have hr2:=hr 2
  have hr3:=hr 3
  have hr4:=hr 4
  refine Aw_sq fun B10 hB10 hR10 hX10=>?_
  rcases (show b=5∨b=2∨b=3∨b=4 by omega) with rfl | rfl | rfl | rfl
  ·refine Aw_st hE [0,3,4,6,7,8,40] [700,701,710,711,712,713,714,720,721,722,723,724] fun K hK=>?_
   simp only [go_sem,seval]
   refine hK _ (Aw_no rfl (Aw_exit (hX10 _ _ (hX9 _ _ (hE8 _ ?_)))))
   refine hN7 _ (hB6 _ ?_)
   refine Aw_tx hE [0,3,4,6,7] [700,701,710,711,712,713,714,720,721,722,723,724] fun K hK=>?_
   simp only [go_sem,seval]
   repeat refine sd0 ?_
   refine hK _ (hN3 (2,r) _ ⟨by omega,hr⟩ (by simp only;omega) (Le_wa))
  ·refine Aw_st hE [0,3,4,6,7,8,40] [700,701,710,711,712,713,714,720,721,722,723,724] fun K hK=>?_
   simp only [go_sem,seval]
   refine hK _ (Aw_yes rfl (Aw_skip (hB10 _ ?_)))
   refine Aw_sq fun B11 hB11 hR11 hX11=>?_
   refine Aw_bk fun B12 hN12 hE12 hR12 hX12=>?_
   refine Aw_st hE [0,3,4,6,7,8,9] [700,701,710,711,712,713,714,720,721,722,723,724] fun K hK=>?_
   refine aops_cut 3 fun K1 hK1=>?_
   simp only [go_sem,seval]
   repeat refine sd0 ?_
   intro x hx1 hx2
   obtain ⟨v,hv,hv1,hv2⟩:=pick4 x hx1 hx2
   refine hK1 _ ?_
   clear hK1
   simp only [go_sem,seval,hv]
   repeat refine sd0 ?_
   refine hK _ ?_;clear hK K
   refine Aw_sqJ (fun v:Int=>⟨111,[(0,.rd),(3,iv 5),(4,.xs 700 0 5 (c + 5) 1),(6,bv bb),(7,iv 1),(8,iv 2),(9,iv v)],(700,vws 5 d 710 5++jN c)::bxs 5 d r 710 5,k + 12⟩) (fun v=>0≤v∧v≤3) (fun v hv=>?_) fun B13 hB13 hR13 hX13=>?_
   ·have hs1:=cI_set (r 1) (d 1) 2 v (by omega)
    have hs2:=fun y=>cI_set (r 2) (d 2) 1 y (by omega)
    obtain ⟨hv1,hv2⟩:=hv
    refine Aw_st hE [0,3,4,6,7,8,9] [700,701,710,711,712,713,714,720,721,722,723,724] fun K hK=>?_
    simp only [go_sem,seval,hs1]
    refine ⟨by omega,?_⟩
    refine hK _ ?_;clear hK K
    refine Aw_td hE [0,3,4,6,7,8] [700,701,710,711,712,713,714,720,721,722,723,724] 6 (by kernel_rfl) fun K hK=>?_
    simp only [go_sem,seval,hs2,hv1,hv2]
    refine ⟨by omega,hK _ (hN12 _ (hB11 _ ?_))⟩
    refine Aw_tx hE [0,3,4,6,7,8] [700,701,710,711,712,713,714,720,721,722,723,724] fun K hK=>?_
    simp only [go_sem,seval]
    repeat refine sd0 ?_
    refine hK _ (hN9 (3,upd (upd r 1 2 v) 2 1 (mirr v)) _ ⟨by omega,by omega,upd_len (upd_len hr)⟩ (by simp only;omega) (Le_wc (by simp only [go_sem,seval,upd]) (by simp only [go_sem,seval,upd])))
   ·refine Aw_st hE [0,3,4,6,7,8,9,53] [700,701,710,711,712,713,714,720,721,722,723,724] fun K hK=>?_
    simp only [go_sem,seval]
    refine ⟨fun hg23=>⟨by omega,fun y hy1 hy2=>?_⟩,fun hg23=>?_⟩
    ·refine hK _ (Aw_cond rfl (fun hc24=>?_) (fun hc24=>?_))
     ·refine Aw_tx hE [0,3,4,6,7,8,9] [700,701,710,711,712,713,714,720,721,722,723,724] fun K hK=>?_
      simp only [go_sem,seval]
      exact hK _ (hB13 3 _ ⟨by decide,by decide⟩ (LeE_of (Le_wa)))
     ·exact Aw_skip (hB13 v _ ⟨hv1,hv2⟩ (LeE_of (Le_wa)))
    ·exact hK _ (Aw_no rfl (Aw_skip (hB13 v _ ⟨hv1,hv2⟩ (LeE_of (Le_wa)))))
  ·refine Aw_st hE [0,3,4,6,7,8,40] [700,701,710,711,712,713,714,720,721,722,723,724] fun K hK=>?_
   simp only [go_sem,seval]
   refine hK _ (Aw_yes rfl (Aw_skip (hB10 _ ?_)))
   refine Aw_sq fun B11 hB11 hR11 hX11=>?_
   refine Aw_bk fun B12 hN12 hE12 hR12 hX12=>?_
   refine Aw_st hE [0,3,4,6,7,8,9] [700,701,710,711,712,713,714,720,721,722,723,724] fun K hK=>?_
   refine aops_cut 3 fun K1 hK1=>?_
   simp only [go_sem,seval]
   repeat refine sd0 ?_
   intro x hx1 hx2
   obtain ⟨v,hv,hv1,hv2⟩:=pick4 x hx1 hx2
   refine hK1 _ ?_
   clear hK1
   simp only [go_sem,seval,hv]
   repeat refine sd0 ?_
   refine hK _ ?_;clear hK K
   refine Aw_sqJ (fun v:Int=>⟨111,[(0,.rd),(3,iv 5),(4,.xs 700 0 5 (c + 5) 1),(6,bv bb),(7,iv 1),(8,iv 3),(9,iv v)],(700,vws 5 d 710 5++jN c)::bxs 5 d r 710 5,k + 14⟩) (fun v=>0≤v∧v≤3) (fun v hv=>?_) fun B13 hB13 hR13 hX13=>?_
   ·have hs1:=cI_set (r 1) (d 1) 3 v (by omega)
    have hs2:=fun y=>cI_set (r 3) (d 3) 1 y (by omega)
    obtain ⟨hv1,hv2⟩:=hv
    refine Aw_st hE [0,3,4,6,7,8,9] [700,701,710,711,712,713,714,720,721,722,723,724] fun K hK=>?_
    simp only [go_sem,seval,hs1]
    refine ⟨by omega,?_⟩
    refine hK _ ?_;clear hK K
    refine Aw_td hE [0,3,4,6,7,8] [700,701,710,711,712,713,714,720,721,722,723,724] 6 (by kernel_rfl) fun K hK=>?_
    simp only [go_sem,seval,hs2,hv1,hv2]
    refine ⟨by omega,hK _ (hN12 _ (hB11 _ ?_))⟩
    refine Aw_tx hE [0,3,4,6,7,8] [700,701,710,711,712,713,714,720,721,722,723,724] fun K hK=>?_
    simp only [go_sem,seval]
    repeat refine sd0 ?_
    refine hK _ (hN9 (4,upd (upd r 1 3 v) 3 1 (mirr v)) _ ⟨by omega,by omega,upd_len (upd_len hr)⟩ (by simp only;omega) (Le_wc (by simp only [go_sem,seval,upd]) (by simp only [go_sem,seval,upd])))
   ·refine Aw_st hE [0,3,4,6,7,8,9,53] [700,701,710,711,712,713,714,720,721,722,723,724] fun K hK=>?_
    simp only [go_sem,seval]
    refine ⟨fun hg23=>⟨by omega,fun y hy1 hy2=>?_⟩,fun hg23=>?_⟩
    ·refine hK _ (Aw_cond rfl (fun hc24=>?_) (fun hc24=>?_))
     ·refine Aw_tx hE [0,3,4,6,7,8,9] [700,701,710,711,712,713,714,720,721,722,723,724] fun K hK=>?_
      simp only [go_sem,seval]
      exact hK _ (hB13 3 _ ⟨by decide,by decide⟩ (LeE_of (Le_wa)))
     ·exact Aw_skip (hB13 v _ ⟨hv1,hv2⟩ (LeE_of (Le_wa)))
    ·exact hK _ (Aw_no rfl (Aw_skip (hB13 v _ ⟨hv1,hv2⟩ (LeE_of (Le_wa)))))
  ·refine Aw_st hE [0,3,4,6,7,8,40] [700,701,710,711,712,713,714,720,721,722,723,724] fun K hK=>?_
   simp only [go_sem,seval]
   refine hK _ (Aw_yes rfl (Aw_skip (hB10 _ ?_)))
   refine Aw_sq fun B11 hB11 hR11 hX11=>?_
   refine Aw_bk fun B12 hN12 hE12 hR12 hX12=>?_
   refine Aw_st hE [0,3,4,6,7,8,9] [700,701,710,711,712,713,714,720,721,722,723,724] fun K hK=>?_
   refine aops_cut 3 fun K1 hK1=>?_
   simp only [go_sem,seval]
   repeat refine sd0 ?_
   intro x hx1 hx2
   obtain ⟨v,hv,hv1,hv2⟩:=pick4 x hx1 hx2
   refine hK1 _ ?_
   clear hK1
   simp only [go_sem,seval,hv]
   repeat refine sd0 ?_
   refine hK _ ?_;clear hK K
   refine Aw_sqJ (fun v:Int=>⟨111,[(0,.rd),(3,iv 5),(4,.xs 700 0 5 (c + 5) 1),(6,bv bb),(7,iv 1),(8,iv 4),(9,iv v)],(700,vws 5 d 710 5++jN c)::bxs 5 d r 710 5,k + 16⟩) (fun v=>0≤v∧v≤3) (fun v hv=>?_) fun B13 hB13 hR13 hX13=>?_
   ·have hs1:=cI_set (r 1) (d 1) 4 v (by omega)
    have hs2:=fun y=>cI_set (r 4) (d 4) 1 y (by omega)
    obtain ⟨hv1,hv2⟩:=hv
    refine Aw_st hE [0,3,4,6,7,8,9] [700,701,710,711,712,713,714,720,721,722,723,724] fun K hK=>?_
    simp only [go_sem,seval,hs1]
    refine ⟨by omega,?_⟩
    refine hK _ ?_;clear hK K
    refine Aw_td hE [0,3,4,6,7,8] [700,701,710,711,712,713,714,720,721,722,723,724] 6 (by kernel_rfl) fun K hK=>?_
    simp only [go_sem,seval,hs2,hv1,hv2]
    refine ⟨by omega,hK _ (hN12 _ (hB11 _ ?_))⟩
    refine Aw_tx hE [0,3,4,6,7,8] [700,701,710,711,712,713,714,720,721,722,723,724] fun K hK=>?_
    simp only [go_sem,seval]
    repeat refine sd0 ?_
    refine hK _ (hN9 (5,upd (upd r 1 4 v) 4 1 (mirr v)) _ ⟨by omega,by omega,upd_len (upd_len hr)⟩ (by simp only;omega) (Le_wc (by simp only [go_sem,seval,upd]) (by simp only [go_sem,seval,upd])))
   ·refine Aw_st hE [0,3,4,6,7,8,9,53] [700,701,710,711,712,713,714,720,721,722,723,724] fun K hK=>?_
    simp only [go_sem,seval]
    refine ⟨fun hg23=>⟨by omega,fun y hy1 hy2=>?_⟩,fun hg23=>?_⟩
    ·refine hK _ (Aw_cond rfl (fun hc24=>?_) (fun hc24=>?_))
     ·refine Aw_tx hE [0,3,4,6,7,8,9] [700,701,710,711,712,713,714,720,721,722,723,724] fun K hK=>?_
      simp only [go_sem,seval]
      exact hK _ (hB13 3 _ ⟨by decide,by decide⟩ (LeE_of (Le_wa)))
     ·exact Aw_skip (hB13 v _ ⟨hv1,hv2⟩ (LeE_of (Le_wa)))
    ·exact hK _ (Aw_no rfl (Aw_skip (hB13 v _ ⟨hv1,hv2⟩ (LeE_of (Le_wa)))))
 ·refine Aw_st hE [0,3,4,6,7,33] [700,701,710,711,712,713,714,720,721,722,723,724] fun K hK=>?_
  simp only [go_sem,seval]
  refine hK _ (Aw_yes rfl (Aw_skip (hB4 _ ?_)))
  refine Aw_sq fun B6 hB6 hR6 hX6=>?_
  refine Aw_bk fun B7 hN7 hE7 hR7 hX7=>?_
  refine Aw_st hE [0,3,4,6,7,8] [700,701,710,711,712,713,714,720,721,722,723,724] fun K hK=>?_
  simp only [go_sem,seval]
  refine hK _ ?_;clear hK K
  refine Aw_bk fun B8 hN8 hE8 hR8 hX8=>?_
  refine Aw_lp (fun i:Nat × (Nat→List Int)=>⟨111,[(0,.rd),(3,iv 5),(4,.xs 700 0 5 (c + 5) 1),(6,bv bb),(7,iv 2),(8,iv (i.1:Int))],(700,vws 5 d 710 5++jN c)::bxs 5 d i.2 710 5,k + 10 + 2 * i.1⟩) (fun i=>3≤i.1∧i.1≤5∧∀ x,(i.2 x).length=5) (fun i=>5 - i.1) (3,r) (Le_wa) ⟨by omega,by omega,hr⟩ fun i hi B9 hN9 hR9 hX9=>?_
  obtain ⟨b,r⟩:=i
  obtain ⟨hi1,hi2,hr⟩:=hi
  simp only at hi1 hi2 hr
  have hr0:=hr 0
  have hr1:=hr 1
  have hr2:=hr 2
  have hr3:=hr 3
  have hr4:=hr 4
  refine Aw_sq fun B10 hB10 hR10 hX10=>?_
  rcases (show b=5∨b=3∨b=4 by omega) with rfl | rfl | rfl
  ·refine Aw_st hE [0,3,4,6,7,8,40] [700,701,710,711,712,713,714,720,721,722,723,724] fun K hK=>?_
   simp only [go_sem,seval]
   refine hK _ (Aw_no rfl (Aw_exit (hX10 _ _ (hX9 _ _ (hE8 _ ?_)))))
   refine hN7 _ (hB6 _ ?_)
   refine Aw_tx hE [0,3,4,6,7] [700,701,710,711,712,713,714,720,721,722,723,724] fun K hK=>?_
   simp only [go_sem,seval]
   repeat refine sd0 ?_
   refine hK _ (hN3 (3,r) _ ⟨by omega,hr⟩ (by simp only;omega) (Le_wa))
  ·refine Aw_st hE [0,3,4,6,7,8,40] [700,701,710,711,712,713,714,720,721,722,723,724] fun K hK=>?_
   simp only [go_sem,seval]
   refine hK _ (Aw_yes rfl (Aw_skip (hB10 _ ?_)))
   refine Aw_sq fun B11 hB11 hR11 hX11=>?_
   refine Aw_bk fun B12 hN12 hE12 hR12 hX12=>?_
   refine Aw_st hE [0,3,4,6,7,8,9] [700,701,710,711,712,713,714,720,721,722,723,724] fun K hK=>?_
   refine aops_cut 3 fun K1 hK1=>?_
   simp only [go_sem,seval]
   repeat refine sd0 ?_
   intro x hx1 hx2
   obtain ⟨v,hv,hv1,hv2⟩:=pick4 x hx1 hx2
   refine hK1 _ ?_
   clear hK1
   simp only [go_sem,seval,hv]
   repeat refine sd0 ?_
   refine hK _ ?_;clear hK K
   refine Aw_sqJ (fun v:Int=>⟨111,[(0,.rd),(3,iv 5),(4,.xs 700 0 5 (c + 5) 1),(6,bv bb),(7,iv 2),(8,iv 3),(9,iv v)],(700,vws 5 d 710 5++jN c)::bxs 5 d r 710 5,k + 18⟩) (fun v=>0≤v∧v≤3) (fun v hv=>?_) fun B13 hB13 hR13 hX13=>?_
   ·have hs1:=cI_set (r 2) (d 2) 3 v (by omega)
    have hs2:=fun y=>cI_set (r 3) (d 3) 2 y (by omega)
    obtain ⟨hv1,hv2⟩:=hv
    refine Aw_st hE [0,3,4,6,7,8,9] [700,701,710,711,712,713,714,720,721,722,723,724] fun K hK=>?_
    simp only [go_sem,seval,hs1]
    refine ⟨by omega,?_⟩
    refine hK _ ?_;clear hK K
    refine Aw_td hE [0,3,4,6,7,8] [700,701,710,711,712,713,714,720,721,722,723,724] 6 (by kernel_rfl) fun K hK=>?_
    simp only [go_sem,seval,hs2,hv1,hv2]
    refine ⟨by omega,hK _ (hN12 _ (hB11 _ ?_))⟩
    refine Aw_tx hE [0,3,4,6,7,8] [700,701,710,711,712,713,714,720,721,722,723,724] fun K hK=>?_
    simp only [go_sem,seval]
    repeat refine sd0 ?_
    refine hK _ (hN9 (4,upd (upd r 2 3 v) 3 2 (mirr v)) _ ⟨by omega,by omega,upd_len (upd_len hr)⟩ (by simp only;omega) (Le_wc (by simp only [go_sem,seval,upd]) (by simp only [go_sem,seval,upd])))
   ·refine Aw_st hE [0,3,4,6,7,8,9,53] [700,701,710,711,712,713,714,720,721,722,723,724] fun K hK=>?_
    simp only [go_sem,seval]
    refine ⟨fun hg23=>⟨by omega,fun y hy1 hy2=>?_⟩,fun hg23=>?_⟩
    ·refine hK _ (Aw_cond rfl (fun hc24=>?_) (fun hc24=>?_))
     ·refine Aw_tx hE [0,3,4,6,7,8,9] [700,701,710,711,712,713,714,720,721,722,723,724] fun K hK=>?_
      simp only [go_sem,seval]
      exact hK _ (hB13 3 _ ⟨by decide,by decide⟩ (LeE_of (Le_wa)))
     ·exact Aw_skip (hB13 v _ ⟨hv1,hv2⟩ (LeE_of (Le_wa)))
    ·exact hK _ (Aw_no rfl (Aw_skip (hB13 v _ ⟨hv1,hv2⟩ (LeE_of (Le_wa)))))
  ·refine Aw_st hE [0,3,4,6,7,8,40] [700,701,710,711,712,713,714,720,721,722,723,724] fun K hK=>?_
   simp only [go_sem,seval]
   refine hK _ (Aw_yes rfl (Aw_skip (hB10 _ ?_)))
   refine Aw_sq fun B11 hB11 hR11 hX11=>?_
   refine Aw_bk fun B12 hN12 hE12 hR12 hX12=>?_
   refine Aw_st hE [0,3,4,6,7,8,9] [700,701,710,711,712,713,714,720,721,722,723,724] fun K hK=>?_
   refine aops_cut 3 fun K1 hK1=>?_
   simp only [go_sem,seval]
   repeat refine sd0 ?_
   intro x hx1 hx2
   obtain ⟨v,hv,hv1,hv2⟩:=pick4 x hx1 hx2
   refine hK1 _ ?_
   clear hK1
   simp only [go_sem,seval,hv]
   repeat refine sd0 ?_
   refine hK _ ?_;clear hK K
   refine Aw_sqJ (fun v:Int=>⟨111,[(0,.rd),(3,iv 5),(4,.xs 700 0 5 (c + 5) 1),(6,bv bb),(7,iv 2),(8,iv 4),(9,iv v)],(700,vws 5 d 710 5++jN c)::bxs 5 d r 710 5,k + 20⟩) (fun v=>0≤v∧v≤3) (fun v hv=>?_) fun B13 hB13 hR13 hX13=>?_
   ·have hs1:=cI_set (r 2) (d 2) 4 v (by omega)
    have hs2:=fun y=>cI_set (r 4) (d 4) 2 y (by omega)
    obtain ⟨hv1,hv2⟩:=hv
    refine Aw_st hE [0,3,4,6,7,8,9] [700,701,710,711,712,713,714,720,721,722,723,724] fun K hK=>?_
    simp only [go_sem,seval,hs1]
    refine ⟨by omega,?_⟩
    refine hK _ ?_;clear hK K
    refine Aw_td hE [0,3,4,6,7,8] [700,701,710,711,712,713,714,720,721,722,723,724] 6 (by kernel_rfl) fun K hK=>?_
    simp only [go_sem,seval,hs2,hv1,hv2]
    refine ⟨by omega,hK _ (hN12 _ (hB11 _ ?_))⟩
    refine Aw_tx hE [0,3,4,6,7,8] [700,701,710,711,712,713,714,720,721,722,723,724] fun K hK=>?_
    simp only [go_sem,seval]
    repeat refine sd0 ?_
    refine hK _ (hN9 (5,upd (upd r 2 4 v) 4 2 (mirr v)) _ ⟨by omega,by omega,upd_len (upd_len hr)⟩ (by simp only;omega) (Le_wc (by simp only [go_sem,seval,upd]) (by simp only [go_sem,seval,upd])))
   ·refine Aw_st hE [0,3,4,6,7,8,9,53] [700,701,710,711,712,713,714,720,721,722,723,724] fun K hK=>?_
    simp only [go_sem,seval]
    refine ⟨fun hg23=>⟨by omega,fun y hy1 hy2=>?_⟩,fun hg23=>?_⟩
    ·refine hK _ (Aw_cond rfl (fun hc24=>?_) (fun hc24=>?_))
     ·refine Aw_tx hE [0,3,4,6,7,8,9] [700,701,710,711,712,713,714,720,721,722,723,724] fun K hK=>?_
      simp only [go_sem,seval]
      exact hK _ (hB13 3 _ ⟨by decide,by decide⟩ (LeE_of (Le_wa)))
     ·exact Aw_skip (hB13 v _ ⟨hv1,hv2⟩ (LeE_of (Le_wa)))
    ·exact hK _ (Aw_no rfl (Aw_skip (hB13 v _ ⟨hv1,hv2⟩ (LeE_of (Le_wa)))))
 ·refine Aw_st hE [0,3,4,6,7,33] [700,701,710,711,712,713,714,720,721,722,723,724] fun K hK=>?_
  simp only [go_sem,seval]
  refine hK _ (Aw_yes rfl (Aw_skip (hB4 _ ?_)))
  refine Aw_sq fun B6 hB6 hR6 hX6=>?_
  refine Aw_bk fun B7 hN7 hE7 hR7 hX7=>?_
  refine Aw_st hE [0,3,4,6,7,8] [700,701,710,711,712,713,714,720,721,722,723,724] fun K hK=>?_
  simp only [go_sem,seval]
  refine hK _ ?_;clear hK K
  refine Aw_bk fun B8 hN8 hE8 hR8 hX8=>?_
  refine Aw_lp (fun i:Nat × (Nat→List Int)=>⟨111,[(0,.rd),(3,iv 5),(4,.xs 700 0 5 (c + 5) 1),(6,bv bb),(7,iv 3),(8,iv (i.1:Int))],(700,vws 5 d 710 5++jN c)::bxs 5 d i.2 710 5,k + 12 + 2 * i.1⟩) (fun i=>4≤i.1∧i.1≤5∧∀ x,(i.2 x).length=5) (fun i=>5 - i.1) (4,r) (Le_wa) ⟨by omega,by omega,hr⟩ fun i hi B9 hN9 hR9 hX9=>?_
  obtain ⟨b,r⟩:=i
  obtain ⟨hi1,hi2,hr⟩:=hi
  simp only at hi1 hi2 hr
  have hr0:=hr 0
  have hr1:=hr 1
  have hr2:=hr 2
  have hr3:=hr 3
  have hr4:=hr 4
  refine Aw_sq fun B10 hB10 hR10 hX10=>?_
  rcases (show b=5∨b=4 by omega) with rfl | rfl
  ·refine Aw_st hE [0,3,4,6,7,8,40] [700,701,710,711,712,713,714,720,721,722,723,724] fun K hK=>?_
   simp only [go_sem,seval]
   refine hK _ (Aw_no rfl (Aw_exit (hX10 _ _ (hX9 _ _ (hE8 _ ?_)))))
   refine hN7 _ (hB6 _ ?_)
   refine Aw_tx hE [0,3,4,6,7] [700,701,710,711,712,713,714,720,721,722,723,724] fun K hK=>?_
   simp only [go_sem,seval]
   repeat refine sd0 ?_
   refine hK _ (hN3 (4,r) _ ⟨by omega,hr⟩ (by simp only;omega) (Le_wa))
  ·refine Aw_st hE [0,3,4,6,7,8,40] [700,701,710,711,712,713,714,720,721,722,723,724] fun K hK=>?_
   simp only [go_sem,seval]
   refine hK _ (Aw_yes rfl (Aw_skip (hB10 _ ?_)))
   refine Aw_sq fun B11 hB11 hR11 hX11=>?_
   refine Aw_bk fun B12 hN12 hE12 hR12 hX12=>?_
   refine Aw_st hE [0,3,4,6,7,8,9] [700,701,710,711,712,713,714,720,721,722,723,724] fun K hK=>?_
   refine aops_cut 3 fun K1 hK1=>?_
   simp only [go_sem,seval]
   repeat refine sd0 ?_
   intro x hx1 hx2
   obtain ⟨v,hv,hv1,hv2⟩:=pick4 x hx1 hx2
   refine hK1 _ ?_
   clear hK1
   simp only [go_sem,seval,hv]
   repeat refine sd0 ?_
   refine hK _ ?_;clear hK K
   refine Aw_sqJ (fun v:Int=>⟨111,[(0,.rd),(3,iv 5),(4,.xs 700 0 5 (c + 5) 1),(6,bv bb),(7,iv 3),(8,iv 4),(9,iv v)],(700,vws 5 d 710 5++jN c)::bxs 5 d r 710 5,k + 22⟩) (fun v=>0≤v∧v≤3) (fun v hv=>?_) fun B13 hB13 hR13 hX13=>?_
   ·have hs1:=cI_set (r 3) (d 3) 4 v (by omega)
    have hs2:=fun y=>cI_set (r 4) (d 4) 3 y (by omega)
    obtain ⟨hv1,hv2⟩:=hv
    refine Aw_st hE [0,3,4,6,7,8,9] [700,701,710,711,712,713,714,720,721,722,723,724] fun K hK=>?_
    simp only [go_sem,seval,hs1]
    refine ⟨by omega,?_⟩
    refine hK _ ?_;clear hK K
    refine Aw_td hE [0,3,4,6,7,8] [700,701,710,711,712,713,714,720,721,722,723,724] 6 (by kernel_rfl) fun K hK=>?_
    simp only [go_sem,seval,hs2,hv1,hv2]
    refine ⟨by omega,hK _ (hN12 _ (hB11 _ ?_))⟩
    refine Aw_tx hE [0,3,4,6,7,8] [700,701,710,711,712,713,714,720,721,722,723,724] fun K hK=>?_
    simp only [go_sem,seval]
    repeat refine sd0 ?_
    refine hK _ (hN9 (5,upd (upd r 3 4 v) 4 3 (mirr v)) _ ⟨by omega,by omega,upd_len (upd_len hr)⟩ (by simp only;omega) (Le_wc (by simp only [go_sem,seval,upd]) (by simp only [go_sem,seval,upd])))
   ·refine Aw_st hE [0,3,4,6,7,8,9,53] [700,701,710,711,712,713,714,720,721,722,723,724] fun K hK=>?_
    simp only [go_sem,seval]
    refine ⟨fun hg23=>⟨by omega,fun y hy1 hy2=>?_⟩,fun hg23=>?_⟩
    ·refine hK _ (Aw_cond rfl (fun hc24=>?_) (fun hc24=>?_))
     ·refine Aw_tx hE [0,3,4,6,7,8,9] [700,701,710,711,712,713,714,720,721,722,723,724] fun K hK=>?_
      simp only [go_sem,seval]
      exact hK _ (hB13 3 _ ⟨by decide,by decide⟩ (LeE_of (Le_wa)))
     ·exact Aw_skip (hB13 v _ ⟨hv1,hv2⟩ (LeE_of (Le_wa)))
    ·exact hK _ (Aw_no rfl (Aw_skip (hB13 v _ ⟨hv1,hv2⟩ (LeE_of (Le_wa)))))
 ·refine Aw_st hE [0,3,4,6,7,33] [700,701,710,711,712,713,714,720,721,722,723,724] fun K hK=>?_
  simp only [go_sem,seval]
  refine hK _ (Aw_yes rfl (Aw_skip (hB4 _ ?_)))
  refine Aw_sq fun B6 hB6 hR6 hX6=>?_
  refine Aw_bk fun B7 hN7 hE7 hR7 hX7=>?_
  refine Aw_st hE [0,3,4,6,7,8] [700,701,710,711,712,713,714,720,721,722,723,724] fun K hK=>?_
  simp only [go_sem,seval]
  refine hK _ ?_;clear hK K
  refine Aw_bk fun B8 hN8 hE8 hR8 hX8=>?_
  refine Aw_lp (fun i:Nat × (Nat→List Int)=>⟨111,[(0,.rd),(3,iv 5),(4,.xs 700 0 5 (c + 5) 1),(6,bv bb),(7,iv 4),(8,iv (i.1:Int))],(700,vws 5 d 710 5++jN c)::bxs 5 d i.2 710 5,k + 12 + 2 * i.1⟩) (fun i=>5≤i.1∧i.1≤5∧∀ x,(i.2 x).length=5) (fun i=>5 - i.1) (5,r) (Le_wa) ⟨by omega,by omega,hr⟩ fun i hi B9 hN9 hR9 hX9=>?_
  obtain ⟨b,r⟩:=i
  obtain ⟨hi1,hi2,hr⟩:=hi
  simp only at hi1 hi2 hr
  have hr0:=hr 0
  have hr1:=hr 1
  have hr2:=hr 2
  have hr3:=hr 3
  have hr4:=hr 4
  refine Aw_sq fun B10 hB10 hR10 hX10=>?_
  obtain rfl:b=5:=by omega
  ·refine Aw_st hE [0,3,4,6,7,8,40] [700,701,710,711,712,713,714,720,721,722,723,724] fun K hK=>?_
   simp only [go_sem,seval]
   refine hK _ (Aw_no rfl (Aw_exit (hX10 _ _ (hX9 _ _ (hE8 _ ?_)))))
   refine hN7 _ (hB6 _ ?_)
   refine Aw_tx hE [0,3,4,6,7] [700,701,710,711,712,713,714,720,721,722,723,724] fun K hK=>?_
   simp only [go_sem,seval]
   repeat refine sd0 ?_
   refine hK _ (hN3 (5,r) _ ⟨by omega,hr⟩ (by simp only;omega) (Le_wa))
end Go.Proofs.W
end
