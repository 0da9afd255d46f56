/- YtkiaifamodjedaaDoorWc: part of the proof that laws hold, for every input that the row speaks of (no condition of ours). -/
import Derived.Test.YtkiaifamodjedaaDoorWa
import Derived.Test.YtkiaifamodjedaaDoorWb
import Derived.Test.YtkiaifamodjedaaDoorEc
set_option linter.unusedVariables false
set_option linter.unusedSimpArgs false
section
namespace Go.Proofs.W
open Go Go.Eng Go.RowKit
set_option maxRecDepth 100000
def bigW (W:List (List Int)):Prop:=W.length≤4294967296∧∀ w ∈ W,w.length≤4294967296
def gLyW:List AV→Option (Prop × AV)
 | [.sl _ e1,.sl _ e2]=>(match waysL e1,waysL e2 with
  | some a,some b=>some (bigW a∧bigW b,bv (decide (a=b)))
  | _,_=>none)
 | _=>none
def dLyW:DFn:={ g:=gLyW }
attribute [go_sem] gLyW dLyW
theorem eq_getW {a b:List (List Int)} (hl:a.length=b.length):a=b↔∀ j,j < a.length→a.getD j []=b.getD j []:=by
 constructor
 ·rintro rfl _ _;rfl
 ·intro h
  refine List.ext_getElem hl fun j h1 h2=>?_
  have:=h j h1
  rwa [List.getD_eq_getElem?_getD,List.getD_eq_getElem?_getD,List.getElem?_eq_getElem h1,List.getElem?_eq_getElem h2] at this
theorem lyWays_ok:Fine Tryd.prog 24 dLyW.con:=by
 refine fine_det (T:=TT) Tryd.func24 rfl Tryd.ntmps24 (by rw [Tryd.results24]) rfl rfl tt (gs_nil) (ds_cons lyInts_ok ds_nil) ?_
 intro args c r h hc
 simp only [dLyW,gLyW] at h
 split at h
 rotate_left
 ·cases h
 split at h
 rotate_left
 ·cases h
 rename_i t1 e1 t2 e2 _ _ a b hiw1 hiw2
 obtain rfl:=waysL_eq hiw1
 obtain rfl:=waysL_eq hiw2
 obtain ⟨rfl,rfl⟩:=Prod.mk.inj (Option.some.inj h)
 refine ⟨by simp,fun k E hE Q hQ=>?_⟩
 obtain ⟨⟨ha,ha2⟩,⟨hb,hb2⟩⟩:=hc
 refine Aw_st hE [0,1] [] fun K hK=>?_
 simp only [go_sem,seval]
 repeat refine sd0 ?_
 refine hK _ ?_;clear hK K
 refine Aw_sq fun B1 hB1 hR1 hX1=>?_
 refine Aw_st hE [0,1,10] [] fun K hK=>?_
 simp only [go_sem,seval,ha,hb]
 repeat refine sd0 ?_
 refine hK _ (Aw_cond rfl (fun hc2=>?_) (fun hc2=>?_))
 ·simp only [Bool.not_eq_true',dfn] at hc2
  refine Aw_st hE [4] [] fun K hK=>?_
  simp only [go_sem,seval]
  repeat refine sd0 ?_
  refine hK _ (Aw_ret (hR1 _ (hQ _ ?_)))
  simp only [go_sem,seval,decide_eq_false (show ¬ a=b from fun e=>hc2 (by rw [e]))]
 ·simp only [Bool.not_eq_false',dte] at hc2
  have hll:a.length=b.length:=by omega
  refine Aw_skip (hB1 _ ?_)
  refine Aw_sq fun B3 hB3 hR3 hX3=>?_
  refine Aw_st hE [0,1,5] [] fun K hK=>?_
  simp only [go_sem,seval]
  repeat refine sd0 ?_
  refine hK _ ?_;clear hK K
  refine Aw_bk fun B4 hN4 hE4 hR4 hX4=>?_
  refine Aw_lp (fun i:Nat=>⟨27,[(0,wsl a),(1,wsl b),(5,iv (i:Int))],[],k⟩) (fun i:Nat=>i≤a.length∧∀ j,j < i→a.getD j []=b.getD j []) (fun i:Nat=>a.length - i) (0) (Le_wa) (⟨by omega,fun j h=>absurd h (by omega)⟩) fun i hi B5 hN5 hR5 hX5=>?_
  refine Aw_sq fun B6 hB6 hR6 hX6=>?_
  refine Aw_st hE [0,1,5,14] [] fun K hK=>?_
  simp only [go_sem,seval]
  repeat refine sd0 ?_
  refine hK _ (Aw_cond rfl (fun hc7=>?_) (fun hc7=>?_))
  ·simp only [dte] at hc7
   have h1:=wrows_get a i (by omega)
   have h2:=wrows_get b i (by omega)
   have h3:=ha2 _ (getD_memL a i (by omega))
   have h4:=hb2 _ (getD_memL b i (by omega))
   refine Aw_skip (hB6 _ ?_)
   refine Aw_sq fun B8 hB8 hR8 hX8=>?_
   refine Aw_bk fun B9 hN9 hE9 hR9 hX9=>?_
   refine Aw_sd hE [0,1,5,26] [] 6 (by kernel_rfl) fun K hK=>?_
   simp only [go_sem,seval,h1,h2,h3,h4]
   repeat refine sd0 ?_
   refine hK _ (Aw_cond rfl (fun hc10=>?_) (fun hc10=>?_))
   ·simp only [Bool.not_eq_true',dfn] at hc10
    refine Aw_st hE [4] [] fun K hK=>?_
    simp only [go_sem,seval]
    repeat refine sd0 ?_
    refine hK _ (Aw_ret (hR9 _ (hR8 _ (hR5 _ (hR4 _ (hR3 _ (hQ _ ?_)))))))
    simp only [go_sem,seval,decide_eq_false (show ¬ a=b from fun e=>hc10 (by rw [e]))]
   ·simp only [Bool.not_eq_false',dte] at hc10
    refine Aw_skip (hN9 _ (hB8 _ ?_))
    refine Aw_tx hE [0,1,5] [] fun K hK=>?_
    simp only [go_sem,seval]
    repeat refine sd0 ?_
    refine hK _ (hN5 (i + 1) _ (⟨by omega,fun j hj=>if e:j < i then hi.2 j e else (by obtain rfl:j=i:=(by omega);exact hc10)⟩) (by omega) (Le.refl _))
  ·simp only [dfn] at hc7
   refine Aw_exit (hX6 _ _ (hX5 _ _ (hE4 _ (hB3 _ ?_))))
   refine Aw_st hE [4] [] fun K hK=>?_
   simp only [go_sem,seval]
   repeat refine sd0 ?_
   refine hK _ (Aw_ret (hQ _ ?_))
   simp only [go_sem,seval,decide_eq_true (show a=b from (eq_getW hll).2 fun j hj=>hi.2 j (by omega))]
def dNetNoneI (pb:Addr):DFn:={ g:=gNetNone,inv:=WP pb }
def dNetStillI (pb:Addr):DFn:={ g:=gNetStill,inv:=WP pb }
theorem nt_inh (pb:Addr):Inh (WP pb) (fun _=>True) false:=fun _ _ _ _ _=>trivial
attribute [go_sem] dNetNoneI dNetStillI
set_option maxHeartbeats 4000000 in
theorem iNetStill_ok (pb:Addr):Fine Tryd.prog 30 (dNetStillI pb).con:=by
 refine fine_detX [] gl_nil [] ms_nil [(41,(cReadNet pb,[],[(39,600),(437,640)])),(43,(cPickI pb,[(1000,1000)],[]))] (mm_cons (readNet_ok pb) (by decide) (mm_cons (pickI_ok pb) (by decide) mm_nil (wp_inh pb)) (wp_inh pb)) [] [] ex_nil (T:=TT) Tryd.func30 rfl Tryd.ntmps30 (by rw [Tryd.results30]) rfl rfl tt gs_nil (ds_cons eqI_ok ds_nil) ?_
 intro args c r h hc
 simp only [dNetStillI,gNetStill] at h
 split at h
 rotate_left
 ·cases h
 split at h
 rotate_left
 ·cases h
 rename_i t1 els x t2 els2 _ _ R W hiw1 hiw2
 obtain rfl:=waysL_eq hiw1
 obtain rfl:=waysL_eq hiw2
 obtain ⟨rfl,rfl⟩:=Prod.mk.inj (Option.some.inj h)
 refine ⟨by simp,fun k E hE Q hQ=>?_⟩
 refine Aw_st hE [0,1,2] [615,655] fun K hK=>?_
 simp only [go_sem,seval]
 refine hK _ ?_;clear hK K
 refine Aw_st hE [7,8] [615,655] fun K hK=>?_
 simp only [go_sem,seval,hc.1,hc.2]
 refine ⟨by decide,fun hno=>?_,fun hok t hmp hlk=>?_⟩
 ·refine hK _ ?_;clear hK K
  refine Aw_sq fun B1 hB1 hR1 hX1=>?_
  refine Aw_st hE [7,19] [615,655] fun K hK=>?_
  simp only [go_sem,seval]
  refine hK _ (Aw_yes rfl ?_)
  refine Aw_st hE [6] [615,655] fun K hK=>?_
  simp only [go_sem,seval]
  refine hK _ (Aw_ret (hR1 _ (hQ _ ?_)))
  simp only [go_sem,seval,hno,Bool.false_and,Bool.false_eq_true]
 refine hK _ ?_;clear hK K
 refine Aw_sq fun B1 hB1 hR1 hX1=>?_
 refine Aw_st hE [7,19] [615,655] fun K hK=>?_
 simp only [go_sem,seval]
 refine hK _ (Aw_no rfl (Aw_skip (hB1 _ ?_)))
 obtain ⟨q1,q2,q3⟩:=netOk_iff.1 hok
 have hn5:=(relsOk_iff.1 q1).1.2
 have hnet:okNet ⟨R.length,t,x,W⟩:=⟨hmp,by simp only;omega,by simp only [hlk,q2];exact q3⟩
 have hokN:=okNet_N hnet
 refine Aw_sq fun B3 hB3 hR3 hX3=>?_
 refine Aw_st hE [7,23,24,25] [615,655] fun K hK=>?_
 simp only [go_sem,seval]
 refine hK _ ?_;clear hK K
 refine Aw_bk fun B4 hN4 hE4 hR4 hX4=>?_
 refine Aw_lp (fun i:Nat=>⟨38,[(7,.loc 615 0),(23,.xs 655 0 W.length W.length 1),(24,iv (W.length:Int)),(25,iv (i:Int))],(⟨R.length,t,x,W⟩:Nt).M 615 655,k⟩) (fun i=>i≤W.length∧∀ j,j < i→pickN R.length (ofR R) x (toS W) ((j:Int) + 1)=W.getD j []) (fun i=>W.length - i) 0 (Le_wa) ⟨by omega,fun j h=>absurd h (by omega)⟩ fun i hi B5 hN5 hR5 hX5=>?_
 obtain ⟨hi,hways⟩:=hi
 refine Aw_st hE [7,23,24,25,26] [615,655] fun K hK=>?_
 simp only [go_sem,seval]
 refine hK _ ?_;clear hK K
 refine Aw_sq fun B6 hB6 hR6 hX6=>?_
 refine (Aw_cond rfl (fun hc7=>?_) (fun hc7=>?_))
 rotate_left
 ·simp only [dfn] at hc7
  refine Aw_exit (hX6 _ _ (hX5 _ _ (hE4 _ (hB3 _ ?_))))
  refine Aw_st hE [6] [615,655] fun K hK=>?_
  simp only [go_sem,seval]
  refine hK _ (Aw_ret (hQ _ ?_))
  have hs:=stillB_N.2 (fun j (hj:j < R.length)=>hways j (by omega))
  simp only [go_sem,seval,hok,hs,Bool.and_self]
 simp only [dte] at hc7
 have hil:i < W.length:=by omega
 have hdr:=cWs_drop W i hil
 have hpl:(pickN R.length (ofR R) x (toS W) ((i:Int) + 1)).length≤4294967296:=by
  have hwp:=wayPick_ok (n:=R.length) (of:=ofR R) (home:=x) hn5 q3 (h:=(i:Int) + 1) ⟨by omega,by omega⟩
  by_cases e:pickN R.length (ofR R) x (toS W) ((i:Int) + 1)=[]
  ·rw [e];simp
  ·have:=pathOk_len ((wayOk_iff e).1 hwp).2.2.1;omega
 have hpl2:(pickN W.length (lkF t) x (toS W) ((i:Int) + 1)).length≤4294967296:=by rw [q2,hlk];exact hpl
 have hwl:(W.getD i []).length≤4294967296:=by
  have:=pathOk_len (hokN.2.2 _ (getD_memL W i hil));omega
 refine Aw_skip (hB6 _ ?_)
 refine Aw_sq fun B8 hB8 hR8 hX8=>?_
 refine Aw_bk fun B9 hN9 hE9 hR9 hX9=>?_
 refine Aw_st hE [7,9,10,23,24,25] [615,655] fun K hK=>?_
 simp only [go_sem,seval,hdr]
 repeat refine sd0 ?_
 refine hK _ ?_;clear hK K
 have hpe:pickN W.length (lkF t) x (toS W) ((i:Int) + 1)=pickN R.length (ofR R) x (toS W) ((i:Int) + 1):=by rw [q2,hlk]
 refine Aw_st hE [7,23,24,25,36] [615,655] fun K hK=>?_
 simp only [go_sem,seval,hokN,hpl2,hwl]
 refine ⟨⟨by omega,by omega⟩,by decide,?_⟩
 refine hK _ (Aw_cond rfl (fun hc10=>?_) (fun hc10=>?_))
 ·simp only [Bool.not_eq_true',dfn,hpe] at hc10
  have hs:=stillB_F (n:=R.length) (of:=ofR R) (home:=x) (W:=W) (fun h=>hc10 (h i (by omega)))
  refine Aw_st hE [6] [615,655] fun K hK=>?_
  simp only [go_sem,seval]
  refine hK _ (Aw_ret (hR9 _ (hR8 _ (hR5 _ (hR4 _ (hR3 _ (hQ _ ?_)))))))
  simp only [go_sem,seval,hs,Bool.and_false]
 ·simp only [Bool.not_eq_false',dte,hpe] at hc10
  refine Aw_skip (hN9 _ (hB8 _ ?_))
  refine Aw_tx hE [7,23,24,25] [615,655] fun K hK=>?_
  simp only [go_sem,seval]
  repeat refine sd0 ?_
  refine hK _ (hN5 (i + 1) _ ⟨by omega,fun j hj=>if e:j < i then hways j e else (by obtain rfl:j=i:=(by omega);exact hc10)⟩ (by omega) (Le.refl _))
def dNetEndI (pb:Addr):DFn:={ g:=gNetEnd,inv:=WP pb }
attribute [go_sem] dNetEndI
theorem runI_preL (pb:Addr) (n:Int) (t:List (Value × Value)) (home:Int) {W:List (List Int)} {l:Nat} (hl:W.length=l) (q:List Int):(cRunI pb).pre [.loc 1000 0,isl q] [(1000,[iv n,.dv (.mp t),iv home,.xs 1001 0 l l 1]),(1001,cWs W)]=(okNet ⟨n,t,home,W⟩∧(∀ x ∈ q,hI W.length x)∧q.length≤1000000):=by subst hl;exact runI_pre pb n t home W q
theorem runI_postL (pb:Addr) (n:Int) (t:List (Value × Value)) (home:Int) {W:List (List Int)} {l:Nat} (hl:W.length=l) (q:List Int) (K:AV→List (Nat × List AV)→Prop):(∀ r m2,(cRunI pb).post [.loc 1000 0,isl q] [(1000,[iv n,.dv (.mp t),iv home,.xs 1001 0 l l 1]),(1001,cWs W)] r m2→K r m2)=K (.tup []) [(1000,[iv n,.dv (.mp t),iv home,.xs 1001 0 l l 1]),(1001,cWs (runL W.length (lkF t) home W q))]:=by subst hl;exact runI_post pb n t home W q K
theorem hs_snoc (n:Nat):hs (n + 1)=hs n++[(n:Int) + 1]:=by
 unfold hs;rw [List.range_succ,List.map_append];rfl
theorem hs_len (n:Nat):(hs n).length=n:=by simp [hs]
theorem rnd_snoc (n k:Nat):rndL n (k + 1)=rndL n k++hs n:=by
 unfold rndL
 rw [List.replicate_succ',List.flatten_append];simp
set_option maxHeartbeats 4000000 in
theorem iNetEnd_ok (pb:Addr):Fine Tryd.prog 34 (dNetEndI pb).con:=by
 refine fine_detX [] gl_nil [] ms_nil [(64,(cNothing,[],[(12,600),(10,640)])),(59,(cRunI pb,[(1000,1000)],[]))] (mm_cons nothing_ok (by decide) (mm_cons (runI_ok pb) (by decide) mm_nil (wp_inh pb)) (nt_inh pb)) [] [] ex_nil (T:=TT) Tryd.func34 rfl Tryd.ntmps34 (by rw [Tryd.results34]) rfl rfl tt (gs_cons readRels_ok gs_nil) (ds_cons hasM_ok ds_nil) ?_
 intro args c r h hc
 simp only [dNetEndI,gNetEnd] at h
 split at h
 rotate_left
 ·cases h
 split at h
 rotate_left
 ·cases h
 rename_i t1 els x _ R hiw1
 obtain rfl:=waysL_eq hiw1
 obtain ⟨rfl,rfl⟩:=Prod.mk.inj (Option.some.inj h)
 refine ⟨by simp,fun k E hE Q hQ=>?_⟩
 refine Aw_st hE [0,1] [5,625,665] fun K hK=>?_
 simp only [go_sem,seval]
 refine hK _ ?_;clear hK K
 refine Aw_st hE [1,5,6] [5,625,665] fun K hK=>?_
 simp only [go_sem,seval,hc]
 refine ⟨fun hno=>?_,fun hok t hmp hlk=>?_⟩
 ·refine hK _ ?_;clear hK K
  refine Aw_sq fun B1 hB1 hR1 hX1=>?_
  refine Aw_st hE [1,5,22] [5,625,665] fun K hK=>?_
  simp only [go_sem,seval]
  refine hK _ (Aw_yes rfl ?_)
  refine Aw_st hE [4] [5,625,665] fun K hK=>?_
  simp only [go_sem,seval]
  refine hK _ (Aw_ret (hR1 _ (hQ _ ?_)))
  simp only [go_sem,seval,hno,Bool.false_and,Bool.false_eq_true]
 refine hK _ ?_;clear hK K
 refine Aw_sq fun B1 hB1 hR1 hX1=>?_
 cases h1:hIb R.length x with
 | false =>
  have h1':=h1
  unfold hIb at h1
  refine Aw_st hE [1,5,22] [5,625,665] fun K hK=>?_
  refine aops_cut 6 fun K1 hK1=>?_
  simp only [go_sem,seval,h1,Bool.not_true,Bool.not_false]
  repeat refine sd0 ?_
  refine hK1 _ ?_
  clear hK1
  simp only [go_sem,seval,h1,Bool.not_true,Bool.not_false]
  repeat refine sd0 ?_
  refine hK _ (Aw_yes rfl ?_)
  refine Aw_st hE [4] [5,625,665] fun K hK=>?_
  simp only [go_sem,seval]
  refine hK _ (Aw_ret (hR1 _ (hQ _ ?_)))
  simp only [go_sem,seval,h1',Bool.and_false,Bool.false_eq_true]
 | true =>
 have h1b:(decide (1≤x) && decide (x≤R.length))=true:=h1
 obtain ⟨g1,g2⟩:=hIb_iff.1 h1
 have hn5:=(relsOk_iff.1 hok).1.2
 have hn6:(R.length:Int)≤1000:=by omega
 have hnone:okNet ⟨R.length,t,x,noneL R.length x⟩:=⟨hmp,by simp only [noneL_len];omega,by simp only [hlk,noneL_len,toS_none (show hI R.length x from ⟨g1,g2⟩)];exact netS_none hn5 ⟨g1,g2⟩⟩
 refine Aw_st hE [1,5,22] [5,625,665] fun K hK=>?_
 refine aops_cut 6 fun K1 hK1=>?_
 simp only [go_sem,seval,h1b,Bool.not_true,Bool.not_false]
 repeat refine sd0 ?_
 refine hK1 _ ?_
 clear hK1
 simp only [go_sem,seval,h1b,Bool.not_true,Bool.not_false]
 repeat refine sd0 ?_
 refine hK _ (Aw_no rfl (Aw_skip (hB1 _ ?_)))
 refine Aw_st hE [5,7] [5,625,665] fun K hK=>?_
 simp only [go_sem,seval,g1,g2,hn6,Int.toNat_natCast]
 refine ⟨by decide,?_⟩
 refine hK _ ?_;clear hK K
 refine Aw_sq fun B5 hB5 hR5 hX5=>?_
 refine Aw_st hE [5,7,28,29] [5,625,665] fun K hK=>?_
 simp only [go_sem,seval]
 repeat refine sd0 ?_
 refine hK _ ?_;clear hK K
 refine Aw_bk fun B6 hN6 hE6 hR6 hX6=>?_
 have e0:runL R.length (lkF t) x (noneL R.length x) (rndL R.length 0)=noneL R.length x:=rfl
 have eh0:hs 0=[]:=rfl
 have h4n:4 * (R.length:Int)=((4 * R.length:Nat):Int):=by rw [Int.natCast_mul];rfl
 refine Aw_lp (fun i:Nat=>⟨49,[(5,.loc 5 0),(7,.loc 625 0),(28,iv ((4 * R.length:Nat):Int)),(29,iv (i:Int))],[(5,[iv R.length,.dv (.mp t)]),(625,[iv R.length,.dv (.mp t),iv x,.xs 665 0 R.length R.length 1]),(665,cWs (runL R.length (lkF t) x (noneL R.length x) (rndL R.length i)))],k⟩) (fun i=>i≤4 * R.length) (fun i=>4 * R.length - i) 0 (Le_wc (by simp only [go_sem,seval,h4n]) (by simp only [go_sem,seval,e0])) (by omega) fun i hi B7 hN7 hR7 hX7=>?_
 refine Aw_st hE [5,7,28,29,30] [5,625,665] fun K hK=>?_
 simp only [go_sem,seval]
 refine hK _ ?_;clear hK K
 refine Aw_sq fun B8 hB8 hR8 hX8=>?_
 refine (Aw_cond rfl (fun hc9=>?_) (fun hc9=>?_))
 rotate_left
 ·simp only [dfn] at hc9
  obtain rfl:i=4 * R.length:=by omega
  refine Aw_exit (hX8 _ _ (hX7 _ _ (hE6 _ (hB5 _ ?_))))
  refine Aw_st hE [4] [5,625,665] fun K hK=>?_
  simp only [go_sem,seval]
  refine hK _ ?_
  refine Aw_frz hE rfl 665 R.length (ls:=cWs (runL R.length (lkF t) x (noneL R.length x) (rndL R.length (4 * R.length)))) (ys:=wD (runL R.length (lkF t) x (noneL R.length x) (rndL R.length (4 * R.length)))) rfl (by rw [List.take_of_length_le (by rw [cWs_len,runL_len,noneL_len];omega)];exact ofAll_cWs _) ?_
  have hfz:=frz_wD (L:=endL R.length (ofR R) x) (l:=R.length) ((runL_len _ _).trans noneL_len)
  have heq:runL R.length (lkF t) x (noneL R.length x) (rndL R.length (4 * R.length))=endL R.length (ofR R) x:=by rw [hlk];rfl
  refine Aw_ret (hQ _ ?_)
  simp only [go_sem,seval,heq,hfz,hok,h1,Bool.and_self]
 simp only [dte] at hc9
 refine Aw_skip (hB8 _ ?_)
 refine Aw_sq fun B10 hB10 hR10 hX10=>?_
 refine Aw_bk fun B11 hN11 hE11 hR11 hX11=>?_
 refine Aw_st hE [5,7,8,28,29] [5,625,665] fun K hK=>?_
 simp only [go_sem,seval]
 refine hK _ ?_;clear hK K
 refine Aw_sq fun B12 hB12 hR12 hX12=>?_
 refine Aw_st hE [5,7,8,9,28,29] [5,625,665] fun K hK=>?_
 simp only [go_sem,seval]
 refine hK _ ?_;clear hK K
 refine Aw_bk fun B13 hN13 hE13 hR13 hX13=>?_
 refine Aw_lp (fun j:Nat=>⟨49,[(5,.loc 5 0),(7,.loc 625 0),(8,.sl (some (40,0,3)) (rows (hs j))),(9,iv ((j:Int) + 1)),(28,iv ((4 * R.length:Nat):Int)),(29,iv (i:Int))],[(5,[iv R.length,.dv (.mp t)]),(625,[iv R.length,.dv (.mp t),iv x,.xs 665 0 R.length R.length 1]),(665,cWs (runL R.length (lkF t) x (noneL R.length x) (rndL R.length i)))],k⟩) (fun j=>j≤R.length) (fun j=>R.length - j) 0 ((Le_own 40 3 8 rfl).trans (Le_wk (Nat.le_refl _) (by simp only [go_sem,seval,eh0]) (by simp only [go_sem,seval]))) (by omega) fun j hj B14 hN14 hR14 hX14=>?_
 refine Aw_sq fun B15 hB15 hR15 hX15=>?_
 refine Aw_st hE [5,7,8,9,28,29,34] [5,625,665] fun K hK=>?_
 simp only [go_sem,seval]
 refine hK _ (Aw_cond rfl (fun hc16=>?_) (fun hc16=>?_))
 ·simp only [dte] at hc16
  refine Aw_skip (hB15 _ ?_)
  refine Aw_sq fun B17 hB17 hR17 hX17=>?_
  refine Aw_bk fun B18 hN18 hE18 hR18 hX18=>?_
  have hhl:=hs_len j
  have hap:rows (hs j)++[[DV.v (.int .i64 ((j:Int) + 1))]]=rows (hs (j + 1)):=by rw [hs_snoc j,← rows_app];rfl
  refine Aw_tx hE [5,7,8,9,28,29] [5,625,665] fun K hK=>?_
  simp only [go_sem,seval,hhl,hap]
  refine ⟨⟨rows_row _,by omega⟩,?_⟩
  refine hK _ (hN18 _ (hB17 _ ?_))
  refine Aw_tx hE [5,7,8,9,28,29] [5,625,665] fun K hK=>?_
  simp only [go_sem,seval]
  repeat refine sd0 ?_
  refine hK _ (hN14 (j + 1) _ (by omega) (by omega) (by simp only [Int.natCast_add,Int.natCast_one];exact Le.refl _))
 ·simp only [dfn] at hc16
  obtain rfl:j=R.length:=by omega
  refine Aw_exit (hX15 _ _ (hX14 _ _ (hE13 _ (hB12 _ ?_))))
  have hlen:=(runL_len (n:=R.length) (of:=lkF t) (home:=x) (rndL R.length i) (noneL R.length x)).trans noneL_len
  have hok2:okNet ⟨R.length,t,x,runL R.length (lkF t) x (noneL R.length x) (rndL R.length i)⟩:=by
   have:=okNet_run (N:=⟨R.length,t,x,noneL R.length x⟩) (q:=rndL R.length i) hnone (by simp only [noneL_len];exact rnd_mem)
   simpa only [Nt.run,noneL_len] using this
  have hsn:runL R.length (lkF t) x (runL R.length (lkF t) x (noneL R.length x) (rndL R.length i)) (hs R.length)=runL R.length (lkF t) x (noneL R.length x) (rndL R.length (i + 1)):=by rw [rnd_snoc,runL_app]
  have hin:∀ y ∈ hs R.length,hI R.length y:=fun y hy=>mem_hs.1 hy
  have hhl:=hs_len R.length
  have hn9:R.length≤1000000:=by omega
  have hpre:=runI_preL pb R.length t x hlen (hs R.length)
  have hpost:=fun K=>runI_postL pb R.length t x hlen (hs R.length) K
  refine Aw_tx hE [5,7,28,29] [5,625,665] fun K hK=>?_
  simp only [go_sem,seval,hpre,hpost,hlen,hok2,hhl,hsn]
  refine ⟨by decide,⟨hin,hn9⟩,?_⟩
  refine hK _ (hN11 _ (hB10 _ ?_))
  refine Aw_tx hE [5,7,28,29] [5,625,665] fun K hK=>?_
  simp only [go_sem,seval]
  repeat refine sd0 ?_
  refine hK _ (hN7 (i + 1) _ (by omega) (by omega) (Le.refl _))
def Nt.P (N:Nt) (p b w:Nat):List (Nat × List AV):=(p,[.loc b 0])::N.M b w
attribute [go_sem] Nt.P
theorem NtP_inj {N N':Nt} {p b w:Nat} (h:N.P p b w=N'.P p b w):N=N':=NtM_inj (List.cons.inj h).2
def ePl (i:Nt × Int):List AV × List (Nat × List AV):=([iv i.2,.loc 1000 0],i.1.P 1000 1001 1002)
theorem ePl_inj (i j:Nt × Int) (h:ePl i=ePl j):i=j:=by
 obtain ⟨N,x⟩:=i
 obtain ⟨N',x'⟩:=j
 obtain ⟨h1,h2⟩:=Prod.mk.inj h
 simp only [List.cons.injEq,true_and,AV.v.injEq,Value.int.injEq,and_true] at h1
 obtain rfl:=NtP_inj (N:=N) (N':=N') h2
 rw [h1]
def outB (n a:Int):Bool:=!(decide (1≤a) && decide (a≤n))
def cPl1:ConM:=mkM (fun _=>True) ePl (fun _=>True) fun i r m2=>r=bv (outB i.1.n i.2)∧m2=i.1.P 1000 1001 1002
theorem pl1_pre (n:Int) (t:List (Value × Value)) (home:Int) (W:List (List Int)) (h:Int):cPl1.pre [iv h,.loc 1000 0] [(1000,[.loc 1001 0]),(1001,[iv n,.dv (.mp t),iv home,.xs 1002 0 W.length W.length 1]),(1002,cWs W)]=True:=mkM_pre ePl_inj (⟨n,t,home,W⟩,h) rfl
theorem pl1_post (n:Int) (t:List (Value × Value)) (home:Int) (W:List (List Int)) (h:Int) (K:AV→List (Nat × List AV)→Prop):(∀ r m2,cPl1.post [iv h,.loc 1000 0] [(1000,[.loc 1001 0]),(1001,[iv n,.dv (.mp t),iv home,.xs 1002 0 W.length W.length 1]),(1002,cWs W)] r m2→K r m2)=K (bv (outB n h)) [(1000,[.loc 1001 0]),(1001,[iv n,.dv (.mp t),iv home,.xs 1002 0 W.length W.length 1]),(1002,cWs W)] :=
 (mkM_post ePl_inj (⟨n,t,home,W⟩,h) rfl K).trans (mkM_fn _ _)
attribute [go_sem] pl1_pre pl1_post
set_option maxHeartbeats 4000000 in
theorem pl1_ok:FineM Tryd.prog 58 cPl1:=by
 refine fineM_of [] ms_nil [] mm_nil [] [] ex_nil (T:=TT) Tryd.func58 rfl Tryd.ntmps58 (by rw [Tryd.results58]) rfl rfl tt gs_nil (ds_cons hasM_ok ds_nil) ?_
 rintro args m1 ⟨⟨⟨n,t,home,W⟩,a⟩,e,_⟩
 obtain ⟨rfl,rfl⟩:=Prod.mk.inj e.symm
 refine ⟨by simp,fun E hE Q hQ=>?_⟩
 refine Aw_st hE [0,1] [1000,1001,1002] fun K hK=>?_
 simp only [go_sem,seval]
 refine hK _ ?_;clear hK K
 refine Aw_st hE [3] [1000,1001,1002] fun K hK=>?_
 simp only [go_sem,seval]
 refine hK _ (Aw_ret (hQ _ ?_))
 simp only [go_sem,seval]
 exact ⟨(⟨n,t,home,W⟩,a),rfl,rfl,rfl⟩
def ePq (i:Nt × List Int):List AV × List (Nat × List AV):=([isl i.2,.cl 58 false [.loc 1000 0]],i.1.P 1000 1001 1002)
theorem ePq_inj (i j:Nt × List Int) (h:ePq i=ePq j):i=j:=by
 obtain ⟨N,x⟩:=i
 obtain ⟨N',x'⟩:=j
 obtain ⟨h1,h2⟩:=Prod.mk.inj h
 obtain ⟨h1,_⟩:=List.cons.inj h1
 obtain rfl:=NtP_inj (N:=N) (N':=N') h2
 have h1:x=x':=isl1_inj h1
 rw [h1]
def idxF (p:Int→Bool) (q:List Int):Int:=if q.any p then (q.findIdx p:Nat) else -1
theorem idxF_hit {p:Int→Bool} {q:List Int} {i:Nat} (hi:i < q.length) (h:∀ j,j < i→p (q.getD j 0)=false) (hp:p (q.getD i 0)=true):idxF p q=(i:Int):=by
 have hg:q.getD i 0=q[i]:=by rw [List.getD_eq_getElem?_getD,List.getElem?_eq_getElem hi,Option.getD_some]
 unfold idxF
 rw [if_pos (List.any_eq_true.2 ⟨q[i],List.getElem_mem hi,by rw [← hg];exact hp⟩)]
 congr 1
 refine (List.findIdx_eq hi).2 ⟨by rw [← hg];exact hp,fun j hj=>?_⟩
 have:=h j hj
 rwa [List.getD_eq_getElem?_getD,List.getElem?_eq_getElem (by omega),Option.getD_some] at this
theorem idxF_none {p:Int→Bool} {q:List Int} (h:∀ j,j < q.length→p (q.getD j 0)=false):idxF p q = -1:=by
 unfold idxF
 rw [if_neg]
 intro ha
 obtain ⟨x,hx,hp⟩:=List.any_eq_true.1 ha
 obtain ⟨j,hj,rfl⟩:=List.getElem_of_mem hx
 have:=h j hj
 rw [List.getD_eq_getElem?_getD,List.getElem?_eq_getElem hj,Option.getD_some] at this
 rw [this] at hp;cases hp
theorem idxF_geq (p:Int→Bool) (q:List Int):decide (0≤idxF p q)=q.any p:=by
 unfold idxF
 cases q.any p with
 | true=>simp
 | false=>simp
def cPlI:ConM:=mkM (fun _=>True) ePq (fun i=>i.2.length≤1000000) fun i r m2=>r=iv (idxF (outB i.1.n) i.2)∧m2=i.1.P 1000 1001 1002
theorem plI_pre (n:Int) (t:List (Value × Value)) (home:Int) (W:List (List Int)) (q:List Int):cPlI.pre [isl q,.cl 58 false [.loc 1000 0]] [(1000,[.loc 1001 0]),(1001,[iv n,.dv (.mp t),iv home,.xs 1002 0 W.length W.length 1]),(1002,cWs W)]=(q.length≤1000000):=mkM_pre ePq_inj (⟨n,t,home,W⟩,q) rfl
theorem plI_post (n:Int) (t:List (Value × Value)) (home:Int) (W:List (List Int)) (q:List Int) (K:AV→List (Nat × List AV)→Prop):(∀ r m2,cPlI.post [isl q,.cl 58 false [.loc 1000 0]] [(1000,[.loc 1001 0]),(1001,[iv n,.dv (.mp t),iv home,.xs 1002 0 W.length W.length 1]),(1002,cWs W)] r m2→K r m2)=K (iv (idxF (outB n) q)) [(1000,[.loc 1001 0]),(1001,[iv n,.dv (.mp t),iv home,.xs 1002 0 W.length W.length 1]),(1002,cWs W)] :=
 (mkM_post ePq_inj (⟨n,t,home,W⟩,q) rfl K).trans (mkM_fn _ _)
attribute [go_sem] plI_pre plI_post
set_option maxHeartbeats 4000000 in
theorem plI_ok:FineM Tryd.prog 90 cPlI:=by
 refine fineM_of [] ms_nil [(58,(cPl1,[(1000,1000)],[]))] (mm_cons pl1_ok (by decide) mm_nil) [] [] ex_nil (T:=TT) Tryd.func90 rfl Tryd.ntmps90 (by rw [Tryd.results90]) rfl rfl tt gs_nil ds_nil ?_
 rintro args m1 ⟨⟨⟨n,t,home,W⟩,q⟩,e,hql⟩
 obtain ⟨rfl,rfl⟩:=Prod.mk.inj e.symm
 refine ⟨by simp,fun E hE Q hQ=>?_⟩
 simp only at hql
 refine Aw_st hE [0,1] [1000,1001,1002] fun K hK=>?_
 simp only [go_sem,seval]
 refine hK _ ?_;clear hK K
 refine Aw_sq fun B1 hB1 hR1 hX1=>?_
 refine Aw_st hE [0,1,7,8] [1000,1001,1002] fun K hK=>?_
 simp only [go_sem,seval]
 repeat refine sd0 ?_
 refine hK _ ?_;clear hK K
 refine Aw_bk fun B2 hN2 hE2 hR2 hX2=>?_
 refine Aw_lp (fun i:Nat=>⟨19,[(0,isl q),(1,.cl 58 false [.loc 1000 0]),(7,iv (q.length:Int)),(8,iv (i:Int))],(⟨n,t,home,W⟩:Nt).P 1000 1001 1002,0⟩) (fun i=>i≤q.length∧∀ j,j < i→outB n (q.getD j 0)=false) (fun i=>q.length - i) 0 (Le_wa) ⟨by omega,fun j h=>absurd h (by omega)⟩ fun i hi B3 hN3 hR3 hX3=>?_
 obtain ⟨hi,hno⟩:=hi
 refine Aw_st hE [0,1,7,8,9] [1000,1001,1002] fun K hK=>?_
 simp only [go_sem,seval]
 refine hK _ ?_;clear hK K
 refine Aw_sq fun B4 hB4 hR4 hX4=>?_
 refine Aw_cond rfl (fun hc5=>?_) (fun hc5=>?_)
 ·simp only [dte] at hc5
  have hil:i < q.length:=by omega
  have hg:=rows_get q i hil
  refine Aw_skip (hB4 _ ?_)
  refine Aw_sq fun B6 hB6 hR6 hX6=>?_
  refine Aw_bk fun B7 hN7 hE7 hR7 hX7=>?_
  refine Aw_st hE [0,1,5,7,8] [1000,1001,1002] fun K hK=>?_
  simp only [go_sem,seval]
  refine hK _ ?_;clear hK K
  refine Aw_st hE [0,1,5,7,8,16] [1000,1001,1002] fun K hK=>?_
  simp only [go_sem,seval,hg]
  repeat refine sd0 ?_
  refine hK _ (Aw_cond rfl (fun hc8=>?_) (fun hc8=>?_))
  ·refine Aw_st hE [4] [1000,1001,1002] fun K hK=>?_
   simp only [go_sem,seval]
   refine hK _ (Aw_ret (hR7 _ (hR6 _ (hR3 _ (hR2 _ (hR1 _ (hQ _ ?_)))))))
   simp only [go_sem,seval]
   exact ⟨(⟨n,t,home,W⟩,q),rfl,by rw [idxF_hit hil hno hc8],rfl⟩
  ·refine Aw_skip (hN7 _ (hB6 _ ?_))
   refine Aw_tx hE [0,1,7,8] [1000,1001,1002] fun K hK=>?_
   simp only [go_sem,seval]
   repeat refine sd0 ?_
   refine hK _ (hN3 (i + 1) _ ⟨by omega,fun j hj=>if e:j < i then hno j e else (by obtain rfl:j=i:=(by omega);exact hc8)⟩ (by omega) (Le.refl _))
 ·simp only [dfn] at hc5
  refine Aw_exit (hX4 _ _ (hX3 _ _ (hE2 _ (hB1 _ ?_))))
  refine Aw_st hE [4] [1000,1001,1002] fun K hK=>?_
  simp only [go_sem,seval]
  refine hK _ (Aw_ret (hQ _ ?_))
  simp only [go_sem,seval]
  exact ⟨(⟨n,t,home,W⟩,q),rfl,by rw [idxF_none (fun j hj=>hno j (by omega))],rfl⟩
def cPlC:ConM:=mkM (fun _=>True) ePq (fun i=>i.2.length≤1000000) fun i r m2=>r=bv (i.2.any (outB i.1.n))∧m2=i.1.P 1000 1001 1002
theorem plC_pre (n:Int) (t:List (Value × Value)) (home:Int) (W:List (List Int)) (q:List Int):cPlC.pre [isl q,.cl 58 false [.loc 1000 0]] [(1000,[.loc 1001 0]),(1001,[iv n,.dv (.mp t),iv home,.xs 1002 0 W.length W.length 1]),(1002,cWs W)]=(q.length≤1000000):=mkM_pre ePq_inj (⟨n,t,home,W⟩,q) rfl
theorem plC_post (n:Int) (t:List (Value × Value)) (home:Int) (W:List (List Int)) (q:List Int) (K:AV→List (Nat × List AV)→Prop):(∀ r m2,cPlC.post [isl q,.cl 58 false [.loc 1000 0]] [(1000,[.loc 1001 0]),(1001,[iv n,.dv (.mp t),iv home,.xs 1002 0 W.length W.length 1]),(1002,cWs W)] r m2→K r m2)=K (bv (q.any (outB n))) [(1000,[.loc 1001 0]),(1001,[iv n,.dv (.mp t),iv home,.xs 1002 0 W.length W.length 1]),(1002,cWs W)] :=
 (mkM_post ePq_inj (⟨n,t,home,W⟩,q) rfl K).trans (mkM_fn _ _)
attribute [go_sem] plC_pre plC_post
set_option maxHeartbeats 4000000 in
theorem plC_ok:FineM Tryd.prog 57 cPlC:=by
 refine fineM_of [] ms_nil [(90,(cPlI,[(1000,1000)],[]))] (mm_cons plI_ok (by decide) mm_nil) [] [] ex_nil (T:=TT) Tryd.func57 rfl Tryd.ntmps57 (by rw [Tryd.results57]) rfl rfl tt gs_nil ds_nil ?_
 rintro args m1 ⟨⟨⟨n,t,home,W⟩,q⟩,e,hql⟩
 obtain ⟨rfl,rfl⟩:=Prod.mk.inj e.symm
 refine ⟨by simp,fun E hE Q hQ=>?_⟩
 simp only at hql
 have hge:=idxF_geq (outB n) q
 refine Aw_st hE [0,1] [1000,1001,1002] fun K hK=>?_
 simp only [go_sem,seval]
 refine hK _ ?_;clear hK K
 refine Aw_st hE [4] [1000,1001,1002] fun K hK=>?_
 simp only [go_sem,seval,hql,hge]
 refine ⟨by decide,?_⟩
 refine hK _ (Aw_ret (hQ _ ?_))
 simp only [go_sem,seval]
 exact ⟨(⟨n,t,home,W⟩,q),rfl,rfl,rfl⟩
theorem any_out {n:Nat} {q:List Int}:q.any (outB n) = !(q.all (hIb n)):=by
 rw [Bool.eq_iff_iff]
 simp only [List.any_eq_true,Bool.not_eq_true',List.all_eq_false,outB,hIb,Bool.not_eq_true]
def dNetPlayI (pb:Addr):DFn:={ g:=gNetPlay,inv:=WP pb }
attribute [go_sem] dNetPlayI
set_option maxHeartbeats 4000000 in
theorem iNetPlay_ok (pb:Addr):Fine Tryd.prog 28 (dNetPlayI pb).con:=by
 refine fine_detX [] gl_nil [] ms_nil [(41,(cReadNet pb,[],[(39,600),(437,640)])),(57,(cPlC,[(1000,1000)],[])),(59,(cRunI pb,[(1000,1000)],[]))] (mm_cons (readNet_ok pb) (by decide) (mm_cons plC_ok (by decide) (mm_cons (runI_ok pb) (by decide) mm_nil (wp_inh pb)) (nt_inh pb)) (wp_inh pb)) [28] [] ex_nil (T:=TT) Tryd.func28 rfl Tryd.ntmps28 (by rw [Tryd.results28]) rfl rfl tt gs_nil ds_nil ?_
 intro args c r h hc
 simp only [dNetPlayI,gNetPlay] at h
 split at h
 rotate_left
 ·cases h
 split at h
 rotate_left
 ·cases h
 rename_i t1 els x t2 els2 t3 els3 _ _ _ R W q hiw1 hiw2 hl3
 obtain rfl:=waysL_eq hiw1
 obtain rfl:=waysL_eq hiw2
 obtain rfl:=intsL_eq hl3
 obtain ⟨rfl,rfl⟩:=Prod.mk.inj (Option.some.inj h)
 refine ⟨by simp,fun k E hE Q hQ=>?_⟩
 obtain ⟨⟨hbR,hbW⟩,hql⟩:=hc
 refine Aw_st hE [0,1,2,3] [10,616,656] fun K hK=>?_
 simp only [go_sem,seval]
 refine hK _ ?_;clear hK K
 refine Aw_st hE [3,10,11] [10,616,656] fun K hK=>?_
 simp only [go_sem,seval,hbR,hbW]
 refine ⟨by decide,fun hno=>?_,fun hok t hmp hlk=>?_⟩
 ·refine hK _ ?_;clear hK K
  refine Aw_sq fun B1 hB1 hR1 hX1=>?_
  have hp:playOk R x W q=false:=by unfold playOk;rw [hno];rfl
  refine Aw_st hE [3,10,30] [10,616,656] fun K hK=>?_
  simp only [go_sem,seval]
  refine hK _ (Aw_yes rfl ?_)
  refine Aw_st hE [8,9] [10,616,656] fun K hK=>?_
  simp only [go_sem,seval]
  refine hK _ (Aw_ret (hR1 _ (hQ _ ?_)))
  simp only [go_sem,seval,hp,Bool.false_eq_true]
  rfl
 refine hK _ ?_;clear hK K
 refine Aw_sq fun B1 hB1 hR1 hX1=>?_
 obtain ⟨q1,q2,q3⟩:=netOk_iff.1 hok
 have hn5:=(relsOk_iff.1 q1).1.2
 have hnet:okNet ⟨R.length,t,x,W⟩:=⟨hmp,by simp only;omega,by simp only [hlk,q2];exact q3⟩
 by_cases h1:q.length≤200
 rotate_left
 ·have h1d:decide (200 < (q.length:Int))=true:=decide_eq_true (by omega)
  have hp:playOk R x W q=false:=by unfold playOk;rw [decide_eq_false h1,Bool.and_false,Bool.false_and]
  refine Aw_st hE [3,10,30] [10,616,656] fun K hK=>?_
  refine aops_cut 6 fun K1 hK1=>?_
  simp only [go_sem,seval,h1d,Bool.not_true,Bool.not_false]
  repeat refine sd0 ?_
  refine hK1 _ ?_
  clear hK1
  simp only [go_sem,seval,h1d,Bool.not_true,Bool.not_false]
  repeat refine sd0 ?_
  refine hK _ (Aw_yes rfl ?_)
  refine Aw_st hE [8,9] [10,616,656] fun K hK=>?_
  simp only [go_sem,seval]
  refine hK _ (Aw_ret (hR1 _ (hQ _ ?_)))
  simp only [go_sem,seval,hp,Bool.false_eq_true]
  rfl
 have h1d:decide (200 < (q.length:Int))=false:=decide_eq_false (by omega)
 have hqm:q.length≤1000000:=by omega
 have hany:=any_out (n:=R.length) (q:=q)
 cases h2:q.all (hIb R.length) with
 | false =>
  rw [h2] at hany
  have hp:playOk R x W q=false:=by unfold playOk;rw [h2,Bool.and_false]
  refine Aw_st hE [3,10,30] [10,616,656] fun K hK=>?_
  refine aops_cut 6 fun K1 hK1=>?_
  simp only [go_sem,seval,h1d,hany,hqm,Bool.not_true,Bool.not_false]
  repeat refine sd0 ?_
  refine hK1 _ ?_
  clear hK1
  simp only [go_sem,seval,h1d,hany,hqm,Bool.not_true,Bool.not_false]
  repeat refine sd0 ?_
  refine hK _ (Aw_yes rfl ?_)
  refine Aw_st hE [8,9] [10,616,656] fun K hK=>?_
  simp only [go_sem,seval]
  refine hK _ (Aw_ret (hR1 _ (hQ _ ?_)))
  simp only [go_sem,seval,hp,Bool.false_eq_true]
  rfl
 | true =>
  rw [h2] at hany
  have hp:playOk R x W q=true:=by unfold playOk;rw [h2,hok,decide_eq_true h1];rfl
  have hin:∀ y ∈ q,hI W.length y:=fun y hy=>by rw [q2];exact hIb_iff.1 (List.all_eq_true.1 h2 y hy)
  refine Aw_st hE [3,10,30] [10,616,656] fun K hK=>?_
  refine aops_cut 6 fun K1 hK1=>?_
  simp only [go_sem,seval,h1d,hany,hqm,Bool.not_true,Bool.not_false]
  repeat refine sd0 ?_
  refine hK1 _ ?_
  clear hK1
  simp only [go_sem,seval,h1d,hany,hqm,Bool.not_true,Bool.not_false]
  repeat refine sd0 ?_
  refine hK _ (Aw_no rfl (Aw_skip (hB1 _ ?_)))
  refine Aw_st hE [10] [10,616,656] fun K hK=>?_
  simp only [go_sem,seval,hnet,hin,hqm]
  refine ⟨by decide,hin,?_⟩
  refine hK _ ?_;clear hK K
  refine Aw_st hE [8,9] [10,616,656] fun K hK=>?_
  simp only [go_sem,seval]
  refine hK _ ?_
  refine Aw_frz hE rfl 656 W.length (ls:=cWs (runL W.length (lkF t) x W q)) (ys:=wD (runL W.length (lkF t) x W q)) rfl (by rw [List.take_of_length_le (by rw [cWs_len,runL_len];omega)];exact ofAll_cWs _) ?_
  have hfz:=frz_wD (L:=runL R.length (ofR R) x W q) (l:=R.length) ((runL_len _ _).trans q2)
  refine Aw_ret (hQ _ ?_)
  simp only [go_sem,seval,hlk,q2,hfz,hp]
def gRelOf:List AV→Option (Prop × AV)
 | [.sl _ els,.v (.int .i64 a),.v (.int .i64 b)]=>(match waysL els with
  | some R=>some (bigM R,iv (if relsOk R then ofR R a b else 0))
  | none=>none)
 | _=>none
def dRelOf:DFn:={ g:=gRelOf }
attribute [go_sem] gRelOf dRelOf
theorem relOf_ok:Fine Tryd.prog 20 dRelOf.con:=by
 refine fine_det (T:=TT) Tryd.func20 rfl Tryd.ntmps20 (by rw [Tryd.results20]) rfl rfl tt (gs_cons readRels_ok gs_nil) (ds_cons ofM_ok ds_nil) ?_
 intro args c r h hc
 simp only [dRelOf,gRelOf] at h
 split at h
 rotate_left
 ·cases h
 split at h
 rotate_left
 ·cases h
 rename_i tt els a b _ R hiw
 obtain rfl:=waysL_eq hiw
 obtain ⟨rfl,rfl⟩:=Prod.mk.inj (Option.some.inj h)
 refine ⟨by simp,fun k E hE Q hQ=>?_⟩
 refine Aw_st hE [0,1,2] [7] fun K hK=>?_
 simp only [go_sem,seval]
 refine hK _ ?_;clear hK K
 refine Aw_st hE [1,2,7,8] [7] fun K hK=>?_
 simp only [go_sem,seval,hc]
 refine ⟨fun hno=>?_,fun hok t hmp hlk=>?_⟩
 ·refine hK _ ?_;clear hK K
  refine Aw_sq fun B1 hB1 hR1 hX1=>?_
  refine Aw_st hE [1,2,7,15] [7] fun K hK=>?_
  simp only [go_sem,seval]
  refine hK _ (Aw_yes rfl ?_)
  refine Aw_st hE [6] [7] fun K hK=>?_
  simp only [go_sem,seval]
  refine hK _ (Aw_ret (hR1 _ (hQ _ ?_)))
  simp only [go_sem,seval,hno,Bool.false_eq_true]
 ·refine hK _ ?_;clear hK K
  refine Aw_sq fun B1 hB1 hR1 hX1=>?_
  refine Aw_st hE [1,2,7,15] [7] fun K hK=>?_
  simp only [go_sem,seval]
  refine hK _ (Aw_no rfl (Aw_skip (hB1 _ ?_)))
  refine Aw_st hE [6] [7] fun K hK=>?_
  simp only [go_sem,seval,hmp,hlk]
  refine hK _ (Aw_ret (hQ _ ?_))
  simp only [go_sem,seval,hok]
def gRelMay:List AV→Option (Prop × AV)
 | [.sl _ els,.v (.int .i64 h),.v (.int .i64 o),.v (.int .i64 u)]=>(match waysL els with
  | some R=>some (bigM R,bv (relsOk R && hIb R.length h && hIb R.length u && (decide (o=0) || hIb R.length o) && mayB (ofR R) h o u))
  | none=>none)
 | _=>none
def dRelMay:DFn:={ g:=gRelMay }
attribute [go_sem] gRelMay dRelMay
theorem relMay_ok:Fine Tryd.prog 18 dRelMay.con:=by
 refine fine_det (T:=TT) Tryd.func18 rfl Tryd.ntmps18 (by rw [Tryd.results18]) rfl rfl tt (gs_cons readRels_ok gs_nil) (ds_cons hasM_ok (ds_cons expM_ok ds_nil)) ?_
 intro args c r h hc
 simp only [dRelMay,gRelMay] at h
 split at h
 rotate_left
 ·cases h
 split at h
 rotate_left
 ·cases h
 rename_i tt els a o u _ R hiw
 obtain rfl:=waysL_eq hiw
 obtain ⟨rfl,rfl⟩:=Prod.mk.inj (Option.some.inj h)
 refine ⟨by simp,fun k E hE Q hQ=>?_⟩
 refine Aw_st hE [0,1,2,3] [9] fun K hK=>?_
 simp only [go_sem,seval]
 refine hK _ ?_;clear hK K
 refine Aw_st hE [1,2,3,9,10] [9] fun K hK=>?_
 simp only [go_sem,seval,hc]
 refine ⟨fun hno=>?_,fun hok t hmp hlk=>?_⟩
 ·refine hK _ ?_;clear hK K
  refine Aw_st hE [8] [9] fun K hK=>?_
  simp only [go_sem,seval]
  refine hK _ (Aw_ret (hQ _ ?_))
  simp only [go_sem,seval,hno,Bool.false_and]
 ·refine hK _ ?_;clear hK K
  have d1:(decide (1≤a) && decide (a≤R.length))=hIb R.length a:=rfl
  have d2:(decide (1≤u) && decide (u≤R.length))=hIb R.length u:=rfl
  have d3:(decide (1≤o) && decide (o≤R.length))=hIb R.length o:=rfl
  cases h1:hIb R.length a<;>cases h2:hIb R.length u<;>cases h3:decide (o=0)<;>cases h4:hIb R.length o<;>rw [h1] at d1<;>rw [h2] at d2<;>rw [h4] at d3
  all_goals
   refine Aw_st hE [8] [9] fun K hK=>?_
   refine aops_cut 6 fun K1 hK1=>?_
   simp only [go_sem,seval,d1,d2,d3,h3,hmp,hlk,Bool.not_true,Bool.not_false]
   repeat refine sd0 ?_
   refine hK1 _ ?_
   clear hK1
   refine aops_cut 6 fun K1 hK1=>?_
   simp only [go_sem,seval,d1,d2,d3,h3,hmp,hlk,Bool.not_true,Bool.not_false]
   repeat refine sd0 ?_
   refine hK1 _ ?_
   clear hK1
   refine aops_cut 6 fun K1 hK1=>?_
   simp only [go_sem,seval,d1,d2,d3,h3,hmp,hlk,Bool.not_true,Bool.not_false]
   repeat refine sd0 ?_
   refine hK1 _ ?_
   clear hK1
   refine aops_cut 6 fun K1 hK1=>?_
   simp only [go_sem,seval,d1,d2,d3,h3,hmp,hlk,Bool.not_true,Bool.not_false]
   repeat refine sd0 ?_
   refine hK1 _ ?_
   clear hK1
   simp only [go_sem,seval,d1,d2,d3,h3,hmp,hlk,Bool.not_true,Bool.not_false]
   repeat refine sd0 ?_
   refine hK _ (Aw_ret (hQ _ ?_))
   simp only [go_sem,seval,hok,h1,h2,h3,h4,Bool.true_and,Bool.false_and,Bool.and_true,Bool.and_false,Bool.or_true,Bool.or_false]
theorem rdy_T {N:Nat} {of:Rel} {o:List Int} {a:Int} (h0:o.contains a=false) (h:∀ j,j < N→decide (of a ((j:Int) + 1)=1)=true→o.contains ((j:Int) + 1)=true):rdyB N of o a=true:=by
 unfold rdyB
 rw [h0,Bool.not_false,Bool.true_and,List.all_eq_true]
 intro x hx
 have hx:=mem_hs.1 hx
 have h1:=hx.1
 have h2:=hx.2
 have:=h (x - 1).toNat (by omega)
 rw [show (((x - 1).toNat:Nat):Int) + 1=x by omega,dte] at this
 by_cases e:of a x=1
 ·rw [this e,Bool.or_true]
 ·rw [show (of a x == 1)=false from by simpa using e];rfl
theorem rdy_F {N:Nat} {of:Rel} {o:List Int} {a:Int} {j:Nat} (hj:j < N) (h1:of a ((j:Int) + 1)=1) (h2:o.contains ((j:Int) + 1)=false):rdyB N of o a=false:=by
 unfold rdyB
 have:((hs N).all fun q=>!(of a q == 1) || o.contains q)=false:=by
  rw [List.all_eq_false]
  exact ⟨(j:Int) + 1,mem_hs.2 ⟨by omega,by omega⟩,by rw [h1,h2];decide⟩
 rw [this,Bool.and_false]
theorem rdy_C {N:Nat} {of:Rel} {o:List Int} {a:Int} (h0:o.contains a=true):rdyB N of o a=false:=by
 unfold rdyB;rw [h0];rfl
def outV (W:List (List Int)) (r:AV) (m2:List (Nat × List AV)):Prop:=∃ c:Nat,r = .xs 900 0 W.length (c + W.length) 1∧m2=[(900,cWs W++jN c)]
theorem outV_eq (W:List (List Int)) (P:AV→List (Nat × List AV)→Prop):(∀ r m2,outV W r m2→P r m2) = ∀ c:Nat,P (.xs 900 0 W.length (c + W.length) 1) [(900,cWs W++jN c)]:=by
 apply propext
 exact ⟨fun h c=>h _ _ ⟨c,rfl,rfl⟩,fun h r m2 ⟨c,e1,e2⟩=>by rw [e1,e2];exact h c⟩
theorem fl_w (v:List Int):flatA [[DV.sl (rows v)]]=[isl v]:=rfl
theorem sl_nl:[[DV.sl []]]=[[DV.sl (rows [])]]:=rfl
theorem isl_z:(AV.sl none []:AV)=isl []:=rfl
theorem lf_w (v:List Int):allLeaf [isl v]=true:=rfl
theorem one_w (v:List Int):(∀ row ∈ [[DV.sl (rows v)]],row.length=1)=True:=by simp
theorem wrow_put (q:List (List Int)) (e:Nat) (v:List Int):(cWs q++jN (e + 1)).set q.length (isl v)=cWs (q++[v])++jN e:=by
 rw [List.set_append_right _ _ (by rw [cWs_len];exact Nat.le_refl _),cWs_len,Nat.sub_self,jN_s,List.set_cons_zero]
 simp [cWs]
theorem wrow_snoc (q:List (List Int)) (v:List Int) (n:Nat):cWs q++(isl v::jN n)=cWs (q++[v])++jN n:=by simp [cWs]
theorem wrow_take (q:List (List Int)) (e:Nat):(cWs q++jN e).take q.length=cWs q:=List.take_left' (cWs_len q)
theorem wrow_len (q:List (List Int)) (e:Nat):(cWs q++jN e).length=q.length + e:=by rw [List.length_append,cWs_len,jN_len]
theorem wrow_swb (d d':Nat) (l:List (List Int)) (c:Nat):AV.swbAll d d' (cWs l++jN c)=cWs l++jN c:=by
 rw [AV.swbAll_eq,List.map_append,← AV.swbAll_eq,← AV.swbAll_eq,jN_swb,cWs_swb]
theorem wrow_stripA (d:Nat) (l:List (List Int)) (c:Nat):AV.stripAll d (cWs l++jN c)=cWs l++jN c:=by
 rw [AV.stripAll_eq,List.map_append,← AV.stripAll_eq,← AV.stripAll_eq,jN_stripA,cWs_stripA]
theorem wrow_stripL (d:Nat) (l:List (List Int)) (c:Nat):AV.stripLAll d (cWs l++jN c)=cWs l++jN c:=by
 rw [AV.stripLAll_eq,List.map_append,← AV.stripLAll_eq,← AV.stripLAll_eq,jN_strip,cWs_strip]
theorem avL_app:∀ (a b:List AV),avLeL a a=True→avLeL b b=True→avLeL (a++b) (a++b)=True
 | [],_,_,hb=>hb
 | x::a,b,ha,hb=>by
  simp only [List.cons_append,avLeL] at ha ⊢
  have h:=of_eq_true ha
  exact eq_true ⟨h.1,of_eq_true (avL_app a b (eq_true h.2) hb)⟩
theorem wrow_le (l:List (List Int)) (c:Nat):avLeL (cWs l++jN c) (cWs l++jN c)=True:=avL_app _ _ (cWs_le l) (jN_le c)
theorem ofAll_wrow {l:List (List Int)} {n c:Nat} (h:l.length=n):DV.ofAll ((cWs l++jN c).take n)=some (wD l):=by
 rw [List.take_left' (by rw [cWs_len];exact h)];exact ofAll_cWs l
theorem jN_mvnW (f:Nat→Option Nat) (n:Nat):AV.mvnAll f (jN n)=jN n:=by rw [mvnAll_eq,jN,List.map_replicate];rfl
theorem wrow_nt (l:List (List Int)) (c:Nat):AV.ntAll (cWs l++jN c)=cWs l++jN c:=by
 rw [ntAll_eq,List.map_append,← ntAll_eq,← ntAll_eq,jN_nt,cWs_nt]
attribute [go_sem] jN_mvnW wrow_nt fl_w lf_w one_w wrow_take wrow_swb wrow_stripA wrow_stripL wrow_le wrow_len
def cNoneM:ConM:=mkM (fun _=>True) (fun i:List (List Int) × Int=>([wsl i.1,iv i.2],[])) (fun i=>i.1.length≤1000∧1≤i.2∧i.2≤i.1.length) fun i=>outV (noneL i.1.length i.2)
theorem noneM_inj (i j:List (List Int) × Int) (h:(([wsl i.1,iv i.2],[]):List AV × List (Nat × List AV))=([wsl j.1,iv j.2],[])):i=j:=by
 obtain ⟨h1,_⟩:=Prod.mk.inj h
 obtain ⟨h1,h2⟩:=List.cons.inj h1
 obtain ⟨h2,_⟩:=List.cons.inj h2
 exact Prod.ext (wsl_inj (congrArg (fun z=>[z]) h1)) (by simpa using h2)
theorem noneM_pre (R:List (List Int)) (x:Int):cNoneM.pre [wsl R,iv x] []=(R.length≤1000∧1≤x∧x≤R.length):=mkM_pre noneM_inj (R,x) rfl
theorem noneM_post (R:List (List Int)) (x:Int) (K:AV→List (Nat × List AV)→Prop):(∀ r m2,cNoneM.post [wsl R,iv x] [] r m2→K r m2) = ∀ c:Nat,K (.xs 900 0 (noneL R.length x).length (c + (noneL R.length x).length) 1) [(900,cWs (noneL R.length x)++jN c)]:=(mkM_post noneM_inj (R,x) rfl K).trans (outV_eq _ _)
attribute [go_sem] noneM_pre noneM_post
def cNetNoneM:ConM:=mkM (fun _=>True) (fun i:List (List Int) × Int=>([wsl i.1,iv i.2],[])) (fun i=>bigM i.1) fun i=>outV (if relsOk i.1 && hIb i.1.length i.2 then noneL i.1.length i.2 else [])
theorem netNoneM_pre (R:List (List Int)) (x:Int):cNetNoneM.pre [wsl R,iv x] []=bigM R:=mkM_pre noneM_inj (R,x) rfl
theorem netNoneM_post (R:List (List Int)) (x:Int) {T:List (List Int)} (hT:(if relsOk R && hIb R.length x then noneL R.length x else [])=T) (K:AV→List (Nat × List AV)→Prop):(∀ r m2,cNetNoneM.post [wsl R,iv x] [] r m2→K r m2) = ∀ c:Nat,K (.xs 900 0 T.length (c + T.length) 1) [(900,cWs T++jN c)]:=by
 subst hT;exact (mkM_post noneM_inj (R,x) rfl K).trans (outV_eq _ _)
attribute [go_sem] netNoneM_pre
structure StI where
 R:List (List Int)
 x:Int
 W:List (List Int)
 h:Int
def cStepM:ConM:=mkM (fun _=>True) (fun i:StI=>([wsl i.R,iv i.x,wsl i.W,iv i.h],[])) (fun i=>sqR i.R∧inW i.R.length i.W) fun i=>outV (stepC i.R.length (ofR i.R) i.x i.W i.h)
theorem stepM_inj (i j:StI) (h:(([wsl i.R,iv i.x,wsl i.W,iv i.h],[]):List AV × List (Nat × List AV))=([wsl j.R,iv j.x,wsl j.W,iv j.h],[])):i=j:=by
 obtain ⟨h1,_⟩:=Prod.mk.inj h
 obtain ⟨h1,h2⟩:=List.cons.inj h1
 obtain ⟨h2,h3⟩:=List.cons.inj h2
 obtain ⟨h3,h4⟩:=List.cons.inj h3
 obtain ⟨h4,_⟩:=List.cons.inj h4
 obtain ⟨R,x,W,h⟩:=i
 obtain ⟨R',x',W',h'⟩:=j
 obtain rfl:R=R':=wsl_inj (congrArg (fun z=>[z]) h1)
 obtain rfl:W=W':=wsl_inj (congrArg (fun z=>[z]) h3)
 simp only [AV.v.injEq,Value.int.injEq,true_and] at h2 h4
 rw [h2,h4]
theorem stepM_pre (R:List (List Int)) (x:Int) (W:List (List Int)) (h:Int):cStepM.pre [wsl R,iv x,wsl W,iv h] []=(sqR R∧inW R.length W):=mkM_pre stepM_inj ⟨R,x,W,h⟩ rfl
theorem stepM_post (R:List (List Int)) (x:Int) (W:List (List Int)) (h:Int) {T:List (List Int)} (hT:stepC R.length (ofR R) x W h=T) (K:AV→List (Nat × List AV)→Prop):(∀ r m2,cStepM.post [wsl R,iv x,wsl W,iv h] [] r m2→K r m2) = ∀ c:Nat,K (.xs 900 0 T.length (c + T.length) 1) [(900,cWs T++jN c)]:=by
 subst hT;exact (mkM_post stepM_inj ⟨R,x,W,h⟩ rfl K).trans (outV_eq _ _)
attribute [go_sem] stepM_pre
theorem sNoneM_ok:FineM Tryd.prog 94 cNoneM:=by
 refine fineM_of [] ms_nil [] mm_nil [7,21,25] [] ex_nil (T:=TT) Tryd.func94 rfl Tryd.ntmps94 (by rw [Tryd.results94]) rfl rfl tt gs_nil ds_nil ?_
 rintro args m1 ⟨⟨R,home⟩,e,hR,hh1,hh2⟩
 obtain ⟨rfl,rfl⟩:=Prod.mk.inj e.symm
 simp only at hR hh1 hh2
 refine ⟨by simp,fun E hE Q hQ=>?_⟩
 have hnl:(noneL R.length home).length=R.length:=noneL_len
 refine Aw_st hE [0,1] [7,21,25,750] fun K hK=>?_
 simp only [go_sem,seval]
 refine hK _ ?_;clear hK K
 refine Aw_st hE [0,1,5] [7,21,25,750] fun K hK=>?_
 simp only [go_sem,seval]
 refine hK _ ?_;clear hK K
 refine Aw_sq fun B1 hB1 hR1 hX1=>?_
 refine Aw_st hE [0,1,5,6] [7,21,25,750] fun K hK=>?_
 simp only [go_sem,seval]
 refine hK _ ?_;clear hK K
 refine Aw_bk fun B2 hN2 hE2 hR2 hX2=>?_
 refine Aw_lp (fun i:Nat × Nat=>⟨27,[(0,wsl R),(1,iv home),(5,.xs 750 0 ((noneL R.length home).take i.1).length (i.2 + ((noneL R.length home).take i.1).length) 1),(6,iv ((i.1:Int) + 1))],[(750,cWs ((noneL R.length home).take i.1)++jN i.2)],0⟩) (fun i=>i.1≤R.length) (fun i=>R.length - i.1) (0,0) ((Le_swb _ 7 750 (by decide) (by decide)).trans (by
  simp only [St.swb,swbσ,swbm,AV.swb,AV.swbAll,swp,Nat.reduceEqDiff,if_true,if_false,reduceIte]
  exact Le_wc (by simp only [go_sem,seval,List.take_zero,List.length_nil,List.append_nil]) (by simp only [go_sem,seval,List.take_zero,List.append_nil]))) (by simp) fun i hi B3 hN3 hR3 hX3=>?_
 obtain ⟨i,c⟩:=i
 simp only at hi
 have hol:((noneL R.length home).take i).length=i:=by rw [List.length_take];omega
 refine Aw_sq fun B4 hB4 hR4 hX4=>?_
 refine Aw_st hE [0,1,5,6,11] [7,21,25,750] fun K hK=>?_
 simp only [go_sem,seval]
 refine hK _ (Aw_cond rfl (fun hc5=>?_) (fun hc5=>?_))
 ·simp only [dte] at hc5
  have hg:=noneL_get (n:=R.length) (home:=home) (i:=i) ⟨hh1,hh2⟩ (by omega)
  have hst:=take_one (noneL R.length home) i [] (by omega)
  have hls:((noneL R.length home).take (i + 1)).length=((noneL R.length home).take i).length + 1:=by rw [List.length_take,List.length_take];omega
  refine Aw_skip (hB4 _ ?_)
  refine Aw_sq fun B6 hB6 hR6 hX6=>?_
  refine Aw_bk fun B7 hN7 hE7 hR7 hX7=>?_
  refine Aw_st hE [0,1,5,6,16] [7,21,25,750] fun K hK=>?_
  simp only [go_sem,seval]
  refine hK _ (Aw_cond rfl (fun hc8=>?_) (fun hc8=>?_))
  ·simp only [dte] at hc8
   rw [hg,if_pos hc8] at hst
   refine Aw_tx hE [0,1,5,6] [7,21,25,750] fun K hK=>?_
   simp only [go_sem,seval,none_row]
   repeat refine sd0 ?_
   refine ⟨fun hroom=>?_,fun hfull cap' hcap'=>?_⟩
   ·obtain ⟨e',rfl⟩:∃ e',c=e' + 1:=⟨c - 1,by omega⟩
    rw [wrow_put,← hst]
    refine hK _ (hN7 _ (hB6 _ ?_))
    refine Aw_tx hE [0,1,5,6] [7,21,25,750] fun K hK=>?_
    simp only [go_sem,seval]
    repeat refine sd0 ?_
    refine hK _ (hN3 (i + 1,e') _ (by simp only;omega) (by simp only;omega) ?_)
    simp only [hls]
    rw [show e' + 1 + (List.take i (noneL R.length home)).length=e' + ((List.take i (noneL R.length home)).length + 1) by omega]
    exact Le_wb (by simp only [go_sem,seval,Int.natCast_add,Int.natCast_one])
   ·obtain ⟨e',rfl⟩:∃ e',cap'=e' + ((List.take i (noneL R.length home)).length + 1):=⟨cap' - ((List.take i (noneL R.length home)).length + 1),by omega⟩
    rw [Nat.add_sub_cancel,List.append_assoc,List.singleton_append,wrow_snoc,← hst]
    refine hK _ (hN7 _ (hB6 _ ?_))
    refine Aw_tx hE [0,1,5,6] [7,21,25,750] fun K hK=>?_
    simp only [go_sem,seval]
    repeat refine sd0 ?_
    refine hK _ (hN3 (i + 1,e') _ (by simp only;omega) (by simp only;omega) ?_)
    simp only [hls]
    refine (Le_swb _ 21 750 (by decide) (by decide)).trans ?_
    simp only [St.swb,swbσ,swbm,AV.swb,AV.swbAll,swp,jN_swb,wrow_swb,Nat.reduceEqDiff,if_true,if_false,reduceIte]
    exact Le_wb (by simp only [go_sem,seval,Int.natCast_add,Int.natCast_one])
  ·simp only [dfn] at hc8
   rw [hg,if_neg hc8] at hst
   refine Aw_tx hE [0,1,5,6] [7,21,25,750] fun K hK=>?_
   simp only [go_sem,seval,sl_nl]
   repeat refine sd0 ?_
   refine ⟨fun hroom=>?_,fun hfull cap' hcap'=>?_⟩
   ·obtain ⟨e',rfl⟩:∃ e',c=e' + 1:=⟨c - 1,by omega⟩
    rw [wrow_put,← hst]
    refine hK _ (hN7 _ (hB6 _ ?_))
    refine Aw_tx hE [0,1,5,6] [7,21,25,750] fun K hK=>?_
    simp only [go_sem,seval]
    repeat refine sd0 ?_
    refine hK _ (hN3 (i + 1,e') _ (by simp only;omega) (by simp only;omega) ?_)
    simp only [hls]
    rw [show e' + 1 + (List.take i (noneL R.length home)).length=e' + ((List.take i (noneL R.length home)).length + 1) by omega]
    exact Le_wb (by simp only [go_sem,seval,Int.natCast_add,Int.natCast_one])
   ·obtain ⟨e',rfl⟩:∃ e',cap'=e' + ((List.take i (noneL R.length home)).length + 1):=⟨cap' - ((List.take i (noneL R.length home)).length + 1),by omega⟩
    rw [Nat.add_sub_cancel,List.append_assoc,List.singleton_append,isl_z,wrow_snoc,← hst]
    refine hK _ (hN7 _ (hB6 _ ?_))
    refine Aw_tx hE [0,1,5,6] [7,21,25,750] fun K hK=>?_
    simp only [go_sem,seval]
    repeat refine sd0 ?_
    refine hK _ (hN3 (i + 1,e') _ (by simp only;omega) (by simp only;omega) ?_)
    simp only [hls]
    refine (Le_swb _ 25 750 (by decide) (by decide)).trans ?_
    simp only [St.swb,swbσ,swbm,AV.swb,AV.swbAll,swp,jN_swb,wrow_swb,Nat.reduceEqDiff,if_true,if_false,reduceIte]
    exact Le_wb (by simp only [go_sem,seval,Int.natCast_add,Int.natCast_one])
 ·simp only [dfn] at hc5
  have hn:i=R.length:=by omega
  have htk:(noneL R.length home).take i=noneL R.length home:=List.take_of_length_le (by omega)
  refine Aw_exit (hX4 _ _ (hX3 _ _ (hE2 _ (hB1 _ ?_))))
  refine Aw_st hE [4] [7,21,25,750] fun K hK=>?_
  simp only [go_sem,seval,htk]
  refine hK _ ?_
  refine Aw.leE (LeE_of (Le_swb _ 750 900 (by decide) (by decide))) ?_
  simp only [St.swb,swbσ,swbm,AV.swb,AV.swbAll,swp,jN_swb,wrow_swb,Nat.reduceEqDiff,if_true,if_false,reduceIte]
  refine Aw_ret (hQ _ ?_)
  simp only [go_sem,seval]
  exact ⟨(R,home),rfl,c,by simp only [noneL_len],by simp only [noneL_len]⟩
theorem sNetNoneM_ok:FineM Tryd.prog 69 cNetNoneM:=by
 refine fineM_of [] ms_nil [(94,(cNoneM,[],[(900,200)]))] (mm_cons sNoneM_ok (by decide) mm_nil) [15] [] ex_nil (T:=TT) Tryd.func69 rfl Tryd.ntmps69 (by rw [Tryd.results69]) rfl rfl tt gs_nil (ds_cons sRelsOk_ok (ds_cons in_ok ds_nil)) ?_
 rintro args m1 ⟨⟨R,home⟩,e,hc⟩
 obtain ⟨rfl,rfl⟩:=Prod.mk.inj e.symm
 simp only at hc
 refine ⟨by simp,fun E hE Q hQ=>?_⟩
 have no:(relsOk R && hIb R.length home)=false→outV (if relsOk R && hIb R.length home then noneL R.length home else []) (.xs 900 0 0 0 1) [(900,[])]:=fun e=>by
  rw [e];exact ⟨0,rfl,rfl⟩
 refine Aw_st hE [0,1] [15,218] fun K hK=>?_
 simp only [go_sem,seval]
 refine hK _ ?_;clear hK K
 refine Aw_sq fun B1 hB1 hR1 hX1=>?_
 refine Aw_st hE [0,1,14] [15,218] fun K hK=>?_
 simp only [go_sem,seval,hc]
 refine ⟨fun hg3=>?_,fun hg3=>?_⟩
 ·simp only [Bool.not_eq_true'] at hg3
  refine hK _ (Aw_yes rfl ?_)
  refine Aw_st hE [4] [15,218] fun K hK=>?_
  simp only [go_sem,seval]
  refine hK _ ?_
  refine Aw.leE (LeE_of (Le_swb _ 15 900 (by decide) (by decide))) ?_
  simp only [St.swb,swbσ,swbm,AV.swb,AV.swbAll,swp,Nat.reduceEqDiff,if_true,if_false,reduceIte]
  refine Aw_ret (hR1 _ (hQ _ ?_))
  simp only [go_sem,seval]
  exact ⟨(R,home),rfl,no (by rw [hg3];rfl)⟩
 repeat refine sd0 ?_
 simp only [Bool.not_eq_false'] at hg3
 refine hK _ (Aw_cond rfl (fun hc4=>?_) (fun hc4=>?_))
 ·simp only [Bool.not_eq_true'] at hc4
  have hb:hIb R.length home=false:=hc4
  refine Aw_st hE [4] [15,218] fun K hK=>?_
  simp only [go_sem,seval]
  refine hK _ ?_
  refine Aw.leE (LeE_of (Le_swb _ 15 900 (by decide) (by decide))) ?_
  simp only [St.swb,swbσ,swbm,AV.swb,AV.swbAll,swp,Nat.reduceEqDiff,if_true,if_false,reduceIte]
  refine Aw_ret (hR1 _ (hQ _ ?_))
  simp only [go_sem,seval]
  exact ⟨(R,home),rfl,no (by rw [hb,Bool.and_false])⟩
 ·simp only [Bool.not_eq_false'] at hc4
  have hb:hIb R.length home=true:=hc4
  obtain ⟨h1,h2⟩:=hIb_iff.1 hb
  have h5:=(relsOk_iff.1 hg3).1.2
  have h6:R.length≤1000:=by omega
  refine Aw_skip (hB1 _ ?_)
  refine Aw_st hE [4] [15,218] fun K hK=>?_
  simp only [go_sem,seval,h1,h2,h6]
  repeat refine sd0 ?_
  intro c
  refine hK _ ?_
  refine Aw.leE (LeE_of (Le_swb _ 218 900 (by decide) (by decide))) ?_
  simp only [St.swb,swbσ,swbm,AV.swb,AV.swbAll,swp,jN_swb,wrow_swb,Nat.reduceEqDiff,if_true,if_false,reduceIte]
  refine Aw_ret (hQ _ ?_)
  simp only [go_sem,seval]
  refine ⟨(R,home),rfl,c,?_,?_⟩
  ·simp only [hg3,hb,Bool.and_self,reduceIte,noneL_len]
  ·simp only [hg3,hb,Bool.and_self,reduceIte,noneL_len,jN_mvnW,wrow_swb,wrow_nt]
theorem sStepM_ok:FineM Tryd.prog 56 cStepM:=by
 refine fineM_of [] ms_nil [] mm_nil [11,29,38] [] ex_nil (T:=TT) Tryd.func56 rfl Tryd.ntmps56 (by rw [Tryd.results56]) rfl rfl tt gs_nil (ds_cons sPick_ok ds_nil) ?_
 rintro args m1 ⟨⟨R,home,W,a⟩,e,hsq,hwl,hwx⟩
 obtain ⟨rfl,rfl⟩:=Prod.mk.inj e.symm
 simp only at hsq hwl hwx
 refine ⟨by simp,fun E hE Q hQ=>?_⟩
 have hR:=hsq.1
 have hnl:(stepC R.length (ofR R) home W a).length=R.length:=by rw [stepC_len,hwl]
 refine Aw_st hE [0,1,2,3] [11,29,38,750] fun K hK=>?_
 simp only [go_sem,seval]
 refine hK _ ?_;clear hK K
 refine Aw_st hE [0,1,2,3,9] [11,29,38,750] fun K hK=>?_
 simp only [go_sem,seval]
 refine hK _ ?_;clear hK K
 refine Aw_sq fun B1 hB1 hR1 hX1=>?_
 refine Aw_st hE [0,1,2,3,9,10] [11,29,38,750] fun K hK=>?_
 simp only [go_sem,seval]
 refine hK _ ?_;clear hK K
 refine Aw_bk fun B2 hN2 hE2 hR2 hX2=>?_
 refine Aw_lp (fun i:Nat × Nat=>⟨40,[(0,wsl R),(1,iv home),(2,wsl W),(3,iv a),(9,.xs 750 0 ((stepC R.length (ofR R) home W a).take i.1).length (i.2 + ((stepC R.length (ofR R) home W a).take i.1).length) 1),(10,iv (i.1:Int))],[(750,cWs ((stepC R.length (ofR R) home W a).take i.1)++jN i.2)],0⟩) (fun i=>i.1≤R.length) (fun i=>R.length - i.1) (0,0) ((Le_swb _ 11 750 (by decide) (by decide)).trans (by
  simp only [St.swb,swbσ,swbm,AV.swb,AV.swbAll,swp,Nat.reduceEqDiff,if_true,if_false,reduceIte]
  exact Le_wc (by simp only [go_sem,seval,List.take_zero,List.length_nil,List.append_nil]) (by simp only [go_sem,seval,List.take_zero,List.append_nil]))) (by simp) fun i hi B3 hN3 hR3 hX3=>?_
 obtain ⟨i,c⟩:=i
 simp only at hi
 have hol:((stepC R.length (ofR R) home W a).take i).length=i:=by rw [List.length_take];omega
 refine Aw_sq fun B4 hB4 hR4 hX4=>?_
 refine Aw_st hE [0,1,2,3,9,10,15] [11,29,38,750] fun K hK=>?_
 simp only [go_sem,seval]
 refine hK _ (Aw_cond rfl (fun hc5=>?_) (fun hc5=>?_))
 ·simp only [dte] at hc5
  have hil:i < R.length:=by omega
  have hg:=stepC_get (n:=R.length) (of:=ofR R) (home:=home) (h:=a) hwl hil
  have hst:=take_one (stepC R.length (ofR R) home W a) i [] (by omega)
  have hls:((stepC R.length (ofR R) home W a).take (i + 1)).length=((stepC R.length (ofR R) home W a).take i).length + 1:=by rw [List.length_take,List.length_take];omega
  have hgw:=wrows_get W i (by omega)
  have hwi:=(hwx _ (getD_memL W i (by omega))).1
  refine Aw_skip (hB4 _ ?_)
  refine Aw_sq fun B6 hB6 hR6 hX6=>?_
  refine Aw_bk fun B7 hN7 hE7 hR7 hX7=>?_
  refine Aw_st hE [0,1,2,3,9,10,21] [11,29,38,750] fun K hK=>?_
  simp only [go_sem,seval]
  repeat refine sd0 ?_
  refine hK _ (Aw_cond rfl (fun hc8=>?_) (fun hc8=>?_))
  ·simp only [dte] at hc8
   rw [hg,if_pos hc8] at hst
   have hin:inW R.length W:=⟨hwl,hwx⟩
   have ha1:1≤a:=by omega
   have ha2:a≤R.length:=by omega
   refine Aw_tx hE [0,1,2,3,9,10] [11,29,38,750] fun K hK=>?_
   simp only [go_sem,seval,hsq,hin,ha1,ha2]
   repeat refine sd0 ?_
   refine ⟨fun hroom=>?_,fun hfull cap' hcap'=>?_⟩
   ·obtain ⟨e',rfl⟩:∃ e',c=e' + 1:=⟨c - 1,by omega⟩
    rw [wrow_put,← hst]
    refine hK _ (hN7 _ (hB6 _ ?_))
    refine Aw_tx hE [0,1,2,3,9,10] [11,29,38,750] fun K hK=>?_
    simp only [go_sem,seval]
    repeat refine sd0 ?_
    refine hK _ (hN3 (i + 1,e') _ (by simp only;omega) (by simp only;omega) ?_)
    simp only [hls]
    rw [show e' + 1 + (List.take i (stepC R.length (ofR R) home W a)).length=e' + ((List.take i (stepC R.length (ofR R) home W a)).length + 1) by omega]
    exact Le_wb (by simp only [go_sem,seval,Int.natCast_add,Int.natCast_one])
   ·obtain ⟨e',rfl⟩:∃ e',cap'=e' + ((List.take i (stepC R.length (ofR R) home W a)).length + 1):=⟨cap' - ((List.take i (stepC R.length (ofR R) home W a)).length + 1),by omega⟩
    rw [Nat.add_sub_cancel,List.append_assoc,List.singleton_append,wrow_snoc,← hst]
    refine hK _ (hN7 _ (hB6 _ ?_))
    refine Aw_tx hE [0,1,2,3,9,10] [11,29,38,750] fun K hK=>?_
    simp only [go_sem,seval]
    repeat refine sd0 ?_
    refine hK _ (hN3 (i + 1,e') _ (by simp only;omega) (by simp only;omega) ?_)
    simp only [hls]
    refine (Le_swb _ 29 750 (by decide) (by decide)).trans ?_
    simp only [St.swb,swbσ,swbm,AV.swb,AV.swbAll,swp,jN_swb,wrow_swb,Nat.reduceEqDiff,if_true,if_false,reduceIte]
    exact Le_wb (by simp only [go_sem,seval,Int.natCast_add,Int.natCast_one])
  ·simp only [dfn] at hc8
   rw [hg,if_neg hc8] at hst
   refine Aw_tx hE [0,1,2,3,9,10] [11,29,38,750] fun K hK=>?_
   simp only [go_sem,seval,hgw]
   repeat refine sd0 ?_
   refine ⟨fun hroom=>?_,fun hfull cap' hcap'=>?_⟩
   ·obtain ⟨e',rfl⟩:∃ e',c=e' + 1:=⟨c - 1,by omega⟩
    rw [wrow_put,← hst]
    refine hK _ (hN7 _ (hB6 _ ?_))
    refine Aw_tx hE [0,1,2,3,9,10] [11,29,38,750] fun K hK=>?_
    simp only [go_sem,seval]
    repeat refine sd0 ?_
    refine hK _ (hN3 (i + 1,e') _ (by simp only;omega) (by simp only;omega) ?_)
    simp only [hls]
    rw [show e' + 1 + (List.take i (stepC R.length (ofR R) home W a)).length=e' + ((List.take i (stepC R.length (ofR R) home W a)).length + 1) by omega]
    exact Le_wb (by simp only [go_sem,seval,Int.natCast_add,Int.natCast_one])
   ·obtain ⟨e',rfl⟩:∃ e',cap'=e' + ((List.take i (stepC R.length (ofR R) home W a)).length + 1):=⟨cap' - ((List.take i (stepC R.length (ofR R) home W a)).length + 1),by omega⟩
    rw [Nat.add_sub_cancel,List.append_assoc,List.singleton_append,wrow_snoc,← hst]
    refine hK _ (hN7 _ (hB6 _ ?_))
    refine Aw_tx hE [0,1,2,3,9,10] [11,29,38,750] fun K hK=>?_
    simp only [go_sem,seval]
    repeat refine sd0 ?_
    refine hK _ (hN3 (i + 1,e') _ (by simp only;omega) (by simp only;omega) ?_)
    simp only [hls]
    refine (Le_swb _ 38 750 (by decide) (by decide)).trans ?_
    simp only [St.swb,swbσ,swbm,AV.swb,AV.swbAll,swp,jN_swb,wrow_swb,Nat.reduceEqDiff,if_true,if_false,reduceIte]
    exact Le_wb (by simp only [go_sem,seval,Int.natCast_add,Int.natCast_one])
 ·simp only [dfn] at hc5
  have hn:i=R.length:=by omega
  have htk:(stepC R.length (ofR R) home W a).take i=stepC R.length (ofR R) home W a:=List.take_of_length_le (by omega)
  refine Aw_exit (hX4 _ _ (hX3 _ _ (hE2 _ (hB1 _ ?_))))
  refine Aw_st hE [8] [11,29,38,750] fun K hK=>?_
  simp only [go_sem,seval,htk]
  refine hK _ ?_
  refine Aw.leE (LeE_of (Le_swb _ 750 900 (by decide) (by decide))) ?_
  simp only [St.swb,swbσ,swbm,AV.swb,AV.swbAll,swp,jN_swb,wrow_swb,Nat.reduceEqDiff,if_true,if_false,reduceIte]
  refine Aw_ret (hQ _ ?_)
  simp only [go_sem,seval]
  exact ⟨⟨R,home,W,a⟩,rfl,c,rfl,rfl⟩
theorem relsT2 {E:En} (hE:TbOk E tbRels) {k:Nat} (hk:k + 40≤1099511627776) {Q:Exit→St→Prop} (hQ:∀ (L:List (List Int)) (rn:Nat),(2≤L.length∧L.length≤5)→(∀ w ∈ L,w.length=L.length)→rn≤k + 40→Aw E .ret ⟨111,[(2,wsl L)],[],rn⟩ Q) {r:Nat→List Int} (hr:∀ q,(r q).length=2) {d:Nat→Nat} {c rn:Nat} (hrn:rn≤k + 30):Aw E (seqB (seqB (seqB (seqB (seqB (seqB (seqB (Tryd.f68.body.getD .skip)))))))) ⟨111,[(0,.rd),(4,.xs 700 0 2 (c + 2) 1)],(700,vws 2 d 710 2++jN c)::bxs 2 d r 710 2,rn⟩ Q:=by
 have hr0:=hr 0
 have hr1:=hr 1
 have fin:∀ (q:Nat→List Int) (rn:Nat),(∀ x,(q x).length=2)→rn≤k + 40→Aw E (seqB (seqB (seqB (seqB (seqB (seqB (seqB (seqB (Tryd.f68.body.getD .skip))))))))) ⟨111,[(4,.xs 700 0 2 (c + 2) 1)],(700,vws 2 d 710 2++jN c)::bxs 2 d q 710 2,rn⟩ Q:=by
  intro q rn hq hrn
  refine Aw_st hE [2] [700,701,710,711,712,713,714,720,721,722,723,724] fun K hK=>?_
  simp only [go_sem,seval]
  refine hK _ ?_
  refine Aw_frz hE rfl 710 2 (ls:=cI (q 0)++jN (d 0)) (ys:=iD (q 0)) rfl (ofAll_iD (hq 0)) ?_
  simp only [go_sem,seval,↓frz_xs (d:=710) (cap:=d 0 + 2) (hq 0)]
  refine Aw_frz hE rfl 711 2 (ls:=cI (q 1)++jN (d 1)) (ys:=iD (q 1)) rfl (ofAll_iD (hq 1)) ?_
  simp only [go_sem,seval,↓frz_xs (d:=711) (cap:=d 1 + 2) (hq 1)]
  refine Aw_frz hE rfl 700 2 (ls:=cWs [q 0,q 1]++jN c) (ys:=wD [q 0,q 1]) rfl (by rw [List.take_left' (by rfl)];exact ofAll_cWs _) ?_
  simp only [go_sem,seval,↓frz_xsW (d:=700) (n:=2) (cap:=c + 2) (L:=[q 0,q 1]) rfl]
  refine Aw.leE (LeE_of (show Le _ ⟨111,[(2,wsl [q 0,q 1])],[],_⟩ from Le_wa)) (hQ [q 0,q 1] rn ⟨by simp,by simp⟩ (fun w hw=>by simp only [List.mem_cons,List.not_mem_nil,or_false] at hw;rcases hw with rfl | rfl<;>exact hq _) hrn)
 refine Aw_sqJ (fun i:(Nat→List Int) × Nat=>⟨111,[(4,.xs 700 0 2 (c + 2) 1)],(700,vws 2 d 710 2++jN c)::bxs 2 d i.1 710 2,i.2⟩) (fun i=>(∀ x,(i.1 x).length=2)∧i.2≤k + 40) (fun i hi=>fin i.1 i.2 hi.1 hi.2) fun B1 hB1 hR1 hX1=>?_
 refine Aw_st hE [0,4,103] [700,701,710,711,712,713,714,720,721,722,723,724] fun K hK=>?_
 simp only [go_sem,seval]
 refine ⟨by omega,fun x hx1 hx2=>?_⟩
 refine hK _ (Aw_cond rfl (fun hc=>?_) (fun hc=>?_))
 ·have hset:=fun y=>cI_set (r 0) (d 0) 1 y (by omega)
  refine Aw_td hE [4] [700,701,710,711,712,713,714,720,721,722,723,724] 6 (by kernel_rfl) fun K hK=>?_
  simp only [go_sem,seval,hset]
  refine ⟨by omega,fun y hy1 hy2=>⟨by omega,?_⟩⟩
  exact hK _ (hB1 (upd r 0 1 y,rn + 2) _ ⟨upd_len hr,by omega⟩ (LeE_of (Le_wc (by simp only [go_sem,seval]) (by simp only [go_sem,seval,upd]))))
 ·exact Aw_skip (hB1 (r,rn + 1) _ ⟨hr,by omega⟩ (LeE_of (Le_wa)))
set_option maxHeartbeats 8000000 in
theorem relsT3 {E:En} (hE:TbOk E tbRels) {k:Nat} (hk:k + 40≤1099511627776) {Q:Exit→St→Prop} (hQ:∀ (L:List (List Int)) (rn:Nat),(2≤L.length∧L.length≤5)→(∀ w ∈ L,w.length=L.length)→rn≤k + 40→Aw E .ret ⟨111,[(2,wsl L)],[],rn⟩ Q) {r:Nat→List Int} (hr:∀ q,(r q).length=3) {d:Nat→Nat} {c rn:Nat} (hrn:rn≤k + 30):Aw E (seqB (seqB (seqB (seqB (seqB (seqB (seqB (Tryd.f68.body.getD .skip)))))))) ⟨111,[(0,.rd),(4,.xs 700 0 3 (c + 3) 1)],(700,vws 3 d 710 3++jN c)::bxs 3 d r 710 3,rn⟩ Q:=by
 have hr0:=hr 0
 have hr1:=hr 1
 have hr2:=hr 2
 have fin:∀ (q:Nat→List Int) (rn:Nat),(∀ x,(q x).length=3)→rn≤k + 40→Aw E (seqB (seqB (seqB (seqB (seqB (seqB (seqB (seqB (Tryd.f68.body.getD .skip))))))))) ⟨111,[(4,.xs 700 0 3 (c + 3) 1)],(700,vws 3 d 710 3++jN c)::bxs 3 d q 710 3,rn⟩ Q:=by
  intro q rn hq hrn
  refine Aw_st hE [2] [700,701,710,711,712,713,714,720,721,722,723,724] fun K hK=>?_
  simp only [go_sem,seval]
  refine hK _ ?_
  refine Aw_frz hE rfl 710 3 (ls:=cI (q 0)++jN (d 0)) (ys:=iD (q 0)) rfl (ofAll_iD (hq 0)) ?_
  simp only [go_sem,seval,↓frz_xs (d:=710) (cap:=d 0 + 3) (hq 0)]
  refine Aw_frz hE rfl 711 3 (ls:=cI (q 1)++jN (d 1)) (ys:=iD (q 1)) rfl (ofAll_iD (hq 1)) ?_
  simp only [go_sem,seval,↓frz_xs (d:=711) (cap:=d 1 + 3) (hq 1)]
  refine Aw_frz hE rfl 712 3 (ls:=cI (q 2)++jN (d 2)) (ys:=iD (q 2)) rfl (ofAll_iD (hq 2)) ?_
  simp only [go_sem,seval,↓frz_xs (d:=712) (cap:=d 2 + 3) (hq 2)]
  refine Aw_frz hE rfl 700 3 (ls:=cWs [q 0,q 1,q 2]++jN c) (ys:=wD [q 0,q 1,q 2]) rfl (by rw [List.take_left' (by rfl)];exact ofAll_cWs _) ?_
  simp only [go_sem,seval,↓frz_xsW (d:=700) (n:=3) (cap:=c + 3) (L:=[q 0,q 1,q 2]) rfl]
  refine Aw.leE (LeE_of (show Le _ ⟨111,[(2,wsl [q 0,q 1,q 2])],[],_⟩ from Le_wa)) (hQ [q 0,q 1,q 2] rn ⟨by simp,by simp⟩ (fun w hw=>by simp only [List.mem_cons,List.not_mem_nil,or_false] at hw;rcases hw with rfl | rfl | rfl<;>exact hq _) hrn)
 refine Aw_sqJ (fun i:(Nat→List Int) × Nat=>⟨111,[(4,.xs 700 0 3 (c + 3) 1)],(700,vws 3 d 710 3++jN c)::bxs 3 d i.1 710 3,i.2⟩) (fun i=>(∀ x,(i.1 x).length=3)∧i.2≤k + 40) (fun i hi=>fin i.1 i.2 hi.1 hi.2) fun B1 hB1 hR1 hX1=>?_
 refine Aw_st hE [0,4,103] [700,701,710,711,712,713,714,720,721,722,723,724] fun K hK=>?_
 simp only [go_sem,seval]
 refine ⟨by omega,fun x hx1 hx2=>?_⟩
 refine hK _ (Aw_cond rfl (fun hc=>?_) (fun hc=>?_))
 ·have hset:=fun y=>cI_set (r 0) (d 0) 1 y (by omega)
  refine Aw_td hE [4] [700,701,710,711,712,713,714,720,721,722,723,724] 6 (by kernel_rfl) fun K hK=>?_
  simp only [go_sem,seval,hset]
  refine ⟨by omega,fun y hy1 hy2=>⟨by omega,?_⟩⟩
  exact hK _ (hB1 (upd r 0 1 y,rn + 2) _ ⟨upd_len hr,by omega⟩ (LeE_of (Le_wc (by simp only [go_sem,seval]) (by simp only [go_sem,seval,upd]))))
 ·exact Aw_skip (hB1 (r,rn + 1) _ ⟨hr,by omega⟩ (LeE_of (Le_wa)))
set_option maxHeartbeats 8000000 in
theorem relsT4 {E:En} (hE:TbOk E tbRels) {k:Nat} (hk:k + 40≤1099511627776) {Q:Exit→St→Prop} (hQ:∀ (L:List (List Int)) (rn:Nat),(2≤L.length∧L.length≤5)→(∀ w ∈ L,w.length=L.length)→rn≤k + 40→Aw E .ret ⟨111,[(2,wsl L)],[],rn⟩ Q) {r:Nat→List Int} (hr:∀ q,(r q).length=4) {d:Nat→Nat} {c rn:Nat} (hrn:rn≤k + 30):Aw E (seqB (seqB (seqB (seqB (seqB (seqB (seqB (Tryd.f68.body.getD .skip)))))))) ⟨111,[(0,.rd),(4,.xs 700 0 4 (c + 4) 1)],(700,vws 4 d 710 4++jN c)::bxs 4 d r 710 4,rn⟩ Q:=by
 have hr0:=hr 0
 have hr1:=hr 1
 have hr2:=hr 2
 have hr3:=hr 3
 have fin:∀ (q:Nat→List Int) (rn:Nat),(∀ x,(q x).length=4)→rn≤k + 40→Aw E (seqB (seqB (seqB (seqB (seqB (seqB (seqB (seqB (Tryd.f68.body.getD .skip))))))))) ⟨111,[(4,.xs 700 0 4 (c + 4) 1)],(700,vws 4 d 710 4++jN c)::bxs 4 d q 710 4,rn⟩ Q:=by
  intro q rn hq hrn
  refine Aw_st hE [2] [700,701,710,711,712,713,714,720,721,722,723,724] fun K hK=>?_
  simp only [go_sem,seval]
  refine hK _ ?_
  refine Aw_frz hE rfl 710 4 (ls:=cI (q 0)++jN (d 0)) (ys:=iD (q 0)) rfl (ofAll_iD (hq 0)) ?_
  simp only [go_sem,seval,↓frz_xs (d:=710) (cap:=d 0 + 4) (hq 0)]
  refine Aw_frz hE rfl 711 4 (ls:=cI (q 1)++jN (d 1)) (ys:=iD (q 1)) rfl (ofAll_iD (hq 1)) ?_
  simp only [go_sem,seval,↓frz_xs (d:=711) (cap:=d 1 + 4) (hq 1)]
  refine Aw_frz hE rfl 712 4 (ls:=cI (q 2)++jN (d 2)) (ys:=iD (q 2)) rfl (ofAll_iD (hq 2)) ?_
  simp only [go_sem,seval,↓frz_xs (d:=712) (cap:=d 2 + 4) (hq 2)]
  refine Aw_frz hE rfl 713 4 (ls:=cI (q 3)++jN (d 3)) (ys:=iD (q 3)) rfl (ofAll_iD (hq 3)) ?_
  simp only [go_sem,seval,↓frz_xs (d:=713) (cap:=d 3 + 4) (hq 3)]
  refine Aw_frz hE rfl 700 4 (ls:=cWs [q 0,q 1,q 2,q 3]++jN c) (ys:=wD [q 0,q 1,q 2,q 3]) rfl (by rw [List.take_left' (by rfl)];exact ofAll_cWs _) ?_
  simp only [go_sem,seval,↓frz_xsW (d:=700) (n:=4) (cap:=c + 4) (L:=[q 0,q 1,q 2,q 3]) rfl]
  refine Aw.leE (LeE_of (show Le _ ⟨111,[(2,wsl [q 0,q 1,q 2,q 3])],[],_⟩ from Le_wa)) (hQ [q 0,q 1,q 2,q 3] rn ⟨by simp,by simp⟩ (fun w hw=>by simp only [List.mem_cons,List.not_mem_nil,or_false] at hw;rcases hw with rfl | rfl | rfl | rfl<;>exact hq _) hrn)
 refine Aw_sqJ (fun i:(Nat→List Int) × Nat=>⟨111,[(4,.xs 700 0 4 (c + 4) 1)],(700,vws 4 d 710 4++jN c)::bxs 4 d i.1 710 4,i.2⟩) (fun i=>(∀ x,(i.1 x).length=4)∧i.2≤k + 40) (fun i hi=>fin i.1 i.2 hi.1 hi.2) fun B1 hB1 hR1 hX1=>?_
 refine Aw_st hE [0,4,103] [700,701,710,711,712,713,714,720,721,722,723,724] fun K hK=>?_
 simp only [go_sem,seval]
 refine ⟨by omega,fun x hx1 hx2=>?_⟩
 refine hK _ (Aw_cond rfl (fun hc=>?_) (fun hc=>?_))
 ·have hset:=fun y=>cI_set (r 0) (d 0) 1 y (by omega)
  refine Aw_td hE [4] [700,701,710,711,712,713,714,720,721,722,723,724] 6 (by kernel_rfl) fun K hK=>?_
  simp only [go_sem,seval,hset]
  refine ⟨by omega,fun y hy1 hy2=>⟨by omega,?_⟩⟩
  exact hK _ (hB1 (upd r 0 1 y,rn + 2) _ ⟨upd_len hr,by omega⟩ (LeE_of (Le_wc (by simp only [go_sem,seval]) (by simp only [go_sem,seval,upd]))))
 ·exact Aw_skip (hB1 (r,rn + 1) _ ⟨hr,by omega⟩ (LeE_of (Le_wa)))
set_option maxHeartbeats 8000000 in
theorem relsT5 {E:En} (hE:TbOk E tbRels) {k:Nat} (hk:k + 40≤1099511627776) {Q:Exit→St→Prop} (hQ:∀ (L:List (List Int)) (rn:Nat),(2≤L.length∧L.length≤5)→(∀ w ∈ L,w.length=L.length)→rn≤k + 40→Aw E .ret ⟨111,[(2,wsl L)],[],rn⟩ Q) {r:Nat→List Int} (hr:∀ q,(r q).length=5) {d:Nat→Nat} {c rn:Nat} (hrn:rn≤k + 30):Aw E (seqB (seqB (seqB (seqB (seqB (seqB (seqB (Tryd.f68.body.getD .skip)))))))) ⟨111,[(0,.rd),(4,.xs 700 0 5 (c + 5) 1)],(700,vws 5 d 710 5++jN c)::bxs 5 d r 710 5,rn⟩ Q:=by
 have hr0:=hr 0
 have hr1:=hr 1
 have hr2:=hr 2
 have hr3:=hr 3
 have hr4:=hr 4
 have fin:∀ (q:Nat→List Int) (rn:Nat),(∀ x,(q x).length=5)→rn≤k + 40→Aw E (seqB (seqB (seqB (seqB (seqB (seqB (seqB (seqB (Tryd.f68.body.getD .skip))))))))) ⟨111,[(4,.xs 700 0 5 (c + 5) 1)],(700,vws 5 d 710 5++jN c)::bxs 5 d q 710 5,rn⟩ Q:=by
  intro q rn hq hrn
  refine Aw_st hE [2] [700,701,710,711,712,713,714,720,721,722,723,724] fun K hK=>?_
  simp only [go_sem,seval]
  refine hK _ ?_
  refine Aw_frz hE rfl 710 5 (ls:=cI (q 0)++jN (d 0)) (ys:=iD (q 0)) rfl (ofAll_iD (hq 0)) ?_
  simp only [go_sem,seval,↓frz_xs (d:=710) (cap:=d 0 + 5) (hq 0)]
  refine Aw_frz hE rfl 711 5 (ls:=cI (q 1)++jN (d 1)) (ys:=iD (q 1)) rfl (ofAll_iD (hq 1)) ?_
  simp only [go_sem,seval,↓frz_xs (d:=711) (cap:=d 1 + 5) (hq 1)]
  refine Aw_frz hE rfl 712 5 (ls:=cI (q 2)++jN (d 2)) (ys:=iD (q 2)) rfl (ofAll_iD (hq 2)) ?_
  simp only [go_sem,seval,↓frz_xs (d:=712) (cap:=d 2 + 5) (hq 2)]
  refine Aw_frz hE rfl 713 5 (ls:=cI (q 3)++jN (d 3)) (ys:=iD (q 3)) rfl (ofAll_iD (hq 3)) ?_
  simp only [go_sem,seval,↓frz_xs (d:=713) (cap:=d 3 + 5) (hq 3)]
  refine Aw_frz hE rfl 714 5 (ls:=cI (q 4)++jN (d 4)) (ys:=iD (q 4)) rfl (ofAll_iD (hq 4)) ?_
  simp only [go_sem,seval,↓frz_xs (d:=714) (cap:=d 4 + 5) (hq 4)]
  refine Aw_frz hE rfl 700 5 (ls:=cWs [q 0,q 1,q 2,q 3,q 4]++jN c) (ys:=wD [q 0,q 1,q 2,q 3,q 4]) rfl (by rw [List.take_left' (by rfl)];exact ofAll_cWs _) ?_
  simp only [go_sem,seval,↓frz_xsW (d:=700) (n:=5) (cap:=c + 5) (L:=[q 0,q 1,q 2,q 3,q 4]) rfl]
  refine Aw.leE (LeE_of (show Le _ ⟨111,[(2,wsl [q 0,q 1,q 2,q 3,q 4])],[],_⟩ from Le_wa)) (hQ [q 0,q 1,q 2,q 3,q 4] rn ⟨by simp,by simp⟩ (fun w hw=>by simp only [List.mem_cons,List.not_mem_nil,or_false] at hw;rcases hw with rfl | rfl | rfl | rfl | rfl<;>exact hq _) hrn)
 refine Aw_sqJ (fun i:(Nat→List Int) × Nat=>⟨111,[(4,.xs 700 0 5 (c + 5) 1)],(700,vws 5 d 710 5++jN c)::bxs 5 d i.1 710 5,i.2⟩) (fun i=>(∀ x,(i.1 x).length=5)∧i.2≤k + 40) (fun i hi=>fin i.1 i.2 hi.1 hi.2) fun B1 hB1 hR1 hX1=>?_
 refine Aw_st hE [0,4,103] [700,701,710,711,712,713,714,720,721,722,723,724] fun K hK=>?_
 simp only [go_sem,seval]
 refine ⟨by omega,fun x hx1 hx2=>?_⟩
 refine hK _ (Aw_cond rfl (fun hc=>?_) (fun hc=>?_))
 ·have hset:=fun y=>cI_set (r 0) (d 0) 1 y (by omega)
  refine Aw_td hE [4] [700,701,710,711,712,713,714,720,721,722,723,724] 6 (by kernel_rfl) fun K hK=>?_
  simp only [go_sem,seval,hset]
  refine ⟨by omega,fun y hy1 hy2=>⟨by omega,?_⟩⟩
  exact hK _ (hB1 (upd r 0 1 y,rn + 2) _ ⟨upd_len hr,by omega⟩ (LeE_of (Le_wc (by simp only [go_sem,seval]) (by simp only [go_sem,seval,upd]))))
 ·exact Aw_skip (hB1 (r,rn + 1) _ ⟨hr,by omega⟩ (LeE_of (Le_wa)))
theorem relsR2 {E:En} (hE:TbOk E tbRels) {k:Nat} (hk:k + 40≤1099511627776) {Q:Exit→St→Prop} (hQ:∀ (L:List (List Int)) (rn:Nat),(2≤L.length∧L.length≤5)→(∀ w ∈ L,w.length=L.length)→rn≤k + 40→Aw E .ret ⟨111,[(2,wsl L)],[],rn⟩ Q) {r:Nat→List Int} (hr:∀ q,(r q).length=2) {d:Nat→Nat} {c rn:Nat} (hrn:rn≤k + 29):Aw E (seqB (seqB (seqB (seqB (seqB (seqB (Tryd.f68.body.getD .skip))))))) ⟨111,[(0,.rd),(3,iv 2),(4,.xs 700 0 2 (c + 2) 1)],(700,vws 2 d 710 2++jN c)::bxs 2 d r 710 2,rn⟩ Q:=by
 have hr0:=hr 0
 have hr1:=hr 1
 refine Aw_sqJ (fun i:(Nat→Nat) × (Nat→List Int) × Nat × Nat=>⟨111,[(0,.rd),(4,.xs 700 0 2 (i.2.2.1 + 2) 1)],(700,vws 2 i.1 710 2++jN i.2.2.1)::bxs 2 i.1 i.2.1 710 2,i.2.2.2⟩) (fun i=>(∀ x,(i.2.1 x).length=2)∧i.2.2.2≤k + 30) (fun i hi=>relsT2 hE hk hQ hi.1 hi.2) fun B1 hB1 hR1 hX1=>?_
 refine Aw_st hE [0,3,4,71] [72,79,95,99,700,701,710,711,712,713,714,720,721,722,723,724,740] fun K hK=>?_
 simp only [go_sem,seval]
 refine ⟨by omega,fun x hx1 hx2=>?_⟩
 refine hK _ (Aw_cond rfl (fun hc=>?_) (fun hc=>?_))
 rotate_left
 ·exact Aw_skip (hB1 (d,r,c,rn + 1) _ ⟨hr,by simp only;omega⟩ (LeE_of (Le_wa)))
 refine Aw_st hE [0,3,4,10] [72,79,95,99,700,701,710,711,712,713,714,720,721,722,723,724,740] fun K hK=>?_
 simp only [go_sem,seval]
 refine hK _ ?_;clear hK K
 refine Aw_sq fun B2 hB2 hR2 hX2=>?_
 refine Aw_st hE [0,3,4,10,11] [72,79,95,99,700,701,710,711,712,713,714,720,721,722,723,724,740] fun K hK=>?_
 simp only [go_sem,seval]
 refine hK _ ?_;clear hK K
 refine Aw_bk fun B3 hN3 hE3 hR3 hX3=>?_
 refine Aw_lp (fun i:Nat × Nat × (Nat→Nat) × (Nat→List Int)=>⟨111,[(0,.rd),(3,iv 2),(4,.xs 700 0 2 (c + 2) 1),(10,.xs 701 0 i.1 (i.2.1 + i.1) 1),(11,iv ((2:Int) - 1 - (i.1:Int)))],(700,vws 2 d 710 2++jN c)::(701,vws 2 i.2.2.1 720 i.1++jN i.2.1)::(bxs 2 d r 710 2++bxs 2 i.2.2.1 i.2.2.2 720 i.1),rn + 1⟩) (fun i=>i.1≤2∧∀ x,(i.2.2.2 x).length=2) (fun i=>2 - i.1) (0,0,d,r) ?_ ⟨by omega,hr⟩ fun i hi B4 hN4 hR4 hX4=>?_
 ·refine (Le_swb _ 72 701 (by decide) (by decide)).trans ?_
  simp only [St.swb,swbσ,swbm,AV.swb,AV.swbAll,swp,jN_swb,row_swb,Nat.reduceEqDiff,if_true,if_false,reduceIte]
  exact Le_wa
 obtain ⟨i,c',d',r'⟩:=i
 obtain ⟨hi,hr'⟩:=hi
 simp only at hi hr'
 refine Aw_sq fun B5 hB5 hR5 hX5=>?_
 rcases (show i=2∨i=0∨i=1 by omega) with rfl | rfl | rfl
 ·refine Aw_st hE [0,3,4,10,11,76] [72,79,95,99,700,701,710,711,712,713,714,720,721,722,723,724,740] fun K hK=>?_
  simp only [go_sem,seval]
  refine hK _ (Aw_no rfl (Aw_exit (hX5 _ _ (hX4 _ _ (hE3 _ (hB2 _ ?_))))))
  refine Aw_tx hE [0,4] [72,79,95,99,700,701,710,711,712,713,714,720,721,722,723,724,740] fun K hK=>?_
  simp only [go_sem,seval]
  refine hK _ (hB1 (d',r',c',rn + 1) _ ⟨hr',by simp only;omega⟩ (LeE_of ?_))
  refine (Le_swb _ 701 700 (by decide) (by decide)).trans ((Le_swb _ 720 710 (by decide) (by decide)).trans ((Le_swb _ 721 711 (by decide) (by decide)).trans ?_))
  simp only [St.swb,swbσ,swbm,AV.swb,AV.swbAll,swp,jN_swb,row_swb,Nat.reduceEqDiff,if_true,if_false,reduceIte]
  exact Le_wa
 ·refine Aw_st hE [0,3,4,10,11,76] [72,79,95,99,700,701,710,711,712,713,714,720,721,722,723,724,740] fun K hK=>?_
  simp only [go_sem,seval]
  refine hK _ (Aw_yes rfl (Aw_skip (hB5 _ ?_)))
  refine Aw_sq fun B6 hB6 hR6 hX6=>?_
  refine Aw_bk fun B7 hN7 hE7 hR7 hX7=>?_
  refine Aw_st hE [0,3,4,10,11,12] [72,79,95,99,700,701,710,711,712,713,714,720,721,722,723,724,740] fun K hK=>?_
  simp only [go_sem,seval]
  refine hK _ ?_;clear hK K
  refine Aw_sq fun B8 hB8 hR8 hX8=>?_
  refine Aw_st hE [0,3,4,10,11,12,13] [72,79,95,99,700,701,710,711,712,713,714,720,721,722,723,724,740] fun K hK=>?_
  simp only [go_sem,seval]
  refine hK _ ?_;clear hK K
  refine Aw_bk fun B9 hN9 hE9 hR9 hX9=>?_
  refine Aw_lp (fun j:Nat × Nat × List Int=>⟨111,[(0,.rd),(3,iv 2),(4,.xs 700 0 2 (c + 2) 1),(10,.xs 701 0 0 (c' + 0) 1),(11,iv 1),(12,.xs 740 0 j.2.2.length (j.2.1 + j.2.2.length) 1),(13,iv ((j.1:Int) - 1))],(740,cI j.2.2++jN j.2.1)::(700,vws 2 d 710 2++jN c)::(701,vws 2 d' 720 0++jN c')::(bxs 2 d r 710 2++bxs 2 d' r' 720 0),rn + 1⟩) (fun j=>j.2.2.length + j.1=2) (fun j=>j.1) (2,0,[]) ?_ (by simp) fun j hj B10 hN10 hR10 hX10=>?_
  ·refine (Le_swb _ 79 740 (by decide) (by decide)).trans ?_
   simp only [St.swb,swbσ,swbm,AV.swb,AV.swbAll,swp,jN_swb,row_swb,Nat.reduceEqDiff,if_true,if_false,reduceIte]
   exact Le_wa
  obtain ⟨m,e,q⟩:=j
  simp only at hj
  refine Aw_sq fun B11 hB11 hR11 hX11=>?_
  refine Aw_st hE [0,3,4,10,11,12,13,83] [72,79,95,99,700,701,710,711,712,713,714,720,721,722,723,724,740] fun K hK=>?_
  simp only [go_sem,seval]
  refine hK _ (Aw_cond rfl (fun hc38=>?_) (fun hc38=>?_))
  ·simp only [dte] at hc38
   have hg:=rowI_drop (r 1) (d 1) ((m:Int) - 1).toNat (by omega)
   refine Aw_skip (hB11 _ ?_)
   refine Aw_sq fun B12 hB12 hR12 hX12=>?_
   refine Aw_bk fun B13 hN13 hE13 hR13 hX13=>?_
   refine Aw_tx hE [0,3,4,10,11,12,13] [72,79,95,99,700,701,710,711,712,713,714,720,721,722,723,724,740] fun K hK=>?_
   simp only [go_sem,seval,hg]
   refine ⟨⟨by omega,by omega⟩,⟨by omega,by omega⟩,fun h=>?_,fun h cap' hcap'=>?_⟩
   ·obtain ⟨e',rfl⟩:∃ e',e=e' + 1:=⟨e - 1,by omega⟩
    rw [row_put]
    refine hK _ (hN13 _ (hB12 _ ?_))
    refine Aw_tx hE [0,3,4,10,11,12,13] [72,79,95,99,700,701,710,711,712,713,714,720,721,722,723,724,740] fun K hK=>?_
    simp only [go_sem,seval]
    repeat refine sd0 ?_
    have hl1:(q++[(r 1).getD ((m:Int) - 1).toNat 0]).length=q.length + 1:=by simp
    have hmc:((m - 1:Nat):Int)=(m:Int) - 1:=by omega
    have hec:e' + 1 + q.length=e' + (q.length + 1):=by omega
    refine hK _ (hN10 (m - 1,e',q++[(r 1).getD ((m:Int) - 1).toNat 0]) _ (by simp only [hl1];omega) (by simp only;omega) ?_)
    simp only [hl1,hmc,hec]
    exact Le_wa
   ·obtain ⟨e',rfl⟩:∃ e',cap'=e' + (q.length + 1):=⟨cap' - (q.length + 1),by omega⟩
    rw [Nat.add_sub_cancel,List.append_assoc,List.singleton_append,row_snoc]
    refine hK _ (hN13 _ (hB12 _ ?_))
    refine Aw_tx hE [0,3,4,10,11,12,13] [72,79,95,99,700,701,710,711,712,713,714,720,721,722,723,724,740] fun K hK=>?_
    simp only [go_sem,seval]
    repeat refine sd0 ?_
    have hl1:(q++[(r 1).getD ((m:Int) - 1).toNat 0]).length=q.length + 1:=by simp
    have hmc:((m - 1:Nat):Int)=(m:Int) - 1:=by omega
    have hec:e' + 1 + q.length=e' + (q.length + 1):=by omega
    refine hK _ (hN10 (m - 1,e',q++[(r 1).getD ((m:Int) - 1).toNat 0]) _ (by simp only [hl1];omega) (by simp only;omega) ?_)
    simp only [hl1,hmc,hec]
    refine (Le_swb _ 95 740 (by decide) (by decide)).trans ?_
    simp only [St.swb,swbσ,swbm,AV.swb,AV.swbAll,swp,jN_swb,row_swb,Nat.reduceEqDiff,if_true,if_false,reduceIte]
    exact Le_wa
  ·simp only [dfn] at hc38
   have hq:q.length=2:=by omega
   refine Aw_exit (hX11 _ _ (hX10 _ _ (hE9 _ (hB8 _ ?_))))
   refine Aw_tx hE [0,3,4,10,11] [72,79,95,99,700,701,710,711,712,713,714,720,721,722,723,724,740] fun K hK=>?_
   simp only [go_sem,seval,hq]
   refine ⟨fun h=>?_,fun h cap' hcap'=>?_⟩
   ·obtain ⟨c1,rfl⟩:∃ c1,c'=c1 + 1:=⟨c' - 1,by omega⟩
    simp only [jN_s,List.set_cons_zero]
    refine hK _ (hN7 _ (hB6 _ ?_))
    refine Aw_tx hE [0,3,4,10,11] [72,79,95,99,700,701,710,711,712,713,714,720,721,722,723,724,740] fun K hK=>?_
    simp only [go_sem,seval]
    repeat refine sd0 ?_
    refine hK _ (hN4 (1,c1,put d' 0 e,put r' 0 q) _ ⟨by omega,put_len hr' hq⟩ (by simp only;omega) ?_)
    refine (Le_swb _ 740 720 (by decide) (by decide)).trans ?_
    simp only [St.swb,swbσ,swbm,AV.swb,AV.swbAll,swp,jN_swb,row_swb,Nat.reduceEqDiff,if_true,if_false,reduceIte]
    exact Le_wc (by simp only [go_sem,seval,put,Nat.add_assoc]) (by simp only [go_sem,seval,put])
   ·obtain ⟨c1,rfl⟩:∃ c1,cap'=c1 + 1:=⟨cap' - 1,by omega⟩
    rw [Nat.add_sub_cancel]
    refine hK _ (hN7 _ (hB6 _ ?_))
    refine Aw_tx hE [0,3,4,10,11] [72,79,95,99,700,701,710,711,712,713,714,720,721,722,723,724,740] fun K hK=>?_
    simp only [go_sem,seval]
    repeat refine sd0 ?_
    refine hK _ (hN4 (1,c1,put d' 0 e,put r' 0 q) _ ⟨by omega,put_len hr' hq⟩ (by simp only;omega) ?_)
    refine (Le_swb _ 740 720 (by decide) (by decide)).trans ?_
    simp only [St.swb,swbσ,swbm,AV.swb,AV.swbAll,swp,jN_swb,row_swb,Nat.reduceEqDiff,if_true,if_false,reduceIte]
    refine (Le_swb _ 99 701 (by decide) (by decide)).trans ?_
    simp only [St.swb,swbσ,swbm,AV.swb,AV.swbAll,swp,jN_swb,row_swb,Nat.reduceEqDiff,if_true,if_false,reduceIte]
    exact Le_wc (by simp only [go_sem,seval,put,Nat.add_assoc]) (by simp only [go_sem,seval,put])
 ·refine Aw_st hE [0,3,4,10,11,76] [72,79,95,99,700,701,710,711,712,713,714,720,721,722,723,724,740] fun K hK=>?_
  simp only [go_sem,seval]
  refine hK _ (Aw_yes rfl (Aw_skip (hB5 _ ?_)))
  refine Aw_sq fun B6 hB6 hR6 hX6=>?_
  refine Aw_bk fun B7 hN7 hE7 hR7 hX7=>?_
  refine Aw_st hE [0,3,4,10,11,12] [72,79,95,99,700,701,710,711,712,713,714,720,721,722,723,724,740] fun K hK=>?_
  simp only [go_sem,seval]
  refine hK _ ?_;clear hK K
  refine Aw_sq fun B8 hB8 hR8 hX8=>?_
  refine Aw_st hE [0,3,4,10,11,12,13] [72,79,95,99,700,701,710,711,712,713,714,720,721,722,723,724,740] fun K hK=>?_
  simp only [go_sem,seval]
  refine hK _ ?_;clear hK K
  refine Aw_bk fun B9 hN9 hE9 hR9 hX9=>?_
  refine Aw_lp (fun j:Nat × Nat × List Int=>⟨111,[(0,.rd),(3,iv 2),(4,.xs 700 0 2 (c + 2) 1),(10,.xs 701 0 1 (c' + 1) 1),(11,iv 0),(12,.xs 740 0 j.2.2.length (j.2.1 + j.2.2.length) 1),(13,iv ((j.1:Int) - 1))],(740,cI j.2.2++jN j.2.1)::(700,vws 2 d 710 2++jN c)::(701,vws 2 d' 720 1++jN c')::(bxs 2 d r 710 2++bxs 2 d' r' 720 1),rn + 1⟩) (fun j=>j.2.2.length + j.1=2) (fun j=>j.1) (2,0,[]) ?_ (by simp) fun j hj B10 hN10 hR10 hX10=>?_
  ·refine (Le_swb _ 79 740 (by decide) (by decide)).trans ?_
   simp only [St.swb,swbσ,swbm,AV.swb,AV.swbAll,swp,jN_swb,row_swb,Nat.reduceEqDiff,if_true,if_false,reduceIte]
   exact Le_wa
  obtain ⟨m,e,q⟩:=j
  simp only at hj
  refine Aw_sq fun B11 hB11 hR11 hX11=>?_
  refine Aw_st hE [0,3,4,10,11,12,13,83] [72,79,95,99,700,701,710,711,712,713,714,720,721,722,723,724,740] fun K hK=>?_
  simp only [go_sem,seval]
  refine hK _ (Aw_cond rfl (fun hc38=>?_) (fun hc38=>?_))
  ·simp only [dte] at hc38
   have hg:=rowI_drop (r 0) (d 0) ((m:Int) - 1).toNat (by omega)
   refine Aw_skip (hB11 _ ?_)
   refine Aw_sq fun B12 hB12 hR12 hX12=>?_
   refine Aw_bk fun B13 hN13 hE13 hR13 hX13=>?_
   refine Aw_tx hE [0,3,4,10,11,12,13] [72,79,95,99,700,701,710,711,712,713,714,720,721,722,723,724,740] fun K hK=>?_
   simp only [go_sem,seval,hg]
   refine ⟨⟨by omega,by omega⟩,⟨by omega,by omega⟩,fun h=>?_,fun h cap' hcap'=>?_⟩
   ·obtain ⟨e',rfl⟩:∃ e',e=e' + 1:=⟨e - 1,by omega⟩
    rw [row_put]
    refine hK _ (hN13 _ (hB12 _ ?_))
    refine Aw_tx hE [0,3,4,10,11,12,13] [72,79,95,99,700,701,710,711,712,713,714,720,721,722,723,724,740] fun K hK=>?_
    simp only [go_sem,seval]
    repeat refine sd0 ?_
    have hl1:(q++[(r 0).getD ((m:Int) - 1).toNat 0]).length=q.length + 1:=by simp
    have hmc:((m - 1:Nat):Int)=(m:Int) - 1:=by omega
    have hec:e' + 1 + q.length=e' + (q.length + 1):=by omega
    refine hK _ (hN10 (m - 1,e',q++[(r 0).getD ((m:Int) - 1).toNat 0]) _ (by simp only [hl1];omega) (by simp only;omega) ?_)
    simp only [hl1,hmc,hec]
    exact Le_wa
   ·obtain ⟨e',rfl⟩:∃ e',cap'=e' + (q.length + 1):=⟨cap' - (q.length + 1),by omega⟩
    rw [Nat.add_sub_cancel,List.append_assoc,List.singleton_append,row_snoc]
    refine hK _ (hN13 _ (hB12 _ ?_))
    refine Aw_tx hE [0,3,4,10,11,12,13] [72,79,95,99,700,701,710,711,712,713,714,720,721,722,723,724,740] fun K hK=>?_
    simp only [go_sem,seval]
    repeat refine sd0 ?_
    have hl1:(q++[(r 0).getD ((m:Int) - 1).toNat 0]).length=q.length + 1:=by simp
    have hmc:((m - 1:Nat):Int)=(m:Int) - 1:=by omega
    have hec:e' + 1 + q.length=e' + (q.length + 1):=by omega
    refine hK _ (hN10 (m - 1,e',q++[(r 0).getD ((m:Int) - 1).toNat 0]) _ (by simp only [hl1];omega) (by simp only;omega) ?_)
    simp only [hl1,hmc,hec]
    refine (Le_swb _ 95 740 (by decide) (by decide)).trans ?_
    simp only [St.swb,swbσ,swbm,AV.swb,AV.swbAll,swp,jN_swb,row_swb,Nat.reduceEqDiff,if_true,if_false,reduceIte]
    exact Le_wa
  ·simp only [dfn] at hc38
   have hq:q.length=2:=by omega
   refine Aw_exit (hX11 _ _ (hX10 _ _ (hE9 _ (hB8 _ ?_))))
   refine Aw_tx hE [0,3,4,10,11] [72,79,95,99,700,701,710,711,712,713,714,720,721,722,723,724,740] fun K hK=>?_
   simp only [go_sem,seval,hq]
   refine ⟨fun h=>?_,fun h cap' hcap'=>?_⟩
   ·obtain ⟨c1,rfl⟩:∃ c1,c'=c1 + 1:=⟨c' - 1,by omega⟩
    simp only [jN_s,List.set_cons_zero]
    refine hK _ (hN7 _ (hB6 _ ?_))
    refine Aw_tx hE [0,3,4,10,11] [72,79,95,99,700,701,710,711,712,713,714,720,721,722,723,724,740] fun K hK=>?_
    simp only [go_sem,seval]
    repeat refine sd0 ?_
    refine hK _ (hN4 (2,c1,put d' 1 e,put r' 1 q) _ ⟨by omega,put_len hr' hq⟩ (by simp only;omega) ?_)
    refine (Le_swb _ 740 721 (by decide) (by decide)).trans ?_
    simp only [St.swb,swbσ,swbm,AV.swb,AV.swbAll,swp,jN_swb,row_swb,Nat.reduceEqDiff,if_true,if_false,reduceIte]
    exact Le_wc (by simp only [go_sem,seval,put,Nat.add_assoc]) (by simp only [go_sem,seval,put])
   ·obtain ⟨c1,rfl⟩:∃ c1,cap'=c1 + 2:=⟨cap' - 2,by omega⟩
    rw [Nat.add_sub_cancel]
    refine hK _ (hN7 _ (hB6 _ ?_))
    refine Aw_tx hE [0,3,4,10,11] [72,79,95,99,700,701,710,711,712,713,714,720,721,722,723,724,740] fun K hK=>?_
    simp only [go_sem,seval]
    repeat refine sd0 ?_
    refine hK _ (hN4 (2,c1,put d' 1 e,put r' 1 q) _ ⟨by omega,put_len hr' hq⟩ (by simp only;omega) ?_)
    refine (Le_swb _ 740 721 (by decide) (by decide)).trans ?_
    simp only [St.swb,swbσ,swbm,AV.swb,AV.swbAll,swp,jN_swb,row_swb,Nat.reduceEqDiff,if_true,if_false,reduceIte]
    refine (Le_swb _ 99 701 (by decide) (by decide)).trans ?_
    simp only [St.swb,swbσ,swbm,AV.swb,AV.swbAll,swp,jN_swb,row_swb,Nat.reduceEqDiff,if_true,if_false,reduceIte]
    exact Le_wc (by simp only [go_sem,seval,put,Nat.add_assoc]) (by simp only [go_sem,seval,put])
set_option maxHeartbeats 16000000 in
theorem relsR3 {E:En} (hE:TbOk E tbRels) {k:Nat} (hk:k + 40≤1099511627776) {Q:Exit→St→Prop} (hQ:∀ (L:List (List Int)) (rn:Nat),(2≤L.length∧L.length≤5)→(∀ w ∈ L,w.length=L.length)→rn≤k + 40→Aw E .ret ⟨111,[(2,wsl L)],[],rn⟩ Q) {r:Nat→List Int} (hr:∀ q,(r q).length=3) {d:Nat→Nat} {c rn:Nat} (hrn:rn≤k + 29):Aw E (seqB (seqB (seqB (seqB (seqB (seqB (Tryd.f68.body.getD .skip))))))) ⟨111,[(0,.rd),(3,iv 3),(4,.xs 700 0 3 (c + 3) 1)],(700,vws 3 d 710 3++jN c)::bxs 3 d r 710 3,rn⟩ Q:=by
 have hr0:=hr 0
 have hr1:=hr 1
 have hr2:=hr 2
 refine Aw_sqJ (fun i:(Nat→Nat) × (Nat→List Int) × Nat × Nat=>⟨111,[(0,.rd),(4,.xs 700 0 3 (i.2.2.1 + 3) 1)],(700,vws 3 i.1 710 3++jN i.2.2.1)::bxs 3 i.1 i.2.1 710 3,i.2.2.2⟩) (fun i=>(∀ x,(i.2.1 x).length=3)∧i.2.2.2≤k + 30) (fun i hi=>relsT3 hE hk hQ hi.1 hi.2) fun B1 hB1 hR1 hX1=>?_
 refine Aw_st hE [0,3,4,71] [72,79,95,99,700,701,710,711,712,713,714,720,721,722,723,724,740] fun K hK=>?_
 simp only [go_sem,seval]
 refine ⟨by omega,fun x hx1 hx2=>?_⟩
 refine hK _ (Aw_cond rfl (fun hc=>?_) (fun hc=>?_))
 rotate_left
 ·exact Aw_skip (hB1 (d,r,c,rn + 1) _ ⟨hr,by simp only;omega⟩ (LeE_of (Le_wa)))
 refine Aw_st hE [0,3,4,10] [72,79,95,99,700,701,710,711,712,713,714,720,721,722,723,724,740] fun K hK=>?_
 simp only [go_sem,seval]
 refine hK _ ?_;clear hK K
 refine Aw_sq fun B2 hB2 hR2 hX2=>?_
 refine Aw_st hE [0,3,4,10,11] [72,79,95,99,700,701,710,711,712,713,714,720,721,722,723,724,740] fun K hK=>?_
 simp only [go_sem,seval]
 refine hK _ ?_;clear hK K
 refine Aw_bk fun B3 hN3 hE3 hR3 hX3=>?_
 refine Aw_lp (fun i:Nat × Nat × (Nat→Nat) × (Nat→List Int)=>⟨111,[(0,.rd),(3,iv 3),(4,.xs 700 0 3 (c + 3) 1),(10,.xs 701 0 i.1 (i.2.1 + i.1) 1),(11,iv ((3:Int) - 1 - (i.1:Int)))],(700,vws 3 d 710 3++jN c)::(701,vws 3 i.2.2.1 720 i.1++jN i.2.1)::(bxs 3 d r 710 3++bxs 3 i.2.2.1 i.2.2.2 720 i.1),rn + 1⟩) (fun i=>i.1≤3∧∀ x,(i.2.2.2 x).length=3) (fun i=>3 - i.1) (0,0,d,r) ?_ ⟨by omega,hr⟩ fun i hi B4 hN4 hR4 hX4=>?_
 ·refine (Le_swb _ 72 701 (by decide) (by decide)).trans ?_
  simp only [St.swb,swbσ,swbm,AV.swb,AV.swbAll,swp,jN_swb,row_swb,Nat.reduceEqDiff,if_true,if_false,reduceIte]
  exact Le_wa
 obtain ⟨i,c',d',r'⟩:=i
 obtain ⟨hi,hr'⟩:=hi
 simp only at hi hr'
 refine Aw_sq fun B5 hB5 hR5 hX5=>?_
 rcases (show i=3∨i=0∨i=1∨i=2 by omega) with rfl | rfl | rfl | rfl
 ·refine Aw_st hE [0,3,4,10,11,76] [72,79,95,99,700,701,710,711,712,713,714,720,721,722,723,724,740] fun K hK=>?_
  simp only [go_sem,seval]
  refine hK _ (Aw_no rfl (Aw_exit (hX5 _ _ (hX4 _ _ (hE3 _ (hB2 _ ?_))))))
  refine Aw_tx hE [0,4] [72,79,95,99,700,701,710,711,712,713,714,720,721,722,723,724,740] fun K hK=>?_
  simp only [go_sem,seval]
  refine hK _ (hB1 (d',r',c',rn + 1) _ ⟨hr',by simp only;omega⟩ (LeE_of ?_))
  refine (Le_swb _ 701 700 (by decide) (by decide)).trans ((Le_swb _ 720 710 (by decide) (by decide)).trans ((Le_swb _ 721 711 (by decide) (by decide)).trans ((Le_swb _ 722 712 (by decide) (by decide)).trans ?_)))
  simp only [St.swb,swbσ,swbm,AV.swb,AV.swbAll,swp,jN_swb,row_swb,Nat.reduceEqDiff,if_true,if_false,reduceIte]
  exact Le_wa
 ·refine Aw_st hE [0,3,4,10,11,76] [72,79,95,99,700,701,710,711,712,713,714,720,721,722,723,724,740] fun K hK=>?_
  simp only [go_sem,seval]
  refine hK _ (Aw_yes rfl (Aw_skip (hB5 _ ?_)))
  refine Aw_sq fun B6 hB6 hR6 hX6=>?_
  refine Aw_bk fun B7 hN7 hE7 hR7 hX7=>?_
  refine Aw_st hE [0,3,4,10,11,12] [72,79,95,99,700,701,710,711,712,713,714,720,721,722,723,724,740] fun K hK=>?_
  simp only [go_sem,seval]
  refine hK _ ?_;clear hK K
  refine Aw_sq fun B8 hB8 hR8 hX8=>?_
  refine Aw_st hE [0,3,4,10,11,12,13] [72,79,95,99,700,701,710,711,712,713,714,720,721,722,723,724,740] fun K hK=>?_
  simp only [go_sem,seval]
  refine hK _ ?_;clear hK K
  refine Aw_bk fun B9 hN9 hE9 hR9 hX9=>?_
  refine Aw_lp (fun j:Nat × Nat × List Int=>⟨111,[(0,.rd),(3,iv 3),(4,.xs 700 0 3 (c + 3) 1),(10,.xs 701 0 0 (c' + 0) 1),(11,iv 2),(12,.xs 740 0 j.2.2.length (j.2.1 + j.2.2.length) 1),(13,iv ((j.1:Int) - 1))],(740,cI j.2.2++jN j.2.1)::(700,vws 3 d 710 3++jN c)::(701,vws 3 d' 720 0++jN c')::(bxs 3 d r 710 3++bxs 3 d' r' 720 0),rn + 1⟩) (fun j=>j.2.2.length + j.1=3) (fun j=>j.1) (3,0,[]) ?_ (by simp) fun j hj B10 hN10 hR10 hX10=>?_
  ·refine (Le_swb _ 79 740 (by decide) (by decide)).trans ?_
   simp only [St.swb,swbσ,swbm,AV.swb,AV.swbAll,swp,jN_swb,row_swb,Nat.reduceEqDiff,if_true,if_false,reduceIte]
   exact Le_wa
  obtain ⟨m,e,q⟩:=j
  simp only at hj
  refine Aw_sq fun B11 hB11 hR11 hX11=>?_
  refine Aw_st hE [0,3,4,10,11,12,13,83] [72,79,95,99,700,701,710,711,712,713,714,720,721,722,723,724,740] fun K hK=>?_
  simp only [go_sem,seval]
  refine hK _ (Aw_cond rfl (fun hc38=>?_) (fun hc38=>?_))
  ·simp only [dte] at hc38
   have hg:=rowI_drop (r 2) (d 2) ((m:Int) - 1).toNat (by omega)
   refine Aw_skip (hB11 _ ?_)
   refine Aw_sq fun B12 hB12 hR12 hX12=>?_
   refine Aw_bk fun B13 hN13 hE13 hR13 hX13=>?_
   refine Aw_tx hE [0,3,4,10,11,12,13] [72,79,95,99,700,701,710,711,712,713,714,720,721,722,723,724,740] fun K hK=>?_
   simp only [go_sem,seval,hg]
   refine ⟨⟨by omega,by omega⟩,⟨by omega,by omega⟩,fun h=>?_,fun h cap' hcap'=>?_⟩
   ·obtain ⟨e',rfl⟩:∃ e',e=e' + 1:=⟨e - 1,by omega⟩
    rw [row_put]
    refine hK _ (hN13 _ (hB12 _ ?_))
    refine Aw_tx hE [0,3,4,10,11,12,13] [72,79,95,99,700,701,710,711,712,713,714,720,721,722,723,724,740] fun K hK=>?_
    simp only [go_sem,seval]
    repeat refine sd0 ?_
    have hl1:(q++[(r 2).getD ((m:Int) - 1).toNat 0]).length=q.length + 1:=by simp
    have hmc:((m - 1:Nat):Int)=(m:Int) - 1:=by omega
    have hec:e' + 1 + q.length=e' + (q.length + 1):=by omega
    refine hK _ (hN10 (m - 1,e',q++[(r 2).getD ((m:Int) - 1).toNat 0]) _ (by simp only [hl1];omega) (by simp only;omega) ?_)
    simp only [hl1,hmc,hec]
    exact Le_wa
   ·obtain ⟨e',rfl⟩:∃ e',cap'=e' + (q.length + 1):=⟨cap' - (q.length + 1),by omega⟩
    rw [Nat.add_sub_cancel,List.append_assoc,List.singleton_append,row_snoc]
    refine hK _ (hN13 _ (hB12 _ ?_))
    refine Aw_tx hE [0,3,4,10,11,12,13] [72,79,95,99,700,701,710,711,712,713,714,720,721,722,723,724,740] fun K hK=>?_
    simp only [go_sem,seval]
    repeat refine sd0 ?_
    have hl1:(q++[(r 2).getD ((m:Int) - 1).toNat 0]).length=q.length + 1:=by simp
    have hmc:((m - 1:Nat):Int)=(m:Int) - 1:=by omega
    have hec:e' + 1 + q.length=e' + (q.length + 1):=by omega
    refine hK _ (hN10 (m - 1,e',q++[(r 2).getD ((m:Int) - 1).toNat 0]) _ (by simp only [hl1];omega) (by simp only;omega) ?_)
    simp only [hl1,hmc,hec]
    refine (Le_swb _ 95 740 (by decide) (by decide)).trans ?_
    simp only [St.swb,swbσ,swbm,AV.swb,AV.swbAll,swp,jN_swb,row_swb,Nat.reduceEqDiff,if_true,if_false,reduceIte]
    exact Le_wa
  ·simp only [dfn] at hc38
   have hq:q.length=3:=by omega
   refine Aw_exit (hX11 _ _ (hX10 _ _ (hE9 _ (hB8 _ ?_))))
   refine Aw_tx hE [0,3,4,10,11] [72,79,95,99,700,701,710,711,712,713,714,720,721,722,723,724,740] fun K hK=>?_
   simp only [go_sem,seval,hq]
   refine ⟨fun h=>?_,fun h cap' hcap'=>?_⟩
   ·obtain ⟨c1,rfl⟩:∃ c1,c'=c1 + 1:=⟨c' - 1,by omega⟩
    simp only [jN_s,List.set_cons_zero]
    refine hK _ (hN7 _ (hB6 _ ?_))
    refine Aw_tx hE [0,3,4,10,11] [72,79,95,99,700,701,710,711,712,713,714,720,721,722,723,724,740] fun K hK=>?_
    simp only [go_sem,seval]
    repeat refine sd0 ?_
    refine hK _ (hN4 (1,c1,put d' 0 e,put r' 0 q) _ ⟨by omega,put_len hr' hq⟩ (by simp only;omega) ?_)
    refine (Le_swb _ 740 720 (by decide) (by decide)).trans ?_
    simp only [St.swb,swbσ,swbm,AV.swb,AV.swbAll,swp,jN_swb,row_swb,Nat.reduceEqDiff,if_true,if_false,reduceIte]
    exact Le_wc (by simp only [go_sem,seval,put,Nat.add_assoc]) (by simp only [go_sem,seval,put])
   ·obtain ⟨c1,rfl⟩:∃ c1,cap'=c1 + 1:=⟨cap' - 1,by omega⟩
    rw [Nat.add_sub_cancel]
    refine hK _ (hN7 _ (hB6 _ ?_))
    refine Aw_tx hE [0,3,4,10,11] [72,79,95,99,700,701,710,711,712,713,714,720,721,722,723,724,740] fun K hK=>?_
    simp only [go_sem,seval]
    repeat refine sd0 ?_
    refine hK _ (hN4 (1,c1,put d' 0 e,put r' 0 q) _ ⟨by omega,put_len hr' hq⟩ (by simp only;omega) ?_)
    refine (Le_swb _ 740 720 (by decide) (by decide)).trans ?_
    simp only [St.swb,swbσ,swbm,AV.swb,AV.swbAll,swp,jN_swb,row_swb,Nat.reduceEqDiff,if_true,if_false,reduceIte]
    refine (Le_swb _ 99 701 (by decide) (by decide)).trans ?_
    simp only [St.swb,swbσ,swbm,AV.swb,AV.swbAll,swp,jN_swb,row_swb,Nat.reduceEqDiff,if_true,if_false,reduceIte]
    exact Le_wc (by simp only [go_sem,seval,put,Nat.add_assoc]) (by simp only [go_sem,seval,put])
 ·refine Aw_st hE [0,3,4,10,11,76] [72,79,95,99,700,701,710,711,712,713,714,720,721,722,723,724,740] fun K hK=>?_
  simp only [go_sem,seval]
  refine hK _ (Aw_yes rfl (Aw_skip (hB5 _ ?_)))
  refine Aw_sq fun B6 hB6 hR6 hX6=>?_
  refine Aw_bk fun B7 hN7 hE7 hR7 hX7=>?_
  refine Aw_st hE [0,3,4,10,11,12] [72,79,95,99,700,701,710,711,712,713,714,720,721,722,723,724,740] fun K hK=>?_
  simp only [go_sem,seval]
  refine hK _ ?_;clear hK K
  refine Aw_sq fun B8 hB8 hR8 hX8=>?_
  refine Aw_st hE [0,3,4,10,11,12,13] [72,79,95,99,700,701,710,711,712,713,714,720,721,722,723,724,740] fun K hK=>?_
  simp only [go_sem,seval]
  refine hK _ ?_;clear hK K
  refine Aw_bk fun B9 hN9 hE9 hR9 hX9=>?_
  refine Aw_lp (fun j:Nat × Nat × List Int=>⟨111,[(0,.rd),(3,iv 3),(4,.xs 700 0 3 (c + 3) 1),(10,.xs 701 0 1 (c' + 1) 1),(11,iv 1),(12,.xs 740 0 j.2.2.length (j.2.1 + j.2.2.length) 1),(13,iv ((j.1:Int) - 1))],(740,cI j.2.2++jN j.2.1)::(700,vws 3 d 710 3++jN c)::(701,vws 3 d' 720 1++jN c')::(bxs 3 d r 710 3++bxs 3 d' r' 720 1),rn + 1⟩) (fun j=>j.2.2.length + j.1=3) (fun j=>j.1) (3,0,[]) ?_ (by simp) fun j hj B10 hN10 hR10 hX10=>?_
  ·refine (Le_swb _ 79 740 (by decide) (by decide)).trans ?_
   simp only [St.swb,swbσ,swbm,AV.swb,AV.swbAll,swp,jN_swb,row_swb,Nat.reduceEqDiff,if_true,if_false,reduceIte]
   exact Le_wa
  obtain ⟨m,e,q⟩:=j
  simp only at hj
  refine Aw_sq fun B11 hB11 hR11 hX11=>?_
  refine Aw_st hE [0,3,4,10,11,12,13,83] [72,79,95,99,700,701,710,711,712,713,714,720,721,722,723,724,740] fun K hK=>?_
  simp only [go_sem,seval]
  refine hK _ (Aw_cond rfl (fun hc38=>?_) (fun hc38=>?_))
  ·simp only [dte] at hc38
   have hg:=rowI_drop (r 1) (d 1) ((m:Int) - 1).toNat (by omega)
   refine Aw_skip (hB11 _ ?_)
   refine Aw_sq fun B12 hB12 hR12 hX12=>?_
   refine Aw_bk fun B13 hN13 hE13 hR13 hX13=>?_
   refine Aw_tx hE [0,3,4,10,11,12,13] [72,79,95,99,700,701,710,711,712,713,714,720,721,722,723,724,740] fun K hK=>?_
   simp only [go_sem,seval,hg]
   refine ⟨⟨by omega,by omega⟩,⟨by omega,by omega⟩,fun h=>?_,fun h cap' hcap'=>?_⟩
   ·obtain ⟨e',rfl⟩:∃ e',e=e' + 1:=⟨e - 1,by omega⟩
    rw [row_put]
    refine hK _ (hN13 _ (hB12 _ ?_))
    refine Aw_tx hE [0,3,4,10,11,12,13] [72,79,95,99,700,701,710,711,712,713,714,720,721,722,723,724,740] fun K hK=>?_
    simp only [go_sem,seval]
    repeat refine sd0 ?_
    have hl1:(q++[(r 1).getD ((m:Int) - 1).toNat 0]).length=q.length + 1:=by simp
    have hmc:((m - 1:Nat):Int)=(m:Int) - 1:=by omega
    have hec:e' + 1 + q.length=e' + (q.length + 1):=by omega
    refine hK _ (hN10 (m - 1,e',q++[(r 1).getD ((m:Int) - 1).toNat 0]) _ (by simp only [hl1];omega) (by simp only;omega) ?_)
    simp only [hl1,hmc,hec]
    exact Le_wa
   ·obtain ⟨e',rfl⟩:∃ e',cap'=e' + (q.length + 1):=⟨cap' - (q.length + 1),by omega⟩
    rw [Nat.add_sub_cancel,List.append_assoc,List.singleton_append,row_snoc]
    refine hK _ (hN13 _ (hB12 _ ?_))
    refine Aw_tx hE [0,3,4,10,11,12,13] [72,79,95,99,700,701,710,711,712,713,714,720,721,722,723,724,740] fun K hK=>?_
    simp only [go_sem,seval]
    repeat refine sd0 ?_
    have hl1:(q++[(r 1).getD ((m:Int) - 1).toNat 0]).length=q.length + 1:=by simp
    have hmc:((m - 1:Nat):Int)=(m:Int) - 1:=by omega
    have hec:e' + 1 + q.length=e' + (q.length + 1):=by omega
    refine hK _ (hN10 (m - 1,e',q++[(r 1).getD ((m:Int) - 1).toNat 0]) _ (by simp only [hl1];omega) (by simp only;omega) ?_)
    simp only [hl1,hmc,hec]
    refine (Le_swb _ 95 740 (by decide) (by decide)).trans ?_
    simp only [St.swb,swbσ,swbm,AV.swb,AV.swbAll,swp,jN_swb,row_swb,Nat.reduceEqDiff,if_true,if_false,reduceIte]
    exact Le_wa
  ·simp only [dfn] at hc38
   have hq:q.length=3:=by omega
   refine Aw_exit (hX11 _ _ (hX10 _ _ (hE9 _ (hB8 _ ?_))))
   refine Aw_tx hE [0,3,4,10,11] [72,79,95,99,700,701,710,711,712,713,714,720,721,722,723,724,740] fun K hK=>?_
   simp only [go_sem,seval,hq]
   refine ⟨fun h=>?_,fun h cap' hcap'=>?_⟩
   ·obtain ⟨c1,rfl⟩:∃ c1,c'=c1 + 1:=⟨c' - 1,by omega⟩
    simp only [jN_s,List.set_cons_zero]
    refine hK _ (hN7 _ (hB6 _ ?_))
    refine Aw_tx hE [0,3,4,10,11] [72,79,95,99,700,701,710,711,712,713,714,720,721,722,723,724,740] fun K hK=>?_
    simp only [go_sem,seval]
    repeat refine sd0 ?_
    refine hK _ (hN4 (2,c1,put d' 1 e,put r' 1 q) _ ⟨by omega,put_len hr' hq⟩ (by simp only;omega) ?_)
    refine (Le_swb _ 740 721 (by decide) (by decide)).trans ?_
    simp only [St.swb,swbσ,swbm,AV.swb,AV.swbAll,swp,jN_swb,row_swb,Nat.reduceEqDiff,if_true,if_false,reduceIte]
    exact Le_wc (by simp only [go_sem,seval,put,Nat.add_assoc]) (by simp only [go_sem,seval,put])
   ·obtain ⟨c1,rfl⟩:∃ c1,cap'=c1 + 2:=⟨cap' - 2,by omega⟩
    rw [Nat.add_sub_cancel]
    refine hK _ (hN7 _ (hB6 _ ?_))
    refine Aw_tx hE [0,3,4,10,11] [72,79,95,99,700,701,710,711,712,713,714,720,721,722,723,724,740] fun K hK=>?_
    simp only [go_sem,seval]
    repeat refine sd0 ?_
    refine hK _ (hN4 (2,c1,put d' 1 e,put r' 1 q) _ ⟨by omega,put_len hr' hq⟩ (by simp only;omega) ?_)
    refine (Le_swb _ 740 721 (by decide) (by decide)).trans ?_
    simp only [St.swb,swbσ,swbm,AV.swb,AV.swbAll,swp,jN_swb,row_swb,Nat.reduceEqDiff,if_true,if_false,reduceIte]
    refine (Le_swb _ 99 701 (by decide) (by decide)).trans ?_
    simp only [St.swb,swbσ,swbm,AV.swb,AV.swbAll,swp,jN_swb,row_swb,Nat.reduceEqDiff,if_true,if_false,reduceIte]
    exact Le_wc (by simp only [go_sem,seval,put,Nat.add_assoc]) (by simp only [go_sem,seval,put])
 ·refine Aw_st hE [0,3,4,10,11,76] [72,79,95,99,700,701,710,711,712,713,714,720,721,722,723,724,740] fun K hK=>?_
  simp only [go_sem,seval]
  refine hK _ (Aw_yes rfl (Aw_skip (hB5 _ ?_)))
  refine Aw_sq fun B6 hB6 hR6 hX6=>?_
  refine Aw_bk fun B7 hN7 hE7 hR7 hX7=>?_
  refine Aw_st hE [0,3,4,10,11,12] [72,79,95,99,700,701,710,711,712,713,714,720,721,722,723,724,740] fun K hK=>?_
  simp only [go_sem,seval]
  refine hK _ ?_;clear hK K
  refine Aw_sq fun B8 hB8 hR8 hX8=>?_
  refine Aw_st hE [0,3,4,10,11,12,13] [72,79,95,99,700,701,710,711,712,713,714,720,721,722,723,724,740] fun K hK=>?_
  simp only [go_sem,seval]
  refine hK _ ?_;clear hK K
  refine Aw_bk fun B9 hN9 hE9 hR9 hX9=>?_
  refine Aw_lp (fun j:Nat × Nat × List Int=>⟨111,[(0,.rd),(3,iv 3),(4,.xs 700 0 3 (c + 3) 1),(10,.xs 701 0 2 (c' + 2) 1),(11,iv 0),(12,.xs 740 0 j.2.2.length (j.2.1 + j.2.2.length) 1),(13,iv ((j.1:Int) - 1))],(740,cI j.2.2++jN j.2.1)::(700,vws 3 d 710 3++jN c)::(701,vws 3 d' 720 2++jN c')::(bxs 3 d r 710 3++bxs 3 d' r' 720 2),rn + 1⟩) (fun j=>j.2.2.length + j.1=3) (fun j=>j.1) (3,0,[]) ?_ (by simp) fun j hj B10 hN10 hR10 hX10=>?_
  ·refine (Le_swb _ 79 740 (by decide) (by decide)).trans ?_
   simp only [St.swb,swbσ,swbm,AV.swb,AV.swbAll,swp,jN_swb,row_swb,Nat.reduceEqDiff,if_true,if_false,reduceIte]
   exact Le_wa
  obtain ⟨m,e,q⟩:=j
  simp only at hj
  refine Aw_sq fun B11 hB11 hR11 hX11=>?_
  refine Aw_st hE [0,3,4,10,11,12,13,83] [72,79,95,99,700,701,710,711,712,713,714,720,721,722,723,724,740] fun K hK=>?_
  simp only [go_sem,seval]
  refine hK _ (Aw_cond rfl (fun hc38=>?_) (fun hc38=>?_))
  ·simp only [dte] at hc38
   have hg:=rowI_drop (r 0) (d 0) ((m:Int) - 1).toNat (by omega)
   refine Aw_skip (hB11 _ ?_)
   refine Aw_sq fun B12 hB12 hR12 hX12=>?_
   refine Aw_bk fun B13 hN13 hE13 hR13 hX13=>?_
   refine Aw_tx hE [0,3,4,10,11,12,13] [72,79,95,99,700,701,710,711,712,713,714,720,721,722,723,724,740] fun K hK=>?_
   simp only [go_sem,seval,hg]
   refine ⟨⟨by omega,by omega⟩,⟨by omega,by omega⟩,fun h=>?_,fun h cap' hcap'=>?_⟩
   ·obtain ⟨e',rfl⟩:∃ e',e=e' + 1:=⟨e - 1,by omega⟩
    rw [row_put]
    refine hK _ (hN13 _ (hB12 _ ?_))
    refine Aw_tx hE [0,3,4,10,11,12,13] [72,79,95,99,700,701,710,711,712,713,714,720,721,722,723,724,740] fun K hK=>?_
    simp only [go_sem,seval]
    repeat refine sd0 ?_
    have hl1:(q++[(r 0).getD ((m:Int) - 1).toNat 0]).length=q.length + 1:=by simp
    have hmc:((m - 1:Nat):Int)=(m:Int) - 1:=by omega
    have hec:e' + 1 + q.length=e' + (q.length + 1):=by omega
    refine hK _ (hN10 (m - 1,e',q++[(r 0).getD ((m:Int) - 1).toNat 0]) _ (by simp only [hl1];omega) (by simp only;omega) ?_)
    simp only [hl1,hmc,hec]
    exact Le_wa
   ·obtain ⟨e',rfl⟩:∃ e',cap'=e' + (q.length + 1):=⟨cap' - (q.length + 1),by omega⟩
    rw [Nat.add_sub_cancel,List.append_assoc,List.singleton_append,row_snoc]
    refine hK _ (hN13 _ (hB12 _ ?_))
    refine Aw_tx hE [0,3,4,10,11,12,13] [72,79,95,99,700,701,710,711,712,713,714,720,721,722,723,724,740] fun K hK=>?_
    simp only [go_sem,seval]
    repeat refine sd0 ?_
    have hl1:(q++[(r 0).getD ((m:Int) - 1).toNat 0]).length=q.length + 1:=by simp
    have hmc:((m - 1:Nat):Int)=(m:Int) - 1:=by omega
    have hec:e' + 1 + q.length=e' + (q.length + 1):=by omega
    refine hK _ (hN10 (m - 1,e',q++[(r 0).getD ((m:Int) - 1).toNat 0]) _ (by simp only [hl1];omega) (by simp only;omega) ?_)
    simp only [hl1,hmc,hec]
    refine (Le_swb _ 95 740 (by decide) (by decide)).trans ?_
    simp only [St.swb,swbσ,swbm,AV.swb,AV.swbAll,swp,jN_swb,row_swb,Nat.reduceEqDiff,if_true,if_false,reduceIte]
    exact Le_wa
  ·simp only [dfn] at hc38
   have hq:q.length=3:=by omega
   refine Aw_exit (hX11 _ _ (hX10 _ _ (hE9 _ (hB8 _ ?_))))
   refine Aw_tx hE [0,3,4,10,11] [72,79,95,99,700,701,710,711,712,713,714,720,721,722,723,724,740] fun K hK=>?_
   simp only [go_sem,seval,hq]
   refine ⟨fun h=>?_,fun h cap' hcap'=>?_⟩
   ·obtain ⟨c1,rfl⟩:∃ c1,c'=c1 + 1:=⟨c' - 1,by omega⟩
    simp only [jN_s,List.set_cons_zero]
    refine hK _ (hN7 _ (hB6 _ ?_))
    refine Aw_tx hE [0,3,4,10,11] [72,79,95,99,700,701,710,711,712,713,714,720,721,722,723,724,740] fun K hK=>?_
    simp only [go_sem,seval]
    repeat refine sd0 ?_
    refine hK _ (hN4 (3,c1,put d' 2 e,put r' 2 q) _ ⟨by omega,put_len hr' hq⟩ (by simp only;omega) ?_)
    refine (Le_swb _ 740 722 (by decide) (by decide)).trans ?_
    simp only [St.swb,swbσ,swbm,AV.swb,AV.swbAll,swp,jN_swb,row_swb,Nat.reduceEqDiff,if_true,if_false,reduceIte]
    exact Le_wc (by simp only [go_sem,seval,put,Nat.add_assoc]) (by simp only [go_sem,seval,put])
   ·obtain ⟨c1,rfl⟩:∃ c1,cap'=c1 + 3:=⟨cap' - 3,by omega⟩
    rw [Nat.add_sub_cancel]
    refine hK _ (hN7 _ (hB6 _ ?_))
    refine Aw_tx hE [0,3,4,10,11] [72,79,95,99,700,701,710,711,712,713,714,720,721,722,723,724,740] fun K hK=>?_
    simp only [go_sem,seval]
    repeat refine sd0 ?_
    refine hK _ (hN4 (3,c1,put d' 2 e,put r' 2 q) _ ⟨by omega,put_len hr' hq⟩ (by simp only;omega) ?_)
    refine (Le_swb _ 740 722 (by decide) (by decide)).trans ?_
    simp only [St.swb,swbσ,swbm,AV.swb,AV.swbAll,swp,jN_swb,row_swb,Nat.reduceEqDiff,if_true,if_false,reduceIte]
    refine (Le_swb _ 99 701 (by decide) (by decide)).trans ?_
    simp only [St.swb,swbσ,swbm,AV.swb,AV.swbAll,swp,jN_swb,row_swb,Nat.reduceEqDiff,if_true,if_false,reduceIte]
    exact Le_wc (by simp only [go_sem,seval,put,Nat.add_assoc]) (by simp only [go_sem,seval,put])
set_option maxHeartbeats 16000000 in
theorem relsR4 {E:En} (hE:TbOk E tbRels) {k:Nat} (hk:k + 40≤1099511627776) {Q:Exit→St→Prop} (hQ:∀ (L:List (List Int)) (rn:Nat),(2≤L.length∧L.length≤5)→(∀ w ∈ L,w.length=L.length)→rn≤k + 40→Aw E .ret ⟨111,[(2,wsl L)],[],rn⟩ Q) {r:Nat→List Int} (hr:∀ q,(r q).length=4) {d:Nat→Nat} {c rn:Nat} (hrn:rn≤k + 29):Aw E (seqB (seqB (seqB (seqB (seqB (seqB (Tryd.f68.body.getD .skip))))))) ⟨111,[(0,.rd),(3,iv 4),(4,.xs 700 0 4 (c + 4) 1)],(700,vws 4 d 710 4++jN c)::bxs 4 d r 710 4,rn⟩ Q:=by
 have hr0:=hr 0
 have hr1:=hr 1
 have hr2:=hr 2
 have hr3:=hr 3
 refine Aw_sqJ (fun i:(Nat→Nat) × (Nat→List Int) × Nat × Nat=>⟨111,[(0,.rd),(4,.xs 700 0 4 (i.2.2.1 + 4) 1)],(700,vws 4 i.1 710 4++jN i.2.2.1)::bxs 4 i.1 i.2.1 710 4,i.2.2.2⟩) (fun i=>(∀ x,(i.2.1 x).length=4)∧i.2.2.2≤k + 30) (fun i hi=>relsT4 hE hk hQ hi.1 hi.2) fun B1 hB1 hR1 hX1=>?_
 refine Aw_st hE [0,3,4,71] [72,79,95,99,700,701,710,711,712,713,714,720,721,722,723,724,740] fun K hK=>?_
 simp only [go_sem,seval]
 refine ⟨by omega,fun x hx1 hx2=>?_⟩
 refine hK _ (Aw_cond rfl (fun hc=>?_) (fun hc=>?_))
 rotate_left
 ·exact Aw_skip (hB1 (d,r,c,rn + 1) _ ⟨hr,by simp only;omega⟩ (LeE_of (Le_wa)))
 refine Aw_st hE [0,3,4,10] [72,79,95,99,700,701,710,711,712,713,714,720,721,722,723,724,740] fun K hK=>?_
 simp only [go_sem,seval]
 refine hK _ ?_;clear hK K
 refine Aw_sq fun B2 hB2 hR2 hX2=>?_
 refine Aw_st hE [0,3,4,10,11] [72,79,95,99,700,701,710,711,712,713,714,720,721,722,723,724,740] fun K hK=>?_
 simp only [go_sem,seval]
 refine hK _ ?_;clear hK K
 refine Aw_bk fun B3 hN3 hE3 hR3 hX3=>?_
 refine Aw_lp (fun i:Nat × Nat × (Nat→Nat) × (Nat→List Int)=>⟨111,[(0,.rd),(3,iv 4),(4,.xs 700 0 4 (c + 4) 1),(10,.xs 701 0 i.1 (i.2.1 + i.1) 1),(11,iv ((4:Int) - 1 - (i.1:Int)))],(700,vws 4 d 710 4++jN c)::(701,vws 4 i.2.2.1 720 i.1++jN i.2.1)::(bxs 4 d r 710 4++bxs 4 i.2.2.1 i.2.2.2 720 i.1),rn + 1⟩) (fun i=>i.1≤4∧∀ x,(i.2.2.2 x).length=4) (fun i=>4 - i.1) (0,0,d,r) ?_ ⟨by omega,hr⟩ fun i hi B4 hN4 hR4 hX4=>?_
 ·refine (Le_swb _ 72 701 (by decide) (by decide)).trans ?_
  simp only [St.swb,swbσ,swbm,AV.swb,AV.swbAll,swp,jN_swb,row_swb,Nat.reduceEqDiff,if_true,if_false,reduceIte]
  exact Le_wa
 obtain ⟨i,c',d',r'⟩:=i
 obtain ⟨hi,hr'⟩:=hi
 simp only at hi hr'
 refine Aw_sq fun B5 hB5 hR5 hX5=>?_
 rcases (show i=4∨i=0∨i=1∨i=2∨i=3 by omega) with rfl | rfl | rfl | rfl | rfl
 ·refine Aw_st hE [0,3,4,10,11,76] [72,79,95,99,700,701,710,711,712,713,714,720,721,722,723,724,740] fun K hK=>?_
  simp only [go_sem,seval]
  refine hK _ (Aw_no rfl (Aw_exit (hX5 _ _ (hX4 _ _ (hE3 _ (hB2 _ ?_))))))
  refine Aw_tx hE [0,4] [72,79,95,99,700,701,710,711,712,713,714,720,721,722,723,724,740] fun K hK=>?_
  simp only [go_sem,seval]
  refine hK _ (hB1 (d',r',c',rn + 1) _ ⟨hr',by simp only;omega⟩ (LeE_of ?_))
  refine (Le_swb _ 701 700 (by decide) (by decide)).trans ((Le_swb _ 720 710 (by decide) (by decide)).trans ((Le_swb _ 721 711 (by decide) (by decide)).trans ((Le_swb _ 722 712 (by decide) (by decide)).trans ((Le_swb _ 723 713 (by decide) (by decide)).trans ?_))))
  simp only [St.swb,swbσ,swbm,AV.swb,AV.swbAll,swp,jN_swb,row_swb,Nat.reduceEqDiff,if_true,if_false,reduceIte]
  exact Le_wa
 ·refine Aw_st hE [0,3,4,10,11,76] [72,79,95,99,700,701,710,711,712,713,714,720,721,722,723,724,740] fun K hK=>?_
  simp only [go_sem,seval]
  refine hK _ (Aw_yes rfl (Aw_skip (hB5 _ ?_)))
  refine Aw_sq fun B6 hB6 hR6 hX6=>?_
  refine Aw_bk fun B7 hN7 hE7 hR7 hX7=>?_
  refine Aw_st hE [0,3,4,10,11,12] [72,79,95,99,700,701,710,711,712,713,714,720,721,722,723,724,740] fun K hK=>?_
  simp only [go_sem,seval]
  refine hK _ ?_;clear hK K
  refine Aw_sq fun B8 hB8 hR8 hX8=>?_
  refine Aw_st hE [0,3,4,10,11,12,13] [72,79,95,99,700,701,710,711,712,713,714,720,721,722,723,724,740] fun K hK=>?_
  simp only [go_sem,seval]
  refine hK _ ?_;clear hK K
  refine Aw_bk fun B9 hN9 hE9 hR9 hX9=>?_
  refine Aw_lp (fun j:Nat × Nat × List Int=>⟨111,[(0,.rd),(3,iv 4),(4,.xs 700 0 4 (c + 4) 1),(10,.xs 701 0 0 (c' + 0) 1),(11,iv 3),(12,.xs 740 0 j.2.2.length (j.2.1 + j.2.2.length) 1),(13,iv ((j.1:Int) - 1))],(740,cI j.2.2++jN j.2.1)::(700,vws 4 d 710 4++jN c)::(701,vws 4 d' 720 0++jN c')::(bxs 4 d r 710 4++bxs 4 d' r' 720 0),rn + 1⟩) (fun j=>j.2.2.length + j.1=4) (fun j=>j.1) (4,0,[]) ?_ (by simp) fun j hj B10 hN10 hR10 hX10=>?_
  ·refine (Le_swb _ 79 740 (by decide) (by decide)).trans ?_
   simp only [St.swb,swbσ,swbm,AV.swb,AV.swbAll,swp,jN_swb,row_swb,Nat.reduceEqDiff,if_true,if_false,reduceIte]
   exact Le_wa
  obtain ⟨m,e,q⟩:=j
  simp only at hj
  refine Aw_sq fun B11 hB11 hR11 hX11=>?_
  refine Aw_st hE [0,3,4,10,11,12,13,83] [72,79,95,99,700,701,710,711,712,713,714,720,721,722,723,724,740] fun K hK=>?_
  simp only [go_sem,seval]
  refine hK _ (Aw_cond rfl (fun hc38=>?_) (fun hc38=>?_))
  ·simp only [dte] at hc38
   have hg:=rowI_drop (r 3) (d 3) ((m:Int) - 1).toNat (by omega)
   refine Aw_skip (hB11 _ ?_)
   refine Aw_sq fun B12 hB12 hR12 hX12=>?_
   refine Aw_bk fun B13 hN13 hE13 hR13 hX13=>?_
   refine Aw_tx hE [0,3,4,10,11,12,13] [72,79,95,99,700,701,710,711,712,713,714,720,721,722,723,724,740] fun K hK=>?_
   simp only [go_sem,seval,hg]
   refine ⟨⟨by omega,by omega⟩,⟨by omega,by omega⟩,fun h=>?_,fun h cap' hcap'=>?_⟩
   ·obtain ⟨e',rfl⟩:∃ e',e=e' + 1:=⟨e - 1,by omega⟩
    rw [row_put]
    refine hK _ (hN13 _ (hB12 _ ?_))
    refine Aw_tx hE [0,3,4,10,11,12,13] [72,79,95,99,700,701,710,711,712,713,714,720,721,722,723,724,740] fun K hK=>?_
    simp only [go_sem,seval]
    repeat refine sd0 ?_
    have hl1:(q++[(r 3).getD ((m:Int) - 1).toNat 0]).length=q.length + 1:=by simp
    have hmc:((m - 1:Nat):Int)=(m:Int) - 1:=by omega
    have hec:e' + 1 + q.length=e' + (q.length + 1):=by omega
    refine hK _ (hN10 (m - 1,e',q++[(r 3).getD ((m:Int) - 1).toNat 0]) _ (by simp only [hl1];omega) (by simp only;omega) ?_)
    simp only [hl1,hmc,hec]
    exact Le_wa
   ·obtain ⟨e',rfl⟩:∃ e',cap'=e' + (q.length + 1):=⟨cap' - (q.length + 1),by omega⟩
    rw [Nat.add_sub_cancel,List.append_assoc,List.singleton_append,row_snoc]
    refine hK _ (hN13 _ (hB12 _ ?_))
    refine Aw_tx hE [0,3,4,10,11,12,13] [72,79,95,99,700,701,710,711,712,713,714,720,721,722,723,724,740] fun K hK=>?_
    simp only [go_sem,seval]
    repeat refine sd0 ?_
    have hl1:(q++[(r 3).getD ((m:Int) - 1).toNat 0]).length=q.length + 1:=by simp
    have hmc:((m - 1:Nat):Int)=(m:Int) - 1:=by omega
    have hec:e' + 1 + q.length=e' + (q.length + 1):=by omega
    refine hK _ (hN10 (m - 1,e',q++[(r 3).getD ((m:Int) - 1).toNat 0]) _ (by simp only [hl1];omega) (by simp only;omega) ?_)
    simp only [hl1,hmc,hec]
    refine (Le_swb _ 95 740 (by decide) (by decide)).trans ?_
    simp only [St.swb,swbσ,swbm,AV.swb,AV.swbAll,swp,jN_swb,row_swb,Nat.reduceEqDiff,if_true,if_false,reduceIte]
    exact Le_wa
  ·simp only [dfn] at hc38
   have hq:q.length=4:=by omega
   refine Aw_exit (hX11 _ _ (hX10 _ _ (hE9 _ (hB8 _ ?_))))
   refine Aw_tx hE [0,3,4,10,11] [72,79,95,99,700,701,710,711,712,713,714,720,721,722,723,724,740] fun K hK=>?_
   simp only [go_sem,seval,hq]
   refine ⟨fun h=>?_,fun h cap' hcap'=>?_⟩
   ·obtain ⟨c1,rfl⟩:∃ c1,c'=c1 + 1:=⟨c' - 1,by omega⟩
    simp only [jN_s,List.set_cons_zero]
    refine hK _ (hN7 _ (hB6 _ ?_))
    refine Aw_tx hE [0,3,4,10,11] [72,79,95,99,700,701,710,711,712,713,714,720,721,722,723,724,740] fun K hK=>?_
    simp only [go_sem,seval]
    repeat refine sd0 ?_
    refine hK _ (hN4 (1,c1,put d' 0 e,put r' 0 q) _ ⟨by omega,put_len hr' hq⟩ (by simp only;omega) ?_)
    refine (Le_swb _ 740 720 (by decide) (by decide)).trans ?_
    simp only [St.swb,swbσ,swbm,AV.swb,AV.swbAll,swp,jN_swb,row_swb,Nat.reduceEqDiff,if_true,if_false,reduceIte]
    exact Le_wc (by simp only [go_sem,seval,put,Nat.add_assoc]) (by simp only [go_sem,seval,put])
   ·obtain ⟨c1,rfl⟩:∃ c1,cap'=c1 + 1:=⟨cap' - 1,by omega⟩
    rw [Nat.add_sub_cancel]
    refine hK _ (hN7 _ (hB6 _ ?_))
    refine Aw_tx hE [0,3,4,10,11] [72,79,95,99,700,701,710,711,712,713,714,720,721,722,723,724,740] fun K hK=>?_
    simp only [go_sem,seval]
    repeat refine sd0 ?_
    refine hK _ (hN4 (1,c1,put d' 0 e,put r' 0 q) _ ⟨by omega,put_len hr' hq⟩ (by simp only;omega) ?_)
    refine (Le_swb _ 740 720 (by decide) (by decide)).trans ?_
    simp only [St.swb,swbσ,swbm,AV.swb,AV.swbAll,swp,jN_swb,row_swb,Nat.reduceEqDiff,if_true,if_false,reduceIte]
    refine (Le_swb _ 99 701 (by decide) (by decide)).trans ?_
    simp only [St.swb,swbσ,swbm,AV.swb,AV.swbAll,swp,jN_swb,row_swb,Nat.reduceEqDiff,if_true,if_false,reduceIte]
    exact Le_wc (by simp only [go_sem,seval,put,Nat.add_assoc]) (by simp only [go_sem,seval,put])
 ·refine Aw_st hE [0,3,4,10,11,76] [72,79,95,99,700,701,710,711,712,713,714,720,721,722,723,724,740] fun K hK=>?_
  simp only [go_sem,seval]
  refine hK _ (Aw_yes rfl (Aw_skip (hB5 _ ?_)))
  refine Aw_sq fun B6 hB6 hR6 hX6=>?_
  refine Aw_bk fun B7 hN7 hE7 hR7 hX7=>?_
  refine Aw_st hE [0,3,4,10,11,12] [72,79,95,99,700,701,710,711,712,713,714,720,721,722,723,724,740] fun K hK=>?_
  simp only [go_sem,seval]
  refine hK _ ?_;clear hK K
  refine Aw_sq fun B8 hB8 hR8 hX8=>?_
  refine Aw_st hE [0,3,4,10,11,12,13] [72,79,95,99,700,701,710,711,712,713,714,720,721,722,723,724,740] fun K hK=>?_
  simp only [go_sem,seval]
  refine hK _ ?_;clear hK K
  refine Aw_bk fun B9 hN9 hE9 hR9 hX9=>?_
  refine Aw_lp (fun j:Nat × Nat × List Int=>⟨111,[(0,.rd),(3,iv 4),(4,.xs 700 0 4 (c + 4) 1),(10,.xs 701 0 1 (c' + 1) 1),(11,iv 2),(12,.xs 740 0 j.2.2.length (j.2.1 + j.2.2.length) 1),(13,iv ((j.1:Int) - 1))],(740,cI j.2.2++jN j.2.1)::(700,vws 4 d 710 4++jN c)::(701,vws 4 d' 720 1++jN c')::(bxs 4 d r 710 4++bxs 4 d' r' 720 1),rn + 1⟩) (fun j=>j.2.2.length + j.1=4) (fun j=>j.1) (4,0,[]) ?_ (by simp) fun j hj B10 hN10 hR10 hX10=>?_
  ·refine (Le_swb _ 79 740 (by decide) (by decide)).trans ?_
   simp only [St.swb,swbσ,swbm,AV.swb,AV.swbAll,swp,jN_swb,row_swb,Nat.reduceEqDiff,if_true,if_false,reduceIte]
   exact Le_wa
  obtain ⟨m,e,q⟩:=j
  simp only at hj
  refine Aw_sq fun B11 hB11 hR11 hX11=>?_
  refine Aw_st hE [0,3,4,10,11,12,13,83] [72,79,95,99,700,701,710,711,712,713,714,720,721,722,723,724,740] fun K hK=>?_
  simp only [go_sem,seval]
  refine hK _ (Aw_cond rfl (fun hc38=>?_) (fun hc38=>?_))
  ·simp only [dte] at hc38
   have hg:=rowI_drop (r 2) (d 2) ((m:Int) - 1).toNat (by omega)
   refine Aw_skip (hB11 _ ?_)
   refine Aw_sq fun B12 hB12 hR12 hX12=>?_
   refine Aw_bk fun B13 hN13 hE13 hR13 hX13=>?_
   refine Aw_tx hE [0,3,4,10,11,12,13] [72,79,95,99,700,701,710,711,712,713,714,720,721,722,723,724,740] fun K hK=>?_
   simp only [go_sem,seval,hg]
   refine ⟨⟨by omega,by omega⟩,⟨by omega,by omega⟩,fun h=>?_,fun h cap' hcap'=>?_⟩
   ·obtain ⟨e',rfl⟩:∃ e',e=e' + 1:=⟨e - 1,by omega⟩
    rw [row_put]
    refine hK _ (hN13 _ (hB12 _ ?_))
    refine Aw_tx hE [0,3,4,10,11,12,13] [72,79,95,99,700,701,710,711,712,713,714,720,721,722,723,724,740] fun K hK=>?_
    simp only [go_sem,seval]
    repeat refine sd0 ?_
    have hl1:(q++[(r 2).getD ((m:Int) - 1).toNat 0]).length=q.length + 1:=by simp
    have hmc:((m - 1:Nat):Int)=(m:Int) - 1:=by omega
    have hec:e' + 1 + q.length=e' + (q.length + 1):=by omega
    refine hK _ (hN10 (m - 1,e',q++[(r 2).getD ((m:Int) - 1).toNat 0]) _ (by simp only [hl1];omega) (by simp only;omega) ?_)
    simp only [hl1,hmc,hec]
    exact Le_wa
   ·obtain ⟨e',rfl⟩:∃ e',cap'=e' + (q.length + 1):=⟨cap' - (q.length + 1),by omega⟩
    rw [Nat.add_sub_cancel,List.append_assoc,List.singleton_append,row_snoc]
    refine hK _ (hN13 _ (hB12 _ ?_))
    refine Aw_tx hE [0,3,4,10,11,12,13] [72,79,95,99,700,701,710,711,712,713,714,720,721,722,723,724,740] fun K hK=>?_
    simp only [go_sem,seval]
    repeat refine sd0 ?_
    have hl1:(q++[(r 2).getD ((m:Int) - 1).toNat 0]).length=q.length + 1:=by simp
    have hmc:((m - 1:Nat):Int)=(m:Int) - 1:=by omega
    have hec:e' + 1 + q.length=e' + (q.length + 1):=by omega
    refine hK _ (hN10 (m - 1,e',q++[(r 2).getD ((m:Int) - 1).toNat 0]) _ (by simp only [hl1];omega) (by simp only;omega) ?_)
    simp only [hl1,hmc,hec]
    refine (Le_swb _ 95 740 (by decide) (by decide)).trans ?_
    simp only [St.swb,swbσ,swbm,AV.swb,AV.swbAll,swp,jN_swb,row_swb,Nat.reduceEqDiff,if_true,if_false,reduceIte]
    exact Le_wa
  ·simp only [dfn] at hc38
   have hq:q.length=4:=by omega
   refine Aw_exit (hX11 _ _ (hX10 _ _ (hE9 _ (hB8 _ ?_))))
   refine Aw_tx hE [0,3,4,10,11] [72,79,95,99,700,701,710,711,712,713,714,720,721,722,723,724,740] fun K hK=>?_
   simp only [go_sem,seval,hq]
   refine ⟨fun h=>?_,fun h cap' hcap'=>?_⟩
   ·obtain ⟨c1,rfl⟩:∃ c1,c'=c1 + 1:=⟨c' - 1,by omega⟩
    simp only [jN_s,List.set_cons_zero]
    refine hK _ (hN7 _ (hB6 _ ?_))
    refine Aw_tx hE [0,3,4,10,11] [72,79,95,99,700,701,710,711,712,713,714,720,721,722,723,724,740] fun K hK=>?_
    simp only [go_sem,seval]
    repeat refine sd0 ?_
    refine hK _ (hN4 (2,c1,put d' 1 e,put r' 1 q) _ ⟨by omega,put_len hr' hq⟩ (by simp only;omega) ?_)
    refine (Le_swb _ 740 721 (by decide) (by decide)).trans ?_
    simp only [St.swb,swbσ,swbm,AV.swb,AV.swbAll,swp,jN_swb,row_swb,Nat.reduceEqDiff,if_true,if_false,reduceIte]
    exact Le_wc (by simp only [go_sem,seval,put,Nat.add_assoc]) (by simp only [go_sem,seval,put])
   ·obtain ⟨c1,rfl⟩:∃ c1,cap'=c1 + 2:=⟨cap' - 2,by omega⟩
    rw [Nat.add_sub_cancel]
    refine hK _ (hN7 _ (hB6 _ ?_))
    refine Aw_tx hE [0,3,4,10,11] [72,79,95,99,700,701,710,711,712,713,714,720,721,722,723,724,740] fun K hK=>?_
    simp only [go_sem,seval]
    repeat refine sd0 ?_
    refine hK _ (hN4 (2,c1,put d' 1 e,put r' 1 q) _ ⟨by omega,put_len hr' hq⟩ (by simp only;omega) ?_)
    refine (Le_swb _ 740 721 (by decide) (by decide)).trans ?_
    simp only [St.swb,swbσ,swbm,AV.swb,AV.swbAll,swp,jN_swb,row_swb,Nat.reduceEqDiff,if_true,if_false,reduceIte]
    refine (Le_swb _ 99 701 (by decide) (by decide)).trans ?_
    simp only [St.swb,swbσ,swbm,AV.swb,AV.swbAll,swp,jN_swb,row_swb,Nat.reduceEqDiff,if_true,if_false,reduceIte]
    exact Le_wc (by simp only [go_sem,seval,put,Nat.add_assoc]) (by simp only [go_sem,seval,put])
 ·refine Aw_st hE [0,3,4,10,11,76] [72,79,95,99,700,701,710,711,712,713,714,720,721,722,723,724,740] fun K hK=>?_
  simp only [go_sem,seval]
  refine hK _ (Aw_yes rfl (Aw_skip (hB5 _ ?_)))
  refine Aw_sq fun B6 hB6 hR6 hX6=>?_
  refine Aw_bk fun B7 hN7 hE7 hR7 hX7=>?_
  refine Aw_st hE [0,3,4,10,11,12] [72,79,95,99,700,701,710,711,712,713,714,720,721,722,723,724,740] fun K hK=>?_
  simp only [go_sem,seval]
  refine hK _ ?_;clear hK K
  refine Aw_sq fun B8 hB8 hR8 hX8=>?_
  refine Aw_st hE [0,3,4,10,11,12,13] [72,79,95,99,700,701,710,711,712,713,714,720,721,722,723,724,740] fun K hK=>?_
  simp only [go_sem,seval]
  refine hK _ ?_;clear hK K
  refine Aw_bk fun B9 hN9 hE9 hR9 hX9=>?_
  refine Aw_lp (fun j:Nat × Nat × List Int=>⟨111,[(0,.rd),(3,iv 4),(4,.xs 700 0 4 (c + 4) 1),(10,.xs 701 0 2 (c' + 2) 1),(11,iv 1),(12,.xs 740 0 j.2.2.length (j.2.1 + j.2.2.length) 1),(13,iv ((j.1:Int) - 1))],(740,cI j.2.2++jN j.2.1)::(700,vws 4 d 710 4++jN c)::(701,vws 4 d' 720 2++jN c')::(bxs 4 d r 710 4++bxs 4 d' r' 720 2),rn + 1⟩) (fun j=>j.2.2.length + j.1=4) (fun j=>j.1) (4,0,[]) ?_ (by simp) fun j hj B10 hN10 hR10 hX10=>?_
  ·refine (Le_swb _ 79 740 (by decide) (by decide)).trans ?_
   simp only [St.swb,swbσ,swbm,AV.swb,AV.swbAll,swp,jN_swb,row_swb,Nat.reduceEqDiff,if_true,if_false,reduceIte]
   exact Le_wa
  obtain ⟨m,e,q⟩:=j
  simp only at hj
  refine Aw_sq fun B11 hB11 hR11 hX11=>?_
  refine Aw_st hE [0,3,4,10,11,12,13,83] [72,79,95,99,700,701,710,711,712,713,714,720,721,722,723,724,740] fun K hK=>?_
  simp only [go_sem,seval]
  refine hK _ (Aw_cond rfl (fun hc38=>?_) (fun hc38=>?_))
  ·simp only [dte] at hc38
   have hg:=rowI_drop (r 1) (d 1) ((m:Int) - 1).toNat (by omega)
   refine Aw_skip (hB11 _ ?_)
   refine Aw_sq fun B12 hB12 hR12 hX12=>?_
   refine Aw_bk fun B13 hN13 hE13 hR13 hX13=>?_
   refine Aw_tx hE [0,3,4,10,11,12,13] [72,79,95,99,700,701,710,711,712,713,714,720,721,722,723,724,740] fun K hK=>?_
   simp only [go_sem,seval,hg]
   refine ⟨⟨by omega,by omega⟩,⟨by omega,by omega⟩,fun h=>?_,fun h cap' hcap'=>?_⟩
   ·obtain ⟨e',rfl⟩:∃ e',e=e' + 1:=⟨e - 1,by omega⟩
    rw [row_put]
    refine hK _ (hN13 _ (hB12 _ ?_))
    refine Aw_tx hE [0,3,4,10,11,12,13] [72,79,95,99,700,701,710,711,712,713,714,720,721,722,723,724,740] fun K hK=>?_
    simp only [go_sem,seval]
    repeat refine sd0 ?_
    have hl1:(q++[(r 1).getD ((m:Int) - 1).toNat 0]).length=q.length + 1:=by simp
    have hmc:((m - 1:Nat):Int)=(m:Int) - 1:=by omega
    have hec:e' + 1 + q.length=e' + (q.length + 1):=by omega
    refine hK _ (hN10 (m - 1,e',q++[(r 1).getD ((m:Int) - 1).toNat 0]) _ (by simp only [hl1];omega) (by simp only;omega) ?_)
    simp only [hl1,hmc,hec]
    exact Le_wa
   ·obtain ⟨e',rfl⟩:∃ e',cap'=e' + (q.length + 1):=⟨cap' - (q.length + 1),by omega⟩
    rw [Nat.add_sub_cancel,List.append_assoc,List.singleton_append,row_snoc]
    refine hK _ (hN13 _ (hB12 _ ?_))
    refine Aw_tx hE [0,3,4,10,11,12,13] [72,79,95,99,700,701,710,711,712,713,714,720,721,722,723,724,740] fun K hK=>?_
    simp only [go_sem,seval]
    repeat refine sd0 ?_
    have hl1:(q++[(r 1).getD ((m:Int) - 1).toNat 0]).length=q.length + 1:=by simp
    have hmc:((m - 1:Nat):Int)=(m:Int) - 1:=by omega
    have hec:e' + 1 + q.length=e' + (q.length + 1):=by omega
    refine hK _ (hN10 (m - 1,e',q++[(r 1).getD ((m:Int) - 1).toNat 0]) _ (by simp only [hl1];omega) (by simp only;omega) ?_)
    simp only [hl1,hmc,hec]
    refine (Le_swb _ 95 740 (by decide) (by decide)).trans ?_
    simp only [St.swb,swbσ,swbm,AV.swb,AV.swbAll,swp,jN_swb,row_swb,Nat.reduceEqDiff,if_true,if_false,reduceIte]
    exact Le_wa
  ·simp only [dfn] at hc38
   have hq:q.length=4:=by omega
   refine Aw_exit (hX11 _ _ (hX10 _ _ (hE9 _ (hB8 _ ?_))))
   refine Aw_tx hE [0,3,4,10,11] [72,79,95,99,700,701,710,711,712,713,714,720,721,722,723,724,740] fun K hK=>?_
   simp only [go_sem,seval,hq]
   refine ⟨fun h=>?_,fun h cap' hcap'=>?_⟩
   ·obtain ⟨c1,rfl⟩:∃ c1,c'=c1 + 1:=⟨c' - 1,by omega⟩
    simp only [jN_s,List.set_cons_zero]
    refine hK _ (hN7 _ (hB6 _ ?_))
    refine Aw_tx hE [0,3,4,10,11] [72,79,95,99,700,701,710,711,712,713,714,720,721,722,723,724,740] fun K hK=>?_
    simp only [go_sem,seval]
    repeat refine sd0 ?_
    refine hK _ (hN4 (3,c1,put d' 2 e,put r' 2 q) _ ⟨by omega,put_len hr' hq⟩ (by simp only;omega) ?_)
    refine (Le_swb _ 740 722 (by decide) (by decide)).trans ?_
    simp only [St.swb,swbσ,swbm,AV.swb,AV.swbAll,swp,jN_swb,row_swb,Nat.reduceEqDiff,if_true,if_false,reduceIte]
    exact Le_wc (by simp only [go_sem,seval,put,Nat.add_assoc]) (by simp only [go_sem,seval,put])
   ·obtain ⟨c1,rfl⟩:∃ c1,cap'=c1 + 3:=⟨cap' - 3,by omega⟩
    rw [Nat.add_sub_cancel]
    refine hK _ (hN7 _ (hB6 _ ?_))
    refine Aw_tx hE [0,3,4,10,11] [72,79,95,99,700,701,710,711,712,713,714,720,721,722,723,724,740] fun K hK=>?_
    simp only [go_sem,seval]
    repeat refine sd0 ?_
    refine hK _ (hN4 (3,c1,put d' 2 e,put r' 2 q) _ ⟨by omega,put_len hr' hq⟩ (by simp only;omega) ?_)
    refine (Le_swb _ 740 722 (by decide) (by decide)).trans ?_
    simp only [St.swb,swbσ,swbm,AV.swb,AV.swbAll,swp,jN_swb,row_swb,Nat.reduceEqDiff,if_true,if_false,reduceIte]
    refine (Le_swb _ 99 701 (by decide) (by decide)).trans ?_
    simp only [St.swb,swbσ,swbm,AV.swb,AV.swbAll,swp,jN_swb,row_swb,Nat.reduceEqDiff,if_true,if_false,reduceIte]
    exact Le_wc (by simp only [go_sem,seval,put,Nat.add_assoc]) (by simp only [go_sem,seval,put])
 ·refine Aw_st hE [0,3,4,10,11,76] [72,79,95,99,700,701,710,711,712,713,714,720,721,722,723,724,740] fun K hK=>?_
  simp only [go_sem,seval]
  refine hK _ (Aw_yes rfl (Aw_skip (hB5 _ ?_)))
  refine Aw_sq fun B6 hB6 hR6 hX6=>?_
  refine Aw_bk fun B7 hN7 hE7 hR7 hX7=>?_
  refine Aw_st hE [0,3,4,10,11,12] [72,79,95,99,700,701,710,711,712,713,714,720,721,722,723,724,740] fun K hK=>?_
  simp only [go_sem,seval]
  refine hK _ ?_;clear hK K
  refine Aw_sq fun B8 hB8 hR8 hX8=>?_
  refine Aw_st hE [0,3,4,10,11,12,13] [72,79,95,99,700,701,710,711,712,713,714,720,721,722,723,724,740] fun K hK=>?_
  simp only [go_sem,seval]
  refine hK _ ?_;clear hK K
  refine Aw_bk fun B9 hN9 hE9 hR9 hX9=>?_
  refine Aw_lp (fun j:Nat × Nat × List Int=>⟨111,[(0,.rd),(3,iv 4),(4,.xs 700 0 4 (c + 4) 1),(10,.xs 701 0 3 (c' + 3) 1),(11,iv 0),(12,.xs 740 0 j.2.2.length (j.2.1 + j.2.2.length) 1),(13,iv ((j.1:Int) - 1))],(740,cI j.2.2++jN j.2.1)::(700,vws 4 d 710 4++jN c)::(701,vws 4 d' 720 3++jN c')::(bxs 4 d r 710 4++bxs 4 d' r' 720 3),rn + 1⟩) (fun j=>j.2.2.length + j.1=4) (fun j=>j.1) (4,0,[]) ?_ (by simp) fun j hj B10 hN10 hR10 hX10=>?_
  ·refine (Le_swb _ 79 740 (by decide) (by decide)).trans ?_
   simp only [St.swb,swbσ,swbm,AV.swb,AV.swbAll,swp,jN_swb,row_swb,Nat.reduceEqDiff,if_true,if_false,reduceIte]
   exact Le_wa
  obtain ⟨m,e,q⟩:=j
  simp only at hj
  refine Aw_sq fun B11 hB11 hR11 hX11=>?_
  refine Aw_st hE [0,3,4,10,11,12,13,83] [72,79,95,99,700,701,710,711,712,713,714,720,721,722,723,724,740] fun K hK=>?_
  simp only [go_sem,seval]
  refine hK _ (Aw_cond rfl (fun hc38=>?_) (fun hc38=>?_))
  ·simp only [dte] at hc38
   have hg:=rowI_drop (r 0) (d 0) ((m:Int) - 1).toNat (by omega)
   refine Aw_skip (hB11 _ ?_)
   refine Aw_sq fun B12 hB12 hR12 hX12=>?_
   refine Aw_bk fun B13 hN13 hE13 hR13 hX13=>?_
   refine Aw_tx hE [0,3,4,10,11,12,13] [72,79,95,99,700,701,710,711,712,713,714,720,721,722,723,724,740] fun K hK=>?_
   simp only [go_sem,seval,hg]
   refine ⟨⟨by omega,by omega⟩,⟨by omega,by omega⟩,fun h=>?_,fun h cap' hcap'=>?_⟩
   ·obtain ⟨e',rfl⟩:∃ e',e=e' + 1:=⟨e - 1,by omega⟩
    rw [row_put]
    refine hK _ (hN13 _ (hB12 _ ?_))
    refine Aw_tx hE [0,3,4,10,11,12,13] [72,79,95,99,700,701,710,711,712,713,714,720,721,722,723,724,740] fun K hK=>?_
    simp only [go_sem,seval]
    repeat refine sd0 ?_
    have hl1:(q++[(r 0).getD ((m:Int) - 1).toNat 0]).length=q.length + 1:=by simp
    have hmc:((m - 1:Nat):Int)=(m:Int) - 1:=by omega
    have hec:e' + 1 + q.length=e' + (q.length + 1):=by omega
    refine hK _ (hN10 (m - 1,e',q++[(r 0).getD ((m:Int) - 1).toNat 0]) _ (by simp only [hl1];omega) (by simp only;omega) ?_)
    simp only [hl1,hmc,hec]
    exact Le_wa
   ·obtain ⟨e',rfl⟩:∃ e',cap'=e' + (q.length + 1):=⟨cap' - (q.length + 1),by omega⟩
    rw [Nat.add_sub_cancel,List.append_assoc,List.singleton_append,row_snoc]
    refine hK _ (hN13 _ (hB12 _ ?_))
    refine Aw_tx hE [0,3,4,10,11,12,13] [72,79,95,99,700,701,710,711,712,713,714,720,721,722,723,724,740] fun K hK=>?_
    simp only [go_sem,seval]
    repeat refine sd0 ?_
    have hl1:(q++[(r 0).getD ((m:Int) - 1).toNat 0]).length=q.length + 1:=by simp
    have hmc:((m - 1:Nat):Int)=(m:Int) - 1:=by omega
    have hec:e' + 1 + q.length=e' + (q.length + 1):=by omega
    refine hK _ (hN10 (m - 1,e',q++[(r 0).getD ((m:Int) - 1).toNat 0]) _ (by simp only [hl1];omega) (by simp only;omega) ?_)
    simp only [hl1,hmc,hec]
    refine (Le_swb _ 95 740 (by decide) (by decide)).trans ?_
    simp only [St.swb,swbσ,swbm,AV.swb,AV.swbAll,swp,jN_swb,row_swb,Nat.reduceEqDiff,if_true,if_false,reduceIte]
    exact Le_wa
  ·simp only [dfn] at hc38
   have hq:q.length=4:=by omega
   refine Aw_exit (hX11 _ _ (hX10 _ _ (hE9 _ (hB8 _ ?_))))
   refine Aw_tx hE [0,3,4,10,11] [72,79,95,99,700,701,710,711,712,713,714,720,721,722,723,724,740] fun K hK=>?_
   simp only [go_sem,seval,hq]
   refine ⟨fun h=>?_,fun h cap' hcap'=>?_⟩
   ·obtain ⟨c1,rfl⟩:∃ c1,c'=c1 + 1:=⟨c' - 1,by omega⟩
    simp only [jN_s,List.set_cons_zero]
    refine hK _ (hN7 _ (hB6 _ ?_))
    refine Aw_tx hE [0,3,4,10,11] [72,79,95,99,700,701,710,711,712,713,714,720,721,722,723,724,740] fun K hK=>?_
    simp only [go_sem,seval]
    repeat refine sd0 ?_
    refine hK _ (hN4 (4,c1,put d' 3 e,put r' 3 q) _ ⟨by omega,put_len hr' hq⟩ (by simp only;omega) ?_)
    refine (Le_swb _ 740 723 (by decide) (by decide)).trans ?_
    simp only [St.swb,swbσ,swbm,AV.swb,AV.swbAll,swp,jN_swb,row_swb,Nat.reduceEqDiff,if_true,if_false,reduceIte]
    exact Le_wc (by simp only [go_sem,seval,put,Nat.add_assoc]) (by simp only [go_sem,seval,put])
   ·obtain ⟨c1,rfl⟩:∃ c1,cap'=c1 + 4:=⟨cap' - 4,by omega⟩
    rw [Nat.add_sub_cancel]
    refine hK _ (hN7 _ (hB6 _ ?_))
    refine Aw_tx hE [0,3,4,10,11] [72,79,95,99,700,701,710,711,712,713,714,720,721,722,723,724,740] fun K hK=>?_
    simp only [go_sem,seval]
    repeat refine sd0 ?_
    refine hK _ (hN4 (4,c1,put d' 3 e,put r' 3 q) _ ⟨by omega,put_len hr' hq⟩ (by simp only;omega) ?_)
    refine (Le_swb _ 740 723 (by decide) (by decide)).trans ?_
    simp only [St.swb,swbσ,swbm,AV.swb,AV.swbAll,swp,jN_swb,row_swb,Nat.reduceEqDiff,if_true,if_false,reduceIte]
    refine (Le_swb _ 99 701 (by decide) (by decide)).trans ?_
    simp only [St.swb,swbσ,swbm,AV.swb,AV.swbAll,swp,jN_swb,row_swb,Nat.reduceEqDiff,if_true,if_false,reduceIte]
    exact Le_wc (by simp only [go_sem,seval,put,Nat.add_assoc]) (by simp only [go_sem,seval,put])
set_option maxHeartbeats 16000000 in
theorem relsR5 {E:En} (hE:TbOk E tbRels) {k:Nat} (hk:k + 40≤1099511627776) {Q:Exit→St→Prop} (hQ:∀ (L:List (List Int)) (rn:Nat),(2≤L.length∧L.length≤5)→(∀ w ∈ L,w.length=L.length)→rn≤k + 40→Aw E .ret ⟨111,[(2,wsl L)],[],rn⟩ Q) {r:Nat→List Int} (hr:∀ q,(r q).length=5) {d:Nat→Nat} {c rn:Nat} (hrn:rn≤k + 29):Aw E (seqB (seqB (seqB (seqB (seqB (seqB (Tryd.f68.body.getD .skip))))))) ⟨111,[(0,.rd),(3,iv 5),(4,.xs 700 0 5 (c + 5) 1)],(700,vws 5 d 710 5++jN c)::bxs 5 d r 710 5,rn⟩ Q:=by
 have hr0:=hr 0
 have hr1:=hr 1
 have hr2:=hr 2
 have hr3:=hr 3
 have hr4:=hr 4
 refine Aw_sqJ (fun i:(Nat→Nat) × (Nat→List Int) × Nat × Nat=>⟨111,[(0,.rd),(4,.xs 700 0 5 (i.2.2.1 + 5) 1)],(700,vws 5 i.1 710 5++jN i.2.2.1)::bxs 5 i.1 i.2.1 710 5,i.2.2.2⟩) (fun i=>(∀ x,(i.2.1 x).length=5)∧i.2.2.2≤k + 30) (fun i hi=>relsT5 hE hk hQ hi.1 hi.2) fun B1 hB1 hR1 hX1=>?_
 refine Aw_st hE [0,3,4,71] [72,79,95,99,700,701,710,711,712,713,714,720,721,722,723,724,740] fun K hK=>?_
 simp only [go_sem,seval]
 refine ⟨by omega,fun x hx1 hx2=>?_⟩
 refine hK _ (Aw_cond rfl (fun hc=>?_) (fun hc=>?_))
 rotate_left
 ·exact Aw_skip (hB1 (d,r,c,rn + 1) _ ⟨hr,by simp only;omega⟩ (LeE_of (Le_wa)))
 refine Aw_st hE [0,3,4,10] [72,79,95,99,700,701,710,711,712,713,714,720,721,722,723,724,740] fun K hK=>?_
 simp only [go_sem,seval]
 refine hK _ ?_;clear hK K
 refine Aw_sq fun B2 hB2 hR2 hX2=>?_
 refine Aw_st hE [0,3,4,10,11] [72,79,95,99,700,701,710,711,712,713,714,720,721,722,723,724,740] fun K hK=>?_
 simp only [go_sem,seval]
 refine hK _ ?_;clear hK K
 refine Aw_bk fun B3 hN3 hE3 hR3 hX3=>?_
 refine Aw_lp (fun i:Nat × Nat × (Nat→Nat) × (Nat→List Int)=>⟨111,[(0,.rd),(3,iv 5),(4,.xs 700 0 5 (c + 5) 1),(10,.xs 701 0 i.1 (i.2.1 + i.1) 1),(11,iv ((5:Int) - 1 - (i.1:Int)))],(700,vws 5 d 710 5++jN c)::(701,vws 5 i.2.2.1 720 i.1++jN i.2.1)::(bxs 5 d r 710 5++bxs 5 i.2.2.1 i.2.2.2 720 i.1),rn + 1⟩) (fun i=>i.1≤5∧∀ x,(i.2.2.2 x).length=5) (fun i=>5 - i.1) (0,0,d,r) ?_ ⟨by omega,hr⟩ fun i hi B4 hN4 hR4 hX4=>?_
 ·refine (Le_swb _ 72 701 (by decide) (by decide)).trans ?_
  simp only [St.swb,swbσ,swbm,AV.swb,AV.swbAll,swp,jN_swb,row_swb,Nat.reduceEqDiff,if_true,if_false,reduceIte]
  exact Le_wa
 obtain ⟨i,c',d',r'⟩:=i
 obtain ⟨hi,hr'⟩:=hi
 simp only at hi hr'
 refine Aw_sq fun B5 hB5 hR5 hX5=>?_
 rcases (show i=5∨i=0∨i=1∨i=2∨i=3∨i=4 by omega) with rfl | rfl | rfl | rfl | rfl | rfl
 ·refine Aw_st hE [0,3,4,10,11,76] [72,79,95,99,700,701,710,711,712,713,714,720,721,722,723,724,740] fun K hK=>?_
  simp only [go_sem,seval]
  refine hK _ (Aw_no rfl (Aw_exit (hX5 _ _ (hX4 _ _ (hE3 _ (hB2 _ ?_))))))
  refine Aw_tx hE [0,4] [72,79,95,99,700,701,710,711,712,713,714,720,721,722,723,724,740] fun K hK=>?_
  simp only [go_sem,seval]
  refine hK _ (hB1 (d',r',c',rn + 1) _ ⟨hr',by simp only;omega⟩ (LeE_of ?_))
  refine (Le_swb _ 701 700 (by decide) (by decide)).trans ((Le_swb _ 720 710 (by decide) (by decide)).trans ((Le_swb _ 721 711 (by decide) (by decide)).trans ((Le_swb _ 722 712 (by decide) (by decide)).trans ((Le_swb _ 723 713 (by decide) (by decide)).trans ((Le_swb _ 724 714 (by decide) (by decide)).trans ?_)))))
  simp only [St.swb,swbσ,swbm,AV.swb,AV.swbAll,swp,jN_swb,row_swb,Nat.reduceEqDiff,if_true,if_false,reduceIte]
  exact Le_wa
 ·refine Aw_st hE [0,3,4,10,11,76] [72,79,95,99,700,701,710,711,712,713,714,720,721,722,723,724,740] fun K hK=>?_
  simp only [go_sem,seval]
  refine hK _ (Aw_yes rfl (Aw_skip (hB5 _ ?_)))
  refine Aw_sq fun B6 hB6 hR6 hX6=>?_
  refine Aw_bk fun B7 hN7 hE7 hR7 hX7=>?_
  refine Aw_st hE [0,3,4,10,11,12] [72,79,95,99,700,701,710,711,712,713,714,720,721,722,723,724,740] fun K hK=>?_
  simp only [go_sem,seval]
  refine hK _ ?_;clear hK K
  refine Aw_sq fun B8 hB8 hR8 hX8=>?_
  refine Aw_st hE [0,3,4,10,11,12,13] [72,79,95,99,700,701,710,711,712,713,714,720,721,722,723,724,740] fun K hK=>?_
  simp only [go_sem,seval]
  refine hK _ ?_;clear hK K
  refine Aw_bk fun B9 hN9 hE9 hR9 hX9=>?_
  refine Aw_lp (fun j:Nat × Nat × List Int=>⟨111,[(0,.rd),(3,iv 5),(4,.xs 700 0 5 (c + 5) 1),(10,.xs 701 0 0 (c' + 0) 1),(11,iv 4),(12,.xs 740 0 j.2.2.length (j.2.1 + j.2.2.length) 1),(13,iv ((j.1:Int) - 1))],(740,cI j.2.2++jN j.2.1)::(700,vws 5 d 710 5++jN c)::(701,vws 5 d' 720 0++jN c')::(bxs 5 d r 710 5++bxs 5 d' r' 720 0),rn + 1⟩) (fun j=>j.2.2.length + j.1=5) (fun j=>j.1) (5,0,[]) ?_ (by simp) fun j hj B10 hN10 hR10 hX10=>?_
  ·refine (Le_swb _ 79 740 (by decide) (by decide)).trans ?_
   simp only [St.swb,swbσ,swbm,AV.swb,AV.swbAll,swp,jN_swb,row_swb,Nat.reduceEqDiff,if_true,if_false,reduceIte]
   exact Le_wa
  obtain ⟨m,e,q⟩:=j
  simp only at hj
  refine Aw_sq fun B11 hB11 hR11 hX11=>?_
  refine Aw_st hE [0,3,4,10,11,12,13,83] [72,79,95,99,700,701,710,711,712,713,714,720,721,722,723,724,740] fun K hK=>?_
  simp only [go_sem,seval]
  refine hK _ (Aw_cond rfl (fun hc38=>?_) (fun hc38=>?_))
  ·simp only [dte] at hc38
   have hg:=rowI_drop (r 4) (d 4) ((m:Int) - 1).toNat (by omega)
   refine Aw_skip (hB11 _ ?_)
   refine Aw_sq fun B12 hB12 hR12 hX12=>?_
   refine Aw_bk fun B13 hN13 hE13 hR13 hX13=>?_
   refine Aw_tx hE [0,3,4,10,11,12,13] [72,79,95,99,700,701,710,711,712,713,714,720,721,722,723,724,740] fun K hK=>?_
   simp only [go_sem,seval,hg]
   refine ⟨⟨by omega,by omega⟩,⟨by omega,by omega⟩,fun h=>?_,fun h cap' hcap'=>?_⟩
   ·obtain ⟨e',rfl⟩:∃ e',e=e' + 1:=⟨e - 1,by omega⟩
    rw [row_put]
    refine hK _ (hN13 _ (hB12 _ ?_))
    refine Aw_tx hE [0,3,4,10,11,12,13] [72,79,95,99,700,701,710,711,712,713,714,720,721,722,723,724,740] fun K hK=>?_
    simp only [go_sem,seval]
    repeat refine sd0 ?_
    have hl1:(q++[(r 4).getD ((m:Int) - 1).toNat 0]).length=q.length + 1:=by simp
    have hmc:((m - 1:Nat):Int)=(m:Int) - 1:=by omega
    have hec:e' + 1 + q.length=e' + (q.length + 1):=by omega
    refine hK _ (hN10 (m - 1,e',q++[(r 4).getD ((m:Int) - 1).toNat 0]) _ (by simp only [hl1];omega) (by simp only;omega) ?_)
    simp only [hl1,hmc,hec]
    exact Le_wa
   ·obtain ⟨e',rfl⟩:∃ e',cap'=e' + (q.length + 1):=⟨cap' - (q.length + 1),by omega⟩
    rw [Nat.add_sub_cancel,List.append_assoc,List.singleton_append,row_snoc]
    refine hK _ (hN13 _ (hB12 _ ?_))
    refine Aw_tx hE [0,3,4,10,11,12,13] [72,79,95,99,700,701,710,711,712,713,714,720,721,722,723,724,740] fun K hK=>?_
    simp only [go_sem,seval]
    repeat refine sd0 ?_
    have hl1:(q++[(r 4).getD ((m:Int) - 1).toNat 0]).length=q.length + 1:=by simp
    have hmc:((m - 1:Nat):Int)=(m:Int) - 1:=by omega
    have hec:e' + 1 + q.length=e' + (q.length + 1):=by omega
    refine hK _ (hN10 (m - 1,e',q++[(r 4).getD ((m:Int) - 1).toNat 0]) _ (by simp only [hl1];omega) (by simp only;omega) ?_)
    simp only [hl1,hmc,hec]
    refine (Le_swb _ 95 740 (by decide) (by decide)).trans ?_
    simp only [St.swb,swbσ,swbm,AV.swb,AV.swbAll,swp,jN_swb,row_swb,Nat.reduceEqDiff,if_true,if_false,reduceIte]
    exact Le_wa
  ·simp only [dfn] at hc38
   have hq:q.length=5:=by omega
   refine Aw_exit (hX11 _ _ (hX10 _ _ (hE9 _ (hB8 _ ?_))))
   refine Aw_tx hE [0,3,4,10,11] [72,79,95,99,700,701,710,711,712,713,714,720,721,722,723,724,740] fun K hK=>?_
   simp only [go_sem,seval,hq]
   refine ⟨fun h=>?_,fun h cap' hcap'=>?_⟩
   ·obtain ⟨c1,rfl⟩:∃ c1,c'=c1 + 1:=⟨c' - 1,by omega⟩
    simp only [jN_s,List.set_cons_zero]
    refine hK _ (hN7 _ (hB6 _ ?_))
    refine Aw_tx hE [0,3,4,10,11] [72,79,95,99,700,701,710,711,712,713,714,720,721,722,723,724,740] fun K hK=>?_
    simp only [go_sem,seval]
    repeat refine sd0 ?_
    refine hK _ (hN4 (1,c1,put d' 0 e,put r' 0 q) _ ⟨by omega,put_len hr' hq⟩ (by simp only;omega) ?_)
    refine (Le_swb _ 740 720 (by decide) (by decide)).trans ?_
    simp only [St.swb,swbσ,swbm,AV.swb,AV.swbAll,swp,jN_swb,row_swb,Nat.reduceEqDiff,if_true,if_false,reduceIte]
    exact Le_wc (by simp only [go_sem,seval,put,Nat.add_assoc]) (by simp only [go_sem,seval,put])
   ·obtain ⟨c1,rfl⟩:∃ c1,cap'=c1 + 1:=⟨cap' - 1,by omega⟩
    rw [Nat.add_sub_cancel]
    refine hK _ (hN7 _ (hB6 _ ?_))
    refine Aw_tx hE [0,3,4,10,11] [72,79,95,99,700,701,710,711,712,713,714,720,721,722,723,724,740] fun K hK=>?_
    simp only [go_sem,seval]
    repeat refine sd0 ?_
    refine hK _ (hN4 (1,c1,put d' 0 e,put r' 0 q) _ ⟨by omega,put_len hr' hq⟩ (by simp only;omega) ?_)
    refine (Le_swb _ 740 720 (by decide) (by decide)).trans ?_
    simp only [St.swb,swbσ,swbm,AV.swb,AV.swbAll,swp,jN_swb,row_swb,Nat.reduceEqDiff,if_true,if_false,reduceIte]
    refine (Le_swb _ 99 701 (by decide) (by decide)).trans ?_
    simp only [St.swb,swbσ,swbm,AV.swb,AV.swbAll,swp,jN_swb,row_swb,Nat.reduceEqDiff,if_true,if_false,reduceIte]
    exact Le_wc (by simp only [go_sem,seval,put,Nat.add_assoc]) (by simp only [go_sem,seval,put])
 ·refine Aw_st hE [0,3,4,10,11,76] [72,79,95,99,700,701,710,711,712,713,714,720,721,722,723,724,740] fun K hK=>?_
  simp only [go_sem,seval]
  refine hK _ (Aw_yes rfl (Aw_skip (hB5 _ ?_)))
  refine Aw_sq fun B6 hB6 hR6 hX6=>?_
  refine Aw_bk fun B7 hN7 hE7 hR7 hX7=>?_
  refine Aw_st hE [0,3,4,10,11,12] [72,79,95,99,700,701,710,711,712,713,714,720,721,722,723,724,740] fun K hK=>?_
  simp only [go_sem,seval]
  refine hK _ ?_;clear hK K
  refine Aw_sq fun B8 hB8 hR8 hX8=>?_
  refine Aw_st hE [0,3,4,10,11,12,13] [72,79,95,99,700,701,710,711,712,713,714,720,721,722,723,724,740] fun K hK=>?_
  simp only [go_sem,seval]
  refine hK _ ?_;clear hK K
  refine Aw_bk fun B9 hN9 hE9 hR9 hX9=>?_
  refine Aw_lp (fun j:Nat × Nat × List Int=>⟨111,[(0,.rd),(3,iv 5),(4,.xs 700 0 5 (c + 5) 1),(10,.xs 701 0 1 (c' + 1) 1),(11,iv 3),(12,.xs 740 0 j.2.2.length (j.2.1 + j.2.2.length) 1),(13,iv ((j.1:Int) - 1))],(740,cI j.2.2++jN j.2.1)::(700,vws 5 d 710 5++jN c)::(701,vws 5 d' 720 1++jN c')::(bxs 5 d r 710 5++bxs 5 d' r' 720 1),rn + 1⟩) (fun j=>j.2.2.length + j.1=5) (fun j=>j.1) (5,0,[]) ?_ (by simp) fun j hj B10 hN10 hR10 hX10=>?_
  ·refine (Le_swb _ 79 740 (by decide) (by decide)).trans ?_
   simp only [St.swb,swbσ,swbm,AV.swb,AV.swbAll,swp,jN_swb,row_swb,Nat.reduceEqDiff,if_true,if_false,reduceIte]
   exact Le_wa
  obtain ⟨m,e,q⟩:=j
  simp only at hj
  refine Aw_sq fun B11 hB11 hR11 hX11=>?_
  refine Aw_st hE [0,3,4,10,11,12,13,83] [72,79,95,99,700,701,710,711,712,713,714,720,721,722,723,724,740] fun K hK=>?_
  simp only [go_sem,seval]
  refine hK _ (Aw_cond rfl (fun hc38=>?_) (fun hc38=>?_))
  ·simp only [dte] at hc38
   have hg:=rowI_drop (r 3) (d 3) ((m:Int) - 1).toNat (by omega)
   refine Aw_skip (hB11 _ ?_)
   refine Aw_sq fun B12 hB12 hR12 hX12=>?_
   refine Aw_bk fun B13 hN13 hE13 hR13 hX13=>?_
   refine Aw_tx hE [0,3,4,10,11,12,13] [72,79,95,99,700,701,710,711,712,713,714,720,721,722,723,724,740] fun K hK=>?_
   simp only [go_sem,seval,hg]
   refine ⟨⟨by omega,by omega⟩,⟨by omega,by omega⟩,fun h=>?_,fun h cap' hcap'=>?_⟩
   ·obtain ⟨e',rfl⟩:∃ e',e=e' + 1:=⟨e - 1,by omega⟩
    rw [row_put]
    refine hK _ (hN13 _ (hB12 _ ?_))
    refine Aw_tx hE [0,3,4,10,11,12,13] [72,79,95,99,700,701,710,711,712,713,714,720,721,722,723,724,740] fun K hK=>?_
    simp only [go_sem,seval]
    repeat refine sd0 ?_
    have hl1:(q++[(r 3).getD ((m:Int) - 1).toNat 0]).length=q.length + 1:=by simp
    have hmc:((m - 1:Nat):Int)=(m:Int) - 1:=by omega
    have hec:e' + 1 + q.length=e' + (q.length + 1):=by omega
    refine hK _ (hN10 (m - 1,e',q++[(r 3).getD ((m:Int) - 1).toNat 0]) _ (by simp only [hl1];omega) (by simp only;omega) ?_)
    simp only [hl1,hmc,hec]
    exact Le_wa
   ·obtain ⟨e',rfl⟩:∃ e',cap'=e' + (q.length + 1):=⟨cap' - (q.length + 1),by omega⟩
    rw [Nat.add_sub_cancel,List.append_assoc,List.singleton_append,row_snoc]
    refine hK _ (hN13 _ (hB12 _ ?_))
    refine Aw_tx hE [0,3,4,10,11,12,13] [72,79,95,99,700,701,710,711,712,713,714,720,721,722,723,724,740] fun K hK=>?_
    simp only [go_sem,seval]
    repeat refine sd0 ?_
    have hl1:(q++[(r 3).getD ((m:Int) - 1).toNat 0]).length=q.length + 1:=by simp
    have hmc:((m - 1:Nat):Int)=(m:Int) - 1:=by omega
    have hec:e' + 1 + q.length=e' + (q.length + 1):=by omega
    refine hK _ (hN10 (m - 1,e',q++[(r 3).getD ((m:Int) - 1).toNat 0]) _ (by simp only [hl1];omega) (by simp only;omega) ?_)
    simp only [hl1,hmc,hec]
    refine (Le_swb _ 95 740 (by decide) (by decide)).trans ?_
    simp only [St.swb,swbσ,swbm,AV.swb,AV.swbAll,swp,jN_swb,row_swb,Nat.reduceEqDiff,if_true,if_false,reduceIte]
    exact Le_wa
  ·simp only [dfn] at hc38
   have hq:q.length=5:=by omega
   refine Aw_exit (hX11 _ _ (hX10 _ _ (hE9 _ (hB8 _ ?_))))
   refine Aw_tx hE [0,3,4,10,11] [72,79,95,99,700,701,710,711,712,713,714,720,721,722,723,724,740] fun K hK=>?_
   simp only [go_sem,seval,hq]
   refine ⟨fun h=>?_,fun h cap' hcap'=>?_⟩
   ·obtain ⟨c1,rfl⟩:∃ c1,c'=c1 + 1:=⟨c' - 1,by omega⟩
    simp only [jN_s,List.set_cons_zero]
    refine hK _ (hN7 _ (hB6 _ ?_))
    refine Aw_tx hE [0,3,4,10,11] [72,79,95,99,700,701,710,711,712,713,714,720,721,722,723,724,740] fun K hK=>?_
    simp only [go_sem,seval]
    repeat refine sd0 ?_
    refine hK _ (hN4 (2,c1,put d' 1 e,put r' 1 q) _ ⟨by omega,put_len hr' hq⟩ (by simp only;omega) ?_)
    refine (Le_swb _ 740 721 (by decide) (by decide)).trans ?_
    simp only [St.swb,swbσ,swbm,AV.swb,AV.swbAll,swp,jN_swb,row_swb,Nat.reduceEqDiff,if_true,if_false,reduceIte]
    exact Le_wc (by simp only [go_sem,seval,put,Nat.add_assoc]) (by simp only [go_sem,seval,put])
   ·obtain ⟨c1,rfl⟩:∃ c1,cap'=c1 + 2:=⟨cap' - 2,by omega⟩
    rw [Nat.add_sub_cancel]
    refine hK _ (hN7 _ (hB6 _ ?_))
    refine Aw_tx hE [0,3,4,10,11] [72,79,95,99,700,701,710,711,712,713,714,720,721,722,723,724,740] fun K hK=>?_
    simp only [go_sem,seval]
    repeat refine sd0 ?_
    refine hK _ (hN4 (2,c1,put d' 1 e,put r' 1 q) _ ⟨by omega,put_len hr' hq⟩ (by simp only;omega) ?_)
    refine (Le_swb _ 740 721 (by decide) (by decide)).trans ?_
    simp only [St.swb,swbσ,swbm,AV.swb,AV.swbAll,swp,jN_swb,row_swb,Nat.reduceEqDiff,if_true,if_false,reduceIte]
    refine (Le_swb _ 99 701 (by decide) (by decide)).trans ?_
    simp only [St.swb,swbσ,swbm,AV.swb,AV.swbAll,swp,jN_swb,row_swb,Nat.reduceEqDiff,if_true,if_false,reduceIte]
    exact Le_wc (by simp only [go_sem,seval,put,Nat.add_assoc]) (by simp only [go_sem,seval,put])
 ·refine Aw_st hE [0,3,4,10,11,76] [72,79,95,99,700,701,710,711,712,713,714,720,721,722,723,724,740] fun K hK=>?_
  simp only [go_sem,seval]
  refine hK _ (Aw_yes rfl (Aw_skip (hB5 _ ?_)))
  refine Aw_sq fun B6 hB6 hR6 hX6=>?_
  refine Aw_bk fun B7 hN7 hE7 hR7 hX7=>?_
  refine Aw_st hE [0,3,4,10,11,12] [72,79,95,99,700,701,710,711,712,713,714,720,721,722,723,724,740] fun K hK=>?_
  simp only [go_sem,seval]
  refine hK _ ?_;clear hK K
  refine Aw_sq fun B8 hB8 hR8 hX8=>?_
  refine Aw_st hE [0,3,4,10,11,12,13] [72,79,95,99,700,701,710,711,712,713,714,720,721,722,723,724,740] fun K hK=>?_
  simp only [go_sem,seval]
  refine hK _ ?_;clear hK K
  refine Aw_bk fun B9 hN9 hE9 hR9 hX9=>?_
  refine Aw_lp (fun j:Nat × Nat × List Int=>⟨111,[(0,.rd),(3,iv 5),(4,.xs 700 0 5 (c + 5) 1),(10,.xs 701 0 2 (c' + 2) 1),(11,iv 2),(12,.xs 740 0 j.2.2.length (j.2.1 + j.2.2.length) 1),(13,iv ((j.1:Int) - 1))],(740,cI j.2.2++jN j.2.1)::(700,vws 5 d 710 5++jN c)::(701,vws 5 d' 720 2++jN c')::(bxs 5 d r 710 5++bxs 5 d' r' 720 2),rn + 1⟩) (fun j=>j.2.2.length + j.1=5) (fun j=>j.1) (5,0,[]) ?_ (by simp) fun j hj B10 hN10 hR10 hX10=>?_
  ·refine (Le_swb _ 79 740 (by decide) (by decide)).trans ?_
   simp only [St.swb,swbσ,swbm,AV.swb,AV.swbAll,swp,jN_swb,row_swb,Nat.reduceEqDiff,if_true,if_false,reduceIte]
   exact Le_wa
  obtain ⟨m,e,q⟩:=j
  simp only at hj
  refine Aw_sq fun B11 hB11 hR11 hX11=>?_
  refine Aw_st hE [0,3,4,10,11,12,13,83] [72,79,95,99,700,701,710,711,712,713,714,720,721,722,723,724,740] fun K hK=>?_
  simp only [go_sem,seval]
  refine hK _ (Aw_cond rfl (fun hc38=>?_) (fun hc38=>?_))
  ·simp only [dte] at hc38
   have hg:=rowI_drop (r 2) (d 2) ((m:Int) - 1).toNat (by omega)
   refine Aw_skip (hB11 _ ?_)
   refine Aw_sq fun B12 hB12 hR12 hX12=>?_
   refine Aw_bk fun B13 hN13 hE13 hR13 hX13=>?_
   refine Aw_tx hE [0,3,4,10,11,12,13] [72,79,95,99,700,701,710,711,712,713,714,720,721,722,723,724,740] fun K hK=>?_
   simp only [go_sem,seval,hg]
   refine ⟨⟨by omega,by omega⟩,⟨by omega,by omega⟩,fun h=>?_,fun h cap' hcap'=>?_⟩
   ·obtain ⟨e',rfl⟩:∃ e',e=e' + 1:=⟨e - 1,by omega⟩
    rw [row_put]
    refine hK _ (hN13 _ (hB12 _ ?_))
    refine Aw_tx hE [0,3,4,10,11,12,13] [72,79,95,99,700,701,710,711,712,713,714,720,721,722,723,724,740] fun K hK=>?_
    simp only [go_sem,seval]
    repeat refine sd0 ?_
    have hl1:(q++[(r 2).getD ((m:Int) - 1).toNat 0]).length=q.length + 1:=by simp
    have hmc:((m - 1:Nat):Int)=(m:Int) - 1:=by omega
    have hec:e' + 1 + q.length=e' + (q.length + 1):=by omega
    refine hK _ (hN10 (m - 1,e',q++[(r 2).getD ((m:Int) - 1).toNat 0]) _ (by simp only [hl1];omega) (by simp only;omega) ?_)
    simp only [hl1,hmc,hec]
    exact Le_wa
   ·obtain ⟨e',rfl⟩:∃ e',cap'=e' + (q.length + 1):=⟨cap' - (q.length + 1),by omega⟩
    rw [Nat.add_sub_cancel,List.append_assoc,List.singleton_append,row_snoc]
    refine hK _ (hN13 _ (hB12 _ ?_))
    refine Aw_tx hE [0,3,4,10,11,12,13] [72,79,95,99,700,701,710,711,712,713,714,720,721,722,723,724,740] fun K hK=>?_
    simp only [go_sem,seval]
    repeat refine sd0 ?_
    have hl1:(q++[(r 2).getD ((m:Int) - 1).toNat 0]).length=q.length + 1:=by simp
    have hmc:((m - 1:Nat):Int)=(m:Int) - 1:=by omega
    have hec:e' + 1 + q.length=e' + (q.length + 1):=by omega
    refine hK _ (hN10 (m - 1,e',q++[(r 2).getD ((m:Int) - 1).toNat 0]) _ (by simp only [hl1];omega) (by simp only;omega) ?_)
    simp only [hl1,hmc,hec]
    refine (Le_swb _ 95 740 (by decide) (by decide)).trans ?_
    simp only [St.swb,swbσ,swbm,AV.swb,AV.swbAll,swp,jN_swb,row_swb,Nat.reduceEqDiff,if_true,if_false,reduceIte]
    exact Le_wa
  ·simp only [dfn] at hc38
   have hq:q.length=5:=by omega
   refine Aw_exit (hX11 _ _ (hX10 _ _ (hE9 _ (hB8 _ ?_))))
   refine Aw_tx hE [0,3,4,10,11] [72,79,95,99,700,701,710,711,712,713,714,720,721,722,723,724,740] fun K hK=>?_
   simp only [go_sem,seval,hq]
   refine ⟨fun h=>?_,fun h cap' hcap'=>?_⟩
   ·obtain ⟨c1,rfl⟩:∃ c1,c'=c1 + 1:=⟨c' - 1,by omega⟩
    simp only [jN_s,List.set_cons_zero]
    refine hK _ (hN7 _ (hB6 _ ?_))
    refine Aw_tx hE [0,3,4,10,11] [72,79,95,99,700,701,710,711,712,713,714,720,721,722,723,724,740] fun K hK=>?_
    simp only [go_sem,seval]
    repeat refine sd0 ?_
    refine hK _ (hN4 (3,c1,put d' 2 e,put r' 2 q) _ ⟨by omega,put_len hr' hq⟩ (by simp only;omega) ?_)
    refine (Le_swb _ 740 722 (by decide) (by decide)).trans ?_
    simp only [St.swb,swbσ,swbm,AV.swb,AV.swbAll,swp,jN_swb,row_swb,Nat.reduceEqDiff,if_true,if_false,reduceIte]
    exact Le_wc (by simp only [go_sem,seval,put,Nat.add_assoc]) (by simp only [go_sem,seval,put])
   ·obtain ⟨c1,rfl⟩:∃ c1,cap'=c1 + 3:=⟨cap' - 3,by omega⟩
    rw [Nat.add_sub_cancel]
    refine hK _ (hN7 _ (hB6 _ ?_))
    refine Aw_tx hE [0,3,4,10,11] [72,79,95,99,700,701,710,711,712,713,714,720,721,722,723,724,740] fun K hK=>?_
    simp only [go_sem,seval]
    repeat refine sd0 ?_
    refine hK _ (hN4 (3,c1,put d' 2 e,put r' 2 q) _ ⟨by omega,put_len hr' hq⟩ (by simp only;omega) ?_)
    refine (Le_swb _ 740 722 (by decide) (by decide)).trans ?_
    simp only [St.swb,swbσ,swbm,AV.swb,AV.swbAll,swp,jN_swb,row_swb,Nat.reduceEqDiff,if_true,if_false,reduceIte]
    refine (Le_swb _ 99 701 (by decide) (by decide)).trans ?_
    simp only [St.swb,swbσ,swbm,AV.swb,AV.swbAll,swp,jN_swb,row_swb,Nat.reduceEqDiff,if_true,if_false,reduceIte]
    exact Le_wc (by simp only [go_sem,seval,put,Nat.add_assoc]) (by simp only [go_sem,seval,put])
 ·refine Aw_st hE [0,3,4,10,11,76] [72,79,95,99,700,701,710,711,712,713,714,720,721,722,723,724,740] fun K hK=>?_
  simp only [go_sem,seval]
  refine hK _ (Aw_yes rfl (Aw_skip (hB5 _ ?_)))
  refine Aw_sq fun B6 hB6 hR6 hX6=>?_
  refine Aw_bk fun B7 hN7 hE7 hR7 hX7=>?_
  refine Aw_st hE [0,3,4,10,11,12] [72,79,95,99,700,701,710,711,712,713,714,720,721,722,723,724,740] fun K hK=>?_
  simp only [go_sem,seval]
  refine hK _ ?_;clear hK K
  refine Aw_sq fun B8 hB8 hR8 hX8=>?_
  refine Aw_st hE [0,3,4,10,11,12,13] [72,79,95,99,700,701,710,711,712,713,714,720,721,722,723,724,740] fun K hK=>?_
  simp only [go_sem,seval]
  refine hK _ ?_;clear hK K
  refine Aw_bk fun B9 hN9 hE9 hR9 hX9=>?_
  refine Aw_lp (fun j:Nat × Nat × List Int=>⟨111,[(0,.rd),(3,iv 5),(4,.xs 700 0 5 (c + 5) 1),(10,.xs 701 0 3 (c' + 3) 1),(11,iv 1),(12,.xs 740 0 j.2.2.length (j.2.1 + j.2.2.length) 1),(13,iv ((j.1:Int) - 1))],(740,cI j.2.2++jN j.2.1)::(700,vws 5 d 710 5++jN c)::(701,vws 5 d' 720 3++jN c')::(bxs 5 d r 710 5++bxs 5 d' r' 720 3),rn + 1⟩) (fun j=>j.2.2.length + j.1=5) (fun j=>j.1) (5,0,[]) ?_ (by simp) fun j hj B10 hN10 hR10 hX10=>?_
  ·refine (Le_swb _ 79 740 (by decide) (by decide)).trans ?_
   simp only [St.swb,swbσ,swbm,AV.swb,AV.swbAll,swp,jN_swb,row_swb,Nat.reduceEqDiff,if_true,if_false,reduceIte]
   exact Le_wa
  obtain ⟨m,e,q⟩:=j
  simp only at hj
  refine Aw_sq fun B11 hB11 hR11 hX11=>?_
  refine Aw_st hE [0,3,4,10,11,12,13,83] [72,79,95,99,700,701,710,711,712,713,714,720,721,722,723,724,740] fun K hK=>?_
  simp only [go_sem,seval]
  refine hK _ (Aw_cond rfl (fun hc38=>?_) (fun hc38=>?_))
  ·simp only [dte] at hc38
   have hg:=rowI_drop (r 1) (d 1) ((m:Int) - 1).toNat (by omega)
   refine Aw_skip (hB11 _ ?_)
   refine Aw_sq fun B12 hB12 hR12 hX12=>?_
   refine Aw_bk fun B13 hN13 hE13 hR13 hX13=>?_
   refine Aw_tx hE [0,3,4,10,11,12,13] [72,79,95,99,700,701,710,711,712,713,714,720,721,722,723,724,740] fun K hK=>?_
   simp only [go_sem,seval,hg]
   refine ⟨⟨by omega,by omega⟩,⟨by omega,by omega⟩,fun h=>?_,fun h cap' hcap'=>?_⟩
   ·obtain ⟨e',rfl⟩:∃ e',e=e' + 1:=⟨e - 1,by omega⟩
    rw [row_put]
    refine hK _ (hN13 _ (hB12 _ ?_))
    refine Aw_tx hE [0,3,4,10,11,12,13] [72,79,95,99,700,701,710,711,712,713,714,720,721,722,723,724,740] fun K hK=>?_
    simp only [go_sem,seval]
    repeat refine sd0 ?_
    have hl1:(q++[(r 1).getD ((m:Int) - 1).toNat 0]).length=q.length + 1:=by simp
    have hmc:((m - 1:Nat):Int)=(m:Int) - 1:=by omega
    have hec:e' + 1 + q.length=e' + (q.length + 1):=by omega
    refine hK _ (hN10 (m - 1,e',q++[(r 1).getD ((m:Int) - 1).toNat 0]) _ (by simp only [hl1];omega) (by simp only;omega) ?_)
    simp only [hl1,hmc,hec]
    exact Le_wa
   ·obtain ⟨e',rfl⟩:∃ e',cap'=e' + (q.length + 1):=⟨cap' - (q.length + 1),by omega⟩
    rw [Nat.add_sub_cancel,List.append_assoc,List.singleton_append,row_snoc]
    refine hK _ (hN13 _ (hB12 _ ?_))
    refine Aw_tx hE [0,3,4,10,11,12,13] [72,79,95,99,700,701,710,711,712,713,714,720,721,722,723,724,740] fun K hK=>?_
    simp only [go_sem,seval]
    repeat refine sd0 ?_
    have hl1:(q++[(r 1).getD ((m:Int) - 1).toNat 0]).length=q.length + 1:=by simp
    have hmc:((m - 1:Nat):Int)=(m:Int) - 1:=by omega
    have hec:e' + 1 + q.length=e' + (q.length + 1):=by omega
    refine hK _ (hN10 (m - 1,e',q++[(r 1).getD ((m:Int) - 1).toNat 0]) _ (by simp only [hl1];omega) (by simp only;omega) ?_)
    simp only [hl1,hmc,hec]
    refine (Le_swb _ 95 740 (by decide) (by decide)).trans ?_
    simp only [St.swb,swbσ,swbm,AV.swb,AV.swbAll,swp,jN_swb,row_swb,Nat.reduceEqDiff,if_true,if_false,reduceIte]
    exact Le_wa
  ·simp only [dfn] at hc38
   have hq:q.length=5:=by omega
   refine Aw_exit (hX11 _ _ (hX10 _ _ (hE9 _ (hB8 _ ?_))))
   refine Aw_tx hE [0,3,4,10,11] [72,79,95,99,700,701,710,711,712,713,714,720,721,722,723,724,740] fun K hK=>?_
   simp only [go_sem,seval,hq]
   refine ⟨fun h=>?_,fun h cap' hcap'=>?_⟩
   ·obtain ⟨c1,rfl⟩:∃ c1,c'=c1 + 1:=⟨c' - 1,by omega⟩
    simp only [jN_s,List.set_cons_zero]
    refine hK _ (hN7 _ (hB6 _ ?_))
    refine Aw_tx hE [0,3,4,10,11] [72,79,95,99,700,701,710,711,712,713,714,720,721,722,723,724,740] fun K hK=>?_
    simp only [go_sem,seval]
    repeat refine sd0 ?_
    refine hK _ (hN4 (4,c1,put d' 3 e,put r' 3 q) _ ⟨by omega,put_len hr' hq⟩ (by simp only;omega) ?_)
    refine (Le_swb _ 740 723 (by decide) (by decide)).trans ?_
    simp only [St.swb,swbσ,swbm,AV.swb,AV.swbAll,swp,jN_swb,row_swb,Nat.reduceEqDiff,if_true,if_false,reduceIte]
    exact Le_wc (by simp only [go_sem,seval,put,Nat.add_assoc]) (by simp only [go_sem,seval,put])
   ·obtain ⟨c1,rfl⟩:∃ c1,cap'=c1 + 4:=⟨cap' - 4,by omega⟩
    rw [Nat.add_sub_cancel]
    refine hK _ (hN7 _ (hB6 _ ?_))
    refine Aw_tx hE [0,3,4,10,11] [72,79,95,99,700,701,710,711,712,713,714,720,721,722,723,724,740] fun K hK=>?_
    simp only [go_sem,seval]
    repeat refine sd0 ?_
    refine hK _ (hN4 (4,c1,put d' 3 e,put r' 3 q) _ ⟨by omega,put_len hr' hq⟩ (by simp only;omega) ?_)
    refine (Le_swb _ 740 723 (by decide) (by decide)).trans ?_
    simp only [St.swb,swbσ,swbm,AV.swb,AV.swbAll,swp,jN_swb,row_swb,Nat.reduceEqDiff,if_true,if_false,reduceIte]
    refine (Le_swb _ 99 701 (by decide) (by decide)).trans ?_
    simp only [St.swb,swbσ,swbm,AV.swb,AV.swbAll,swp,jN_swb,row_swb,Nat.reduceEqDiff,if_true,if_false,reduceIte]
    exact Le_wc (by simp only [go_sem,seval,put,Nat.add_assoc]) (by simp only [go_sem,seval,put])
 ·refine Aw_st hE [0,3,4,10,11,76] [72,79,95,99,700,701,710,711,712,713,714,720,721,722,723,724,740] fun K hK=>?_
  simp only [go_sem,seval]
  refine hK _ (Aw_yes rfl (Aw_skip (hB5 _ ?_)))
  refine Aw_sq fun B6 hB6 hR6 hX6=>?_
  refine Aw_bk fun B7 hN7 hE7 hR7 hX7=>?_
  refine Aw_st hE [0,3,4,10,11,12] [72,79,95,99,700,701,710,711,712,713,714,720,721,722,723,724,740] fun K hK=>?_
  simp only [go_sem,seval]
  refine hK _ ?_;clear hK K
  refine Aw_sq fun B8 hB8 hR8 hX8=>?_
  refine Aw_st hE [0,3,4,10,11,12,13] [72,79,95,99,700,701,710,711,712,713,714,720,721,722,723,724,740] fun K hK=>?_
  simp only [go_sem,seval]
  refine hK _ ?_;clear hK K
  refine Aw_bk fun B9 hN9 hE9 hR9 hX9=>?_
  refine Aw_lp (fun j:Nat × Nat × List Int=>⟨111,[(0,.rd),(3,iv 5),(4,.xs 700 0 5 (c + 5) 1),(10,.xs 701 0 4 (c' + 4) 1),(11,iv 0),(12,.xs 740 0 j.2.2.length (j.2.1 + j.2.2.length) 1),(13,iv ((j.1:Int) - 1))],(740,cI j.2.2++jN j.2.1)::(700,vws 5 d 710 5++jN c)::(701,vws 5 d' 720 4++jN c')::(bxs 5 d r 710 5++bxs 5 d' r' 720 4),rn + 1⟩) (fun j=>j.2.2.length + j.1=5) (fun j=>j.1) (5,0,[]) ?_ (by simp) fun j hj B10 hN10 hR10 hX10=>?_
  ·refine (Le_swb _ 79 740 (by decide) (by decide)).trans ?_
   simp only [St.swb,swbσ,swbm,AV.swb,AV.swbAll,swp,jN_swb,row_swb,Nat.reduceEqDiff,if_true,if_false,reduceIte]
   exact Le_wa
  obtain ⟨m,e,q⟩:=j
  simp only at hj
  refine Aw_sq fun B11 hB11 hR11 hX11=>?_
  refine Aw_st hE [0,3,4,10,11,12,13,83] [72,79,95,99,700,701,710,711,712,713,714,720,721,722,723,724,740] fun K hK=>?_
  simp only [go_sem,seval]
  refine hK _ (Aw_cond rfl (fun hc38=>?_) (fun hc38=>?_))
  ·simp only [dte] at hc38
   have hg:=rowI_drop (r 0) (d 0) ((m:Int) - 1).toNat (by omega)
   refine Aw_skip (hB11 _ ?_)
   refine Aw_sq fun B12 hB12 hR12 hX12=>?_
   refine Aw_bk fun B13 hN13 hE13 hR13 hX13=>?_
   refine Aw_tx hE [0,3,4,10,11,12,13] [72,79,95,99,700,701,710,711,712,713,714,720,721,722,723,724,740] fun K hK=>?_
   simp only [go_sem,seval,hg]
   refine ⟨⟨by omega,by omega⟩,⟨by omega,by omega⟩,fun h=>?_,fun h cap' hcap'=>?_⟩
   ·obtain ⟨e',rfl⟩:∃ e',e=e' + 1:=⟨e - 1,by omega⟩
    rw [row_put]
    refine hK _ (hN13 _ (hB12 _ ?_))
    refine Aw_tx hE [0,3,4,10,11,12,13] [72,79,95,99,700,701,710,711,712,713,714,720,721,722,723,724,740] fun K hK=>?_
    simp only [go_sem,seval]
    repeat refine sd0 ?_
    have hl1:(q++[(r 0).getD ((m:Int) - 1).toNat 0]).length=q.length + 1:=by simp
    have hmc:((m - 1:Nat):Int)=(m:Int) - 1:=by omega
    have hec:e' + 1 + q.length=e' + (q.length + 1):=by omega
    refine hK _ (hN10 (m - 1,e',q++[(r 0).getD ((m:Int) - 1).toNat 0]) _ (by simp only [hl1];omega) (by simp only;omega) ?_)
    simp only [hl1,hmc,hec]
    exact Le_wa
   ·obtain ⟨e',rfl⟩:∃ e',cap'=e' + (q.length + 1):=⟨cap' - (q.length + 1),by omega⟩
    rw [Nat.add_sub_cancel,List.append_assoc,List.singleton_append,row_snoc]
    refine hK _ (hN13 _ (hB12 _ ?_))
    refine Aw_tx hE [0,3,4,10,11,12,13] [72,79,95,99,700,701,710,711,712,713,714,720,721,722,723,724,740] fun K hK=>?_
    simp only [go_sem,seval]
    repeat refine sd0 ?_
    have hl1:(q++[(r 0).getD ((m:Int) - 1).toNat 0]).length=q.length + 1:=by simp
    have hmc:((m - 1:Nat):Int)=(m:Int) - 1:=by omega
    have hec:e' + 1 + q.length=e' + (q.length + 1):=by omega
    refine hK _ (hN10 (m - 1,e',q++[(r 0).getD ((m:Int) - 1).toNat 0]) _ (by simp only [hl1];omega) (by simp only;omega) ?_)
    simp only [hl1,hmc,hec]
    refine (Le_swb _ 95 740 (by decide) (by decide)).trans ?_
    simp only [St.swb,swbσ,swbm,AV.swb,AV.swbAll,swp,jN_swb,row_swb,Nat.reduceEqDiff,if_true,if_false,reduceIte]
    exact Le_wa
  ·simp only [dfn] at hc38
   have hq:q.length=5:=by omega
   refine Aw_exit (hX11 _ _ (hX10 _ _ (hE9 _ (hB8 _ ?_))))
   refine Aw_tx hE [0,3,4,10,11] [72,79,95,99,700,701,710,711,712,713,714,720,721,722,723,724,740] fun K hK=>?_
   simp only [go_sem,seval,hq]
   refine ⟨fun h=>?_,fun h cap' hcap'=>?_⟩
   ·obtain ⟨c1,rfl⟩:∃ c1,c'=c1 + 1:=⟨c' - 1,by omega⟩
    simp only [jN_s,List.set_cons_zero]
    refine hK _ (hN7 _ (hB6 _ ?_))
    refine Aw_tx hE [0,3,4,10,11] [72,79,95,99,700,701,710,711,712,713,714,720,721,722,723,724,740] fun K hK=>?_
    simp only [go_sem,seval]
    repeat refine sd0 ?_
    refine hK _ (hN4 (5,c1,put d' 4 e,put r' 4 q) _ ⟨by omega,put_len hr' hq⟩ (by simp only;omega) ?_)
    refine (Le_swb _ 740 724 (by decide) (by decide)).trans ?_
    simp only [St.swb,swbσ,swbm,AV.swb,AV.swbAll,swp,jN_swb,row_swb,Nat.reduceEqDiff,if_true,if_false,reduceIte]
    exact Le_wc (by simp only [go_sem,seval,put,Nat.add_assoc]) (by simp only [go_sem,seval,put])
   ·obtain ⟨c1,rfl⟩:∃ c1,cap'=c1 + 5:=⟨cap' - 5,by omega⟩
    rw [Nat.add_sub_cancel]
    refine hK _ (hN7 _ (hB6 _ ?_))
    refine Aw_tx hE [0,3,4,10,11] [72,79,95,99,700,701,710,711,712,713,714,720,721,722,723,724,740] fun K hK=>?_
    simp only [go_sem,seval]
    repeat refine sd0 ?_
    refine hK _ (hN4 (5,c1,put d' 4 e,put r' 4 q) _ ⟨by omega,put_len hr' hq⟩ (by simp only;omega) ?_)
    refine (Le_swb _ 740 724 (by decide) (by decide)).trans ?_
    simp only [St.swb,swbσ,swbm,AV.swb,AV.swbAll,swp,jN_swb,row_swb,Nat.reduceEqDiff,if_true,if_false,reduceIte]
    refine (Le_swb _ 99 701 (by decide) (by decide)).trans ?_
    simp only [St.swb,swbσ,swbm,AV.swb,AV.swbAll,swp,jN_swb,row_swb,Nat.reduceEqDiff,if_true,if_false,reduceIte]
    exact Le_wc (by simp only [go_sem,seval,put,Nat.add_assoc]) (by simp only [go_sem,seval,put])
end Go.Proofs.W
end
