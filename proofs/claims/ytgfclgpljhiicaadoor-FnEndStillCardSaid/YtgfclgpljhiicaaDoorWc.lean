/- YtgfclgpljhiicaaDoorWc: part of the proof that laws hold, for every input that the row speaks of (no condition of ours). -/
import Derived.Test.YtgfclgpljhiicaaDoorWb
import Derived.Test.YtgfclgpljhiicaaDoorEc
import Derived.Test.YtgfclgpljhiicaaDoorWa
set_option linter.unusedVariables false
set_option linter.unusedSimpArgs false
section
namespace Go.Proofs.W
open Go Go.Eng Go.RowKit
set_option linter.unusedSimpArgs false
set_option maxRecDepth 100000
/-! steps and runs: impl -/
def okNet (N:Nt):Prop:=mpI N.t∧N.W.length≤5∧netS N.W.length (lkF N.t) N.home (toS N.W)
theorem okNet_N {N:Nt} (h:okNet N):okN' N:=by
 obtain ⟨h1,h2,h3⟩:=h
 refine ⟨h1,by omega,fun w hw=>?_⟩
 obtain ⟨i,hi,rfl⟩:=List.getElem_of_mem hw
 have:=h3.2 ((i:Int) + 1) ⟨by omega,by omega⟩
 rw [toS_succ,List.getD_eq_getElem?_getD,List.getElem?_eq_getElem hi,Option.getD_some] at this
 by_cases e:N.W[i]=[]
 ·rw [e];rfl
 ·exact ((wayOk_iff e).1 this).2.2.1
def Nt.stp (N:Nt) (h:Int):Nt:=⟨N.n,N.t,N.home,stpL N.W.length (lkF N.t) N.home N.W h⟩
def Nt.run (N:Nt) (q:List Int):Nt:=⟨N.n,N.t,N.home,runL N.W.length (lkF N.t) N.home N.W q⟩
theorem okNet_stp {N:Nt} (h:okNet N) {x:Int} (hx:hI N.W.length x):okNet (N.stp x):=by
 obtain ⟨h1,h2,h3⟩:=h
 refine ⟨h1,by rw [Nt.stp,stpL_len];exact h2,?_⟩
 simp only [Nt.stp,stpL_len]
 rw [toS_stp rfl hx]
 exact netS_stp h2 h3 hx
def cStepI (pb:Addr):ConM:=mkM (WP pb) eNH (fun i=>okNet i.1∧1≤i.2∧i.2≤i.1.W.length) fun i r m2=>r = .tup []∧m2=(i.1.stp i.2).M 1000 1001
theorem stepI_pre (pb:Addr) (n:Int) (t:List (Value × Value)) (home:Int) (W:List (List Int)) (h:Int):(cStepI pb).pre [.loc 1000 0,iv h] [(1000,[iv n,.dv (.mp t),iv home,.xs 1001 0 W.length W.length 1]),(1001,cWs W)]=(okNet ⟨n,t,home,W⟩∧1≤h∧h≤W.length):=mkM_pre eNH_inj (⟨n,t,home,W⟩,h) rfl
theorem stepI_post (pb:Addr) (n:Int) (t:List (Value × Value)) (home:Int) (W:List (List Int)) (h:Int) (K:AV→List (Nat × List AV)→Prop):(∀ r m2,(cStepI pb).post [.loc 1000 0,iv h] [(1000,[iv n,.dv (.mp t),iv home,.xs 1001 0 W.length W.length 1]),(1001,cWs W)] r m2→K r m2)=K (.tup []) [(1000,[iv n,.dv (.mp t),iv home,.xs 1001 0 W.length W.length 1]),(1001,cWs (stpL W.length (lkF t) home W h))]:=by
 refine (mkM_post eNH_inj (⟨n,t,home,W⟩,h) rfl K).trans ((mkM_fn _ _).trans ?_)
 simp only [Nt.stp,Nt.M,stpL_len]
attribute [go_sem] stepI_pre stepI_post
set_option maxHeartbeats 4000000 in
theorem stepI_ok (pb:Addr):FineM Tryd.prog 52 (cStepI pb):=by
 refine fineM_ofN [] ms_nil [(42,(cPickI pb,[(1000,1000)],[]))] (mm_cons (pickI_ok pb) (by decide) mm_nil (wp_inh pb)) [] [] ex_nil (T:=TT) Tryd.func52 rfl Tryd.ntmps52 (by rw [Tryd.results52]) rfl rfl tt gs_nil ds_nil ?_
 rintro args m1 ⟨⟨⟨n,t,home,W⟩,a⟩,e,hok,h1,h2⟩
 obtain ⟨rfl,rfl⟩:=Prod.mk.inj e.symm
 refine ⟨by simp,fun E hE Q hQ=>?_⟩
 simp only at hok h1 h2
 have hok':=okNet_N hok
 have hW5:W.length≤5:=hok.2.1
 have hlt:(a - 1).toNat < W.length:=by omega
 apply (fun F0 F1 F2 F3 F4 F5 F6=>Aw_tD hE [([0,4,5,6,7,8],(.alt 1 (.fst 2 (.ref 5)) .non)),([0,1,2,4,5,6,7],(.alt 3 (.ref 3) (.alt 8 (.ref 5) .non))),([0,1,2,4,6,7,8],(.alt 3 (.ref 4) (.alt 5 (.ref 5) .non))),([0,1,2,3,4,5,6,7],(.alt 8 (.ref 6) .non)),([0,1,2,3,4,6,7,8],(.alt 5 (.ref 6) .non)),([0,1,2,4,5,6,7,8],(.alt 3 (.ref 6) .non)),([0,1,2,3,4,5,6,7,8],(.alt 9 (.alt 10 .done .non) .non))] (.fst 0 (.fst 4 (.fst 6 (.fst 7 (.alt 1 (.fst 2 (.alt 3 (.alt 5 (.ref 3) (.alt 8 (.ref 4) .non)) (.alt 5 (.ref 1) (.alt 8 (.ref 2) .non)))) (.alt 5 (.alt 1 (.fst 2 (.ref 1)) (.alt 8 (.ref 0) .non)) (.alt 8 (.alt 1 (.fst 2 (.ref 2)) (.alt 5 (.ref 0) .non)) .non))))))) [F0,F1,F2,F3,F4,F5,F6] [] [1000,1001])
 ·kernel_rfl
 intro K hK
 refine And.intro ?_ (And.intro ?_ (And.intro ?_ (And.intro ?_ (And.intro ?_ (And.intro ?_ (And.intro ?_ (And.intro ?_ trivial)))))))
 iterate 7 (focus (simp only [go_sem,seval,hok',cWs_set];repeat' (first | exact (fun _ _ r=>r) | exact LeE_eq (by simp only [go_sem,seval,hok',cWs_set]) (by simp only [go_sem,seval,hok',cWs_set]) | exact LeE_wk (by simp only [go_sem,seval,hok',cWs_set]) (by simp only [go_sem,seval,hok',cWs_set]) | refine And.intro (by first|omega|(and_intros<;>first|omega|exact crows_row _|exact rrows_row _|exact rows_row _|decide|(simp<;>omega))|fail) ?_ | refine And.intro ?_ ?_)))
 simp only [go_sem,seval,hok',cWs_set]
 refine ⟨⟨by omega,by omega⟩,by omega,hK _ (hQ _ _ ?_)⟩
 simp only [go_sem,seval]
 exact ⟨(⟨n,t,home,W⟩,a),rfl,rfl,by simp only [Nt.stp,Nt.M,stpL_len];rfl⟩
end Go.Proofs.W
end
section
namespace Go.Proofs.W
open Go Go.Eng Go.RowKit
set_option linter.unusedSimpArgs false
set_option maxRecDepth 100000
/-! runs: impl -/
def eNQ (i:Nt × List Int):List AV × List (Nat × List AV):=([.loc 1000 0,isl i.2],i.1.M 1000 1001)
theorem eNQ_inj (i j:Nt × List Int) (h:eNQ i=eNQ j):i=j:=by
 obtain ⟨N,x⟩:=i
 obtain ⟨N',x'⟩:=j
 obtain ⟨h1,h2⟩:=Prod.mk.inj h
 obtain ⟨_,h1⟩:=List.cons.inj h1
 obtain ⟨h1,_⟩:=List.cons.inj h1
 obtain rfl:=NtM_inj (N:=N) (N':=N') h2
 have h1:x=x':=isl1_inj h1
 rw [h1]
theorem runL_len {n:Nat} {of:Rel} {home:Int}:∀ (q:List Int) (L:List (List Int)),(runL n of home L q).length=L.length
 | [],_=>rfl
 | x::q,L=>(runL_len q _).trans (stpL_len _ _)
theorem okNet_run {N:Nt}:∀ {q:List Int},okNet N→(∀ x ∈ q,hI N.W.length x)→okNet (N.run q)
 | [],h,_=>h
 | x::q,h,hq=>by
  have h1:=okNet_run (N:=N.stp x) (q:=q) (okNet_stp h (hq x (by simp))) (fun y hy=>by simp only [Nt.stp,stpL_len];exact hq y (by simp [hy]))
  simp only [Nt.stp,Nt.run,stpL_len] at h1
  exact h1
theorem run_next {N:Nt} {q:List Int} {i:Nat} (hi:i < q.length):stpL N.W.length (lkF N.t) N.home (runL N.W.length (lkF N.t) N.home N.W (q.take i)) (q.getD i 0)=runL N.W.length (lkF N.t) N.home N.W (q.take (i + 1)):=by
 rw [take_one q i 0 hi,runL_app];rfl
theorem runL_nil {n:Nat} {of:Rel} {home:Int} (W:List (List Int)):runL n of home W []=W:=rfl
attribute [go_sem] runL_nil
theorem stepI_preL (pb:Addr) (n:Int) (t:List (Value × Value)) (home:Int) {W:List (List Int)} {l:Nat} (hl:W.length=l) (h:Int):(cStepI pb).pre [.loc 1000 0,iv h] [(1000,[iv n,.dv (.mp t),iv home,.xs 1001 0 l l 1]),(1001,cWs W)]=(okNet ⟨n,t,home,W⟩∧1≤h∧h≤W.length):=by subst hl;exact stepI_pre pb n t home W h
theorem stepI_postL (pb:Addr) (n:Int) (t:List (Value × Value)) (home:Int) {W:List (List Int)} {l:Nat} (hl:W.length=l) (h:Int) (K:AV→List (Nat × List AV)→Prop):(∀ r m2,(cStepI pb).post [.loc 1000 0,iv h] [(1000,[iv n,.dv (.mp t),iv home,.xs 1001 0 l l 1]),(1001,cWs W)] r m2→K r m2)=K (.tup []) [(1000,[iv n,.dv (.mp t),iv home,.xs 1001 0 l l 1]),(1001,cWs (stpL W.length (lkF t) home W h))]:=by subst hl;exact stepI_post pb n t home W h K
def cRunI (pb:Addr):ConM:=mkM (WP pb) eNQ (fun i=>okNet i.1∧(∀ x ∈ i.2,hI i.1.W.length x)∧i.2.length≤1000000) fun i r m2=>r = .tup []∧m2=(i.1.run i.2).M 1000 1001
theorem runI_pre (pb:Addr) (n:Int) (t:List (Value × Value)) (home:Int) (W:List (List Int)) (q:List Int):(cRunI pb).pre [.loc 1000 0,isl q] [(1000,[iv n,.dv (.mp t),iv home,.xs 1001 0 W.length W.length 1]),(1001,cWs W)]=(okNet ⟨n,t,home,W⟩∧(∀ x ∈ q,hI W.length x)∧q.length≤1000000):=mkM_pre eNQ_inj (⟨n,t,home,W⟩,q) rfl
theorem runI_post (pb:Addr) (n:Int) (t:List (Value × Value)) (home:Int) (W:List (List Int)) (q:List Int) (K:AV→List (Nat × List AV)→Prop):(∀ r m2,(cRunI pb).post [.loc 1000 0,isl q] [(1000,[iv n,.dv (.mp t),iv home,.xs 1001 0 W.length W.length 1]),(1001,cWs W)] r m2→K r m2)=K (.tup []) [(1000,[iv n,.dv (.mp t),iv home,.xs 1001 0 W.length W.length 1]),(1001,cWs (runL W.length (lkF t) home W q))]:=by
 refine (mkM_post eNQ_inj (⟨n,t,home,W⟩,q) rfl K).trans ((mkM_fn _ _).trans ?_)
 simp only [Nt.run,Nt.M,runL_len]
attribute [go_sem] runI_pre runI_post
set_option maxHeartbeats 4000000 in
theorem runI_ok (pb:Addr):FineM Tryd.prog 35 (cRunI pb):=by
 refine fineM_ofN [] ms_nil [(52,(cStepI pb,[(1000,1000)],[]))] (mm_cons (stepI_ok pb) (by decide) mm_nil (wp_inh pb)) [6] [] ex_nil (T:=TT) Tryd.func35 rfl Tryd.ntmps35 (by rw [Tryd.results35]) rfl rfl tt gs_nil ds_nil ?_
 rintro args m1 ⟨⟨⟨n,t,home,W⟩,q⟩,e,hok,hq,hql⟩
 obtain ⟨rfl,rfl⟩:=Prod.mk.inj e.symm
 refine ⟨by simp,fun E hE Q hQ=>?_⟩
 simp only at hok hq hql
 refine Aw_st hE [1,4] [1000,1001] fun K hK=>?_
 simp only [go_sem,seval]
 refine hK _ ?_;clear hK K
 refine Aw_bk fun B1 hN1 hE1 hR1 hX1=>?_
 refine Aw_lp (fun i:Nat=>⟨17,[(1,isl (q.drop i)),(4,.cl 52 true [.loc 1000 0])],[(1000,[iv n,.dv (.mp t),iv home,.xs 1001 0 W.length W.length 1]),(1001,cWs (runL W.length (lkF t) home W (q.take i)))],0⟩) (fun i=>i≤q.length) (fun i=>q.length - i) 0 (Le_wk (by first | omega | (dsimp only;omega) | (simp only;omega) | (simp;omega)) (by simp only [go_sem,seval]) (by simp only [go_sem,seval])) (by omega) fun i hi B2 hN2 hR2 hX2=>?_
 refine Aw_sq fun B3 hB3 hR3 hX3=>?_
 refine Aw_st hE [1,4,9] [1000,1001] fun K hK=>?_
 simp only [go_sem,seval]
 refine hK _ (Aw_cond rfl (fun hc4=>?_) (fun hc4=>?_))
 ·simp only [decide_eq_true_eq,List.length_drop] at hc4
  have hil:i < q.length:=by omega
  have hdr:(rows (q.drop i))[0]? = some [.v (.int .i64 (q.getD i 0))]:=by rw [rows_get _ 0 (by rw [List.length_drop];omega),List.getD_eq_getElem?_getD,List.getElem?_drop,← List.getD_eq_getElem?_getD];rfl
  have hx:=hq _ (getD_mem q i hil)
  have hok2:okNet ⟨n,t,home,runL W.length (lkF t) home W (q.take i)⟩:=okNet_run (N:=⟨n,t,home,W⟩) hok fun y hy=>hq y (List.mem_of_mem_take hy)
  have hlen:=runL_len (n:=W.length) (of:=lkF t) (home:=home) (q.take i) W
  have hnx:=run_next (N:=⟨n,t,home,W⟩) hil
  simp only at hnx
  have hpre:=stepI_preL pb n t home hlen (q.getD i 0)
  have hpost:=fun K=>stepI_postL pb n t home hlen (q.getD i 0) K
  refine Aw_skip (hB3 _ ?_)
  refine Aw_sq fun B5 hB5 hR5 hX5=>?_
  refine Aw_bk fun B6 hN6 hE6 hR6 hX6=>?_
  refine Aw_tx hE [1,4] [1000,1001] fun K hK=>?_
  simp only [go_sem,seval,hdr,hpre,hpost,hlen,hnx,hok2,hx.1,hx.2]
  refine ⟨by decide,hK _ (hN6 _ (hB5 _ ?_))⟩
  have htl:(q.drop i).take (q.length - i)=q.drop i:=List.take_of_length_le (by rw [List.length_drop];omega)
  refine Aw_tx hE [1,4] [1000,1001] fun K hK=>?_
  simp only [go_sem,seval,htl,List.length_drop,List.drop_drop,rows_drop]
  refine ⟨⟨by omega,by omega,fun r hr=>?_⟩,hK _ (hN2 (i + 1) _ (by omega) (by omega) (Le.refl _))⟩
  obtain ⟨x,_,rfl⟩:=List.mem_map.1 hr
  rfl
 ·simp only [decide_eq_false_iff_not,List.length_drop] at hc4
  obtain rfl:i=q.length:=by omega
  rw [List.take_length]
  refine Aw_exit (hX3 _ _ (hX2 _ _ (hE1 _ ?_)))
  refine hQ _ _ ?_
  simp only [go_sem,seval]
  exact ⟨(⟨n,t,home,W⟩,q),rfl,rfl,by simp only [Nt.run,Nt.M,runL_len]⟩
end Go.Proofs.W
end
section
namespace Go.Proofs.W
open Go Go.Eng Go.RowKit
set_option linter.unusedSimpArgs false
set_option maxRecDepth 100000
/-! a net in which none but home has a way: impl -/
def eNo (i:Int × List (Value × Value) × Int):List AV × List (Nat × List AV):=([.agg [iv i.1,.dv (.mp i.2.1)],iv i.2.2],[])
theorem eNo_inj (i j:Int × List (Value × Value) × Int) (h:eNo i=eNo j):i=j:=by
 obtain ⟨n,t,x⟩:=i
 obtain ⟨n',t',x'⟩:=j
 have h1:=(Prod.mk.inj h).1
 simp only [List.cons.injEq,AV.agg.injEq,AV.v.injEq,Value.int.injEq,true_and,and_true,AV.dv.injEq,DV.mp.injEq] at h1
 obtain ⟨⟨rfl,rfl⟩,rfl⟩:=h1
 rfl
def cNothing:ConM:=mkM (fun _=>True) eNo (fun i=>1≤i.2.2∧i.2.2≤i.1∧i.1≤1000) fun i r m2=>r = .loc 12 0∧m2=(⟨i.1,i.2.1,i.2.2,noneL i.1.toNat i.2.2⟩:Nt).M 12 10
theorem no_pre (n:Int) (t:List (Value × Value)) (x:Int):cNothing.pre [.agg [iv n,.dv (.mp t)],iv x] []=(1≤x∧x≤n∧n≤1000):=mkM_pre eNo_inj (n,t,x) rfl
theorem no_post (n:Int) (t:List (Value × Value)) (x:Int) (K:AV→List (Nat × List AV)→Prop):(∀ r m2,cNothing.post [.agg [iv n,.dv (.mp t)],iv x] [] r m2→K r m2)=K (.loc 12 0) ((⟨n,t,x,noneL n.toNat x⟩:Nt).M 12 10):=(mkM_post eNo_inj (n,t,x) rfl K).trans (mkM_fn _ _)
theorem nl_stripA (d n:Nat):AV.stripAll d (List.replicate n .nl)=List.replicate n .nl:=by rw [AV.stripAll_eq,List.map_replicate];rfl
theorem none_le (o:Option (Nat × Nat × Nat)) (x:Int):∀ n k:Nat,avLeL ((List.replicate n AV.nl).set k (.sl o [[.v (.int .i64 x)]])) (cWs ((List.replicate n []).set k [x]))=True
 | 0,_=>by simp [avLeL,cWs]
 | n + 1,0=>by
  have h:avLeL (List.replicate n AV.nl) (cWs (List.replicate n []))=True:=by
   clear x
   induction n with
   | zero=>simp [avLeL,cWs]
   | succ n ih =>
    rw [List.replicate_succ,List.replicate_succ]
    simp only [cWs,List.map_cons] at ih ⊢
    simp only [avLeL,ih,and_true,avLe,lfLe,AV.els,rows,List.map_nil,List.map_cons]
  rw [List.replicate_succ,List.replicate_succ,List.set_cons_zero,List.set_cons_zero]
  simp only [cWs,List.map_cons] at h ⊢
  simp only [avLeL,h,and_true,avLe,lfLe,AV.els,rows,List.map_nil,List.map_cons]
 | n + 1,k + 1=>by
  have ih:=none_le o x n k
  rw [List.replicate_succ,List.replicate_succ,List.set_cons_succ,List.set_cons_succ]
  simp only [cWs,List.map_cons] at ih ⊢
  simp only [avLeL,ih,and_true,avLe,lfLe,AV.els,rows,List.map_nil,List.map_cons]
theorem noneL_le (o:Option (Nat × Nat × Nat)) (x:Int) (n:Nat):avLeL ((List.replicate n AV.nl).set (x - 1).toNat (.sl o [[.v (.int .i64 x)]])) (cWs (noneL n x))=True:=none_le o x n _
attribute [go_sem] no_pre no_post nl_stripA noneL_le noneL_len
set_option maxHeartbeats 4000000 in
theorem nothing_ok:FineM Tryd.prog 34 cNothing:=by
 refine fineM_of [] ms_nil [] mm_nil [10] [] ex_nil (T:=TT) Tryd.func34 rfl Tryd.ntmps34 (by rw [Tryd.results34]) rfl rfl tt gs_nil ds_nil ?_
 rintro args m1 ⟨⟨n,t,x⟩,e,h1,h2,h3⟩
 obtain ⟨rfl,rfl⟩:=Prod.mk.inj e.symm
 refine ⟨by simp,fun E hE Q hQ=>?_⟩
 simp only at h1 h2 h3
 refine Aw_st hE [1,2] [2,10,12] fun K hK=>?_
 simp only [go_sem,seval]
 refine hK _ ?_;clear hK K
 apply (fun F0 F1=>Aw_sD hE [([0,1,2,3],(.alt 4 (.ref 1) .non)),([0,1,2,3,4],(.alt 5 (.alt 6 (.fst 7 .done) .non) .non))] (.fst 1 (.fst 2 (.alt 0 (.alt 3 (.ref 0) .non) (.alt 3 (.alt 0 (.ref 0) (.alt 4 (.alt 0 (.ref 1) .non) .non)) .non)))) [F0,F1] [1,5] [10,12])
 ·kernel_rfl
 intro K hK
 refine And.intro ?_ (And.intro ?_ (And.intro ?_ trivial))
 iterate 2 (focus (simp only [go_sem,seval];repeat' (first | exact (fun _ _ r=>r) | exact LeE_eq (by simp only [go_sem,seval]) (by simp only [go_sem,seval]) | exact LeE_wk (by simp only [go_sem,seval]) (by simp only [go_sem,seval]) | refine And.intro (by first|omega|(and_intros<;>first|omega|exact crows_row _|exact rrows_row _|exact rows_row _|decide|(simp<;>omega))|fail) ?_ | refine And.intro ?_ ?_)))
 simp only [go_sem,seval]
 refine hK _ ?_;clear hK K
 have hlt:(x - 1).toNat < n.toNat:=by omega
 refine Aw_st hE [5] [10,12] fun K hK=>?_
 simp only [go_sem,seval,List.length_replicate]
 refine ⟨⟨by omega,by omega⟩,by omega,by omega,?_⟩
 refine hK _ ?_;clear hK K
 refine Aw_st hE [4] [10,12] fun K hK=>?_
 simp only [go_sem,seval]
 refine hK _ ?_
 refine Aw.leE (LeE_of (show Le _ ⟨23,[(4,.loc 12 0)],(⟨n,t,x,noneL n.toNat x⟩:Nt).M 12 10,0⟩ from Le_wk (by first | omega | (dsimp only;omega) | (simp only;omega) | (simp;omega)) (by simp only [go_sem,seval]) (by simp only [go_sem,seval]))) ?_
 refine Aw_ret (hQ _ ?_)
 simp only [go_sem,seval]
 exact ⟨(n,t,x),rfl,rfl,by simp only [Nt.M,noneL_len]⟩
end Go.Proofs.W
end
section
namespace Go.Proofs.W
open Go Go.Eng Go.RowKit
set_option linter.unusedSimpArgs false
set_option maxRecDepth 100000
/-! NetOk,NetPick,NetStep: impl -/
def dNetOkI (pb:Addr):DFn:={ g:=gNetOk,inv:=WP pb }
def dNetPickI (pb:Addr):DFn:={ g:=gNetPick,inv:=WP pb }
def dNetStepI (pb:Addr):DFn:={ g:=gNetStep,inv:=WP pb }
theorem frz_wD {L:List (List Int)} {l:Nat} (h:L.length=l):(if l≤(wD L).length then AV.sl none (chunks 1 l ((wD L).take l)) else .junk)=wsl L:=by
 subst h
 rw [if_pos (by rw [wD_len];exact Nat.le_refl _),List.take_of_length_le (by rw [wD_len];exact Nat.le_refl _),chunks_wD]
attribute [go_sem] dNetOkI dNetPickI dNetStepI
set_option maxHeartbeats 4000000 in
theorem iNetOk_ok (pb:Addr):Fine Tryd.prog 18 (dNetOkI pb).con:=by
 refine fine_detX [] gl_nil [] ms_nil [(40,(cReadNet pb,[],[(39,600),(437,640)]))] (mm_cons (readNet_ok pb) (by decide) mm_nil (wp_inh pb)) [] [] ex_nil (T:=TT) Tryd.func18 rfl Tryd.ntmps18 (by rw [Tryd.results18]) rfl rfl tt gs_nil ds_nil ?_
 intro args c r h hc
 simp only [dNetOkI,gNetOk] at h
 split at h
 rotate_left
 ·cases h
 split at h
 rotate_left
 ·cases h
 rename_i t1 els x t2 els2 _ _ R W hiw1 hiw2
 obtain rfl:=waysL_eq hiw1
 obtain rfl:=waysL_eq hiw2
 obtain ⟨rfl,rfl⟩:=Prod.mk.inj (Option.some.inj h)
 refine ⟨by simp,fun k E hE Q hQ=>?_⟩
 refine Aw_st hE [0,1,2] [613,653] fun K hK=>?_
 simp only [go_sem,seval]
 refine hK _ ?_;clear hK K
 refine Aw_st hE [8] [613,653] fun K hK=>?_
 simp only [go_sem,seval,hc.1,hc.2]
 refine ⟨by decide,fun hno=>?_,fun hok t _ _=>?_⟩
 ·refine hK _ ?_;clear hK K
  refine Aw_st hE [6] [613,653] fun K hK=>?_
  simp only [go_sem,seval]
  refine hK _ (Aw_ret (hQ _ ?_))
  simp only [go_sem,seval]
  rw [hno]
 ·refine hK _ ?_;clear hK K
  refine Aw_st hE [6] [613,653] fun K hK=>?_
  simp only [go_sem,seval]
  refine hK _ (Aw_ret (hQ _ ?_))
  simp only [go_sem,seval]
  rw [hok]
end Go.Proofs.W
end
section
namespace Go.Proofs.W
open Go Go.Eng Go.RowKit
set_option linter.unusedSimpArgs false
set_option maxRecDepth 100000
/-! NetNone,NetStill: impl -/
def dNetNoneI (pb:Addr):DFn:={ g:=gNetNone,inv:=WP pb }
def dNetStillI (pb:Addr):DFn:={ g:=gNetStill,inv:=WP pb }
theorem nt_inh (pb:Addr):Inh (WP pb) (fun _=>True) false:=fun _ _ _ _ _=>trivial
attribute [go_sem] dNetNoneI dNetStillI
set_option maxHeartbeats 4000000 in
theorem iNetStill_ok (pb:Addr):Fine Tryd.prog 17 (dNetStillI pb).con:=by
 refine fine_detX [] gl_nil [] ms_nil [(40,(cReadNet pb,[],[(39,600),(437,640)])),(42,(cPickI pb,[(1000,1000)],[]))] (mm_cons (readNet_ok pb) (by decide) (mm_cons (pickI_ok pb) (by decide) mm_nil (wp_inh pb)) (wp_inh pb)) [] [] ex_nil (T:=TT) Tryd.func17 rfl Tryd.ntmps17 (by rw [Tryd.results17]) rfl rfl tt gs_nil (ds_cons eqI_ok ds_nil) ?_
 intro args c r h hc
 simp only [dNetStillI,gNetStill] at h
 split at h
 rotate_left
 ·cases h
 split at h
 rotate_left
 ·cases h
 rename_i t1 els x t2 els2 _ _ R W hiw1 hiw2
 obtain rfl:=waysL_eq hiw1
 obtain rfl:=waysL_eq hiw2
 obtain ⟨rfl,rfl⟩:=Prod.mk.inj (Option.some.inj h)
 refine ⟨by simp,fun k E hE Q hQ=>?_⟩
 refine Aw_st hE [0,1,2] [615,655] fun K hK=>?_
 simp only [go_sem,seval]
 refine hK _ ?_;clear hK K
 refine Aw_st hE [7,8] [615,655] fun K hK=>?_
 simp only [go_sem,seval,hc.1,hc.2]
 refine ⟨by decide,fun hno=>?_,fun hok t hmp hlk=>?_⟩
 ·refine hK _ ?_;clear hK K
  refine Aw_sq fun B1 hB1 hR1 hX1=>?_
  refine Aw_st hE [7,19] [615,655] fun K hK=>?_
  simp only [go_sem,seval]
  refine hK _ (Aw_yes rfl ?_)
  refine Aw_st hE [6] [615,655] fun K hK=>?_
  simp only [go_sem,seval]
  refine hK _ (Aw_ret (hR1 _ (hQ _ ?_)))
  simp only [go_sem,seval,hno,Bool.false_and,Bool.false_eq_true]
 refine hK _ ?_;clear hK K
 refine Aw_sq fun B1 hB1 hR1 hX1=>?_
 refine Aw_st hE [7,19] [615,655] fun K hK=>?_
 simp only [go_sem,seval]
 refine hK _ (Aw_no rfl (Aw_skip (hB1 _ ?_)))
 obtain ⟨q1,q2,q3⟩:=netOk_iff.1 hok
 have hn5:=(relsOk_iff.1 q1).1.2
 have hnet:okNet ⟨R.length,t,x,W⟩:=⟨hmp,by simp only;omega,by simp only [hlk,q2];exact q3⟩
 have hokN:=okNet_N hnet
 refine Aw_sq fun B3 hB3 hR3 hX3=>?_
 refine Aw_st hE [7,23,24,25] [615,655] fun K hK=>?_
 simp only [go_sem,seval]
 refine hK _ ?_;clear hK K
 refine Aw_bk fun B4 hN4 hE4 hR4 hX4=>?_
 refine Aw_lp (fun i:Nat=>⟨38,[(7,.loc 615 0),(23,.xs 655 0 W.length W.length 1),(24,iv (W.length:Int)),(25,iv (i:Int))],(⟨R.length,t,x,W⟩:Nt).M 615 655,k⟩) (fun i=>i≤W.length∧∀ j,j < i→pickN R.length (ofR R) x (toS W) ((j:Int) + 1)=W.getD j []) (fun i=>W.length - i) 0 (Le_wk (by first | omega | (dsimp only;omega) | (simp only;omega) | (simp;omega)) (by simp only [go_sem,seval]) (by simp only [go_sem,seval])) ⟨by omega,fun j h=>absurd h (by omega)⟩ fun i hi B5 hN5 hR5 hX5=>?_
 obtain ⟨hi,hways⟩:=hi
 refine Aw_st hE [7,23,24,25,26] [615,655] fun K hK=>?_
 simp only [go_sem,seval]
 refine hK _ ?_;clear hK K
 refine Aw_sq fun B6 hB6 hR6 hX6=>?_
 refine (Aw_cond rfl (fun hc7=>?_) (fun hc7=>?_))
 rotate_left
 ·simp only [decide_eq_false_iff_not] at hc7
  refine Aw_exit (hX6 _ _ (hX5 _ _ (hE4 _ (hB3 _ ?_))))
  refine Aw_st hE [6] [615,655] fun K hK=>?_
  simp only [go_sem,seval]
  refine hK _ (Aw_ret (hQ _ ?_))
  have hs:=stillB_N.2 (fun j (hj:j < R.length)=>hways j (by omega))
  simp only [go_sem,seval,hok,hs,Bool.and_self]
 simp only [decide_eq_true_eq] at hc7
 have hil:i < W.length:=by omega
 have hdr:=cWs_drop W i hil
 have hpl:(pickN R.length (ofR R) x (toS W) ((i:Int) + 1)).length≤4294967296:=by
  have hwp:=wayPick_ok (n:=R.length) (of:=ofR R) (home:=x) hn5 q3 (h:=(i:Int) + 1) ⟨by omega,by omega⟩
  by_cases e:pickN R.length (ofR R) x (toS W) ((i:Int) + 1)=[]
  ·rw [e];simp
  ·have:=pathOk_len ((wayOk_iff e).1 hwp).2.2.1;omega
 have hpl2:(pickN W.length (lkF t) x (toS W) ((i:Int) + 1)).length≤4294967296:=by rw [q2,hlk];exact hpl
 have hwl:(W.getD i []).length≤4294967296:=by
  have:=pathOk_len (hokN.2.2 _ (getD_memL W i hil));omega
 refine Aw_skip (hB6 _ ?_)
 refine Aw_sq fun B8 hB8 hR8 hX8=>?_
 refine Aw_bk fun B9 hN9 hE9 hR9 hX9=>?_
 refine Aw_st hE [7,9,10,23,24,25] [615,655] fun K hK=>?_
 simp only [go_sem,seval,hdr]
 repeat refine ⟨by first|omega|(and_intros<;>first|omega|exact rows_row _|exact wrows_row _|decide|(simp<;>omega))|fail,?_⟩
 refine hK _ ?_;clear hK K
 have hpe:pickN W.length (lkF t) x (toS W) ((i:Int) + 1)=pickN R.length (ofR R) x (toS W) ((i:Int) + 1):=by rw [q2,hlk]
 refine Aw_st hE [7,23,24,25,36] [615,655] fun K hK=>?_
 simp only [go_sem,seval,hokN,hpl2,hwl]
 refine ⟨⟨by omega,by omega⟩,by decide,?_⟩
 refine hK _ (Aw_cond rfl (fun hc10=>?_) (fun hc10=>?_))
 ·simp only [Bool.not_eq_true',decide_eq_false_iff_not,hpe] at hc10
  have hs:=stillB_F (n:=R.length) (of:=ofR R) (home:=x) (W:=W) (fun h=>hc10 (h i (by omega)))
  refine Aw_st hE [6] [615,655] fun K hK=>?_
  simp only [go_sem,seval]
  refine hK _ (Aw_ret (hR9 _ (hR8 _ (hR5 _ (hR4 _ (hR3 _ (hQ _ ?_)))))))
  simp only [go_sem,seval,hs,Bool.and_false]
 ·simp only [Bool.not_eq_false',decide_eq_true_eq,hpe] at hc10
  refine Aw_skip (hN9 _ (hB8 _ ?_))
  refine Aw_tx hE [7,23,24,25] [615,655] fun K hK=>?_
  simp only [go_sem,seval]
  repeat refine ⟨by first|omega|(and_intros<;>first|omega|exact rows_row _|exact wrows_row _|decide|(simp<;>omega))|fail,?_⟩
  refine hK _ (hN5 (i + 1) _ ⟨by omega,fun j hj=>if e:j < i then hways j e else (by obtain rfl:j=i:=(by omega);exact hc10)⟩ (by omega) (Le.refl _))
end Go.Proofs.W
end
section
namespace Go.Proofs.W
open Go Go.Eng Go.RowKit
set_option linter.unusedSimpArgs false
set_option maxRecDepth 100000
/-! NetEnd: impl -/
def dNetEndI (pb:Addr):DFn:={ g:=gNetEnd,inv:=WP pb }
attribute [go_sem] dNetEndI
theorem runI_preL (pb:Addr) (n:Int) (t:List (Value × Value)) (home:Int) {W:List (List Int)} {l:Nat} (hl:W.length=l) (q:List Int):(cRunI pb).pre [.loc 1000 0,isl q] [(1000,[iv n,.dv (.mp t),iv home,.xs 1001 0 l l 1]),(1001,cWs W)]=(okNet ⟨n,t,home,W⟩∧(∀ x ∈ q,hI W.length x)∧q.length≤1000000):=by subst hl;exact runI_pre pb n t home W q
theorem runI_postL (pb:Addr) (n:Int) (t:List (Value × Value)) (home:Int) {W:List (List Int)} {l:Nat} (hl:W.length=l) (q:List Int) (K:AV→List (Nat × List AV)→Prop):(∀ r m2,(cRunI pb).post [.loc 1000 0,isl q] [(1000,[iv n,.dv (.mp t),iv home,.xs 1001 0 l l 1]),(1001,cWs W)] r m2→K r m2)=K (.tup []) [(1000,[iv n,.dv (.mp t),iv home,.xs 1001 0 l l 1]),(1001,cWs (runL W.length (lkF t) home W q))]:=by subst hl;exact runI_post pb n t home W q K
theorem hs_snoc (n:Nat):hs (n + 1)=hs n++[(n:Int) + 1]:=by
 unfold hs;rw [List.range_succ,List.map_append];rfl
theorem hs_len (n:Nat):(hs n).length=n:=by simp [hs]
theorem rnd_snoc (n k:Nat):rndL n (k + 1)=rndL n k++hs n:=by
 unfold rndL
 rw [List.replicate_succ',List.flatten_append];simp
set_option maxHeartbeats 4000000 in
theorem iNetEnd_ok (pb:Addr):Fine Tryd.prog 13 (dNetEndI pb).con:=by
 refine fine_detX [] gl_nil [] ms_nil [(34,(cNothing,[],[(12,600),(10,640)])),(35,(cRunI pb,[(1000,1000)],[]))] (mm_cons nothing_ok (by decide) (mm_cons (runI_ok pb) (by decide) mm_nil (wp_inh pb)) (nt_inh pb)) [] [] ex_nil (T:=TT) Tryd.func13 rfl Tryd.ntmps13 (by rw [Tryd.results13]) rfl rfl tt (gs_cons readRels_ok gs_nil) (ds_cons hasM_ok ds_nil) ?_
 intro args c r h hc
 simp only [dNetEndI,gNetEnd] at h
 split at h
 rotate_left
 ·cases h
 split at h
 rotate_left
 ·cases h
 rename_i t1 els x _ R hiw1
 obtain rfl:=waysL_eq hiw1
 obtain ⟨rfl,rfl⟩:=Prod.mk.inj (Option.some.inj h)
 refine ⟨by simp,fun k E hE Q hQ=>?_⟩
 refine Aw_st hE [0,1] [5,625,665] fun K hK=>?_
 simp only [go_sem,seval]
 refine hK _ ?_;clear hK K
 refine Aw_st hE [1,5,6] [5,625,665] fun K hK=>?_
 simp only [go_sem,seval,hc]
 refine ⟨fun hno=>?_,fun hok t hmp hlk=>?_⟩
 ·refine hK _ ?_;clear hK K
  refine Aw_sq fun B1 hB1 hR1 hX1=>?_
  refine Aw_st hE [1,5,22] [5,625,665] fun K hK=>?_
  simp only [go_sem,seval]
  refine hK _ (Aw_yes rfl ?_)
  refine Aw_st hE [4] [5,625,665] fun K hK=>?_
  simp only [go_sem,seval]
  refine hK _ (Aw_ret (hR1 _ (hQ _ ?_)))
  simp only [go_sem,seval,hno,Bool.false_and,Bool.false_eq_true]
 refine hK _ ?_;clear hK K
 refine Aw_sq fun B1 hB1 hR1 hX1=>?_
 cases h1:hIb R.length x with
 | false =>
  have h1':=h1
  unfold hIb at h1
  refine Aw_st hE [1,5,22] [5,625,665] fun K hK=>?_
  refine aops_cut 6 fun K1 hK1=>?_
  simp only [go_sem,seval,h1,Bool.not_true,Bool.not_false]
  repeat refine ⟨by first|omega|(and_intros<;>first|omega|exact rows_row _|exact wrows_row _|decide|(simp<;>omega))|fail,?_⟩
  refine hK1 _ ?_
  clear hK1
  simp only [go_sem,seval,h1,Bool.not_true,Bool.not_false]
  repeat refine ⟨by first|omega|(and_intros<;>first|omega|exact rows_row _|exact wrows_row _|decide|(simp<;>omega))|fail,?_⟩
  refine hK _ (Aw_yes rfl ?_)
  refine Aw_st hE [4] [5,625,665] fun K hK=>?_
  simp only [go_sem,seval]
  refine hK _ (Aw_ret (hR1 _ (hQ _ ?_)))
  simp only [go_sem,seval,h1',Bool.and_false,Bool.false_eq_true]
 | true =>
 have h1b:(decide (1≤x) && decide (x≤R.length))=true:=h1
 obtain ⟨g1,g2⟩:=hIb_iff.1 h1
 have hn5:=(relsOk_iff.1 hok).1.2
 have hn6:(R.length:Int)≤1000:=by omega
 have hnone:okNet ⟨R.length,t,x,noneL R.length x⟩:=⟨hmp,by simp only [noneL_len];omega,by simp only [hlk,noneL_len,toS_none (show hI R.length x from ⟨g1,g2⟩)];exact netS_none hn5 ⟨g1,g2⟩⟩
 refine Aw_st hE [1,5,22] [5,625,665] fun K hK=>?_
 refine aops_cut 6 fun K1 hK1=>?_
 simp only [go_sem,seval,h1b,Bool.not_true,Bool.not_false]
 repeat refine ⟨by first|omega|(and_intros<;>first|omega|exact rows_row _|exact wrows_row _|decide|(simp<;>omega))|fail,?_⟩
 refine hK1 _ ?_
 clear hK1
 simp only [go_sem,seval,h1b,Bool.not_true,Bool.not_false]
 repeat refine ⟨by first|omega|(and_intros<;>first|omega|exact rows_row _|exact wrows_row _|decide|(simp<;>omega))|fail,?_⟩
 refine hK _ (Aw_no rfl (Aw_skip (hB1 _ ?_)))
 refine Aw_st hE [5,7] [5,625,665] fun K hK=>?_
 simp only [go_sem,seval,g1,g2,hn6,Int.toNat_natCast]
 refine ⟨by decide,?_⟩
 refine hK _ ?_;clear hK K
 refine Aw_sq fun B5 hB5 hR5 hX5=>?_
 refine Aw_st hE [5,7,28,29] [5,625,665] fun K hK=>?_
 simp only [go_sem,seval]
 repeat refine ⟨by first|omega|(and_intros<;>first|omega|exact rows_row _|exact wrows_row _|decide|(simp<;>omega))|fail,?_⟩
 refine hK _ ?_;clear hK K
 refine Aw_bk fun B6 hN6 hE6 hR6 hX6=>?_
 have e0:runL R.length (lkF t) x (noneL R.length x) (rndL R.length 0)=noneL R.length x:=rfl
 have eh0:hs 0=[]:=rfl
 have h4n:4 * (R.length:Int)=((4 * R.length:Nat):Int):=by rw [Int.natCast_mul];rfl
 refine Aw_lp (fun i:Nat=>⟨49,[(5,.loc 5 0),(7,.loc 625 0),(28,iv ((4 * R.length:Nat):Int)),(29,iv (i:Int))],[(5,[iv R.length,.dv (.mp t)]),(625,[iv R.length,.dv (.mp t),iv x,.xs 665 0 R.length R.length 1]),(665,cWs (runL R.length (lkF t) x (noneL R.length x) (rndL R.length i)))],k⟩) (fun i=>i≤4 * R.length) (fun i=>4 * R.length - i) 0 (Le_wk (by first | omega | (dsimp only;omega) | (simp only;omega) | (simp;omega)) (by simp only [go_sem,seval,h4n]) (by simp only [go_sem,seval,e0])) (by omega) fun i hi B7 hN7 hR7 hX7=>?_
 refine Aw_st hE [5,7,28,29,30] [5,625,665] fun K hK=>?_
 simp only [go_sem,seval]
 refine hK _ ?_;clear hK K
 refine Aw_sq fun B8 hB8 hR8 hX8=>?_
 refine (Aw_cond rfl (fun hc9=>?_) (fun hc9=>?_))
 rotate_left
 ·simp only [decide_eq_false_iff_not] at hc9
  obtain rfl:i=4 * R.length:=by omega
  refine Aw_exit (hX8 _ _ (hX7 _ _ (hE6 _ (hB5 _ ?_))))
  refine Aw_st hE [4] [5,625,665] fun K hK=>?_
  simp only [go_sem,seval]
  refine hK _ ?_
  refine Aw_frz hE rfl 665 R.length (ls:=cWs (runL R.length (lkF t) x (noneL R.length x) (rndL R.length (4 * R.length)))) (ys:=wD (runL R.length (lkF t) x (noneL R.length x) (rndL R.length (4 * R.length)))) rfl (by rw [List.take_of_length_le (by rw [cWs_len,runL_len,noneL_len];omega)];exact ofAll_cWs _) ?_
  have hfz:=frz_wD (L:=endL R.length (ofR R) x) (l:=R.length) ((runL_len _ _).trans noneL_len)
  have heq:runL R.length (lkF t) x (noneL R.length x) (rndL R.length (4 * R.length))=endL R.length (ofR R) x:=by rw [hlk];rfl
  refine Aw_ret (hQ _ ?_)
  simp only [go_sem,seval,heq,hfz,hok,h1,Bool.and_self]
 simp only [decide_eq_true_eq] at hc9
 refine Aw_skip (hB8 _ ?_)
 refine Aw_sq fun B10 hB10 hR10 hX10=>?_
 refine Aw_bk fun B11 hN11 hE11 hR11 hX11=>?_
 refine Aw_st hE [5,7,8,28,29] [5,625,665] fun K hK=>?_
 simp only [go_sem,seval]
 refine hK _ ?_;clear hK K
 refine Aw_sq fun B12 hB12 hR12 hX12=>?_
 refine Aw_st hE [5,7,8,9,28,29] [5,625,665] fun K hK=>?_
 simp only [go_sem,seval]
 refine hK _ ?_;clear hK K
 refine Aw_bk fun B13 hN13 hE13 hR13 hX13=>?_
 refine Aw_lp (fun j:Nat=>⟨49,[(5,.loc 5 0),(7,.loc 625 0),(8,.sl (some (40,0,3)) (rows (hs j))),(9,iv ((j:Int) + 1)),(28,iv ((4 * R.length:Nat):Int)),(29,iv (i:Int))],[(5,[iv R.length,.dv (.mp t)]),(625,[iv R.length,.dv (.mp t),iv x,.xs 665 0 R.length R.length 1]),(665,cWs (runL R.length (lkF t) x (noneL R.length x) (rndL R.length i)))],k⟩) (fun j=>j≤R.length) (fun j=>R.length - j) 0 ((Le_own 40 3 8 rfl).trans (Le_wk (Nat.le_refl _) (by simp only [go_sem,seval,eh0]) (by simp only [go_sem,seval]))) (by omega) fun j hj B14 hN14 hR14 hX14=>?_
 refine Aw_sq fun B15 hB15 hR15 hX15=>?_
 refine Aw_st hE [5,7,8,9,28,29,34] [5,625,665] fun K hK=>?_
 simp only [go_sem,seval]
 refine hK _ (Aw_cond rfl (fun hc16=>?_) (fun hc16=>?_))
 ·simp only [decide_eq_true_eq] at hc16
  refine Aw_skip (hB15 _ ?_)
  refine Aw_sq fun B17 hB17 hR17 hX17=>?_
  refine Aw_bk fun B18 hN18 hE18 hR18 hX18=>?_
  have hhl:=hs_len j
  have hap:rows (hs j)++[[DV.v (.int .i64 ((j:Int) + 1))]]=rows (hs (j + 1)):=by rw [hs_snoc j,← rows_app];rfl
  refine Aw_tx hE [5,7,8,9,28,29] [5,625,665] fun K hK=>?_
  simp only [go_sem,seval,hhl,hap]
  refine ⟨⟨rows_row _,by omega⟩,?_⟩
  refine hK _ (hN18 _ (hB17 _ ?_))
  refine Aw_tx hE [5,7,8,9,28,29] [5,625,665] fun K hK=>?_
  simp only [go_sem,seval]
  repeat refine ⟨by first|omega|(and_intros<;>first|omega|exact rows_row _|exact wrows_row _|decide|(simp<;>omega))|fail,?_⟩
  refine hK _ (hN14 (j + 1) _ (by omega) (by omega) (by simp only [Int.natCast_add,Int.natCast_one];exact Le.refl _))
 ·simp only [decide_eq_false_iff_not] at hc16
  obtain rfl:j=R.length:=by omega
  refine Aw_exit (hX15 _ _ (hX14 _ _ (hE13 _ (hB12 _ ?_))))
  have hlen:=(runL_len (n:=R.length) (of:=lkF t) (home:=x) (rndL R.length i) (noneL R.length x)).trans noneL_len
  have hok2:okNet ⟨R.length,t,x,runL R.length (lkF t) x (noneL R.length x) (rndL R.length i)⟩:=by
   have:=okNet_run (N:=⟨R.length,t,x,noneL R.length x⟩) (q:=rndL R.length i) hnone (by simp only [noneL_len];exact rnd_mem)
   simpa only [Nt.run,noneL_len] using this
  have hsn:runL R.length (lkF t) x (runL R.length (lkF t) x (noneL R.length x) (rndL R.length i)) (hs R.length)=runL R.length (lkF t) x (noneL R.length x) (rndL R.length (i + 1)):=by rw [rnd_snoc,runL_app]
  have hin:∀ y ∈ hs R.length,hI R.length y:=fun y hy=>mem_hs.1 hy
  have hhl:=hs_len R.length
  have hn9:R.length≤1000000:=by omega
  have hpre:=runI_preL pb R.length t x hlen (hs R.length)
  have hpost:=fun K=>runI_postL pb R.length t x hlen (hs R.length) K
  refine Aw_tx hE [5,7,28,29] [5,625,665] fun K hK=>?_
  simp only [go_sem,seval,hpre,hpost,hlen,hok2,hhl,hsn]
  refine ⟨by decide,⟨hin,hn9⟩,?_⟩
  refine hK _ (hN11 _ (hB10 _ ?_))
  refine Aw_tx hE [5,7,28,29] [5,625,665] fun K hK=>?_
  simp only [go_sem,seval]
  repeat refine ⟨by first|omega|(and_intros<;>first|omega|exact rows_row _|exact wrows_row _|decide|(simp<;>omega))|fail,?_⟩
  refine hK _ (hN7 (i + 1) _ (by omega) (by omega) (Le.refl _))
end Go.Proofs.W
end
section
namespace Go.Proofs.W
open Go Go.Eng Go.RowKit
set_option linter.unusedSimpArgs false
set_option maxRecDepth 100000
/-! NetPlay: impl -/
def Nt.P (N:Nt) (p b w:Nat):List (Nat × List AV):=(p,[.loc b 0])::N.M b w
attribute [go_sem] Nt.P
theorem NtP_inj {N N':Nt} {p b w:Nat} (h:N.P p b w=N'.P p b w):N=N':=NtM_inj (List.cons.inj h).2
def ePl (i:Nt × Int):List AV × List (Nat × List AV):=([iv i.2,.loc 1000 0],i.1.P 1000 1001 1002)
theorem ePl_inj (i j:Nt × Int) (h:ePl i=ePl j):i=j:=by
 obtain ⟨N,x⟩:=i
 obtain ⟨N',x'⟩:=j
 obtain ⟨h1,h2⟩:=Prod.mk.inj h
 simp only [List.cons.injEq,true_and,AV.v.injEq,Value.int.injEq,and_true] at h1
 obtain rfl:=NtP_inj (N:=N) (N':=N') h2
 rw [h1]
def outB (n a:Int):Bool:=!(decide (1≤a) && decide (a≤n))
def cPl1:ConM:=mkM (fun _=>True) ePl (fun _=>True) fun i r m2=>r=bv (outB i.1.n i.2)∧m2=i.1.P 1000 1001 1002
theorem pl1_pre (n:Int) (t:List (Value × Value)) (home:Int) (W:List (List Int)) (h:Int):cPl1.pre [iv h,.loc 1000 0] [(1000,[.loc 1001 0]),(1001,[iv n,.dv (.mp t),iv home,.xs 1002 0 W.length W.length 1]),(1002,cWs W)]=True:=mkM_pre ePl_inj (⟨n,t,home,W⟩,h) rfl
theorem pl1_post (n:Int) (t:List (Value × Value)) (home:Int) (W:List (List Int)) (h:Int) (K:AV→List (Nat × List AV)→Prop):(∀ r m2,cPl1.post [iv h,.loc 1000 0] [(1000,[.loc 1001 0]),(1001,[iv n,.dv (.mp t),iv home,.xs 1002 0 W.length W.length 1]),(1002,cWs W)] r m2→K r m2)=K (bv (outB n h)) [(1000,[.loc 1001 0]),(1001,[iv n,.dv (.mp t),iv home,.xs 1002 0 W.length W.length 1]),(1002,cWs W)] :=
 (mkM_post ePl_inj (⟨n,t,home,W⟩,h) rfl K).trans (mkM_fn _ _)
attribute [go_sem] pl1_pre pl1_post
/-- the first house that is none -/
def ePq (i:Nt × List Int):List AV × List (Nat × List AV):=([isl i.2,.cl 45 false [.loc 1000 0]],i.1.P 1000 1001 1002)
theorem ePq_inj (i j:Nt × List Int) (h:ePq i=ePq j):i=j:=by
 obtain ⟨N,x⟩:=i
 obtain ⟨N',x'⟩:=j
 obtain ⟨h1,h2⟩:=Prod.mk.inj h
 obtain ⟨h1,_⟩:=List.cons.inj h1
 obtain rfl:=NtP_inj (N:=N) (N':=N') h2
 have h1:x=x':=isl1_inj h1
 rw [h1]
def idxF (p:Int→Bool) (q:List Int):Int:=if q.any p then (q.findIdx p:Nat) else -1
def cPlI:ConM:=mkM (fun _=>True) ePq (fun i=>i.2.length≤1000000) fun i r m2=>r=iv (idxF (outB i.1.n) i.2)∧m2=i.1.P 1000 1001 1002
theorem plI_pre (n:Int) (t:List (Value × Value)) (home:Int) (W:List (List Int)) (q:List Int):cPlI.pre [isl q,.cl 45 false [.loc 1000 0]] [(1000,[.loc 1001 0]),(1001,[iv n,.dv (.mp t),iv home,.xs 1002 0 W.length W.length 1]),(1002,cWs W)]=(q.length≤1000000):=mkM_pre ePq_inj (⟨n,t,home,W⟩,q) rfl
theorem plI_post (n:Int) (t:List (Value × Value)) (home:Int) (W:List (List Int)) (q:List Int) (K:AV→List (Nat × List AV)→Prop):(∀ r m2,cPlI.post [isl q,.cl 45 false [.loc 1000 0]] [(1000,[.loc 1001 0]),(1001,[iv n,.dv (.mp t),iv home,.xs 1002 0 W.length W.length 1]),(1002,cWs W)] r m2→K r m2)=K (iv (idxF (outB n) q)) [(1000,[.loc 1001 0]),(1001,[iv n,.dv (.mp t),iv home,.xs 1002 0 W.length W.length 1]),(1002,cWs W)] :=
 (mkM_post ePq_inj (⟨n,t,home,W⟩,q) rfl K).trans (mkM_fn _ _)
attribute [go_sem] plI_pre plI_post
def cPlC:ConM:=mkM (fun _=>True) ePq (fun i=>i.2.length≤1000000) fun i r m2=>r=bv (i.2.any (outB i.1.n))∧m2=i.1.P 1000 1001 1002
theorem plC_pre (n:Int) (t:List (Value × Value)) (home:Int) (W:List (List Int)) (q:List Int):cPlC.pre [isl q,.cl 45 false [.loc 1000 0]] [(1000,[.loc 1001 0]),(1001,[iv n,.dv (.mp t),iv home,.xs 1002 0 W.length W.length 1]),(1002,cWs W)]=(q.length≤1000000):=mkM_pre ePq_inj (⟨n,t,home,W⟩,q) rfl
theorem plC_post (n:Int) (t:List (Value × Value)) (home:Int) (W:List (List Int)) (q:List Int) (K:AV→List (Nat × List AV)→Prop):(∀ r m2,cPlC.post [isl q,.cl 45 false [.loc 1000 0]] [(1000,[.loc 1001 0]),(1001,[iv n,.dv (.mp t),iv home,.xs 1002 0 W.length W.length 1]),(1002,cWs W)] r m2→K r m2)=K (bv (q.any (outB n))) [(1000,[.loc 1001 0]),(1001,[iv n,.dv (.mp t),iv home,.xs 1002 0 W.length W.length 1]),(1002,cWs W)] :=
 (mkM_post ePq_inj (⟨n,t,home,W⟩,q) rfl K).trans (mkM_fn _ _)
attribute [go_sem] plC_pre plC_post
def dNetPlayI (pb:Addr):DFn:={ g:=gNetPlay,inv:=WP pb }
attribute [go_sem] dNetPlayI
end Go.Proofs.W
end
section
namespace Go.Proofs.W
open Go Go.Eng Go.RowKit
set_option linter.unusedSimpArgs false
set_option maxRecDepth 100000
/-! RelOf,RelMay: impl -/
def gRelOf:List AV→Option (Prop × AV)
 | [.sl _ els,.v (.int .i64 a),.v (.int .i64 b)]=>(match waysL els with
  | some R=>some (bigM R,iv (if relsOk R then ofR R a b else 0))
  | none=>none)
 | _=>none
def dRelOf:DFn:={ g:=gRelOf }
attribute [go_sem] gRelOf dRelOf
theorem relOf_ok:Fine Tryd.prog 20 dRelOf.con:=by
 refine fine_det (T:=TT) Tryd.func20 rfl Tryd.ntmps20 (by rw [Tryd.results20]) rfl rfl tt (gs_cons readRels_ok gs_nil) (ds_cons ofM_ok ds_nil) ?_
 intro args c r h hc
 simp only [dRelOf,gRelOf] at h
 split at h
 rotate_left
 ·cases h
 split at h
 rotate_left
 ·cases h
 rename_i tt els a b _ R hiw
 obtain rfl:=waysL_eq hiw
 obtain ⟨rfl,rfl⟩:=Prod.mk.inj (Option.some.inj h)
 refine ⟨by simp,fun k E hE Q hQ=>?_⟩
 refine Aw_st hE [0,1,2] [7] fun K hK=>?_
 simp only [go_sem,seval]
 refine hK _ ?_;clear hK K
 refine Aw_st hE [1,2,7,8] [7] fun K hK=>?_
 simp only [go_sem,seval,hc]
 refine ⟨fun hno=>?_,fun hok t hmp hlk=>?_⟩
 ·refine hK _ ?_;clear hK K
  refine Aw_sq fun B1 hB1 hR1 hX1=>?_
  refine Aw_st hE [1,2,7,15] [7] fun K hK=>?_
  simp only [go_sem,seval]
  refine hK _ (Aw_yes rfl ?_)
  refine Aw_st hE [6] [7] fun K hK=>?_
  simp only [go_sem,seval]
  refine hK _ (Aw_ret (hR1 _ (hQ _ ?_)))
  simp only [go_sem,seval,hno,Bool.false_eq_true]
 ·refine hK _ ?_;clear hK K
  refine Aw_sq fun B1 hB1 hR1 hX1=>?_
  refine Aw_st hE [1,2,7,15] [7] fun K hK=>?_
  simp only [go_sem,seval]
  refine hK _ (Aw_no rfl (Aw_skip (hB1 _ ?_)))
  refine Aw_st hE [6] [7] fun K hK=>?_
  simp only [go_sem,seval,hmp,hlk]
  refine hK _ (Aw_ret (hQ _ ?_))
  simp only [go_sem,seval,hok]
def gRelMay:List AV→Option (Prop × AV)
 | [.sl _ els,.v (.int .i64 h),.v (.int .i64 o),.v (.int .i64 u)]=>(match waysL els with
  | some R=>some (bigM R,bv (relsOk R && hIb R.length h && hIb R.length u && (decide (o=0) || hIb R.length o) && mayB (ofR R) h o u))
  | none=>none)
 | _=>none
def dRelMay:DFn:={ g:=gRelMay }
attribute [go_sem] gRelMay dRelMay
end Go.Proofs.W
end
section
namespace Go.Proofs.W
open Go Go.Eng Go.RowKit
set_option linter.unusedSimpArgs false
set_option maxRecDepth 100000
/-! orders: impl -/
theorem rdy_T {N:Nat} {of:Rel} {o:List Int} {a:Int} (h0:o.contains a=false) (h:∀ j,j < N→decide (of a ((j:Int) + 1)=1)=true→o.contains ((j:Int) + 1)=true):rdyB N of o a=true:=by
 unfold rdyB
 rw [h0,Bool.not_false,Bool.true_and,List.all_eq_true]
 intro x hx
 have hx:=mem_hs.1 hx
 have h1:=hx.1
 have h2:=hx.2
 have:=h (x - 1).toNat (by omega)
 rw [show (((x - 1).toNat:Nat):Int) + 1=x by omega,decide_eq_true_eq] at this
 by_cases e:of a x=1
 ·rw [this e,Bool.or_true]
 ·rw [show (of a x == 1)=false from by simpa using e];rfl
theorem rdy_F {N:Nat} {of:Rel} {o:List Int} {a:Int} {j:Nat} (hj:j < N) (h1:of a ((j:Int) + 1)=1) (h2:o.contains ((j:Int) + 1)=false):rdyB N of o a=false:=by
 unfold rdyB
 have:((hs N).all fun q=>!(of a q == 1) || o.contains q)=false:=by
  rw [List.all_eq_false]
  exact ⟨(j:Int) + 1,mem_hs.2 ⟨by omega,by omega⟩,by rw [h1,h2];decide⟩
 rw [this,Bool.and_false]
theorem rdy_C {N:Nat} {of:Rel} {o:List Int} {a:Int} (h0:o.contains a=true):rdyB N of o a=false:=by
 unfold rdyB;rw [h0];rfl
end Go.Proofs.W
end
section
namespace Go.Proofs.W
open Go Go.Eng Go.RowKit
set_option linter.unusedSimpArgs false
set_option maxRecDepth 100000
/-! relations are drawn -/
def cRelsD:Con:={ pre:=fun args=>args=[.rd],post:=fun _ r=>∃ R:List (List Int),(2≤R.length∧R.length≤5)∧(∀ w ∈ R,w.length=R.length)∧r=wsl R,cost:=40,draws:=true }
theorem cRelsD_own:cRelsD.own=false:=rfl
theorem cRelsD_draws:cRelsD.draws=true:=rfl
theorem cRelsD_cost:cRelsD.cost=40:=rfl
attribute [go_sem] cRelsD_own cRelsD_draws cRelsD_cost
def seqB:Code→Code
 | .seq _ y=>y
 | c=>c
def jN (n:Nat):List AV:=List.replicate n .junk
def vws (n:Nat) (c:Nat→Nat) (b:Nat):Nat→List AV
 | 0=>[]
 | i + 1=>vws n c b i++[.xs (b + i) 0 n (c i + n) 1]
def bxs (n:Nat) (c:Nat→Nat) (r:Nat→List Int) (b:Nat):Nat→List (Nat × List AV)
 | 0=>[]
 | i + 1=>bxs n c r b i++[(b + i,cI (r i)++jN (c i))]
theorem jN_z:jN 0=[]:=rfl
theorem jN_s (n:Nat):jN (n + 1) = .junk::jN n:=rfl
theorem jN_len (n:Nat):(jN n).length=n:=List.length_replicate
theorem jN_strip (d n:Nat):AV.stripLAll d (jN n)=jN n:=by rw [AV.stripLAll_eq,jN,List.map_replicate];rfl
theorem jN_stripA (d n:Nat):AV.stripAll d (jN n)=jN n:=by rw [AV.stripAll_eq,jN,List.map_replicate];rfl
theorem jN_nt (n:Nat):AV.ntAll (jN n)=jN n:=by rw [ntAll_eq,jN,List.map_replicate];rfl
theorem jN_swb (d d' n:Nat):AV.swbAll d d' (jN n)=jN n:=by rw [AV.swbAll_eq,jN,List.map_replicate];rfl
theorem jN_frz (d:Nat) (ys:List DV) (n:Nat):AV.frzAll d ys (jN n)=jN n:=by rw [frzAll_eq,jN,List.map_replicate];rfl
theorem jN_le:∀ n:Nat,avLeL (jN n) (jN n)=True
 | 0=>by simp [jN,avLeL]
 | n + 1=>by rw [jN_s];simp only [avLeL,jN_le n,and_true,avLe,lfLe]
theorem jN_rep (n:Nat):List.replicate n AV.junk=jN n:=rfl
theorem cI_nil:cI []=[]:=rfl
theorem cI_cons (x:Int) (l:List Int):cI (x::l)=iv x::cI l:=rfl
attribute [go_sem] cI_nil cI_cons vws bxs jN_z jN_len jN_strip jN_stripA jN_nt jN_swb jN_le jN_rep jN_frz
def tbRels:Tb:={ T:=TT,G:=[(31,cPick)],D:=[(50,dBack)],draws:=true,gl:=[],M:=[],MM:=[],X:=[17,25,26,27,72,79,95,98,99],EX:=[] }
attribute [go_sem] tbRels
def iD (l:List Int):List DV:=l.map fun n=>.v (.int .i64 n)
theorem iD_len (l:List Int):(iD l).length=l.length:=List.length_map _
theorem chunks_iD:∀ l:List Int,chunks 1 l.length (iD l)=rows l
 | []=>rfl
 | x::l=>by
  have ih:=chunks_iD l
  simp only [List.length_cons,iD,List.map_cons,chunks] at ih ⊢
  simp only [List.take_succ_cons,List.take_zero,List.drop_succ_cons,List.drop_zero]
  rw [ih];rfl
theorem frz_iD {l:List Int} {n:Nat} (h:l.length=n):(if n≤(iD l).length then AV.sl none (chunks 1 n ((iD l).take n)) else .junk)=isl l:=by
 subst h
 rw [if_pos (by rw [iD_len];exact Nat.le_refl _),List.take_of_length_le (by rw [iD_len];exact Nat.le_refl _),chunks_iD]
theorem frz_xs {d n cap:Nat} {l:List Int} (h:l.length=n):AV.frz d (iD l) (.xs d 0 n cap 1)=isl l:=by
 have:=frz_iD h
 simp only [AV.frz,reduceIte,Nat.zero_add,Nat.mul_one,List.drop_zero]
 exact this
theorem frz_xsW {d n cap:Nat} {L:List (List Int)} (h:L.length=n):AV.frz d (wD L) (.xs d 0 n cap 1)=wsl L:=by
 have:=frz_wD h
 simp only [AV.frz,reduceIte,Nat.zero_add,Nat.mul_one,List.drop_zero]
 exact this
theorem ofAll_iD {l:List Int} {n c:Nat} (h:l.length=n):DV.ofAll ((cI l++jN c).take n)=some (iD l):=by
 rw [List.take_left' (by rw [cI_len];exact h)];exact ofAll_cI l
def upd (r:Nat→List Int) (i j:Nat) (v:Int):Nat→List Int:=fun q=>if q=i then (r i).set j v else r q
theorem upd_len {r:Nat→List Int} {i j n:Nat} {v:Int} (h:∀ q,(r q).length=n):∀ q,(upd r i j v q).length=n:=fun q=>by
 unfold upd
 split
 ·rw [List.length_set];exact h i
 ·exact h q
theorem cI_set (l:List Int) (c i:Nat) (v:Int) (h:i < l.length):(cI l++jN c).set i (iv v)=cI (l.set i v)++jN c:=by
 rw [List.set_append_left _ _ (by rw [cI_len];exact h)]
 congr 1
 unfold cI;rw [List.map_set]
theorem row_le:∀ (l:List Int) (c:Nat),avLeL (cI l++jN c) (cI l++jN c)=True
 | [],c=>jN_le c
 | x::l,c=>by
  have ih:=row_le l c
  simp only [cI,List.map_cons,List.cons_append] at ih ⊢
  simp only [avLeL,ih,and_true,avLe,lfLe]
theorem row_len (l:List Int) (c:Nat):(cI l++jN c).length=l.length + c:=by rw [List.length_append,cI_len,jN_len]
attribute [go_sem] row_le row_len
def put {α:Type} (f:Nat→α) (i:Nat) (v:α):Nat→α:=fun x=>if x=i then v else f x
theorem put_len {r:Nat→List Int} {i n:Nat} {q:List Int} (h:∀ x,(r x).length=n) (hq:q.length=n):∀ x,(put r i q x).length=n:=fun x=>by
 unfold put
 split
 ·exact hq
 ·exact h x
theorem rowI_drop (l:List Int) (c i:Nat) (h:i < l.length):(cI l++jN c).drop i=iv (l.getD i 0)::(cI l++jN c).drop (i + 1):=by
 rw [List.drop_eq_getElem_cons (by rw [row_len];omega)]
 congr 1
 rw [List.getElem_append_left (by rw [cI_len];exact h)]
 simp [cI,List.getD_eq_getElem?_getD,h]
theorem row_put (q:List Int) (e:Nat) (v:Int):(cI q++jN (e + 1)).set q.length (iv v)=cI (q++[v])++jN e:=by
 rw [List.set_append_right _ _ (by rw [cI_len];exact Nat.le_refl _),cI_len,Nat.sub_self,jN_s,List.set_cons_zero,← cI_app]
 simp [cI_cons,cI_nil]
theorem row_take (q:List Int) (e:Nat):(cI q++jN e).take q.length=cI q:=List.take_left' (cI_len q)
theorem row_swb (d d':Nat) (l:List Int) (c:Nat):AV.swbAll d d' (cI l++jN c)=cI l++jN c:=by
 rw [AV.swbAll_eq,List.map_append,← AV.swbAll_eq,← AV.swbAll_eq,jN_swb,AV.swbAll_eq,cI,List.map_map]
 rfl
theorem row_stripA (d:Nat) (l:List Int) (c:Nat):AV.stripAll d (cI l++jN c)=cI l++jN c:=by
 rw [AV.stripAll_eq,List.map_append,← AV.stripAll_eq,← AV.stripAll_eq,jN_stripA,AV.stripAll_eq,cI,List.map_map]
 rfl
theorem row_stripL (d:Nat) (l:List Int) (c:Nat):AV.stripLAll d (cI l++jN c)=cI l++jN c:=by
 rw [AV.stripLAll_eq,List.map_append,← AV.stripLAll_eq,← AV.stripLAll_eq,jN_strip,AV.stripLAll_eq,cI,List.map_map]
 rfl
theorem cI_stripL (d:Nat) (l:List Int):AV.stripLAll d (cI l)=cI l:=by
 rw [AV.stripLAll_eq,cI,List.map_map]
 rfl
theorem fl_one (v:Int):flatA [[DV.v (.int .i64 v)]]=[iv v]:=rfl
theorem lf_one (v:Int):allLeaf [iv v]=true:=rfl
theorem one_row (v:Int):(∀ row ∈ [[DV.v (.int .i64 v)]],row.length=1)=True:=by simp
theorem row_snoc (q:List Int) (v:Int) (n:Nat):cI q++(iv v::jN n)=cI (q++[v])++jN n:=by
 rw [← cI_app,List.append_assoc];rfl
attribute [go_sem] row_stripA row_stripL cI_stripL fl_one lf_one one_row row_take row_swb
theorem pick4 (x:Int) (h1:0≤x) (h2:x < 4∨x=0):∃ v:Int,([[DV.v (.int .i64 0)],[DV.v (.int .i64 1)],[DV.v (.int .i64 1)],[DV.v (.int .i64 2)]]:List (List DV))[x.toNat]? = some [DV.v (.int .i64 v)]∧0≤v∧v≤3:=by
 rcases (show x=0∨x=1∨x=2∨x=3 by omega) with rfl | rfl | rfl | rfl
 ·exact ⟨0,rfl,by decide,by decide⟩
 ·exact ⟨1,rfl,by decide,by decide⟩
 ·exact ⟨1,rfl,by decide,by decide⟩
 ·exact ⟨2,rfl,by decide,by decide⟩
end Go.Proofs.W
end
section
namespace Go.Proofs.W
open Go Go.Eng Go.RowKit
set_option linter.unusedSimpArgs false
set_option maxRecDepth 100000
/-! is a house in a slice that is lent: a view,or nil -/
def vwA (b:Nat):Option (List Int × Nat)→AV
 | none=>.nl
 | some (l,e)=>.xs b 0 l.length (e + l.length) 1
def vwM (b:Nat):Option (List Int × Nat)→List (Nat × List AV)
 | none=>[]
 | some (l,e)=>[(b,cI l++jN e)]
def vwL:Option (List Int × Nat)→List Int
 | none=>[]
 | some (l,_)=>l
attribute [go_sem] vwA vwM vwL
theorem row_inj {l l':List Int} {e e':Nat} (h1:l.length=l'.length) (h:cI l++jN e=cI l'++jN e'):l=l'∧e=e':=by
 obtain ⟨h2,h3⟩:=List.append_inj h (by rw [cI_len,cI_len];exact h1)
 refine ⟨cI_inj h2,?_⟩
 have:=congrArg List.length h3
 rwa [jN_len,jN_len] at this
theorem vw_inj {b:Nat}:∀ {i j:Option (List Int × Nat)},vwA b i=vwA b j→vwM b i=vwM b j→i=j
 | none,none,_,_=>rfl
 | none,some _,h,_=>by cases h
 | some _,none,h,_=>by cases h
 | some (l,e),some (l',e'),h1,h2=>by
  simp only [vwA,AV.xs.injEq,true_and,and_true] at h1
  simp only [vwM,List.cons.injEq,Prod.mk.injEq,true_and,and_true] at h2
  obtain ⟨rfl,rfl⟩:=row_inj h1.1 h2
  rfl
def eVw (i:Option (List Int × Nat) × Int):List AV × List (Nat × List AV):=([vwA 1000 i.1,iv i.2],vwM 1000 i.1)
theorem eVw_inj (i j:Option (List Int × Nat) × Int) (h:eVw i=eVw j):i=j:=by
 obtain ⟨o,x⟩:=i
 obtain ⟨o',x'⟩:=j
 obtain ⟨h1,h2⟩:=Prod.mk.inj h
 obtain ⟨h1,h3⟩:=List.cons.inj h1
 obtain rfl:o=o':=vw_inj h1 h2
 have h3:x=x':=by simpa using h3
 rw [h3]
def cIdxV:ConM:=mkM (fun _=>True) eVw (fun i=>(vwL i.1).length≤1000) fun i r m2=>r=iv (idxB (fun x=>decide (i.2=x)) (vwL i.1) 0)∧m2=vwM 1000 i.1
theorem idxV_preN (h:Int):cIdxV.pre [.nl,iv h] []=True:=(mkM_pre eVw_inj (none,h) rfl).trans (eq_true (show 0≤1000 by decide))
theorem idxV_postN (h:Int) (K:AV→List (Nat × List AV)→Prop):(∀ r m2,cIdxV.post [.nl,iv h] [] r m2→K r m2)=K (iv (-1)) []:=(mkM_post eVw_inj (none,h) rfl K).trans (mkM_fn _ _)
theorem idxV_pre (l:List Int) (e:Nat) (h:Int):cIdxV.pre [.xs 1000 0 l.length (e + l.length) 1,iv h] [(1000,cI l++jN e)]=(l.length≤1000):=mkM_pre eVw_inj (some (l,e),h) rfl
theorem idxV_post (l:List Int) (e:Nat) (h:Int) (K:AV→List (Nat × List AV)→Prop):(∀ r m2,cIdxV.post [.xs 1000 0 l.length (e + l.length) 1,iv h] [(1000,cI l++jN e)] r m2→K r m2)=K (iv (idxB (fun x=>decide (h=x)) l 0)) [(1000,cI l++jN e)]:=(mkM_post eVw_inj (some (l,e),h) rfl K).trans (mkM_fn _ _)
attribute [go_sem] idxV_preN idxV_postN idxV_pre idxV_post
set_option maxHeartbeats 4000000 in
theorem idxV_ok:FineM Tryd.prog 80 cIdxV:=by
 refine fineM_of [] ms_nil [] mm_nil [] [] ex_nil (T:=TT) Tryd.func80 rfl Tryd.ntmps80 (by rw [Tryd.results80]) rfl rfl tt gs_nil ds_nil ?_
 rintro args m1 ⟨⟨o,a⟩,e,hl⟩
 obtain ⟨rfl,rfl⟩:=Prod.mk.inj e.symm
 refine ⟨by simp,fun E hE Q hQ=>?_⟩
 simp only at hl
 cases o with
 | none =>
  simp only [vwA,vwM]
  refine Aw_st hE [0,1] [1000] fun K hK=>?_
  simp only [go_sem,seval]
  refine hK _ ?_;clear hK K
  refine Aw_sq fun B1 hB1 hR1 hX1=>?_
  refine Aw_st hE [0,1,7,8] [1000] fun K hK=>?_
  simp only [go_sem,seval]
  refine hK _ ?_;clear hK K
  refine Aw_bk fun B2 hN2 hE2 hR2 hX2=>?_
  refine Aw_unr 1 ?_
  refine Aw_rd fun B3 hN3 hR3 hX3=>?_
  refine Aw_st hE [0,1,7,8,9] [1000] fun K hK=>?_
  simp only [go_sem,seval]
  refine hK _ ?_;clear hK K
  refine Aw_sq fun B4 hB4 hR4 hX4=>?_
  refine Aw_no rfl (Aw_exit (hX4 _ _ (hX3 _ _ (hE2 _ (hB1 _ ?_)))))
  refine Aw_st hE [4] [1000] fun K hK=>?_
  simp only [go_sem,seval]
  refine hK _ (Aw_ret (hQ _ ?_))
  simp only [go_sem,seval]
  exact ⟨(none,a),rfl,rfl,rfl⟩
 | some p =>
  obtain ⟨l,c⟩:=p
  simp only [vwA,vwM]
  simp only [vwL] at hl
  refine Aw_st hE [0,1] [1000] fun K hK=>?_
  simp only [go_sem,seval]
  refine hK _ ?_;clear hK K
  refine Aw_sq fun B1 hB1 hR1 hX1=>?_
  refine Aw_st hE [0,1,7,8] [1000] fun K hK=>?_
  simp only [go_sem,seval]
  refine hK _ ?_;clear hK K
  refine Aw_bk fun B2 hN2 hE2 hR2 hX2=>?_
  refine Aw_lp (fun i:Nat=>⟨19,[(0,.xs 1000 0 l.length (c + l.length) 1),(1,iv a),(7,iv (l.length:Int)),(8,iv (i:Int))],[(1000,cI l++jN c)],0⟩) (fun i=>i≤l.length∧idxB (fun x=>decide (a=x)) l 0=idxB (fun x=>decide (a=x)) (l.drop i) i) (fun i=>l.length - i) 0 (Le_wk (by first | omega | (dsimp only;omega) | (simp only;omega) | (simp;omega)) (by simp only [go_sem,seval]) (by simp only [go_sem,seval])) ⟨by omega,rfl⟩ fun i hi B3 hN3 hR3 hX3=>?_
  obtain ⟨hi,hx⟩:=hi
  refine Aw_st hE [0,1,7,8,9] [1000] fun K hK=>?_
  simp only [go_sem,seval]
  refine hK _ ?_;clear hK K
  refine Aw_sq fun B4 hB4 hR4 hX4=>?_
  refine Aw_cond rfl (fun hc5=>?_) (fun hc5=>?_)
  ·simp only [decide_eq_true_eq] at hc5
   have hil:i < l.length:=by omega
   have hs:=hx.trans (idxB_drop hil)
   have hg:=rowI_drop l c i hil
   rw [List.getD_eq_getElem?_getD,List.getElem?_eq_getElem hil,Option.getD_some] at hg
   generalize l[i]=x at hg hs
   refine Aw_skip (hB4 _ ?_)
   refine Aw_sq fun B6 hB6 hR6 hX6=>?_
   refine Aw_bk fun B7 hN7 hE7 hR7 hX7=>?_
   refine Aw_st hE [0,1,5,7,8] [1000] fun K hK=>?_
   simp only [go_sem,seval]
   refine hK _ ?_;clear hK K
   refine Aw_st hE [0,1,5,7,8,16] [1000] fun K hK=>?_
   simp only [go_sem,seval,hg]
   repeat refine ⟨by first|omega|(and_intros<;>first|omega|exact rows_row _|exact wrows_row _|decide|(simp<;>omega))|fail,?_⟩
   refine hK _ (Aw_cond rfl (fun hc8=>?_) (fun hc8=>?_))
   ·rw [hc8] at hs
    refine Aw_st hE [4] [1000] fun K hK=>?_
    simp only [go_sem,seval]
    refine hK _ (Aw_ret (hR7 _ (hR6 _ (hR3 _ (hR2 _ (hR1 _ (hQ _ ?_)))))))
    simp only [go_sem,seval]
    exact ⟨(some (l,c),a),rfl,by simp only [vwL];rw [hs];rfl,rfl⟩
   ·rw [hc8] at hs
    refine Aw_skip (hN7 _ (hB6 _ ?_))
    refine Aw_tx hE [0,1,7,8] [1000] fun K hK=>?_
    simp only [go_sem,seval]
    repeat refine ⟨by first|omega|(and_intros<;>first|omega|exact rows_row _|exact wrows_row _|decide|(simp<;>omega))|fail,?_⟩
    refine hK _ (hN3 (i + 1) _ ⟨by omega,hs⟩ (by omega) (Le.refl _))
  ·simp only [decide_eq_false_iff_not] at hc5
   rw [List.drop_eq_nil_of_le (by omega)] at hx
   refine Aw_exit (hX4 _ _ (hX3 _ _ (hE2 _ (hB1 _ ?_))))
   refine Aw_st hE [4] [1000] fun K hK=>?_
   simp only [go_sem,seval]
   refine hK _ (Aw_ret (hQ _ ?_))
   simp only [go_sem,seval]
   exact ⟨(some (l,c),a),rfl,by simp only [vwL];rw [hx];rfl,rfl⟩
def cHasV:ConM:=mkM (fun _=>True) eVw (fun i=>(vwL i.1).length≤1000) fun i r m2=>r=bv ((vwL i.1).contains i.2)∧m2=vwM 1000 i.1
theorem hasV_preN (h:Int):cHasV.pre [.nl,iv h] []=True:=(mkM_pre eVw_inj (none,h) rfl).trans (eq_true (show 0≤1000 by decide))
theorem hasV_postN (h:Int) (K:AV→List (Nat × List AV)→Prop):(∀ r m2,cHasV.post [.nl,iv h] [] r m2→K r m2)=K (bv false) []:=(mkM_post eVw_inj (none,h) rfl K).trans (mkM_fn _ _)
theorem hasV_pre (l:List Int) (e:Nat) (h:Int):cHasV.pre [.xs 1000 0 l.length (e + l.length) 1,iv h] [(1000,cI l++jN e)]=(l.length≤1000):=mkM_pre eVw_inj (some (l,e),h) rfl
theorem hasV_post (l:List Int) (e:Nat) (h:Int) (K:AV→List (Nat × List AV)→Prop):(∀ r m2,cHasV.post [.xs 1000 0 l.length (e + l.length) 1,iv h] [(1000,cI l++jN e)] r m2→K r m2)=K (bv (l.contains h)) [(1000,cI l++jN e)]:=(mkM_post eVw_inj (some (l,e),h) rfl K).trans (mkM_fn _ _)
attribute [go_sem] hasV_preN hasV_postN hasV_pre hasV_post
theorem jN_mvn (f:Nat→Option Nat) (c:Nat):AV.mvnAll f (jN c)=jN c:=by rw [mvnAll_eq,jN,List.map_replicate];rfl
theorem jN_stripF (F:Nat→Bool) (c:Nat):AV.stripFAll F (jN c)=jN c:=by rw [stripFAll_eq,jN,List.map_replicate];rfl
theorem row_mvn (f:Nat→Option Nat) (l:List Int) (c:Nat):AV.mvnAll f (cI l++jN c)=cI l++jN c:=by
 rw [mvnAll_eq,List.map_append,cI,jN,List.map_map,List.map_replicate];rfl
theorem row_nt (l:List Int) (c:Nat):AV.ntAll (cI l++jN c)=cI l++jN c:=by
 rw [ntAll_eq,List.map_append,cI,jN,List.map_map,List.map_replicate];rfl
theorem row_stripF (F:Nat→Bool) (l:List Int) (c:Nat):AV.stripFAll F (cI l++jN c)=cI l++jN c:=by
 rw [stripFAll_eq,List.map_append,cI,jN,List.map_map,List.map_replicate];rfl
theorem rhoS_row (m:List (Nat × List AV)) (c:Nat):∀ (l:List Int) (f n:Nat) (ρ:List (Nat × Nat)),rhoS m f n (cI l++jN c) ρ=ρ
 | x::l,0,_,_=>rfl
 | x::l,f + 1,n,ρ=>rhoS_row m c l f n ρ
 | [],f,n,ρ=>by
  show rhoS m f n (jN c) ρ=ρ
  induction c generalizing f with
  | zero=>cases f<;>rfl
  | succ c ih=>cases f with
   | zero=>rfl
   | succ f=>exact ih f
attribute [go_sem] jN_mvn jN_stripF row_mvn row_nt row_stripF rhoS_row
set_option maxHeartbeats 4000000 in
theorem hasV_ok:FineM Tryd.prog 69 cHasV:=by
 refine fineM_of [] ms_nil [(80,(cIdxV,[(1000,1000)],[]))] (mm_cons idxV_ok (by decide) mm_nil) [] [] ex_nil (T:=TT) Tryd.func69 rfl Tryd.ntmps69 (by rw [Tryd.results69]) rfl rfl tt gs_nil ds_nil ?_
 rintro args m1 ⟨⟨o,a⟩,e,hl⟩
 obtain ⟨rfl,rfl⟩:=Prod.mk.inj e.symm
 refine ⟨by simp,fun E hE Q hQ=>?_⟩
 simp only at hl
 cases o with
 | none =>
  simp only [vwA,vwM]
  refine Aw_st hE [0,1] [1000] fun K hK=>?_
  simp only [go_sem,seval]
  refine hK _ ?_;clear hK K
  refine Aw_st hE [4] [1000] fun K hK=>?_
  simp only [go_sem,seval]
  refine ⟨by decide,?_⟩
  refine hK _ (Aw_ret (hQ _ ?_))
  simp only [go_sem,seval]
  exact ⟨(none,a),rfl,rfl,rfl⟩
 | some p =>
  obtain ⟨l,c⟩:=p
  simp only [vwA,vwM]
  simp only [vwL] at hl
  refine Aw_st hE [0,1] [1000] fun K hK=>?_
  simp only [go_sem,seval]
  refine hK _ ?_;clear hK K
  have hix:=idxB_any (f:=fun x=>decide (a=x)) l 0
  refine Aw_st hE [4] [1000] fun K hK=>?_
  simp only [go_sem,seval,hl,hix]
  refine ⟨by decide,?_⟩
  refine hK _ (Aw_ret (hQ _ ?_))
  simp only [go_sem,seval]
  exact ⟨(some (l,c),a),rfl,by simp only [vwL,any_contains],rfl⟩
end Go.Proofs.W
end
section
namespace Go.Proofs.W
open Go Go.Eng Go.RowKit
set_option linter.unusedSimpArgs false
set_option maxRecDepth 100000
/-! is a house ready: impl -/
structure Od where
 n:Int
 t:List (Value × Value)
 o:Option (List Int × Nat)
def Od.M (N:Od) (a b c:Nat):List (Nat × List AV):=(a,[vwA c N.o])::(b,[iv N.n,.dv (.mp N.t)])::vwM c N.o
attribute [go_sem] Od.M
def eOd (i:Od × Int):List AV × List (Nat × List AV):=([iv i.2,.loc 1000 0,.loc 1001 0],i.1.M 1000 1001 1002)
theorem eOd_inj (i j:Od × Int) (h:eOd i=eOd j):i=j:=by
 obtain ⟨⟨n,t,o⟩,x⟩:=i
 obtain ⟨⟨n',t',o'⟩,x'⟩:=j
 obtain ⟨h1,h2⟩:=Prod.mk.inj h
 obtain ⟨h3,h4⟩:=List.cons.inj h2
 obtain ⟨h4,h5⟩:=List.cons.inj h4
 have h3:=(List.cons.inj (Prod.mk.inj h3).2).1
 obtain rfl:o=o':=vw_inj h3 h5
 simp only [List.cons.injEq,true_and,AV.v.injEq,Value.int.injEq,and_true] at h1
 simp only [List.cons.injEq,Prod.mk.injEq,true_and,and_true,AV.v.injEq,Value.int.injEq,AV.dv.injEq,DV.mp.injEq] at h4
 obtain ⟨rfl,rfl⟩:=h4
 rw [h1]
def cRdy:ConM:=mkM (fun _=>True) eOd (fun i=>mpI i.1.t∧0≤i.1.n∧i.1.n≤1000∧(vwL i.1.o).length≤1000) fun i r m2=>r=bv (rdyB i.1.n.toNat (lkF i.1.t) (vwL i.1.o) i.2)∧m2=i.1.M 1000 1001 1002
theorem rdy_preN (n:Int) (t:List (Value × Value)) (h:Int):cRdy.pre [iv h,.loc 1000 0,.loc 1001 0] [(1000,[.nl]),(1001,[iv n,.dv (.mp t)])]=(mpI t∧0≤n∧n≤1000∧0≤1000):=mkM_pre eOd_inj (⟨n,t,none⟩,h) rfl
theorem rdy_postN (n:Int) (t:List (Value × Value)) (h:Int) (K:AV→List (Nat × List AV)→Prop):(∀ r m2,cRdy.post [iv h,.loc 1000 0,.loc 1001 0] [(1000,[.nl]),(1001,[iv n,.dv (.mp t)])] r m2→K r m2)=K (bv (rdyB n.toNat (lkF t) [] h)) [(1000,[.nl]),(1001,[iv n,.dv (.mp t)])]:=(mkM_post eOd_inj (⟨n,t,none⟩,h) rfl K).trans (mkM_fn _ _)
theorem rdy_pre (n:Int) (t:List (Value × Value)) (l:List Int) (e:Nat) (h:Int):cRdy.pre [iv h,.loc 1000 0,.loc 1001 0] [(1000,[.xs 1002 0 l.length (e + l.length) 1]),(1001,[iv n,.dv (.mp t)]),(1002,cI l++jN e)]=(mpI t∧0≤n∧n≤1000∧l.length≤1000):=mkM_pre eOd_inj (⟨n,t,some (l,e)⟩,h) rfl
theorem rdy_post (n:Int) (t:List (Value × Value)) (l:List Int) (e:Nat) (h:Int) (K:AV→List (Nat × List AV)→Prop):(∀ r m2,cRdy.post [iv h,.loc 1000 0,.loc 1001 0] [(1000,[.xs 1002 0 l.length (e + l.length) 1]),(1001,[iv n,.dv (.mp t)]),(1002,cI l++jN e)] r m2→K r m2)=K (bv (rdyB n.toNat (lkF t) l h)) [(1000,[.xs 1002 0 l.length (e + l.length) 1]),(1001,[iv n,.dv (.mp t)]),(1002,cI l++jN e)]:=(mkM_post eOd_inj (⟨n,t,some (l,e)⟩,h) rfl K).trans (mkM_fn _ _)
attribute [go_sem] rdy_preN rdy_postN rdy_pre rdy_post
set_option maxHeartbeats 4000000 in
theorem rdy_ok:FineM Tryd.prog 68 cRdy:=by
 refine fineM_of [] ms_nil [(69,(cHasV,[(1000,1000)],[]))] (mm_cons hasV_ok (by decide) mm_nil) [] [] ex_nil (T:=TT) Tryd.func68 rfl Tryd.ntmps68 (by rw [Tryd.results68]) rfl rfl tt gs_nil (ds_cons ofM_ok ds_nil) ?_
 rintro args m1 ⟨⟨⟨n,t,o⟩,a⟩,e,hmp,hn0,hn,ho⟩
 obtain ⟨rfl,rfl⟩:=Prod.mk.inj e.symm
 refine ⟨by simp,fun E hE Q hQ=>?_⟩
 simp only at hmp hn0 hn ho
 cases o with
 | none =>
  simp only [Od.M,vwA,vwM]
  refine Aw_st hE [0,1,2] [1000,1001,1002] fun K hK=>?_
  simp only [go_sem,seval]
  refine hK _ ?_;clear hK K
  refine Aw_sq fun B1 hB1 hR1 hX1=>?_
  have ho4:([]:List Int).length≤4294967296:=by simp
  have fin:∀ b,rdyB n.toNat (lkF t) ([]:List Int) a=b→cRdy.post [iv a,.loc 1000 0,.loc 1001 0] ((⟨n,t,none⟩:Od).M 1000 1001 1002) (bv b) ((⟨n,t,none⟩:Od).M 1000 1001 1002):=fun b hb=>⟨(⟨n,t,none⟩,a),rfl,by rw [← hb];exact ⟨rfl,rfl⟩⟩
  refine Aw_st hE [0,1,2,8] [1000,1001,1002] fun K hK=>?_
  simp only [go_sem,seval,ho4]
  refine ⟨by decide,?_⟩
  refine hK _ (Aw_cond rfl (fun hc2=>?_) (fun hc2=>?_))
  ·refine Aw_st hE [4] [1000,1001,1002] fun K hK=>?_
   simp only [go_sem,seval]
   refine hK _ (Aw_ret (hR1 _ (hQ _ ?_)))
   simp only [go_sem,seval]
   exact fin _ (rdy_C hc2)
  refine Aw_skip (hB1 _ ?_)
  refine Aw_sq fun B3 hB3 hR3 hX3=>?_
  refine Aw_st hE [0,1,2,5] [1000,1001,1002] fun K hK=>?_
  simp only [go_sem,seval]
  refine hK _ ?_;clear hK K
  refine Aw_bk fun B4 hN4 hE4 hR4 hX4=>?_
  refine Aw_lp (fun i:Nat=>⟨26,[(0,iv a),(1,.loc 1000 0),(2,.loc 1001 0),(5,iv ((i:Int) + 1))],(⟨n,t,none⟩:Od).M 1000 1001 1002,0⟩) (fun i=>(i:Int)≤n∧∀ j,j < i→decide (lkF t a ((j:Int) + 1)=1)=true→([]:List Int).contains ((j:Int) + 1)=true) (fun i=>n.toNat - i) 0 (Le_wk (by first | omega | (dsimp only;omega) | (simp only;omega) | (simp;omega)) (by simp only [go_sem,seval]) (by simp only [go_sem,seval])) ⟨by omega,fun j h=>absurd h (by omega)⟩ fun i hi B5 hN5 hR5 hX5=>?_
  obtain ⟨hi,hall⟩:=hi
  refine Aw_sq fun B6 hB6 hR6 hX6=>?_
  refine Aw_st hE [0,1,2,5,12] [1000,1001,1002] fun K hK=>?_
  simp only [go_sem,seval]
  refine hK _ (Aw_cond rfl (fun hc7=>?_) (fun hc7=>?_))
  ·simp only [decide_eq_true_eq] at hc7
   have hnx:(decide (lkF t a ((i:Int) + 1)=1)=true→([]:List Int).contains ((i:Int) + 1)=true)→((i + 1:Nat):Int)≤n∧∀ j,j < i + 1→decide (lkF t a ((j:Int) + 1)=1)=true→([]:List Int).contains ((j:Int) + 1)=true:=fun h=>⟨by omega,fun j hj=>if e:j < i then hall j e else (by obtain rfl:j=i:=(by omega);exact h)⟩
   refine Aw_skip (hB6 _ ?_)
   refine Aw_sq fun B8 hB8 hR8 hX8=>?_
   refine Aw_bk fun B9 hN9 hE9 hR9 hX9=>?_
   refine Aw_st hE [0,1,2,5,25] [1000,1001,1002] fun K hK=>?_
   simp only [go_sem,seval,hmp,ho4]
   refine ⟨fun hg11=>⟨by decide,?_⟩,fun hg11=>?_⟩
   ·refine hK _ (Aw_cond rfl (fun hc12=>?_) (fun hc12=>?_))
    ·refine Aw_st hE [4] [1000,1001,1002] fun K hK=>?_
     simp only [go_sem,seval]
     refine hK _ (Aw_ret (hR9 _ (hR8 _ (hR5 _ (hR4 _ (hR3 _ (hQ _ ?_)))))))
     simp only [go_sem,seval]
     exact fin _ (rdy_F (j:=i) (by omega) (by simpa using hg11) rfl)
    ·cases hc12
   ·refine hK _ (Aw_no rfl ?_)
    refine Aw_skip (hN9 _ (hB8 _ ?_))
    refine Aw_tx hE [0,1,2,5] [1000,1001,1002] fun K hK=>?_
    simp only [go_sem,seval]
    repeat refine ⟨by first|omega|(and_intros<;>first|omega|exact rows_row _|exact wrows_row _|decide|(simp<;>omega))|fail,?_⟩
    refine hK _ (hN5 (i + 1) _ (hnx fun h=>absurd h (by rw [hg11];decide)) (by omega) (Le.refl _))
  ·simp only [decide_eq_false_iff_not] at hc7
   refine Aw_exit (hX6 _ _ (hX5 _ _ (hE4 _ (hB3 _ ?_))))
   refine Aw_st hE [4] [1000,1001,1002] fun K hK=>?_
   simp only [go_sem,seval]
   refine hK _ (Aw_ret (hQ _ ?_))
   simp only [go_sem,seval]
   exact fin _ (rdy_T hc2 fun j hj=>hall j (by omega))
 | some p =>
  obtain ⟨l,c⟩:=p
  simp only [vwL] at ho
  simp only [Od.M,vwA,vwM]
  refine Aw_st hE [0,1,2] [1000,1001,1002] fun K hK=>?_
  simp only [go_sem,seval]
  refine hK _ ?_;clear hK K
  refine Aw_sq fun B1 hB1 hR1 hX1=>?_
  have ho4:l.length≤1000:=ho
  have fin:∀ b,rdyB n.toNat (lkF t) l a=b→cRdy.post [iv a,.loc 1000 0,.loc 1001 0] ((⟨n,t,some (l,c)⟩:Od).M 1000 1001 1002) (bv b) ((⟨n,t,some (l,c)⟩:Od).M 1000 1001 1002):=fun b hb=>⟨(⟨n,t,some (l,c)⟩,a),rfl,by rw [← hb];exact ⟨rfl,rfl⟩⟩
  refine Aw_st hE [0,1,2,8] [1000,1001,1002] fun K hK=>?_
  simp only [go_sem,seval,ho4]
  refine ⟨by decide,?_⟩
  refine hK _ (Aw_cond rfl (fun hc2=>?_) (fun hc2=>?_))
  ·refine Aw_st hE [4] [1000,1001,1002] fun K hK=>?_
   simp only [go_sem,seval]
   refine hK _ (Aw_ret (hR1 _ (hQ _ ?_)))
   simp only [go_sem,seval]
   exact fin _ (rdy_C hc2)
  refine Aw_skip (hB1 _ ?_)
  refine Aw_sq fun B3 hB3 hR3 hX3=>?_
  refine Aw_st hE [0,1,2,5] [1000,1001,1002] fun K hK=>?_
  simp only [go_sem,seval]
  refine hK _ ?_;clear hK K
  refine Aw_bk fun B4 hN4 hE4 hR4 hX4=>?_
  refine Aw_lp (fun i:Nat=>⟨26,[(0,iv a),(1,.loc 1000 0),(2,.loc 1001 0),(5,iv ((i:Int) + 1))],(⟨n,t,some (l,c)⟩:Od).M 1000 1001 1002,0⟩) (fun i=>(i:Int)≤n∧∀ j,j < i→decide (lkF t a ((j:Int) + 1)=1)=true→l.contains ((j:Int) + 1)=true) (fun i=>n.toNat - i) 0 (Le_wk (by first | omega | (dsimp only;omega) | (simp only;omega) | (simp;omega)) (by simp only [go_sem,seval]) (by simp only [go_sem,seval])) ⟨by omega,fun j h=>absurd h (by omega)⟩ fun i hi B5 hN5 hR5 hX5=>?_
  obtain ⟨hi,hall⟩:=hi
  refine Aw_sq fun B6 hB6 hR6 hX6=>?_
  refine Aw_st hE [0,1,2,5,12] [1000,1001,1002] fun K hK=>?_
  simp only [go_sem,seval]
  refine hK _ (Aw_cond rfl (fun hc7=>?_) (fun hc7=>?_))
  ·simp only [decide_eq_true_eq] at hc7
   have hnx:(decide (lkF t a ((i:Int) + 1)=1)=true→l.contains ((i:Int) + 1)=true)→((i + 1:Nat):Int)≤n∧∀ j,j < i + 1→decide (lkF t a ((j:Int) + 1)=1)=true→l.contains ((j:Int) + 1)=true:=fun h=>⟨by omega,fun j hj=>if e:j < i then hall j e else (by obtain rfl:j=i:=(by omega);exact h)⟩
   refine Aw_skip (hB6 _ ?_)
   refine Aw_sq fun B8 hB8 hR8 hX8=>?_
   refine Aw_bk fun B9 hN9 hE9 hR9 hX9=>?_
   refine Aw_st hE [0,1,2,5,25] [1000,1001,1002] fun K hK=>?_
   simp only [go_sem,seval,hmp,ho4]
   refine ⟨fun hg11=>⟨by decide,?_⟩,fun hg11=>?_⟩
   ·refine hK _ (Aw_cond rfl (fun hc12=>?_) (fun hc12=>?_))
    ·simp only [Bool.not_eq_true'] at hc12
     refine Aw_st hE [4] [1000,1001,1002] fun K hK=>?_
     simp only [go_sem,seval]
     refine hK _ (Aw_ret (hR9 _ (hR8 _ (hR5 _ (hR4 _ (hR3 _ (hQ _ ?_)))))))
     simp only [go_sem,seval]
     exact fin _ (rdy_F (j:=i) (by omega) (by simpa using hg11) hc12)
    ·simp only [Bool.not_eq_false'] at hc12
     refine Aw_skip (hN9 _ (hB8 _ ?_))
     refine Aw_tx hE [0,1,2,5] [1000,1001,1002] fun K hK=>?_
     simp only [go_sem,seval]
     repeat refine ⟨by first|omega|(and_intros<;>first|omega|exact rows_row _|exact wrows_row _|decide|(simp<;>omega))|fail,?_⟩
     refine hK _ (hN5 (i + 1) _ (hnx fun _=>hc12) (by omega) (Le.refl _))
   ·refine hK _ (Aw_no rfl ?_)
    refine Aw_skip (hN9 _ (hB8 _ ?_))
    refine Aw_tx hE [0,1,2,5] [1000,1001,1002] fun K hK=>?_
    simp only [go_sem,seval]
    repeat refine ⟨by first|omega|(and_intros<;>first|omega|exact rows_row _|exact wrows_row _|decide|(simp<;>omega))|fail,?_⟩
    refine hK _ (hN5 (i + 1) _ (hnx fun h=>absurd h (by rw [hg11];decide)) (by omega) (Le.refl _))
  ·simp only [decide_eq_false_iff_not] at hc7
   refine Aw_exit (hX6 _ _ (hX5 _ _ (hE4 _ (hB3 _ ?_))))
   refine Aw_st hE [4] [1000,1001,1002] fun K hK=>?_
   simp only [go_sem,seval]
   refine hK _ (Aw_ret (hQ _ ?_))
   simp only [go_sem,seval]
   exact fin _ (rdy_T hc2 fun j hj=>hall j (by omega))
end Go.Proofs.W
end
section
namespace Go.Proofs.W
open Go Go.Eng Go.RowKit
set_option linter.unusedSimpArgs false
set_option maxRecDepth 100000
/-! orders: impl -/
theorem find_none {p:Int→Bool}:∀ {N:Nat},(∀ j,j < N→p ((j:Int) + 1)=false)→(hs N).find? p=none
 | 0,_=>rfl
 | N + 1,h=>by
  rw [hs_snoc,List.find?_append,find_none (N:=N) fun j hj=>h j (by omega)]
  simp [h N (by omega)]
theorem find_hs {p:Int→Bool} {i:Nat} (h:∀ j,j < i→p ((j:Int) + 1)=false) (hp:p ((i:Int) + 1)=true):∀ {N:Nat},i < N→(hs N).find? p=some ((i:Int) + 1)
 | 0,hi=>absurd hi (by omega)
 | N + 1,hi=>by
  rw [hs_snoc,List.find?_append]
  by_cases e:i < N
  ·rw [find_hs h hp e];rfl
  ·obtain rfl:i=N:=by omega
   rw [find_none h]
   simp [hp]
def gOrd:List AV→Option (Prop × AV)
 | [.agg [.v (.int .i64 n),.dv (.mp t)]]=>some (mpI t∧0≤n∧n≤1000,match ordF n.toNat (lkF t) n.toNat [] with
  | some l=>.tup [isl l,bv true]
  | none=>.tup [isl [],bv false])
 | _=>none
def dOrd:DFn:={ g:=gOrd }
attribute [go_sem] gOrd dOrd
theorem ord_next {N:Nat} {of:Rel} {out:List Int} {h:Int} (hl:out.length < N) (hf:(hs N).find? (rdyB N of out)=some h):ordF N of (N - out.length) out=ordF N of (N - (out++[h]).length) (out++[h]):=by
 obtain ⟨q,hq⟩:∃ q,N - out.length=q + 1:=⟨N - out.length - 1,by omega⟩
 rw [hq,ordF,hf]
 show ordF N of q (out++[h])=_
 rw [show N - (out++[h]).length=q by simp only [List.length_append,List.length_singleton];omega]
theorem ord_stop {N:Nat} {of:Rel} {out:List Int} (hl:out.length < N) (hf:(hs N).find? (rdyB N of out)=none):ordF N of (N - out.length) out=none:=by
 obtain ⟨q,hq⟩:∃ q,N - out.length=q + 1:=⟨N - out.length - 1,by omega⟩
 rw [hq,ordF,hf]
set_option maxHeartbeats 4000000 in
theorem order_ok:Fine Tryd.prog 54 dOrd.con:=by
 refine fine_detX [] gl_nil [] ms_nil [(68,(cRdy,[(1000,1000)],[]))] (mm_cons rdy_ok (by decide) mm_nil) [7,32] [] ex_nil (T:=TT) Tryd.func54 rfl Tryd.ntmps54 (by rw [Tryd.results54]) rfl rfl tt gs_nil ds_nil ?_
 intro args c r h hc
 simp only [dOrd,gOrd] at h
 split at h
 rotate_left
 ·cases h
 rename_i n t
 obtain ⟨rfl,rfl⟩:=Prod.mk.inj (Option.some.inj h)
 refine ⟨by simp,fun k E hE Q hQ=>?_⟩
 obtain ⟨hmp,hn0,hn⟩:=hc
 refine Aw_st hE [1] [1,4,32,750] fun K hK=>?_
 simp only [go_sem,seval]
 refine hK _ ?_;clear hK K
 refine Aw_st hE [1,4] [1,4,32,750] fun K hK=>?_
 simp only [go_sem,seval]
 refine hK _ ?_;clear hK K
 refine Aw_st hE [1,4,5] [1,4,32,750] fun K hK=>?_
 simp only [go_sem,seval]
 refine hK _ ?_;clear hK K
 refine Aw_sq fun B1 hB1 hR1 hX1=>?_
 refine Aw_bk fun B2 hN2 hE2 hR2 hX2=>?_
 refine Aw_lp (fun o:Option (List Int × Nat)=>⟨34,[(1,.loc 1 0),(4,.loc 4 0),(5,.cl 68 false [.loc 4 0,.loc 1 0])],(1,[iv n,.dv (.mp t)])::(4,[vwA 750 o])::vwM 750 o,k⟩) (fun o=>(vwL o).length≤n.toNat∧ordF n.toNat (lkF t) n.toNat []=ordF n.toNat (lkF t) (n.toNat - (vwL o).length) (vwL o)) (fun o=>n.toNat - (vwL o).length) none (Le_wk (by first | omega | (dsimp only;omega) | (simp only;omega) | (simp;omega)) (by simp only [go_sem,seval]) (by simp only [go_sem,seval])) ⟨Nat.zero_le _,rfl⟩ fun o ho B3 hN3 hR3 hX3=>?_
 obtain ⟨hlen,heq⟩:=ho
 refine Aw_sq fun B4 hB4 hR4 hX4=>?_
 cases o with
 | none =>
  simp only [vwL] at hlen heq
  refine Aw_st hE [1,4,5,12] [1,4,32,750] fun K hK=>?_
  simp only [go_sem,seval]
  refine hK _ (Aw_cond rfl (fun hc5=>?_) (fun hc5=>?_))
  rotate_left
  ·simp only [decide_eq_false_iff_not] at hc5
   have hN:n.toNat=0:=by omega
   have hord:ordF n.toNat (lkF t) n.toNat []=some []:=by rw [hN];rfl
   rw [hord] at hQ
   refine Aw_exit (hX4 _ _ (hX3 _ _ (hE2 _ (hB1 _ ?_))))
   refine Aw_st hE [2,3] [1,4,32,750] fun K hK=>?_
   simp only [go_sem,seval]
   refine hK _ (Aw_ret (hQ _ ?_))
   simp only [go_sem,seval]
   all_goals rfl
  simp only [decide_eq_true_eq] at hc5
  refine Aw_skip (hB4 _ ?_)
  refine Aw_bk fun B6 hN6 hE6 hR6 hX6=>?_
  refine Aw_st hE [1,4,5,6] [1,4,32,750] fun K hK=>?_
  simp only [go_sem,seval]
  refine hK _ ?_;clear hK K
  refine Aw_sq fun B7 hB7 hR7 hX7=>?_
  refine Aw_bk fun B8 hN8 hE8 hR8 hX8=>?_
  refine Aw_lp (fun i:Nat=>⟨34,[(1,.loc 1 0),(4,.loc 4 0),(5,.cl 68 false [.loc 4 0,.loc 1 0]),(6,iv ((i:Int) + 1))],(1,[iv n,.dv (.mp t)])::(4,[vwA 750 (none)])::vwM 750 (none),k⟩) (fun i=>(i:Int)≤n∧∀ j,j < i→rdyB n.toNat (lkF t) ([]:List Int) ((j:Int) + 1)=false) (fun i=>n.toNat - i) 0 (Le_wk (by first | omega | (dsimp only;omega) | (simp only;omega) | (simp;omega)) (by simp only [go_sem,seval]) (by simp only [go_sem,seval])) ⟨by omega,fun j h=>absurd h (by omega)⟩ fun i hi B9 hN9 hR9 hX9=>?_
  obtain ⟨hi,hno⟩:=hi
  have hl3:0≤1000:=by omega
  refine Aw_sq fun B10 hB10 hR10 hX10=>?_
  refine Aw_st hE [1,4,5,6,22] [1,4,32,750] fun K hK=>?_
  simp only [go_sem,seval,hmp,hn0,hn]
  refine ⟨fun hg=>⟨by decide,?_⟩,fun hg=>?_⟩
  ·simp only [decide_eq_true_eq] at hg
   refine hK _ (Aw_cond rfl (fun hc13=>?_) (fun hc13=>?_))
   ·simp only [Bool.not_eq_true'] at hc13
    refine Aw_skip (hB10 _ ?_)
    refine Aw_bk fun B14 hN14 hE14 hR14 hX14=>?_
    refine Aw_tx hE [1,4,5,6] [1,4,32,750] fun K hK=>?_
    simp only [go_sem,seval]
    repeat refine ⟨by first|omega|(and_intros<;>first|omega|exact rows_row _|exact wrows_row _|decide|(simp<;>omega))|fail,?_⟩
    refine hK _ (hN14 _ (hN9 (i + 1) _ ⟨by omega,fun j hj=>if e:j < i then hno j e else (by obtain rfl:j=i:=(by omega);exact hc13)⟩ (by omega) (Le.refl _)))
   ·simp only [Bool.not_eq_false'] at hc13
    have hfd:=find_hs (p:=rdyB n.toNat (lkF t) ([]:List Int)) hno hc13 (N:=n.toNat) (by omega)
    refine Aw_exit (hX10 _ _ (hX9 _ _ (hE8 _ (hB7 _ ?_))))
    refine Aw_sq fun B15 hB15 hR15 hX15=>?_
    refine Aw_st hE [1,4,5,6,28] [1,4,32,750] fun K hK=>?_
    simp only [go_sem,seval]
    refine hK _ (Aw_cond rfl (fun hc16=>absurd (of_decide_eq_true hc16) (by omega)) (fun hc16=>?_))
    refine Aw_skip (hB15 _ ?_)
    refine Aw_tx hE [1,4,5] [1,4,32,750] fun K hK=>?_
    simp only [go_sem,seval]
    have hnx:=ord_next (out:=([]:List Int)) (by simp only [List.length_nil];omega) hfd
    intro cap' hcap'
    obtain ⟨c',rfl⟩:∃ c',cap'=c' + 1:=⟨cap' - 1,by omega⟩
    rw [Nat.add_sub_cancel]
    refine hK _ (hN6 _ (hN3 (some ([(i:Int) + 1],c')) _ ⟨by simp only [vwL,List.length_singleton];omega,heq.trans hnx⟩ (by simp only [vwL,List.length_singleton,List.length_nil];omega) ?_))
    refine (Le_swb _ 32 750 (by decide) (by decide)).trans ?_
    simp only [St.swb,swbσ,swbm,AV.swb,AV.swbAll,swp,jN_swb,row_swb,Nat.reduceEqDiff,if_true,if_false,reduceIte]
    exact Le_wk (by first | omega | (dsimp only;omega) | (simp only;omega) | (simp;omega)) (by simp only [go_sem,seval]) (by simp only [go_sem,seval])
  ·simp only [decide_eq_false_iff_not] at hg
   have hfd:=find_none (p:=rdyB n.toNat (lkF t) ([]:List Int)) (N:=n.toNat) fun j hj=>hno j (by omega)
   have hord:ordF n.toNat (lkF t) n.toNat []=none:=heq.trans (ord_stop (out:=([]:List Int)) (by first | omega | (simp only [List.length_nil];omega)) hfd)
   rw [hord] at hQ
   refine hK _ (Aw_no rfl ?_)
   refine Aw_exit (hX10 _ _ (hX9 _ _ (hE8 _ (hB7 _ ?_))))
   refine Aw_sq fun B17 hB17 hR17 hX17=>?_
   refine Aw_st hE [1,4,5,6,28] [1,4,32,750] fun K hK=>?_
   simp only [go_sem,seval]
   refine hK _ (Aw_cond rfl (fun hc18=>?_) (fun hc18=>absurd (of_decide_eq_false hc18) (by omega)))
   refine Aw_st hE [2,3] [1,4,32,750] fun K hK=>?_
   simp only [go_sem,seval]
   refine hK _ (Aw_ret (hR17 _ (hR6 _ (hR3 _ (hR2 _ (hR1 _ (hQ _ ?_)))))))
   simp only [go_sem,seval]
   all_goals rfl
 | some p =>
  obtain ⟨l,c⟩:=p
  simp only [vwL] at hlen heq
  refine Aw_st hE [1,4,5,12] [1,4,32,750] fun K hK=>?_
  simp only [go_sem,seval]
  refine hK _ (Aw_cond rfl (fun hc5=>?_) (fun hc5=>?_))
  rotate_left
  ·simp only [decide_eq_false_iff_not] at hc5
   have hN:n.toNat - l.length=0:=by omega
   have hord:ordF n.toNat (lkF t) n.toNat []=some l:=by rw [heq,hN];rfl
   rw [hord] at hQ
   refine Aw_exit (hX4 _ _ (hX3 _ _ (hE2 _ (hB1 _ ?_))))
   refine Aw_st hE [2,3] [1,4,32,750] fun K hK=>?_
   simp only [go_sem,seval]
   refine hK _ ?_
   refine Aw_frz hE rfl 750 l.length (ls:=cI l++jN c) (ys:=iD l) rfl (ofAll_iD rfl) ?_
   simp only [go_sem,seval,↓frz_xs (d:=750) (cap:=c + l.length) (l:=l) rfl]
   refine Aw_ret (hQ _ ?_)
   simp only [go_sem,seval]
   all_goals rfl
  simp only [decide_eq_true_eq] at hc5
  refine Aw_skip (hB4 _ ?_)
  refine Aw_bk fun B6 hN6 hE6 hR6 hX6=>?_
  refine Aw_st hE [1,4,5,6] [1,4,32,750] fun K hK=>?_
  simp only [go_sem,seval]
  refine hK _ ?_;clear hK K
  refine Aw_sq fun B7 hB7 hR7 hX7=>?_
  refine Aw_bk fun B8 hN8 hE8 hR8 hX8=>?_
  refine Aw_lp (fun i:Nat=>⟨34,[(1,.loc 1 0),(4,.loc 4 0),(5,.cl 68 false [.loc 4 0,.loc 1 0]),(6,iv ((i:Int) + 1))],(1,[iv n,.dv (.mp t)])::(4,[vwA 750 (some (l,c))])::vwM 750 (some (l,c)),k⟩) (fun i=>(i:Int)≤n∧∀ j,j < i→rdyB n.toNat (lkF t) l ((j:Int) + 1)=false) (fun i=>n.toNat - i) 0 (Le_wk (by first | omega | (dsimp only;omega) | (simp only;omega) | (simp;omega)) (by simp only [go_sem,seval]) (by simp only [go_sem,seval])) ⟨by omega,fun j h=>absurd h (by omega)⟩ fun i hi B9 hN9 hR9 hX9=>?_
  obtain ⟨hi,hno⟩:=hi
  have hl3:l.length≤1000:=by omega
  refine Aw_sq fun B10 hB10 hR10 hX10=>?_
  refine Aw_st hE [1,4,5,6,22] [1,4,32,750] fun K hK=>?_
  simp only [go_sem,seval,hmp,hn0,hn,hl3]
  refine ⟨fun hg=>⟨by decide,?_⟩,fun hg=>?_⟩
  ·simp only [decide_eq_true_eq] at hg
   refine hK _ (Aw_cond rfl (fun hc13=>?_) (fun hc13=>?_))
   ·simp only [Bool.not_eq_true'] at hc13
    refine Aw_skip (hB10 _ ?_)
    refine Aw_bk fun B14 hN14 hE14 hR14 hX14=>?_
    refine Aw_tx hE [1,4,5,6] [1,4,32,750] fun K hK=>?_
    simp only [go_sem,seval]
    repeat refine ⟨by first|omega|(and_intros<;>first|omega|exact rows_row _|exact wrows_row _|decide|(simp<;>omega))|fail,?_⟩
    refine hK _ (hN14 _ (hN9 (i + 1) _ ⟨by omega,fun j hj=>if e:j < i then hno j e else (by obtain rfl:j=i:=(by omega);exact hc13)⟩ (by omega) (Le.refl _)))
   ·simp only [Bool.not_eq_false'] at hc13
    have hfd:=find_hs (p:=rdyB n.toNat (lkF t) l) hno hc13 (N:=n.toNat) (by omega)
    refine Aw_exit (hX10 _ _ (hX9 _ _ (hE8 _ (hB7 _ ?_))))
    refine Aw_sq fun B15 hB15 hR15 hX15=>?_
    refine Aw_st hE [1,4,5,6,28] [1,4,32,750] fun K hK=>?_
    simp only [go_sem,seval]
    refine hK _ (Aw_cond rfl (fun hc16=>absurd (of_decide_eq_true hc16) (by omega)) (fun hc16=>?_))
    refine Aw_skip (hB15 _ ?_)
    refine Aw_tx hE [1,4,5] [1,4,32,750] fun K hK=>?_
    simp only [go_sem,seval]
    have hnx:=ord_next (out:=l) (by omega) hfd
    have hl1:(l++[(i:Int) + 1]).length=l.length + 1:=by simp
    refine ⟨⟨by omega,by omega⟩,fun h=>?_,fun h cap' hcap'=>?_⟩
    ·obtain ⟨e',rfl⟩:∃ e',c=e' + 1:=⟨c - 1,by omega⟩
     rw [row_put]
     have hec:e' + 1 + l.length=e' + (l.length + 1):=by omega
     refine hK _ (hN6 _ (hN3 (some (l++[(i:Int) + 1],e')) _ ⟨by simp only [vwL,hl1];omega,heq.trans hnx⟩ (by simp only [vwL,hl1];omega) ?_))
     simp only [vwA,vwM,hl1,hec]
     exact Le_wk (by first | omega | (dsimp only;omega) | (simp only;omega) | (simp;omega)) (by simp only [go_sem,seval]) (by simp only [go_sem,seval])
    ·obtain ⟨e',rfl⟩:∃ e',cap'=e' + (l.length + 1):=⟨cap' - (l.length + 1),by omega⟩
     rw [Nat.add_sub_cancel,List.append_assoc,List.singleton_append,row_snoc]
     refine hK _ (hN6 _ (hN3 (some (l++[(i:Int) + 1],e')) _ ⟨by simp only [vwL,hl1];omega,heq.trans hnx⟩ (by simp only [vwL,hl1];omega) ?_))
     simp only [vwA,vwM,hl1]
     refine (Le_swb _ 32 750 (by decide) (by decide)).trans ?_
     simp only [St.swb,swbσ,swbm,AV.swb,AV.swbAll,swp,jN_swb,row_swb,Nat.reduceEqDiff,if_true,if_false,reduceIte]
     exact Le_wk (by first | omega | (dsimp only;omega) | (simp only;omega) | (simp;omega)) (by simp only [go_sem,seval]) (by simp only [go_sem,seval])
  ·simp only [decide_eq_false_iff_not] at hg
   have hfd:=find_none (p:=rdyB n.toNat (lkF t) l) (N:=n.toNat) fun j hj=>hno j (by omega)
   have hord:ordF n.toNat (lkF t) n.toNat []=none:=heq.trans (ord_stop (out:=l) (by first | omega | (simp only [List.length_nil];omega)) hfd)
   rw [hord] at hQ
   refine hK _ (Aw_no rfl ?_)
   refine Aw_exit (hX10 _ _ (hX9 _ _ (hE8 _ (hB7 _ ?_))))
   refine Aw_sq fun B17 hB17 hR17 hX17=>?_
   refine Aw_st hE [1,4,5,6,28] [1,4,32,750] fun K hK=>?_
   simp only [go_sem,seval]
   refine hK _ (Aw_cond rfl (fun hc18=>?_) (fun hc18=>absurd (of_decide_eq_false hc18) (by omega)))
   refine Aw_st hE [2,3] [1,4,32,750] fun K hK=>?_
   simp only [go_sem,seval]
   refine hK _ (Aw_ret (hR17 _ (hR6 _ (hR3 _ (hR2 _ (hR1 _ (hQ _ ?_)))))))
   simp only [go_sem,seval]
   all_goals rfl
end Go.Proofs.W
end
section
namespace Go.Proofs.W
open Go Go.Eng Go.RowKit
set_option linter.unusedSimpArgs false
set_option maxRecDepth 100000
/-! RelsOrder,RelsFree: impl -/
def ordR (R:List (List Int)):Option (List Int):=if relsOk R then ordF R.length (ofR R) R.length [] else none
def gRelsOrder:List AV→Option (Prop × AV)
 | [.sl _ els]=>(match waysL els with
  | some R=>some (bigM R,.tup [isl ((ordR R).getD []),bv (ordR R).isSome])
  | none=>none)
 | _=>none
def dRelsOrder:DFn:={ g:=gRelsOrder }
def gRelsFree:List AV→Option (Prop × AV)
 | [.sl _ els]=>(match waysL els with
  | some R=>some (bigM R,bv (ordR R).isSome)
  | none=>none)
 | _=>none
def dRelsFree:DFn:={ g:=gRelsFree }
attribute [go_sem] gRelsOrder dRelsOrder gRelsFree dRelsFree
theorem relsOrder_ok:Fine Tryd.prog 39 dRelsOrder.con:=by
 refine fine_det (T:=TT) Tryd.func39 rfl Tryd.ntmps39 (by rw [Tryd.results39]) rfl rfl tt (gs_cons readRels_ok gs_nil) (ds_cons order_ok ds_nil) ?_
 intro args c r h hc
 simp only [dRelsOrder,gRelsOrder] at h
 split at h
 rotate_left
 ·cases h
 split at h
 rotate_left
 ·cases h
 rename_i tt els _ R hiw
 obtain rfl:=waysL_eq hiw
 obtain ⟨rfl,rfl⟩:=Prod.mk.inj (Option.some.inj h)
 refine ⟨by simp,fun k E hE Q hQ=>?_⟩
 refine Aw_st hE [0] [4] fun K hK=>?_
 simp only [go_sem,seval]
 refine hK _ ?_;clear hK K
 refine Aw_st hE [4,5] [4] fun K hK=>?_
 simp only [go_sem,seval,hc]
 refine ⟨fun hno=>?_,fun hok t hmp hlk=>?_⟩
 ·have ho:ordR R=none:=by unfold ordR;rw [hno];rfl
  refine hK _ ?_;clear hK K
  refine Aw_sq fun B1 hB1 hR1 hX1=>?_
  refine Aw_st hE [4,12] [4] fun K hK=>?_
  simp only [go_sem,seval]
  refine hK _ (Aw_yes rfl ?_)
  refine Aw_st hE [2,3] [4] fun K hK=>?_
  simp only [go_sem,seval]
  refine hK _ (Aw_ret (hR1 _ (hQ _ ?_)))
  simp only [go_sem,seval,ho]
  all_goals rfl
 ·have ho:ordR R=ordF R.length (ofR R) R.length []:=by unfold ordR;rw [if_pos hok]
  have hn5:=(relsOk_iff.1 hok).1.2
  have h1:(0:Int)≤R.length:=by omega
  have h2:(R.length:Int)≤1000:=by omega
  refine hK _ ?_;clear hK K
  refine Aw_sq fun B1 hB1 hR1 hX1=>?_
  refine Aw_st hE [4,12] [4] fun K hK=>?_
  simp only [go_sem,seval]
  refine hK _ (Aw_no rfl (Aw_skip (hB1 _ ?_)))
  rw [ho] at hQ
  cases hord:ordF R.length (ofR R) R.length [] with
  | none =>
   rw [hord] at hQ
   refine Aw_st hE [2,3] [4] fun K hK=>?_
   simp only [go_sem,seval,hmp,h1,h2,hlk,Int.toNat_natCast,hord]
   refine hK _ (Aw_ret (hQ _ ?_))
   simp only [go_sem,seval]
   all_goals rfl
  | some l =>
   rw [hord] at hQ
   refine Aw_st hE [2,3] [4] fun K hK=>?_
   simp only [go_sem,seval,hmp,h1,h2,hlk,Int.toNat_natCast,hord]
   refine hK _ (Aw_ret (hQ _ ?_))
   simp only [go_sem,seval]
   all_goals rfl
theorem relsFree_ok:Fine Tryd.prog 16 dRelsFree.con:=by
 refine fine_det (T:=TT) Tryd.func16 rfl Tryd.ntmps16 (by rw [Tryd.results16]) rfl rfl tt (gs_nil) (ds_cons relsOrder_ok ds_nil) ?_
 intro args c r h hc
 simp only [dRelsFree,gRelsFree] at h
 split at h
 rotate_left
 ·cases h
 split at h
 rotate_left
 ·cases h
 rename_i tt els _ R hiw
 obtain rfl:=waysL_eq hiw
 obtain ⟨rfl,rfl⟩:=Prod.mk.inj (Option.some.inj h)
 refine ⟨by simp,fun k E hE Q hQ=>?_⟩
 refine Aw_st hE [0] [] fun K hK=>?_
 simp only [go_sem,seval]
 repeat refine ⟨by first|omega|(and_intros<;>first|omega|exact rows_row _|exact wrows_row _|decide|(simp<;>omega))|fail,?_⟩
 refine hK _ ?_;clear hK K
 refine Aw_st hE [4] [] fun K hK=>?_
 simp only [go_sem,seval,hc]
 repeat refine ⟨by first|omega|(and_intros<;>first|omega|exact rows_row _|exact wrows_row _|decide|(simp<;>omega))|fail,?_⟩
 refine hK _ ?_;clear hK K
 refine Aw_st hE [2] [] fun K hK=>?_
 simp only [go_sem,seval]
 repeat refine ⟨by first|omega|(and_intros<;>first|omega|exact rows_row _|exact wrows_row _|decide|(simp<;>omega))|fail,?_⟩
 refine hK _ (Aw_ret (hQ _ ?_))
 simp only [go_sem,seval]
end Go.Proofs.W
end
section
namespace Go.Proofs.W
open Go Go.Eng Go.RowKit
set_option linter.unusedSimpArgs false
set_option maxRecDepth 100000
/-! relations are drawn: the end -/
set_option maxHeartbeats 8000000 in
theorem relsT2 {E:En} (hE:TbOk E tbRels) {k:Nat} (hk:k + 40≤1099511627776) {Q:Exit→St→Prop} (hQ:∀ (L:List (List Int)) (rn:Nat),(2≤L.length∧L.length≤5)→(∀ w ∈ L,w.length=L.length)→rn≤k + 40→Aw E .ret ⟨111,[(2,wsl L)],[],rn⟩ Q) {r:Nat→List Int} (hr:∀ q,(r q).length=2) {d:Nat→Nat} {c rn:Nat} (hrn:rn≤k + 30):Aw E (seqB (seqB (seqB (seqB (seqB (seqB (seqB (Tryd.f30.body.getD .skip)))))))) ⟨111,[(0,.rd),(4,.xs 700 0 2 (c + 2) 1)],(700,vws 2 d 710 2++jN c)::bxs 2 d r 710 2,rn⟩ Q:=by
 have hr0:=hr 0
 have hr1:=hr 1
 have fin:∀ (q:Nat→List Int) (rn:Nat),(∀ x,(q x).length=2)→rn≤k + 40→Aw E (seqB (seqB (seqB (seqB (seqB (seqB (seqB (seqB (Tryd.f30.body.getD .skip))))))))) ⟨111,[(4,.xs 700 0 2 (c + 2) 1)],(700,vws 2 d 710 2++jN c)::bxs 2 d q 710 2,rn⟩ Q:=by
  intro q rn hq hrn
  refine Aw_st hE [2] [700,701,710,711,712,713,714,720,721,722,723,724] fun K hK=>?_
  simp only [go_sem,seval]
  refine hK _ ?_
  refine Aw_frz hE rfl 710 2 (ls:=cI (q 0)++jN (d 0)) (ys:=iD (q 0)) rfl (ofAll_iD (hq 0)) ?_
  simp only [go_sem,seval,↓frz_xs (d:=710) (cap:=d 0 + 2) (hq 0)]
  refine Aw_frz hE rfl 711 2 (ls:=cI (q 1)++jN (d 1)) (ys:=iD (q 1)) rfl (ofAll_iD (hq 1)) ?_
  simp only [go_sem,seval,↓frz_xs (d:=711) (cap:=d 1 + 2) (hq 1)]
  refine Aw_frz hE rfl 700 2 (ls:=cWs [q 0,q 1]++jN c) (ys:=wD [q 0,q 1]) rfl (by rw [List.take_left' (by rfl)];exact ofAll_cWs _) ?_
  simp only [go_sem,seval,↓frz_xsW (d:=700) (n:=2) (cap:=c + 2) (L:=[q 0,q 1]) rfl]
  refine Aw.leE (LeE_of (show Le _ ⟨111,[(2,wsl [q 0,q 1])],[],_⟩ from Le_wk (by first | omega | (dsimp only;omega) | (simp only;omega) | (simp;omega)) (by simp only [go_sem,seval]) (by simp only [go_sem,seval]))) (hQ [q 0,q 1] rn ⟨by simp,by simp⟩ (fun w hw=>by simp only [List.mem_cons,List.not_mem_nil,or_false] at hw;rcases hw with rfl | rfl<;>exact hq _) hrn)
 refine Aw_sqJ (fun i:(Nat→List Int) × Nat=>⟨111,[(4,.xs 700 0 2 (c + 2) 1)],(700,vws 2 d 710 2++jN c)::bxs 2 d i.1 710 2,i.2⟩) (fun i=>(∀ x,(i.1 x).length=2)∧i.2≤k + 40) (fun i hi=>fin i.1 i.2 hi.1 hi.2) fun B1 hB1 hR1 hX1=>?_
 refine Aw_st hE [0,4,103] [700,701,710,711,712,713,714,720,721,722,723,724] fun K hK=>?_
 simp only [go_sem,seval]
 refine ⟨by omega,fun x hx1 hx2=>?_⟩
 refine hK _ (Aw_cond rfl (fun hc=>?_) (fun hc=>?_))
 ·have hset:=fun y=>cI_set (r 0) (d 0) 1 y (by omega)
  refine Aw_td hE [4] [700,701,710,711,712,713,714,720,721,722,723,724] 6 (by kernel_rfl) fun K hK=>?_
  simp only [go_sem,seval,hset]
  refine ⟨by omega,fun y hy1 hy2=>⟨by omega,?_⟩⟩
  exact hK _ (hB1 (upd r 0 1 y,rn + 2) _ ⟨upd_len hr,by omega⟩ (LeE_of (Le_wk (by first | omega | (dsimp only;omega) | (simp only;omega) | (simp;omega)) (by simp only [go_sem,seval]) (by simp only [go_sem,seval,upd]))))
 ·exact Aw_skip (hB1 (r,rn + 1) _ ⟨hr,by omega⟩ (LeE_of (Le_wk (by first | omega | (dsimp only;omega) | (simp only;omega) | (simp;omega)) (by simp only [go_sem,seval]) (by simp only [go_sem,seval]))))
set_option maxHeartbeats 8000000 in
theorem relsT3 {E:En} (hE:TbOk E tbRels) {k:Nat} (hk:k + 40≤1099511627776) {Q:Exit→St→Prop} (hQ:∀ (L:List (List Int)) (rn:Nat),(2≤L.length∧L.length≤5)→(∀ w ∈ L,w.length=L.length)→rn≤k + 40→Aw E .ret ⟨111,[(2,wsl L)],[],rn⟩ Q) {r:Nat→List Int} (hr:∀ q,(r q).length=3) {d:Nat→Nat} {c rn:Nat} (hrn:rn≤k + 30):Aw E (seqB (seqB (seqB (seqB (seqB (seqB (seqB (Tryd.f30.body.getD .skip)))))))) ⟨111,[(0,.rd),(4,.xs 700 0 3 (c + 3) 1)],(700,vws 3 d 710 3++jN c)::bxs 3 d r 710 3,rn⟩ Q:=by
 have hr0:=hr 0
 have hr1:=hr 1
 have hr2:=hr 2
 have fin:∀ (q:Nat→List Int) (rn:Nat),(∀ x,(q x).length=3)→rn≤k + 40→Aw E (seqB (seqB (seqB (seqB (seqB (seqB (seqB (seqB (Tryd.f30.body.getD .skip))))))))) ⟨111,[(4,.xs 700 0 3 (c + 3) 1)],(700,vws 3 d 710 3++jN c)::bxs 3 d q 710 3,rn⟩ Q:=by
  intro q rn hq hrn
  refine Aw_st hE [2] [700,701,710,711,712,713,714,720,721,722,723,724] fun K hK=>?_
  simp only [go_sem,seval]
  refine hK _ ?_
  refine Aw_frz hE rfl 710 3 (ls:=cI (q 0)++jN (d 0)) (ys:=iD (q 0)) rfl (ofAll_iD (hq 0)) ?_
  simp only [go_sem,seval,↓frz_xs (d:=710) (cap:=d 0 + 3) (hq 0)]
  refine Aw_frz hE rfl 711 3 (ls:=cI (q 1)++jN (d 1)) (ys:=iD (q 1)) rfl (ofAll_iD (hq 1)) ?_
  simp only [go_sem,seval,↓frz_xs (d:=711) (cap:=d 1 + 3) (hq 1)]
  refine Aw_frz hE rfl 712 3 (ls:=cI (q 2)++jN (d 2)) (ys:=iD (q 2)) rfl (ofAll_iD (hq 2)) ?_
  simp only [go_sem,seval,↓frz_xs (d:=712) (cap:=d 2 + 3) (hq 2)]
  refine Aw_frz hE rfl 700 3 (ls:=cWs [q 0,q 1,q 2]++jN c) (ys:=wD [q 0,q 1,q 2]) rfl (by rw [List.take_left' (by rfl)];exact ofAll_cWs _) ?_
  simp only [go_sem,seval,↓frz_xsW (d:=700) (n:=3) (cap:=c + 3) (L:=[q 0,q 1,q 2]) rfl]
  refine Aw.leE (LeE_of (show Le _ ⟨111,[(2,wsl [q 0,q 1,q 2])],[],_⟩ from Le_wk (by first | omega | (dsimp only;omega) | (simp only;omega) | (simp;omega)) (by simp only [go_sem,seval]) (by simp only [go_sem,seval]))) (hQ [q 0,q 1,q 2] rn ⟨by simp,by simp⟩ (fun w hw=>by simp only [List.mem_cons,List.not_mem_nil,or_false] at hw;rcases hw with rfl | rfl | rfl<;>exact hq _) hrn)
 refine Aw_sqJ (fun i:(Nat→List Int) × Nat=>⟨111,[(4,.xs 700 0 3 (c + 3) 1)],(700,vws 3 d 710 3++jN c)::bxs 3 d i.1 710 3,i.2⟩) (fun i=>(∀ x,(i.1 x).length=3)∧i.2≤k + 40) (fun i hi=>fin i.1 i.2 hi.1 hi.2) fun B1 hB1 hR1 hX1=>?_
 refine Aw_st hE [0,4,103] [700,701,710,711,712,713,714,720,721,722,723,724] fun K hK=>?_
 simp only [go_sem,seval]
 refine ⟨by omega,fun x hx1 hx2=>?_⟩
 refine hK _ (Aw_cond rfl (fun hc=>?_) (fun hc=>?_))
 ·have hset:=fun y=>cI_set (r 0) (d 0) 1 y (by omega)
  refine Aw_td hE [4] [700,701,710,711,712,713,714,720,721,722,723,724] 6 (by kernel_rfl) fun K hK=>?_
  simp only [go_sem,seval,hset]
  refine ⟨by omega,fun y hy1 hy2=>⟨by omega,?_⟩⟩
  exact hK _ (hB1 (upd r 0 1 y,rn + 2) _ ⟨upd_len hr,by omega⟩ (LeE_of (Le_wk (by first | omega | (dsimp only;omega) | (simp only;omega) | (simp;omega)) (by simp only [go_sem,seval]) (by simp only [go_sem,seval,upd]))))
 ·exact Aw_skip (hB1 (r,rn + 1) _ ⟨hr,by omega⟩ (LeE_of (Le_wk (by first | omega | (dsimp only;omega) | (simp only;omega) | (simp;omega)) (by simp only [go_sem,seval]) (by simp only [go_sem,seval]))))
set_option maxHeartbeats 8000000 in
theorem relsT4 {E:En} (hE:TbOk E tbRels) {k:Nat} (hk:k + 40≤1099511627776) {Q:Exit→St→Prop} (hQ:∀ (L:List (List Int)) (rn:Nat),(2≤L.length∧L.length≤5)→(∀ w ∈ L,w.length=L.length)→rn≤k + 40→Aw E .ret ⟨111,[(2,wsl L)],[],rn⟩ Q) {r:Nat→List Int} (hr:∀ q,(r q).length=4) {d:Nat→Nat} {c rn:Nat} (hrn:rn≤k + 30):Aw E (seqB (seqB (seqB (seqB (seqB (seqB (seqB (Tryd.f30.body.getD .skip)))))))) ⟨111,[(0,.rd),(4,.xs 700 0 4 (c + 4) 1)],(700,vws 4 d 710 4++jN c)::bxs 4 d r 710 4,rn⟩ Q:=by
 have hr0:=hr 0
 have hr1:=hr 1
 have hr2:=hr 2
 have hr3:=hr 3
 have fin:∀ (q:Nat→List Int) (rn:Nat),(∀ x,(q x).length=4)→rn≤k + 40→Aw E (seqB (seqB (seqB (seqB (seqB (seqB (seqB (seqB (Tryd.f30.body.getD .skip))))))))) ⟨111,[(4,.xs 700 0 4 (c + 4) 1)],(700,vws 4 d 710 4++jN c)::bxs 4 d q 710 4,rn⟩ Q:=by
  intro q rn hq hrn
  refine Aw_st hE [2] [700,701,710,711,712,713,714,720,721,722,723,724] fun K hK=>?_
  simp only [go_sem,seval]
  refine hK _ ?_
  refine Aw_frz hE rfl 710 4 (ls:=cI (q 0)++jN (d 0)) (ys:=iD (q 0)) rfl (ofAll_iD (hq 0)) ?_
  simp only [go_sem,seval,↓frz_xs (d:=710) (cap:=d 0 + 4) (hq 0)]
  refine Aw_frz hE rfl 711 4 (ls:=cI (q 1)++jN (d 1)) (ys:=iD (q 1)) rfl (ofAll_iD (hq 1)) ?_
  simp only [go_sem,seval,↓frz_xs (d:=711) (cap:=d 1 + 4) (hq 1)]
  refine Aw_frz hE rfl 712 4 (ls:=cI (q 2)++jN (d 2)) (ys:=iD (q 2)) rfl (ofAll_iD (hq 2)) ?_
  simp only [go_sem,seval,↓frz_xs (d:=712) (cap:=d 2 + 4) (hq 2)]
  refine Aw_frz hE rfl 713 4 (ls:=cI (q 3)++jN (d 3)) (ys:=iD (q 3)) rfl (ofAll_iD (hq 3)) ?_
  simp only [go_sem,seval,↓frz_xs (d:=713) (cap:=d 3 + 4) (hq 3)]
  refine Aw_frz hE rfl 700 4 (ls:=cWs [q 0,q 1,q 2,q 3]++jN c) (ys:=wD [q 0,q 1,q 2,q 3]) rfl (by rw [List.take_left' (by rfl)];exact ofAll_cWs _) ?_
  simp only [go_sem,seval,↓frz_xsW (d:=700) (n:=4) (cap:=c + 4) (L:=[q 0,q 1,q 2,q 3]) rfl]
  refine Aw.leE (LeE_of (show Le _ ⟨111,[(2,wsl [q 0,q 1,q 2,q 3])],[],_⟩ from Le_wk (by first | omega | (dsimp only;omega) | (simp only;omega) | (simp;omega)) (by simp only [go_sem,seval]) (by simp only [go_sem,seval]))) (hQ [q 0,q 1,q 2,q 3] rn ⟨by simp,by simp⟩ (fun w hw=>by simp only [List.mem_cons,List.not_mem_nil,or_false] at hw;rcases hw with rfl | rfl | rfl | rfl<;>exact hq _) hrn)
 refine Aw_sqJ (fun i:(Nat→List Int) × Nat=>⟨111,[(4,.xs 700 0 4 (c + 4) 1)],(700,vws 4 d 710 4++jN c)::bxs 4 d i.1 710 4,i.2⟩) (fun i=>(∀ x,(i.1 x).length=4)∧i.2≤k + 40) (fun i hi=>fin i.1 i.2 hi.1 hi.2) fun B1 hB1 hR1 hX1=>?_
 refine Aw_st hE [0,4,103] [700,701,710,711,712,713,714,720,721,722,723,724] fun K hK=>?_
 simp only [go_sem,seval]
 refine ⟨by omega,fun x hx1 hx2=>?_⟩
 refine hK _ (Aw_cond rfl (fun hc=>?_) (fun hc=>?_))
 ·have hset:=fun y=>cI_set (r 0) (d 0) 1 y (by omega)
  refine Aw_td hE [4] [700,701,710,711,712,713,714,720,721,722,723,724] 6 (by kernel_rfl) fun K hK=>?_
  simp only [go_sem,seval,hset]
  refine ⟨by omega,fun y hy1 hy2=>⟨by omega,?_⟩⟩
  exact hK _ (hB1 (upd r 0 1 y,rn + 2) _ ⟨upd_len hr,by omega⟩ (LeE_of (Le_wk (by first | omega | (dsimp only;omega) | (simp only;omega) | (simp;omega)) (by simp only [go_sem,seval]) (by simp only [go_sem,seval,upd]))))
 ·exact Aw_skip (hB1 (r,rn + 1) _ ⟨hr,by omega⟩ (LeE_of (Le_wk (by first | omega | (dsimp only;omega) | (simp only;omega) | (simp;omega)) (by simp only [go_sem,seval]) (by simp only [go_sem,seval]))))
set_option maxHeartbeats 8000000 in
theorem relsT5 {E:En} (hE:TbOk E tbRels) {k:Nat} (hk:k + 40≤1099511627776) {Q:Exit→St→Prop} (hQ:∀ (L:List (List Int)) (rn:Nat),(2≤L.length∧L.length≤5)→(∀ w ∈ L,w.length=L.length)→rn≤k + 40→Aw E .ret ⟨111,[(2,wsl L)],[],rn⟩ Q) {r:Nat→List Int} (hr:∀ q,(r q).length=5) {d:Nat→Nat} {c rn:Nat} (hrn:rn≤k + 30):Aw E (seqB (seqB (seqB (seqB (seqB (seqB (seqB (Tryd.f30.body.getD .skip)))))))) ⟨111,[(0,.rd),(4,.xs 700 0 5 (c + 5) 1)],(700,vws 5 d 710 5++jN c)::bxs 5 d r 710 5,rn⟩ Q:=by
 have hr0:=hr 0
 have hr1:=hr 1
 have hr2:=hr 2
 have hr3:=hr 3
 have hr4:=hr 4
 have fin:∀ (q:Nat→List Int) (rn:Nat),(∀ x,(q x).length=5)→rn≤k + 40→Aw E (seqB (seqB (seqB (seqB (seqB (seqB (seqB (seqB (Tryd.f30.body.getD .skip))))))))) ⟨111,[(4,.xs 700 0 5 (c + 5) 1)],(700,vws 5 d 710 5++jN c)::bxs 5 d q 710 5,rn⟩ Q:=by
  intro q rn hq hrn
  refine Aw_st hE [2] [700,701,710,711,712,713,714,720,721,722,723,724] fun K hK=>?_
  simp only [go_sem,seval]
  refine hK _ ?_
  refine Aw_frz hE rfl 710 5 (ls:=cI (q 0)++jN (d 0)) (ys:=iD (q 0)) rfl (ofAll_iD (hq 0)) ?_
  simp only [go_sem,seval,↓frz_xs (d:=710) (cap:=d 0 + 5) (hq 0)]
  refine Aw_frz hE rfl 711 5 (ls:=cI (q 1)++jN (d 1)) (ys:=iD (q 1)) rfl (ofAll_iD (hq 1)) ?_
  simp only [go_sem,seval,↓frz_xs (d:=711) (cap:=d 1 + 5) (hq 1)]
  refine Aw_frz hE rfl 712 5 (ls:=cI (q 2)++jN (d 2)) (ys:=iD (q 2)) rfl (ofAll_iD (hq 2)) ?_
  simp only [go_sem,seval,↓frz_xs (d:=712) (cap:=d 2 + 5) (hq 2)]
  refine Aw_frz hE rfl 713 5 (ls:=cI (q 3)++jN (d 3)) (ys:=iD (q 3)) rfl (ofAll_iD (hq 3)) ?_
  simp only [go_sem,seval,↓frz_xs (d:=713) (cap:=d 3 + 5) (hq 3)]
  refine Aw_frz hE rfl 714 5 (ls:=cI (q 4)++jN (d 4)) (ys:=iD (q 4)) rfl (ofAll_iD (hq 4)) ?_
  simp only [go_sem,seval,↓frz_xs (d:=714) (cap:=d 4 + 5) (hq 4)]
  refine Aw_frz hE rfl 700 5 (ls:=cWs [q 0,q 1,q 2,q 3,q 4]++jN c) (ys:=wD [q 0,q 1,q 2,q 3,q 4]) rfl (by rw [List.take_left' (by rfl)];exact ofAll_cWs _) ?_
  simp only [go_sem,seval,↓frz_xsW (d:=700) (n:=5) (cap:=c + 5) (L:=[q 0,q 1,q 2,q 3,q 4]) rfl]
  refine Aw.leE (LeE_of (show Le _ ⟨111,[(2,wsl [q 0,q 1,q 2,q 3,q 4])],[],_⟩ from Le_wk (by first | omega | (dsimp only;omega) | (simp only;omega) | (simp;omega)) (by simp only [go_sem,seval]) (by simp only [go_sem,seval]))) (hQ [q 0,q 1,q 2,q 3,q 4] rn ⟨by simp,by simp⟩ (fun w hw=>by simp only [List.mem_cons,List.not_mem_nil,or_false] at hw;rcases hw with rfl | rfl | rfl | rfl | rfl<;>exact hq _) hrn)
 refine Aw_sqJ (fun i:(Nat→List Int) × Nat=>⟨111,[(4,.xs 700 0 5 (c + 5) 1)],(700,vws 5 d 710 5++jN c)::bxs 5 d i.1 710 5,i.2⟩) (fun i=>(∀ x,(i.1 x).length=5)∧i.2≤k + 40) (fun i hi=>fin i.1 i.2 hi.1 hi.2) fun B1 hB1 hR1 hX1=>?_
 refine Aw_st hE [0,4,103] [700,701,710,711,712,713,714,720,721,722,723,724] fun K hK=>?_
 simp only [go_sem,seval]
 refine ⟨by omega,fun x hx1 hx2=>?_⟩
 refine hK _ (Aw_cond rfl (fun hc=>?_) (fun hc=>?_))
 ·have hset:=fun y=>cI_set (r 0) (d 0) 1 y (by omega)
  refine Aw_td hE [4] [700,701,710,711,712,713,714,720,721,722,723,724] 6 (by kernel_rfl) fun K hK=>?_
  simp only [go_sem,seval,hset]
  refine ⟨by omega,fun y hy1 hy2=>⟨by omega,?_⟩⟩
  exact hK _ (hB1 (upd r 0 1 y,rn + 2) _ ⟨upd_len hr,by omega⟩ (LeE_of (Le_wk (by first | omega | (dsimp only;omega) | (simp only;omega) | (simp;omega)) (by simp only [go_sem,seval]) (by simp only [go_sem,seval,upd]))))
 ·exact Aw_skip (hB1 (r,rn + 1) _ ⟨hr,by omega⟩ (LeE_of (Le_wk (by first | omega | (dsimp only;omega) | (simp only;omega) | (simp;omega)) (by simp only [go_sem,seval]) (by simp only [go_sem,seval]))))
end Go.Proofs.W
end
section
namespace Go.Proofs.W
open Go Go.Eng Go.RowKit
set_option linter.unusedSimpArgs false
set_option maxRecDepth 100000
/-! relations are drawn: turned -/
set_option maxHeartbeats 16000000 in
theorem relsR2 {E:En} (hE:TbOk E tbRels) {k:Nat} (hk:k + 40≤1099511627776) {Q:Exit→St→Prop} (hQ:∀ (L:List (List Int)) (rn:Nat),(2≤L.length∧L.length≤5)→(∀ w ∈ L,w.length=L.length)→rn≤k + 40→Aw E .ret ⟨111,[(2,wsl L)],[],rn⟩ Q) {r:Nat→List Int} (hr:∀ q,(r q).length=2) {d:Nat→Nat} {c rn:Nat} (hrn:rn≤k + 29):Aw E (seqB (seqB (seqB (seqB (seqB (seqB (Tryd.f30.body.getD .skip))))))) ⟨111,[(0,.rd),(3,iv 2),(4,.xs 700 0 2 (c + 2) 1)],(700,vws 2 d 710 2++jN c)::bxs 2 d r 710 2,rn⟩ Q:=by
 have hr0:=hr 0
 have hr1:=hr 1
 refine Aw_sqJ (fun i:(Nat→Nat) × (Nat→List Int) × Nat × Nat=>⟨111,[(0,.rd),(4,.xs 700 0 2 (i.2.2.1 + 2) 1)],(700,vws 2 i.1 710 2++jN i.2.2.1)::bxs 2 i.1 i.2.1 710 2,i.2.2.2⟩) (fun i=>(∀ x,(i.2.1 x).length=2)∧i.2.2.2≤k + 30) (fun i hi=>relsT2 hE hk hQ hi.1 hi.2) fun B1 hB1 hR1 hX1=>?_
 refine Aw_st hE [0,3,4,71] [72,79,95,99,700,701,710,711,712,713,714,720,721,722,723,724,740] fun K hK=>?_
 simp only [go_sem,seval]
 refine ⟨by omega,fun x hx1 hx2=>?_⟩
 refine hK _ (Aw_cond rfl (fun hc=>?_) (fun hc=>?_))
 rotate_left
 ·exact Aw_skip (hB1 (d,r,c,rn + 1) _ ⟨hr,by simp only;omega⟩ (LeE_of (Le_wk (by first | omega | (dsimp only;omega) | (simp only;omega) | (simp;omega)) (by simp only [go_sem,seval]) (by simp only [go_sem,seval]))))
 refine Aw_st hE [0,3,4,10] [72,79,95,99,700,701,710,711,712,713,714,720,721,722,723,724,740] fun K hK=>?_
 simp only [go_sem,seval]
 refine hK _ ?_;clear hK K
 refine Aw_sq fun B2 hB2 hR2 hX2=>?_
 refine Aw_st hE [0,3,4,10,11] [72,79,95,99,700,701,710,711,712,713,714,720,721,722,723,724,740] fun K hK=>?_
 simp only [go_sem,seval]
 refine hK _ ?_;clear hK K
 refine Aw_bk fun B3 hN3 hE3 hR3 hX3=>?_
 refine Aw_lp (fun i:Nat × Nat × (Nat→Nat) × (Nat→List Int)=>⟨111,[(0,.rd),(3,iv 2),(4,.xs 700 0 2 (c + 2) 1),(10,.xs 701 0 i.1 (i.2.1 + i.1) 1),(11,iv ((2:Int) - 1 - (i.1:Int)))],(700,vws 2 d 710 2++jN c)::(701,vws 2 i.2.2.1 720 i.1++jN i.2.1)::(bxs 2 d r 710 2++bxs 2 i.2.2.1 i.2.2.2 720 i.1),rn + 1⟩) (fun i=>i.1≤2∧∀ x,(i.2.2.2 x).length=2) (fun i=>2 - i.1) (0,0,d,r) ?_ ⟨by omega,hr⟩ fun i hi B4 hN4 hR4 hX4=>?_
 ·refine (Le_swb _ 72 701 (by decide) (by decide)).trans ?_
  simp only [St.swb,swbσ,swbm,AV.swb,AV.swbAll,swp,jN_swb,row_swb,Nat.reduceEqDiff,if_true,if_false,reduceIte]
  exact Le_wk (by first | omega | (dsimp only;omega) | (simp only;omega) | (simp;omega)) (by simp only [go_sem,seval]) (by simp only [go_sem,seval])
 obtain ⟨i,c',d',r'⟩:=i
 obtain ⟨hi,hr'⟩:=hi
 simp only at hi hr'
 refine Aw_sq fun B5 hB5 hR5 hX5=>?_
 rcases (show i=2∨i=0∨i=1 by omega) with rfl | rfl | rfl
 ·refine Aw_st hE [0,3,4,10,11,76] [72,79,95,99,700,701,710,711,712,713,714,720,721,722,723,724,740] fun K hK=>?_
  simp only [go_sem,seval]
  refine hK _ (Aw_no rfl (Aw_exit (hX5 _ _ (hX4 _ _ (hE3 _ (hB2 _ ?_))))))
  refine Aw_tx hE [0,4] [72,79,95,99,700,701,710,711,712,713,714,720,721,722,723,724,740] fun K hK=>?_
  simp only [go_sem,seval]
  refine hK _ (hB1 (d',r',c',rn + 1) _ ⟨hr',by simp only;omega⟩ (LeE_of ?_))
  refine (Le_swb _ 701 700 (by decide) (by decide)).trans ((Le_swb _ 720 710 (by decide) (by decide)).trans ((Le_swb _ 721 711 (by decide) (by decide)).trans ?_))
  simp only [St.swb,swbσ,swbm,AV.swb,AV.swbAll,swp,jN_swb,row_swb,Nat.reduceEqDiff,if_true,if_false,reduceIte]
  exact Le_wk (by first | omega | (dsimp only;omega) | (simp only;omega) | (simp;omega)) (by simp only [go_sem,seval]) (by simp only [go_sem,seval])
 ·refine Aw_st hE [0,3,4,10,11,76] [72,79,95,99,700,701,710,711,712,713,714,720,721,722,723,724,740] fun K hK=>?_
  simp only [go_sem,seval]
  refine hK _ (Aw_yes rfl (Aw_skip (hB5 _ ?_)))
  refine Aw_sq fun B6 hB6 hR6 hX6=>?_
  refine Aw_bk fun B7 hN7 hE7 hR7 hX7=>?_
  refine Aw_st hE [0,3,4,10,11,12] [72,79,95,99,700,701,710,711,712,713,714,720,721,722,723,724,740] fun K hK=>?_
  simp only [go_sem,seval]
  refine hK _ ?_;clear hK K
  refine Aw_sq fun B8 hB8 hR8 hX8=>?_
  refine Aw_st hE [0,3,4,10,11,12,13] [72,79,95,99,700,701,710,711,712,713,714,720,721,722,723,724,740] fun K hK=>?_
  simp only [go_sem,seval]
  refine hK _ ?_;clear hK K
  refine Aw_bk fun B9 hN9 hE9 hR9 hX9=>?_
  refine Aw_lp (fun j:Nat × Nat × List Int=>⟨111,[(0,.rd),(3,iv 2),(4,.xs 700 0 2 (c + 2) 1),(10,.xs 701 0 0 (c' + 0) 1),(11,iv 1),(12,.xs 740 0 j.2.2.length (j.2.1 + j.2.2.length) 1),(13,iv ((j.1:Int) - 1))],(740,cI j.2.2++jN j.2.1)::(700,vws 2 d 710 2++jN c)::(701,vws 2 d' 720 0++jN c')::(bxs 2 d r 710 2++bxs 2 d' r' 720 0),rn + 1⟩) (fun j=>j.2.2.length + j.1=2) (fun j=>j.1) (2,0,[]) ?_ (by simp) fun j hj B10 hN10 hR10 hX10=>?_
  ·refine (Le_swb _ 79 740 (by decide) (by decide)).trans ?_
   simp only [St.swb,swbσ,swbm,AV.swb,AV.swbAll,swp,jN_swb,row_swb,Nat.reduceEqDiff,if_true,if_false,reduceIte]
   exact Le_wk (by first | omega | (dsimp only;omega) | (simp only;omega) | (simp;omega)) (by simp only [go_sem,seval]) (by simp only [go_sem,seval])
  obtain ⟨m,e,q⟩:=j
  simp only at hj
  refine Aw_sq fun B11 hB11 hR11 hX11=>?_
  refine Aw_st hE [0,3,4,10,11,12,13,83] [72,79,95,99,700,701,710,711,712,713,714,720,721,722,723,724,740] fun K hK=>?_
  simp only [go_sem,seval]
  refine hK _ (Aw_cond rfl (fun hc38=>?_) (fun hc38=>?_))
  ·simp only [decide_eq_true_eq] at hc38
   have hg:=rowI_drop (r 1) (d 1) ((m:Int) - 1).toNat (by omega)
   refine Aw_skip (hB11 _ ?_)
   refine Aw_sq fun B12 hB12 hR12 hX12=>?_
   refine Aw_bk fun B13 hN13 hE13 hR13 hX13=>?_
   refine Aw_tx hE [0,3,4,10,11,12,13] [72,79,95,99,700,701,710,711,712,713,714,720,721,722,723,724,740] fun K hK=>?_
   simp only [go_sem,seval,hg]
   refine ⟨⟨by omega,by omega⟩,⟨by omega,by omega⟩,fun h=>?_,fun h cap' hcap'=>?_⟩
   ·obtain ⟨e',rfl⟩:∃ e',e=e' + 1:=⟨e - 1,by omega⟩
    rw [row_put]
    refine hK _ (hN13 _ (hB12 _ ?_))
    refine Aw_tx hE [0,3,4,10,11,12,13] [72,79,95,99,700,701,710,711,712,713,714,720,721,722,723,724,740] fun K hK=>?_
    simp only [go_sem,seval]
    repeat refine ⟨by first|omega|(and_intros<;>first|omega|exact rows_row _|exact wrows_row _|decide|(simp<;>omega))|fail,?_⟩
    have hl1:(q++[(r 1).getD ((m:Int) - 1).toNat 0]).length=q.length + 1:=by simp
    have hmc:((m - 1:Nat):Int)=(m:Int) - 1:=by omega
    have hec:e' + 1 + q.length=e' + (q.length + 1):=by omega
    refine hK _ (hN10 (m - 1,e',q++[(r 1).getD ((m:Int) - 1).toNat 0]) _ (by simp only [hl1];omega) (by simp only;omega) ?_)
    simp only [hl1,hmc,hec]
    exact Le_wk (by first | omega | (dsimp only;omega) | (simp only;omega) | (simp;omega)) (by simp only [go_sem,seval]) (by simp only [go_sem,seval])
   ·obtain ⟨e',rfl⟩:∃ e',cap'=e' + (q.length + 1):=⟨cap' - (q.length + 1),by omega⟩
    rw [Nat.add_sub_cancel,List.append_assoc,List.singleton_append,row_snoc]
    refine hK _ (hN13 _ (hB12 _ ?_))
    refine Aw_tx hE [0,3,4,10,11,12,13] [72,79,95,99,700,701,710,711,712,713,714,720,721,722,723,724,740] fun K hK=>?_
    simp only [go_sem,seval]
    repeat refine ⟨by first|omega|(and_intros<;>first|omega|exact rows_row _|exact wrows_row _|decide|(simp<;>omega))|fail,?_⟩
    have hl1:(q++[(r 1).getD ((m:Int) - 1).toNat 0]).length=q.length + 1:=by simp
    have hmc:((m - 1:Nat):Int)=(m:Int) - 1:=by omega
    have hec:e' + 1 + q.length=e' + (q.length + 1):=by omega
    refine hK _ (hN10 (m - 1,e',q++[(r 1).getD ((m:Int) - 1).toNat 0]) _ (by simp only [hl1];omega) (by simp only;omega) ?_)
    simp only [hl1,hmc,hec]
    refine (Le_swb _ 95 740 (by decide) (by decide)).trans ?_
    simp only [St.swb,swbσ,swbm,AV.swb,AV.swbAll,swp,jN_swb,row_swb,Nat.reduceEqDiff,if_true,if_false,reduceIte]
    exact Le_wk (by first | omega | (dsimp only;omega) | (simp only;omega) | (simp;omega)) (by simp only [go_sem,seval]) (by simp only [go_sem,seval])
  ·simp only [decide_eq_false_iff_not] at hc38
   have hq:q.length=2:=by omega
   refine Aw_exit (hX11 _ _ (hX10 _ _ (hE9 _ (hB8 _ ?_))))
   refine Aw_tx hE [0,3,4,10,11] [72,79,95,99,700,701,710,711,712,713,714,720,721,722,723,724,740] fun K hK=>?_
   simp only [go_sem,seval,hq]
   refine ⟨fun h=>?_,fun h cap' hcap'=>?_⟩
   ·obtain ⟨c1,rfl⟩:∃ c1,c'=c1 + 1:=⟨c' - 1,by omega⟩
    simp only [jN_s,List.set_cons_zero]
    refine hK _ (hN7 _ (hB6 _ ?_))
    refine Aw_tx hE [0,3,4,10,11] [72,79,95,99,700,701,710,711,712,713,714,720,721,722,723,724,740] fun K hK=>?_
    simp only [go_sem,seval]
    repeat refine ⟨by first|omega|(and_intros<;>first|omega|exact rows_row _|exact wrows_row _|decide|(simp<;>omega))|fail,?_⟩
    refine hK _ (hN4 (1,c1,put d' 0 e,put r' 0 q) _ ⟨by omega,put_len hr' hq⟩ (by simp only;omega) ?_)
    refine (Le_swb _ 740 720 (by decide) (by decide)).trans ?_
    simp only [St.swb,swbσ,swbm,AV.swb,AV.swbAll,swp,jN_swb,row_swb,Nat.reduceEqDiff,if_true,if_false,reduceIte]
    exact Le_wk (by first | omega | (dsimp only;omega) | (simp only;omega) | (simp;omega)) (by simp only [go_sem,seval,put,Nat.add_assoc]) (by simp only [go_sem,seval,put])
   ·obtain ⟨c1,rfl⟩:∃ c1,cap'=c1 + 1:=⟨cap' - 1,by omega⟩
    rw [Nat.add_sub_cancel]
    refine hK _ (hN7 _ (hB6 _ ?_))
    refine Aw_tx hE [0,3,4,10,11] [72,79,95,99,700,701,710,711,712,713,714,720,721,722,723,724,740] fun K hK=>?_
    simp only [go_sem,seval]
    repeat refine ⟨by first|omega|(and_intros<;>first|omega|exact rows_row _|exact wrows_row _|decide|(simp<;>omega))|fail,?_⟩
    refine hK _ (hN4 (1,c1,put d' 0 e,put r' 0 q) _ ⟨by omega,put_len hr' hq⟩ (by simp only;omega) ?_)
    refine (Le_swb _ 740 720 (by decide) (by decide)).trans ?_
    simp only [St.swb,swbσ,swbm,AV.swb,AV.swbAll,swp,jN_swb,row_swb,Nat.reduceEqDiff,if_true,if_false,reduceIte]
    refine (Le_swb _ 99 701 (by decide) (by decide)).trans ?_
    simp only [St.swb,swbσ,swbm,AV.swb,AV.swbAll,swp,jN_swb,row_swb,Nat.reduceEqDiff,if_true,if_false,reduceIte]
    exact Le_wk (by first | omega | (dsimp only;omega) | (simp only;omega) | (simp;omega)) (by simp only [go_sem,seval,put,Nat.add_assoc]) (by simp only [go_sem,seval,put])
 ·refine Aw_st hE [0,3,4,10,11,76] [72,79,95,99,700,701,710,711,712,713,714,720,721,722,723,724,740] fun K hK=>?_
  simp only [go_sem,seval]
  refine hK _ (Aw_yes rfl (Aw_skip (hB5 _ ?_)))
  refine Aw_sq fun B6 hB6 hR6 hX6=>?_
  refine Aw_bk fun B7 hN7 hE7 hR7 hX7=>?_
  refine Aw_st hE [0,3,4,10,11,12] [72,79,95,99,700,701,710,711,712,713,714,720,721,722,723,724,740] fun K hK=>?_
  simp only [go_sem,seval]
  refine hK _ ?_;clear hK K
  refine Aw_sq fun B8 hB8 hR8 hX8=>?_
  refine Aw_st hE [0,3,4,10,11,12,13] [72,79,95,99,700,701,710,711,712,713,714,720,721,722,723,724,740] fun K hK=>?_
  simp only [go_sem,seval]
  refine hK _ ?_;clear hK K
  refine Aw_bk fun B9 hN9 hE9 hR9 hX9=>?_
  refine Aw_lp (fun j:Nat × Nat × List Int=>⟨111,[(0,.rd),(3,iv 2),(4,.xs 700 0 2 (c + 2) 1),(10,.xs 701 0 1 (c' + 1) 1),(11,iv 0),(12,.xs 740 0 j.2.2.length (j.2.1 + j.2.2.length) 1),(13,iv ((j.1:Int) - 1))],(740,cI j.2.2++jN j.2.1)::(700,vws 2 d 710 2++jN c)::(701,vws 2 d' 720 1++jN c')::(bxs 2 d r 710 2++bxs 2 d' r' 720 1),rn + 1⟩) (fun j=>j.2.2.length + j.1=2) (fun j=>j.1) (2,0,[]) ?_ (by simp) fun j hj B10 hN10 hR10 hX10=>?_
  ·refine (Le_swb _ 79 740 (by decide) (by decide)).trans ?_
   simp only [St.swb,swbσ,swbm,AV.swb,AV.swbAll,swp,jN_swb,row_swb,Nat.reduceEqDiff,if_true,if_false,reduceIte]
   exact Le_wk (by first | omega | (dsimp only;omega) | (simp only;omega) | (simp;omega)) (by simp only [go_sem,seval]) (by simp only [go_sem,seval])
  obtain ⟨m,e,q⟩:=j
  simp only at hj
  refine Aw_sq fun B11 hB11 hR11 hX11=>?_
  refine Aw_st hE [0,3,4,10,11,12,13,83] [72,79,95,99,700,701,710,711,712,713,714,720,721,722,723,724,740] fun K hK=>?_
  simp only [go_sem,seval]
  refine hK _ (Aw_cond rfl (fun hc38=>?_) (fun hc38=>?_))
  ·simp only [decide_eq_true_eq] at hc38
   have hg:=rowI_drop (r 0) (d 0) ((m:Int) - 1).toNat (by omega)
   refine Aw_skip (hB11 _ ?_)
   refine Aw_sq fun B12 hB12 hR12 hX12=>?_
   refine Aw_bk fun B13 hN13 hE13 hR13 hX13=>?_
   refine Aw_tx hE [0,3,4,10,11,12,13] [72,79,95,99,700,701,710,711,712,713,714,720,721,722,723,724,740] fun K hK=>?_
   simp only [go_sem,seval,hg]
   refine ⟨⟨by omega,by omega⟩,⟨by omega,by omega⟩,fun h=>?_,fun h cap' hcap'=>?_⟩
   ·obtain ⟨e',rfl⟩:∃ e',e=e' + 1:=⟨e - 1,by omega⟩
    rw [row_put]
    refine hK _ (hN13 _ (hB12 _ ?_))
    refine Aw_tx hE [0,3,4,10,11,12,13] [72,79,95,99,700,701,710,711,712,713,714,720,721,722,723,724,740] fun K hK=>?_
    simp only [go_sem,seval]
    repeat refine ⟨by first|omega|(and_intros<;>first|omega|exact rows_row _|exact wrows_row _|decide|(simp<;>omega))|fail,?_⟩
    have hl1:(q++[(r 0).getD ((m:Int) - 1).toNat 0]).length=q.length + 1:=by simp
    have hmc:((m - 1:Nat):Int)=(m:Int) - 1:=by omega
    have hec:e' + 1 + q.length=e' + (q.length + 1):=by omega
    refine hK _ (hN10 (m - 1,e',q++[(r 0).getD ((m:Int) - 1).toNat 0]) _ (by simp only [hl1];omega) (by simp only;omega) ?_)
    simp only [hl1,hmc,hec]
    exact Le_wk (by first | omega | (dsimp only;omega) | (simp only;omega) | (simp;omega)) (by simp only [go_sem,seval]) (by simp only [go_sem,seval])
   ·obtain ⟨e',rfl⟩:∃ e',cap'=e' + (q.length + 1):=⟨cap' - (q.length + 1),by omega⟩
    rw [Nat.add_sub_cancel,List.append_assoc,List.singleton_append,row_snoc]
    refine hK _ (hN13 _ (hB12 _ ?_))
    refine Aw_tx hE [0,3,4,10,11,12,13] [72,79,95,99,700,701,710,711,712,713,714,720,721,722,723,724,740] fun K hK=>?_
    simp only [go_sem,seval]
    repeat refine ⟨by first|omega|(and_intros<;>first|omega|exact rows_row _|exact wrows_row _|decide|(simp<;>omega))|fail,?_⟩
    have hl1:(q++[(r 0).getD ((m:Int) - 1).toNat 0]).length=q.length + 1:=by simp
    have hmc:((m - 1:Nat):Int)=(m:Int) - 1:=by omega
    have hec:e' + 1 + q.length=e' + (q.length + 1):=by omega
    refine hK _ (hN10 (m - 1,e',q++[(r 0).getD ((m:Int) - 1).toNat 0]) _ (by simp only [hl1];omega) (by simp only;omega) ?_)
    simp only [hl1,hmc,hec]
    refine (Le_swb _ 95 740 (by decide) (by decide)).trans ?_
    simp only [St.swb,swbσ,swbm,AV.swb,AV.swbAll,swp,jN_swb,row_swb,Nat.reduceEqDiff,if_true,if_false,reduceIte]
    exact Le_wk (by first | omega | (dsimp only;omega) | (simp only;omega) | (simp;omega)) (by simp only [go_sem,seval]) (by simp only [go_sem,seval])
  ·simp only [decide_eq_false_iff_not] at hc38
   have hq:q.length=2:=by omega
   refine Aw_exit (hX11 _ _ (hX10 _ _ (hE9 _ (hB8 _ ?_))))
   refine Aw_tx hE [0,3,4,10,11] [72,79,95,99,700,701,710,711,712,713,714,720,721,722,723,724,740] fun K hK=>?_
   simp only [go_sem,seval,hq]
   refine ⟨fun h=>?_,fun h cap' hcap'=>?_⟩
   ·obtain ⟨c1,rfl⟩:∃ c1,c'=c1 + 1:=⟨c' - 1,by omega⟩
    simp only [jN_s,List.set_cons_zero]
    refine hK _ (hN7 _ (hB6 _ ?_))
    refine Aw_tx hE [0,3,4,10,11] [72,79,95,99,700,701,710,711,712,713,714,720,721,722,723,724,740] fun K hK=>?_
    simp only [go_sem,seval]
    repeat refine ⟨by first|omega|(and_intros<;>first|omega|exact rows_row _|exact wrows_row _|decide|(simp<;>omega))|fail,?_⟩
    refine hK _ (hN4 (2,c1,put d' 1 e,put r' 1 q) _ ⟨by omega,put_len hr' hq⟩ (by simp only;omega) ?_)
    refine (Le_swb _ 740 721 (by decide) (by decide)).trans ?_
    simp only [St.swb,swbσ,swbm,AV.swb,AV.swbAll,swp,jN_swb,row_swb,Nat.reduceEqDiff,if_true,if_false,reduceIte]
    exact Le_wk (by first | omega | (dsimp only;omega) | (simp only;omega) | (simp;omega)) (by simp only [go_sem,seval,put,Nat.add_assoc]) (by simp only [go_sem,seval,put])
   ·obtain ⟨c1,rfl⟩:∃ c1,cap'=c1 + 2:=⟨cap' - 2,by omega⟩
    rw [Nat.add_sub_cancel]
    refine hK _ (hN7 _ (hB6 _ ?_))
    refine Aw_tx hE [0,3,4,10,11] [72,79,95,99,700,701,710,711,712,713,714,720,721,722,723,724,740] fun K hK=>?_
    simp only [go_sem,seval]
    repeat refine ⟨by first|omega|(and_intros<;>first|omega|exact rows_row _|exact wrows_row _|decide|(simp<;>omega))|fail,?_⟩
    refine hK _ (hN4 (2,c1,put d' 1 e,put r' 1 q) _ ⟨by omega,put_len hr' hq⟩ (by simp only;omega) ?_)
    refine (Le_swb _ 740 721 (by decide) (by decide)).trans ?_
    simp only [St.swb,swbσ,swbm,AV.swb,AV.swbAll,swp,jN_swb,row_swb,Nat.reduceEqDiff,if_true,if_false,reduceIte]
    refine (Le_swb _ 99 701 (by decide) (by decide)).trans ?_
    simp only [St.swb,swbσ,swbm,AV.swb,AV.swbAll,swp,jN_swb,row_swb,Nat.reduceEqDiff,if_true,if_false,reduceIte]
    exact Le_wk (by first | omega | (dsimp only;omega) | (simp only;omega) | (simp;omega)) (by simp only [go_sem,seval,put,Nat.add_assoc]) (by simp only [go_sem,seval,put])
set_option maxHeartbeats 16000000 in
theorem relsR3 {E:En} (hE:TbOk E tbRels) {k:Nat} (hk:k + 40≤1099511627776) {Q:Exit→St→Prop} (hQ:∀ (L:List (List Int)) (rn:Nat),(2≤L.length∧L.length≤5)→(∀ w ∈ L,w.length=L.length)→rn≤k + 40→Aw E .ret ⟨111,[(2,wsl L)],[],rn⟩ Q) {r:Nat→List Int} (hr:∀ q,(r q).length=3) {d:Nat→Nat} {c rn:Nat} (hrn:rn≤k + 29):Aw E (seqB (seqB (seqB (seqB (seqB (seqB (Tryd.f30.body.getD .skip))))))) ⟨111,[(0,.rd),(3,iv 3),(4,.xs 700 0 3 (c + 3) 1)],(700,vws 3 d 710 3++jN c)::bxs 3 d r 710 3,rn⟩ Q:=by
 have hr0:=hr 0
 have hr1:=hr 1
 have hr2:=hr 2
 refine Aw_sqJ (fun i:(Nat→Nat) × (Nat→List Int) × Nat × Nat=>⟨111,[(0,.rd),(4,.xs 700 0 3 (i.2.2.1 + 3) 1)],(700,vws 3 i.1 710 3++jN i.2.2.1)::bxs 3 i.1 i.2.1 710 3,i.2.2.2⟩) (fun i=>(∀ x,(i.2.1 x).length=3)∧i.2.2.2≤k + 30) (fun i hi=>relsT3 hE hk hQ hi.1 hi.2) fun B1 hB1 hR1 hX1=>?_
 refine Aw_st hE [0,3,4,71] [72,79,95,99,700,701,710,711,712,713,714,720,721,722,723,724,740] fun K hK=>?_
 simp only [go_sem,seval]
 refine ⟨by omega,fun x hx1 hx2=>?_⟩
 refine hK _ (Aw_cond rfl (fun hc=>?_) (fun hc=>?_))
 rotate_left
 ·exact Aw_skip (hB1 (d,r,c,rn + 1) _ ⟨hr,by simp only;omega⟩ (LeE_of (Le_wk (by first | omega | (dsimp only;omega) | (simp only;omega) | (simp;omega)) (by simp only [go_sem,seval]) (by simp only [go_sem,seval]))))
 refine Aw_st hE [0,3,4,10] [72,79,95,99,700,701,710,711,712,713,714,720,721,722,723,724,740] fun K hK=>?_
 simp only [go_sem,seval]
 refine hK _ ?_;clear hK K
 refine Aw_sq fun B2 hB2 hR2 hX2=>?_
 refine Aw_st hE [0,3,4,10,11] [72,79,95,99,700,701,710,711,712,713,714,720,721,722,723,724,740] fun K hK=>?_
 simp only [go_sem,seval]
 refine hK _ ?_;clear hK K
 refine Aw_bk fun B3 hN3 hE3 hR3 hX3=>?_
 refine Aw_lp (fun i:Nat × Nat × (Nat→Nat) × (Nat→List Int)=>⟨111,[(0,.rd),(3,iv 3),(4,.xs 700 0 3 (c + 3) 1),(10,.xs 701 0 i.1 (i.2.1 + i.1) 1),(11,iv ((3:Int) - 1 - (i.1:Int)))],(700,vws 3 d 710 3++jN c)::(701,vws 3 i.2.2.1 720 i.1++jN i.2.1)::(bxs 3 d r 710 3++bxs 3 i.2.2.1 i.2.2.2 720 i.1),rn + 1⟩) (fun i=>i.1≤3∧∀ x,(i.2.2.2 x).length=3) (fun i=>3 - i.1) (0,0,d,r) ?_ ⟨by omega,hr⟩ fun i hi B4 hN4 hR4 hX4=>?_
 ·refine (Le_swb _ 72 701 (by decide) (by decide)).trans ?_
  simp only [St.swb,swbσ,swbm,AV.swb,AV.swbAll,swp,jN_swb,row_swb,Nat.reduceEqDiff,if_true,if_false,reduceIte]
  exact Le_wk (by first | omega | (dsimp only;omega) | (simp only;omega) | (simp;omega)) (by simp only [go_sem,seval]) (by simp only [go_sem,seval])
 obtain ⟨i,c',d',r'⟩:=i
 obtain ⟨hi,hr'⟩:=hi
 simp only at hi hr'
 refine Aw_sq fun B5 hB5 hR5 hX5=>?_
 rcases (show i=3∨i=0∨i=1∨i=2 by omega) with rfl | rfl | rfl | rfl
 ·refine Aw_st hE [0,3,4,10,11,76] [72,79,95,99,700,701,710,711,712,713,714,720,721,722,723,724,740] fun K hK=>?_
  simp only [go_sem,seval]
  refine hK _ (Aw_no rfl (Aw_exit (hX5 _ _ (hX4 _ _ (hE3 _ (hB2 _ ?_))))))
  refine Aw_tx hE [0,4] [72,79,95,99,700,701,710,711,712,713,714,720,721,722,723,724,740] fun K hK=>?_
  simp only [go_sem,seval]
  refine hK _ (hB1 (d',r',c',rn + 1) _ ⟨hr',by simp only;omega⟩ (LeE_of ?_))
  refine (Le_swb _ 701 700 (by decide) (by decide)).trans ((Le_swb _ 720 710 (by decide) (by decide)).trans ((Le_swb _ 721 711 (by decide) (by decide)).trans ((Le_swb _ 722 712 (by decide) (by decide)).trans ?_)))
  simp only [St.swb,swbσ,swbm,AV.swb,AV.swbAll,swp,jN_swb,row_swb,Nat.reduceEqDiff,if_true,if_false,reduceIte]
  exact Le_wk (by first | omega | (dsimp only;omega) | (simp only;omega) | (simp;omega)) (by simp only [go_sem,seval]) (by simp only [go_sem,seval])
 ·refine Aw_st hE [0,3,4,10,11,76] [72,79,95,99,700,701,710,711,712,713,714,720,721,722,723,724,740] fun K hK=>?_
  simp only [go_sem,seval]
  refine hK _ (Aw_yes rfl (Aw_skip (hB5 _ ?_)))
  refine Aw_sq fun B6 hB6 hR6 hX6=>?_
  refine Aw_bk fun B7 hN7 hE7 hR7 hX7=>?_
  refine Aw_st hE [0,3,4,10,11,12] [72,79,95,99,700,701,710,711,712,713,714,720,721,722,723,724,740] fun K hK=>?_
  simp only [go_sem,seval]
  refine hK _ ?_;clear hK K
  refine Aw_sq fun B8 hB8 hR8 hX8=>?_
  refine Aw_st hE [0,3,4,10,11,12,13] [72,79,95,99,700,701,710,711,712,713,714,720,721,722,723,724,740] fun K hK=>?_
  simp only [go_sem,seval]
  refine hK _ ?_;clear hK K
  refine Aw_bk fun B9 hN9 hE9 hR9 hX9=>?_
  refine Aw_lp (fun j:Nat × Nat × List Int=>⟨111,[(0,.rd),(3,iv 3),(4,.xs 700 0 3 (c + 3) 1),(10,.xs 701 0 0 (c' + 0) 1),(11,iv 2),(12,.xs 740 0 j.2.2.length (j.2.1 + j.2.2.length) 1),(13,iv ((j.1:Int) - 1))],(740,cI j.2.2++jN j.2.1)::(700,vws 3 d 710 3++jN c)::(701,vws 3 d' 720 0++jN c')::(bxs 3 d r 710 3++bxs 3 d' r' 720 0),rn + 1⟩) (fun j=>j.2.2.length + j.1=3) (fun j=>j.1) (3,0,[]) ?_ (by simp) fun j hj B10 hN10 hR10 hX10=>?_
  ·refine (Le_swb _ 79 740 (by decide) (by decide)).trans ?_
   simp only [St.swb,swbσ,swbm,AV.swb,AV.swbAll,swp,jN_swb,row_swb,Nat.reduceEqDiff,if_true,if_false,reduceIte]
   exact Le_wk (by first | omega | (dsimp only;omega) | (simp only;omega) | (simp;omega)) (by simp only [go_sem,seval]) (by simp only [go_sem,seval])
  obtain ⟨m,e,q⟩:=j
  simp only at hj
  refine Aw_sq fun B11 hB11 hR11 hX11=>?_
  refine Aw_st hE [0,3,4,10,11,12,13,83] [72,79,95,99,700,701,710,711,712,713,714,720,721,722,723,724,740] fun K hK=>?_
  simp only [go_sem,seval]
  refine hK _ (Aw_cond rfl (fun hc38=>?_) (fun hc38=>?_))
  ·simp only [decide_eq_true_eq] at hc38
   have hg:=rowI_drop (r 2) (d 2) ((m:Int) - 1).toNat (by omega)
   refine Aw_skip (hB11 _ ?_)
   refine Aw_sq fun B12 hB12 hR12 hX12=>?_
   refine Aw_bk fun B13 hN13 hE13 hR13 hX13=>?_
   refine Aw_tx hE [0,3,4,10,11,12,13] [72,79,95,99,700,701,710,711,712,713,714,720,721,722,723,724,740] fun K hK=>?_
   simp only [go_sem,seval,hg]
   refine ⟨⟨by omega,by omega⟩,⟨by omega,by omega⟩,fun h=>?_,fun h cap' hcap'=>?_⟩
   ·obtain ⟨e',rfl⟩:∃ e',e=e' + 1:=⟨e - 1,by omega⟩
    rw [row_put]
    refine hK _ (hN13 _ (hB12 _ ?_))
    refine Aw_tx hE [0,3,4,10,11,12,13] [72,79,95,99,700,701,710,711,712,713,714,720,721,722,723,724,740] fun K hK=>?_
    simp only [go_sem,seval]
    repeat refine ⟨by first|omega|(and_intros<;>first|omega|exact rows_row _|exact wrows_row _|decide|(simp<;>omega))|fail,?_⟩
    have hl1:(q++[(r 2).getD ((m:Int) - 1).toNat 0]).length=q.length + 1:=by simp
    have hmc:((m - 1:Nat):Int)=(m:Int) - 1:=by omega
    have hec:e' + 1 + q.length=e' + (q.length + 1):=by omega
    refine hK _ (hN10 (m - 1,e',q++[(r 2).getD ((m:Int) - 1).toNat 0]) _ (by simp only [hl1];omega) (by simp only;omega) ?_)
    simp only [hl1,hmc,hec]
    exact Le_wk (by first | omega | (dsimp only;omega) | (simp only;omega) | (simp;omega)) (by simp only [go_sem,seval]) (by simp only [go_sem,seval])
   ·obtain ⟨e',rfl⟩:∃ e',cap'=e' + (q.length + 1):=⟨cap' - (q.length + 1),by omega⟩
    rw [Nat.add_sub_cancel,List.append_assoc,List.singleton_append,row_snoc]
    refine hK _ (hN13 _ (hB12 _ ?_))
    refine Aw_tx hE [0,3,4,10,11,12,13] [72,79,95,99,700,701,710,711,712,713,714,720,721,722,723,724,740] fun K hK=>?_
    simp only [go_sem,seval]
    repeat refine ⟨by first|omega|(and_intros<;>first|omega|exact rows_row _|exact wrows_row _|decide|(simp<;>omega))|fail,?_⟩
    have hl1:(q++[(r 2).getD ((m:Int) - 1).toNat 0]).length=q.length + 1:=by simp
    have hmc:((m - 1:Nat):Int)=(m:Int) - 1:=by omega
    have hec:e' + 1 + q.length=e' + (q.length + 1):=by omega
    refine hK _ (hN10 (m - 1,e',q++[(r 2).getD ((m:Int) - 1).toNat 0]) _ (by simp only [hl1];omega) (by simp only;omega) ?_)
    simp only [hl1,hmc,hec]
    refine (Le_swb _ 95 740 (by decide) (by decide)).trans ?_
    simp only [St.swb,swbσ,swbm,AV.swb,AV.swbAll,swp,jN_swb,row_swb,Nat.reduceEqDiff,if_true,if_false,reduceIte]
    exact Le_wk (by first | omega | (dsimp only;omega) | (simp only;omega) | (simp;omega)) (by simp only [go_sem,seval]) (by simp only [go_sem,seval])
  ·simp only [decide_eq_false_iff_not] at hc38
   have hq:q.length=3:=by omega
   refine Aw_exit (hX11 _ _ (hX10 _ _ (hE9 _ (hB8 _ ?_))))
   refine Aw_tx hE [0,3,4,10,11] [72,79,95,99,700,701,710,711,712,713,714,720,721,722,723,724,740] fun K hK=>?_
   simp only [go_sem,seval,hq]
   refine ⟨fun h=>?_,fun h cap' hcap'=>?_⟩
   ·obtain ⟨c1,rfl⟩:∃ c1,c'=c1 + 1:=⟨c' - 1,by omega⟩
    simp only [jN_s,List.set_cons_zero]
    refine hK _ (hN7 _ (hB6 _ ?_))
    refine Aw_tx hE [0,3,4,10,11] [72,79,95,99,700,701,710,711,712,713,714,720,721,722,723,724,740] fun K hK=>?_
    simp only [go_sem,seval]
    repeat refine ⟨by first|omega|(and_intros<;>first|omega|exact rows_row _|exact wrows_row _|decide|(simp<;>omega))|fail,?_⟩
    refine hK _ (hN4 (1,c1,put d' 0 e,put r' 0 q) _ ⟨by omega,put_len hr' hq⟩ (by simp only;omega) ?_)
    refine (Le_swb _ 740 720 (by decide) (by decide)).trans ?_
    simp only [St.swb,swbσ,swbm,AV.swb,AV.swbAll,swp,jN_swb,row_swb,Nat.reduceEqDiff,if_true,if_false,reduceIte]
    exact Le_wk (by first | omega | (dsimp only;omega) | (simp only;omega) | (simp;omega)) (by simp only [go_sem,seval,put,Nat.add_assoc]) (by simp only [go_sem,seval,put])
   ·obtain ⟨c1,rfl⟩:∃ c1,cap'=c1 + 1:=⟨cap' - 1,by omega⟩
    rw [Nat.add_sub_cancel]
    refine hK _ (hN7 _ (hB6 _ ?_))
    refine Aw_tx hE [0,3,4,10,11] [72,79,95,99,700,701,710,711,712,713,714,720,721,722,723,724,740] fun K hK=>?_
    simp only [go_sem,seval]
    repeat refine ⟨by first|omega|(and_intros<;>first|omega|exact rows_row _|exact wrows_row _|decide|(simp<;>omega))|fail,?_⟩
    refine hK _ (hN4 (1,c1,put d' 0 e,put r' 0 q) _ ⟨by omega,put_len hr' hq⟩ (by simp only;omega) ?_)
    refine (Le_swb _ 740 720 (by decide) (by decide)).trans ?_
    simp only [St.swb,swbσ,swbm,AV.swb,AV.swbAll,swp,jN_swb,row_swb,Nat.reduceEqDiff,if_true,if_false,reduceIte]
    refine (Le_swb _ 99 701 (by decide) (by decide)).trans ?_
    simp only [St.swb,swbσ,swbm,AV.swb,AV.swbAll,swp,jN_swb,row_swb,Nat.reduceEqDiff,if_true,if_false,reduceIte]
    exact Le_wk (by first | omega | (dsimp only;omega) | (simp only;omega) | (simp;omega)) (by simp only [go_sem,seval,put,Nat.add_assoc]) (by simp only [go_sem,seval,put])
 ·refine Aw_st hE [0,3,4,10,11,76] [72,79,95,99,700,701,710,711,712,713,714,720,721,722,723,724,740] fun K hK=>?_
  simp only [go_sem,seval]
  refine hK _ (Aw_yes rfl (Aw_skip (hB5 _ ?_)))
  refine Aw_sq fun B6 hB6 hR6 hX6=>?_
  refine Aw_bk fun B7 hN7 hE7 hR7 hX7=>?_
  refine Aw_st hE [0,3,4,10,11,12] [72,79,95,99,700,701,710,711,712,713,714,720,721,722,723,724,740] fun K hK=>?_
  simp only [go_sem,seval]
  refine hK _ ?_;clear hK K
  refine Aw_sq fun B8 hB8 hR8 hX8=>?_
  refine Aw_st hE [0,3,4,10,11,12,13] [72,79,95,99,700,701,710,711,712,713,714,720,721,722,723,724,740] fun K hK=>?_
  simp only [go_sem,seval]
  refine hK _ ?_;clear hK K
  refine Aw_bk fun B9 hN9 hE9 hR9 hX9=>?_
  refine Aw_lp (fun j:Nat × Nat × List Int=>⟨111,[(0,.rd),(3,iv 3),(4,.xs 700 0 3 (c + 3) 1),(10,.xs 701 0 1 (c' + 1) 1),(11,iv 1),(12,.xs 740 0 j.2.2.length (j.2.1 + j.2.2.length) 1),(13,iv ((j.1:Int) - 1))],(740,cI j.2.2++jN j.2.1)::(700,vws 3 d 710 3++jN c)::(701,vws 3 d' 720 1++jN c')::(bxs 3 d r 710 3++bxs 3 d' r' 720 1),rn + 1⟩) (fun j=>j.2.2.length + j.1=3) (fun j=>j.1) (3,0,[]) ?_ (by simp) fun j hj B10 hN10 hR10 hX10=>?_
  ·refine (Le_swb _ 79 740 (by decide) (by decide)).trans ?_
   simp only [St.swb,swbσ,swbm,AV.swb,AV.swbAll,swp,jN_swb,row_swb,Nat.reduceEqDiff,if_true,if_false,reduceIte]
   exact Le_wk (by first | omega | (dsimp only;omega) | (simp only;omega) | (simp;omega)) (by simp only [go_sem,seval]) (by simp only [go_sem,seval])
  obtain ⟨m,e,q⟩:=j
  simp only at hj
  refine Aw_sq fun B11 hB11 hR11 hX11=>?_
  refine Aw_st hE [0,3,4,10,11,12,13,83] [72,79,95,99,700,701,710,711,712,713,714,720,721,722,723,724,740] fun K hK=>?_
  simp only [go_sem,seval]
  refine hK _ (Aw_cond rfl (fun hc38=>?_) (fun hc38=>?_))
  ·simp only [decide_eq_true_eq] at hc38
   have hg:=rowI_drop (r 1) (d 1) ((m:Int) - 1).toNat (by omega)
   refine Aw_skip (hB11 _ ?_)
   refine Aw_sq fun B12 hB12 hR12 hX12=>?_
   refine Aw_bk fun B13 hN13 hE13 hR13 hX13=>?_
   refine Aw_tx hE [0,3,4,10,11,12,13] [72,79,95,99,700,701,710,711,712,713,714,720,721,722,723,724,740] fun K hK=>?_
   simp only [go_sem,seval,hg]
   refine ⟨⟨by omega,by omega⟩,⟨by omega,by omega⟩,fun h=>?_,fun h cap' hcap'=>?_⟩
   ·obtain ⟨e',rfl⟩:∃ e',e=e' + 1:=⟨e - 1,by omega⟩
    rw [row_put]
    refine hK _ (hN13 _ (hB12 _ ?_))
    refine Aw_tx hE [0,3,4,10,11,12,13] [72,79,95,99,700,701,710,711,712,713,714,720,721,722,723,724,740] fun K hK=>?_
    simp only [go_sem,seval]
    repeat refine ⟨by first|omega|(and_intros<;>first|omega|exact rows_row _|exact wrows_row _|decide|(simp<;>omega))|fail,?_⟩
    have hl1:(q++[(r 1).getD ((m:Int) - 1).toNat 0]).length=q.length + 1:=by simp
    have hmc:((m - 1:Nat):Int)=(m:Int) - 1:=by omega
    have hec:e' + 1 + q.length=e' + (q.length + 1):=by omega
    refine hK _ (hN10 (m - 1,e',q++[(r 1).getD ((m:Int) - 1).toNat 0]) _ (by simp only [hl1];omega) (by simp only;omega) ?_)
    simp only [hl1,hmc,hec]
    exact Le_wk (by first | omega | (dsimp only;omega) | (simp only;omega) | (simp;omega)) (by simp only [go_sem,seval]) (by simp only [go_sem,seval])
   ·obtain ⟨e',rfl⟩:∃ e',cap'=e' + (q.length + 1):=⟨cap' - (q.length + 1),by omega⟩
    rw [Nat.add_sub_cancel,List.append_assoc,List.singleton_append,row_snoc]
    refine hK _ (hN13 _ (hB12 _ ?_))
    refine Aw_tx hE [0,3,4,10,11,12,13] [72,79,95,99,700,701,710,711,712,713,714,720,721,722,723,724,740] fun K hK=>?_
    simp only [go_sem,seval]
    repeat refine ⟨by first|omega|(and_intros<;>first|omega|exact rows_row _|exact wrows_row _|decide|(simp<;>omega))|fail,?_⟩
    have hl1:(q++[(r 1).getD ((m:Int) - 1).toNat 0]).length=q.length + 1:=by simp
    have hmc:((m - 1:Nat):Int)=(m:Int) - 1:=by omega
    have hec:e' + 1 + q.length=e' + (q.length + 1):=by omega
    refine hK _ (hN10 (m - 1,e',q++[(r 1).getD ((m:Int) - 1).toNat 0]) _ (by simp only [hl1];omega) (by simp only;omega) ?_)
    simp only [hl1,hmc,hec]
    refine (Le_swb _ 95 740 (by decide) (by decide)).trans ?_
    simp only [St.swb,swbσ,swbm,AV.swb,AV.swbAll,swp,jN_swb,row_swb,Nat.reduceEqDiff,if_true,if_false,reduceIte]
    exact Le_wk (by first | omega | (dsimp only;omega) | (simp only;omega) | (simp;omega)) (by simp only [go_sem,seval]) (by simp only [go_sem,seval])
  ·simp only [decide_eq_false_iff_not] at hc38
   have hq:q.length=3:=by omega
   refine Aw_exit (hX11 _ _ (hX10 _ _ (hE9 _ (hB8 _ ?_))))
   refine Aw_tx hE [0,3,4,10,11] [72,79,95,99,700,701,710,711,712,713,714,720,721,722,723,724,740] fun K hK=>?_
   simp only [go_sem,seval,hq]
   refine ⟨fun h=>?_,fun h cap' hcap'=>?_⟩
   ·obtain ⟨c1,rfl⟩:∃ c1,c'=c1 + 1:=⟨c' - 1,by omega⟩
    simp only [jN_s,List.set_cons_zero]
    refine hK _ (hN7 _ (hB6 _ ?_))
    refine Aw_tx hE [0,3,4,10,11] [72,79,95,99,700,701,710,711,712,713,714,720,721,722,723,724,740] fun K hK=>?_
    simp only [go_sem,seval]
    repeat refine ⟨by first|omega|(and_intros<;>first|omega|exact rows_row _|exact wrows_row _|decide|(simp<;>omega))|fail,?_⟩
    refine hK _ (hN4 (2,c1,put d' 1 e,put r' 1 q) _ ⟨by omega,put_len hr' hq⟩ (by simp only;omega) ?_)
    refine (Le_swb _ 740 721 (by decide) (by decide)).trans ?_
    simp only [St.swb,swbσ,swbm,AV.swb,AV.swbAll,swp,jN_swb,row_swb,Nat.reduceEqDiff,if_true,if_false,reduceIte]
    exact Le_wk (by first | omega | (dsimp only;omega) | (simp only;omega) | (simp;omega)) (by simp only [go_sem,seval,put,Nat.add_assoc]) (by simp only [go_sem,seval,put])
   ·obtain ⟨c1,rfl⟩:∃ c1,cap'=c1 + 2:=⟨cap' - 2,by omega⟩
    rw [Nat.add_sub_cancel]
    refine hK _ (hN7 _ (hB6 _ ?_))
    refine Aw_tx hE [0,3,4,10,11] [72,79,95,99,700,701,710,711,712,713,714,720,721,722,723,724,740] fun K hK=>?_
    simp only [go_sem,seval]
    repeat refine ⟨by first|omega|(and_intros<;>first|omega|exact rows_row _|exact wrows_row _|decide|(simp<;>omega))|fail,?_⟩
    refine hK _ (hN4 (2,c1,put d' 1 e,put r' 1 q) _ ⟨by omega,put_len hr' hq⟩ (by simp only;omega) ?_)
    refine (Le_swb _ 740 721 (by decide) (by decide)).trans ?_
    simp only [St.swb,swbσ,swbm,AV.swb,AV.swbAll,swp,jN_swb,row_swb,Nat.reduceEqDiff,if_true,if_false,reduceIte]
    refine (Le_swb _ 99 701 (by decide) (by decide)).trans ?_
    simp only [St.swb,swbσ,swbm,AV.swb,AV.swbAll,swp,jN_swb,row_swb,Nat.reduceEqDiff,if_true,if_false,reduceIte]
    exact Le_wk (by first | omega | (dsimp only;omega) | (simp only;omega) | (simp;omega)) (by simp only [go_sem,seval,put,Nat.add_assoc]) (by simp only [go_sem,seval,put])
 ·refine Aw_st hE [0,3,4,10,11,76] [72,79,95,99,700,701,710,711,712,713,714,720,721,722,723,724,740] fun K hK=>?_
  simp only [go_sem,seval]
  refine hK _ (Aw_yes rfl (Aw_skip (hB5 _ ?_)))
  refine Aw_sq fun B6 hB6 hR6 hX6=>?_
  refine Aw_bk fun B7 hN7 hE7 hR7 hX7=>?_
  refine Aw_st hE [0,3,4,10,11,12] [72,79,95,99,700,701,710,711,712,713,714,720,721,722,723,724,740] fun K hK=>?_
  simp only [go_sem,seval]
  refine hK _ ?_;clear hK K
  refine Aw_sq fun B8 hB8 hR8 hX8=>?_
  refine Aw_st hE [0,3,4,10,11,12,13] [72,79,95,99,700,701,710,711,712,713,714,720,721,722,723,724,740] fun K hK=>?_
  simp only [go_sem,seval]
  refine hK _ ?_;clear hK K
  refine Aw_bk fun B9 hN9 hE9 hR9 hX9=>?_
  refine Aw_lp (fun j:Nat × Nat × List Int=>⟨111,[(0,.rd),(3,iv 3),(4,.xs 700 0 3 (c + 3) 1),(10,.xs 701 0 2 (c' + 2) 1),(11,iv 0),(12,.xs 740 0 j.2.2.length (j.2.1 + j.2.2.length) 1),(13,iv ((j.1:Int) - 1))],(740,cI j.2.2++jN j.2.1)::(700,vws 3 d 710 3++jN c)::(701,vws 3 d' 720 2++jN c')::(bxs 3 d r 710 3++bxs 3 d' r' 720 2),rn + 1⟩) (fun j=>j.2.2.length + j.1=3) (fun j=>j.1) (3,0,[]) ?_ (by simp) fun j hj B10 hN10 hR10 hX10=>?_
  ·refine (Le_swb _ 79 740 (by decide) (by decide)).trans ?_
   simp only [St.swb,swbσ,swbm,AV.swb,AV.swbAll,swp,jN_swb,row_swb,Nat.reduceEqDiff,if_true,if_false,reduceIte]
   exact Le_wk (by first | omega | (dsimp only;omega) | (simp only;omega) | (simp;omega)) (by simp only [go_sem,seval]) (by simp only [go_sem,seval])
  obtain ⟨m,e,q⟩:=j
  simp only at hj
  refine Aw_sq fun B11 hB11 hR11 hX11=>?_
  refine Aw_st hE [0,3,4,10,11,12,13,83] [72,79,95,99,700,701,710,711,712,713,714,720,721,722,723,724,740] fun K hK=>?_
  simp only [go_sem,seval]
  refine hK _ (Aw_cond rfl (fun hc38=>?_) (fun hc38=>?_))
  ·simp only [decide_eq_true_eq] at hc38
   have hg:=rowI_drop (r 0) (d 0) ((m:Int) - 1).toNat (by omega)
   refine Aw_skip (hB11 _ ?_)
   refine Aw_sq fun B12 hB12 hR12 hX12=>?_
   refine Aw_bk fun B13 hN13 hE13 hR13 hX13=>?_
   refine Aw_tx hE [0,3,4,10,11,12,13] [72,79,95,99,700,701,710,711,712,713,714,720,721,722,723,724,740] fun K hK=>?_
   simp only [go_sem,seval,hg]
   refine ⟨⟨by omega,by omega⟩,⟨by omega,by omega⟩,fun h=>?_,fun h cap' hcap'=>?_⟩
   ·obtain ⟨e',rfl⟩:∃ e',e=e' + 1:=⟨e - 1,by omega⟩
    rw [row_put]
    refine hK _ (hN13 _ (hB12 _ ?_))
    refine Aw_tx hE [0,3,4,10,11,12,13] [72,79,95,99,700,701,710,711,712,713,714,720,721,722,723,724,740] fun K hK=>?_
    simp only [go_sem,seval]
    repeat refine ⟨by first|omega|(and_intros<;>first|omega|exact rows_row _|exact wrows_row _|decide|(simp<;>omega))|fail,?_⟩
    have hl1:(q++[(r 0).getD ((m:Int) - 1).toNat 0]).length=q.length + 1:=by simp
    have hmc:((m - 1:Nat):Int)=(m:Int) - 1:=by omega
    have hec:e' + 1 + q.length=e' + (q.length + 1):=by omega
    refine hK _ (hN10 (m - 1,e',q++[(r 0).getD ((m:Int) - 1).toNat 0]) _ (by simp only [hl1];omega) (by simp only;omega) ?_)
    simp only [hl1,hmc,hec]
    exact Le_wk (by first | omega | (dsimp only;omega) | (simp only;omega) | (simp;omega)) (by simp only [go_sem,seval]) (by simp only [go_sem,seval])
   ·obtain ⟨e',rfl⟩:∃ e',cap'=e' + (q.length + 1):=⟨cap' - (q.length + 1),by omega⟩
    rw [Nat.add_sub_cancel,List.append_assoc,List.singleton_append,row_snoc]
    refine hK _ (hN13 _ (hB12 _ ?_))
    refine Aw_tx hE [0,3,4,10,11,12,13] [72,79,95,99,700,701,710,711,712,713,714,720,721,722,723,724,740] fun K hK=>?_
    simp only [go_sem,seval]
    repeat refine ⟨by first|omega|(and_intros<;>first|omega|exact rows_row _|exact wrows_row _|decide|(simp<;>omega))|fail,?_⟩
    have hl1:(q++[(r 0).getD ((m:Int) - 1).toNat 0]).length=q.length + 1:=by simp
    have hmc:((m - 1:Nat):Int)=(m:Int) - 1:=by omega
    have hec:e' + 1 + q.length=e' + (q.length + 1):=by omega
    refine hK _ (hN10 (m - 1,e',q++[(r 0).getD ((m:Int) - 1).toNat 0]) _ (by simp only [hl1];omega) (by simp only;omega) ?_)
    simp only [hl1,hmc,hec]
    refine (Le_swb _ 95 740 (by decide) (by decide)).trans ?_
    simp only [St.swb,swbσ,swbm,AV.swb,AV.swbAll,swp,jN_swb,row_swb,Nat.reduceEqDiff,if_true,if_false,reduceIte]
    exact Le_wk (by first | omega | (dsimp only;omega) | (simp only;omega) | (simp;omega)) (by simp only [go_sem,seval]) (by simp only [go_sem,seval])
  ·simp only [decide_eq_false_iff_not] at hc38
   have hq:q.length=3:=by omega
   refine Aw_exit (hX11 _ _ (hX10 _ _ (hE9 _ (hB8 _ ?_))))
   refine Aw_tx hE [0,3,4,10,11] [72,79,95,99,700,701,710,711,712,713,714,720,721,722,723,724,740] fun K hK=>?_
   simp only [go_sem,seval,hq]
   refine ⟨fun h=>?_,fun h cap' hcap'=>?_⟩
   ·obtain ⟨c1,rfl⟩:∃ c1,c'=c1 + 1:=⟨c' - 1,by omega⟩
    simp only [jN_s,List.set_cons_zero]
    refine hK _ (hN7 _ (hB6 _ ?_))
    refine Aw_tx hE [0,3,4,10,11] [72,79,95,99,700,701,710,711,712,713,714,720,721,722,723,724,740] fun K hK=>?_
    simp only [go_sem,seval]
    repeat refine ⟨by first|omega|(and_intros<;>first|omega|exact rows_row _|exact wrows_row _|decide|(simp<;>omega))|fail,?_⟩
    refine hK _ (hN4 (3,c1,put d' 2 e,put r' 2 q) _ ⟨by omega,put_len hr' hq⟩ (by simp only;omega) ?_)
    refine (Le_swb _ 740 722 (by decide) (by decide)).trans ?_
    simp only [St.swb,swbσ,swbm,AV.swb,AV.swbAll,swp,jN_swb,row_swb,Nat.reduceEqDiff,if_true,if_false,reduceIte]
    exact Le_wk (by first | omega | (dsimp only;omega) | (simp only;omega) | (simp;omega)) (by simp only [go_sem,seval,put,Nat.add_assoc]) (by simp only [go_sem,seval,put])
   ·obtain ⟨c1,rfl⟩:∃ c1,cap'=c1 + 3:=⟨cap' - 3,by omega⟩
    rw [Nat.add_sub_cancel]
    refine hK _ (hN7 _ (hB6 _ ?_))
    refine Aw_tx hE [0,3,4,10,11] [72,79,95,99,700,701,710,711,712,713,714,720,721,722,723,724,740] fun K hK=>?_
    simp only [go_sem,seval]
    repeat refine ⟨by first|omega|(and_intros<;>first|omega|exact rows_row _|exact wrows_row _|decide|(simp<;>omega))|fail,?_⟩
    refine hK _ (hN4 (3,c1,put d' 2 e,put r' 2 q) _ ⟨by omega,put_len hr' hq⟩ (by simp only;omega) ?_)
    refine (Le_swb _ 740 722 (by decide) (by decide)).trans ?_
    simp only [St.swb,swbσ,swbm,AV.swb,AV.swbAll,swp,jN_swb,row_swb,Nat.reduceEqDiff,if_true,if_false,reduceIte]
    refine (Le_swb _ 99 701 (by decide) (by decide)).trans ?_
    simp only [St.swb,swbσ,swbm,AV.swb,AV.swbAll,swp,jN_swb,row_swb,Nat.reduceEqDiff,if_true,if_false,reduceIte]
    exact Le_wk (by first | omega | (dsimp only;omega) | (simp only;omega) | (simp;omega)) (by simp only [go_sem,seval,put,Nat.add_assoc]) (by simp only [go_sem,seval,put])
set_option maxHeartbeats 16000000 in
theorem relsR4 {E:En} (hE:TbOk E tbRels) {k:Nat} (hk:k + 40≤1099511627776) {Q:Exit→St→Prop} (hQ:∀ (L:List (List Int)) (rn:Nat),(2≤L.length∧L.length≤5)→(∀ w ∈ L,w.length=L.length)→rn≤k + 40→Aw E .ret ⟨111,[(2,wsl L)],[],rn⟩ Q) {r:Nat→List Int} (hr:∀ q,(r q).length=4) {d:Nat→Nat} {c rn:Nat} (hrn:rn≤k + 29):Aw E (seqB (seqB (seqB (seqB (seqB (seqB (Tryd.f30.body.getD .skip))))))) ⟨111,[(0,.rd),(3,iv 4),(4,.xs 700 0 4 (c + 4) 1)],(700,vws 4 d 710 4++jN c)::bxs 4 d r 710 4,rn⟩ Q:=by
 have hr0:=hr 0
 have hr1:=hr 1
 have hr2:=hr 2
 have hr3:=hr 3
 refine Aw_sqJ (fun i:(Nat→Nat) × (Nat→List Int) × Nat × Nat=>⟨111,[(0,.rd),(4,.xs 700 0 4 (i.2.2.1 + 4) 1)],(700,vws 4 i.1 710 4++jN i.2.2.1)::bxs 4 i.1 i.2.1 710 4,i.2.2.2⟩) (fun i=>(∀ x,(i.2.1 x).length=4)∧i.2.2.2≤k + 30) (fun i hi=>relsT4 hE hk hQ hi.1 hi.2) fun B1 hB1 hR1 hX1=>?_
 refine Aw_st hE [0,3,4,71] [72,79,95,99,700,701,710,711,712,713,714,720,721,722,723,724,740] fun K hK=>?_
 simp only [go_sem,seval]
 refine ⟨by omega,fun x hx1 hx2=>?_⟩
 refine hK _ (Aw_cond rfl (fun hc=>?_) (fun hc=>?_))
 rotate_left
 ·exact Aw_skip (hB1 (d,r,c,rn + 1) _ ⟨hr,by simp only;omega⟩ (LeE_of (Le_wk (by first | omega | (dsimp only;omega) | (simp only;omega) | (simp;omega)) (by simp only [go_sem,seval]) (by simp only [go_sem,seval]))))
 refine Aw_st hE [0,3,4,10] [72,79,95,99,700,701,710,711,712,713,714,720,721,722,723,724,740] fun K hK=>?_
 simp only [go_sem,seval]
 refine hK _ ?_;clear hK K
 refine Aw_sq fun B2 hB2 hR2 hX2=>?_
 refine Aw_st hE [0,3,4,10,11] [72,79,95,99,700,701,710,711,712,713,714,720,721,722,723,724,740] fun K hK=>?_
 simp only [go_sem,seval]
 refine hK _ ?_;clear hK K
 refine Aw_bk fun B3 hN3 hE3 hR3 hX3=>?_
 refine Aw_lp (fun i:Nat × Nat × (Nat→Nat) × (Nat→List Int)=>⟨111,[(0,.rd),(3,iv 4),(4,.xs 700 0 4 (c + 4) 1),(10,.xs 701 0 i.1 (i.2.1 + i.1) 1),(11,iv ((4:Int) - 1 - (i.1:Int)))],(700,vws 4 d 710 4++jN c)::(701,vws 4 i.2.2.1 720 i.1++jN i.2.1)::(bxs 4 d r 710 4++bxs 4 i.2.2.1 i.2.2.2 720 i.1),rn + 1⟩) (fun i=>i.1≤4∧∀ x,(i.2.2.2 x).length=4) (fun i=>4 - i.1) (0,0,d,r) ?_ ⟨by omega,hr⟩ fun i hi B4 hN4 hR4 hX4=>?_
 ·refine (Le_swb _ 72 701 (by decide) (by decide)).trans ?_
  simp only [St.swb,swbσ,swbm,AV.swb,AV.swbAll,swp,jN_swb,row_swb,Nat.reduceEqDiff,if_true,if_false,reduceIte]
  exact Le_wk (by first | omega | (dsimp only;omega) | (simp only;omega) | (simp;omega)) (by simp only [go_sem,seval]) (by simp only [go_sem,seval])
 obtain ⟨i,c',d',r'⟩:=i
 obtain ⟨hi,hr'⟩:=hi
 simp only at hi hr'
 refine Aw_sq fun B5 hB5 hR5 hX5=>?_
 rcases (show i=4∨i=0∨i=1∨i=2∨i=3 by omega) with rfl | rfl | rfl | rfl | rfl
 ·refine Aw_st hE [0,3,4,10,11,76] [72,79,95,99,700,701,710,711,712,713,714,720,721,722,723,724,740] fun K hK=>?_
  simp only [go_sem,seval]
  refine hK _ (Aw_no rfl (Aw_exit (hX5 _ _ (hX4 _ _ (hE3 _ (hB2 _ ?_))))))
  refine Aw_tx hE [0,4] [72,79,95,99,700,701,710,711,712,713,714,720,721,722,723,724,740] fun K hK=>?_
  simp only [go_sem,seval]
  refine hK _ (hB1 (d',r',c',rn + 1) _ ⟨hr',by simp only;omega⟩ (LeE_of ?_))
  refine (Le_swb _ 701 700 (by decide) (by decide)).trans ((Le_swb _ 720 710 (by decide) (by decide)).trans ((Le_swb _ 721 711 (by decide) (by decide)).trans ((Le_swb _ 722 712 (by decide) (by decide)).trans ((Le_swb _ 723 713 (by decide) (by decide)).trans ?_))))
  simp only [St.swb,swbσ,swbm,AV.swb,AV.swbAll,swp,jN_swb,row_swb,Nat.reduceEqDiff,if_true,if_false,reduceIte]
  exact Le_wk (by first | omega | (dsimp only;omega) | (simp only;omega) | (simp;omega)) (by simp only [go_sem,seval]) (by simp only [go_sem,seval])
 ·refine Aw_st hE [0,3,4,10,11,76] [72,79,95,99,700,701,710,711,712,713,714,720,721,722,723,724,740] fun K hK=>?_
  simp only [go_sem,seval]
  refine hK _ (Aw_yes rfl (Aw_skip (hB5 _ ?_)))
  refine Aw_sq fun B6 hB6 hR6 hX6=>?_
  refine Aw_bk fun B7 hN7 hE7 hR7 hX7=>?_
  refine Aw_st hE [0,3,4,10,11,12] [72,79,95,99,700,701,710,711,712,713,714,720,721,722,723,724,740] fun K hK=>?_
  simp only [go_sem,seval]
  refine hK _ ?_;clear hK K
  refine Aw_sq fun B8 hB8 hR8 hX8=>?_
  refine Aw_st hE [0,3,4,10,11,12,13] [72,79,95,99,700,701,710,711,712,713,714,720,721,722,723,724,740] fun K hK=>?_
  simp only [go_sem,seval]
  refine hK _ ?_;clear hK K
  refine Aw_bk fun B9 hN9 hE9 hR9 hX9=>?_
  refine Aw_lp (fun j:Nat × Nat × List Int=>⟨111,[(0,.rd),(3,iv 4),(4,.xs 700 0 4 (c + 4) 1),(10,.xs 701 0 0 (c' + 0) 1),(11,iv 3),(12,.xs 740 0 j.2.2.length (j.2.1 + j.2.2.length) 1),(13,iv ((j.1:Int) - 1))],(740,cI j.2.2++jN j.2.1)::(700,vws 4 d 710 4++jN c)::(701,vws 4 d' 720 0++jN c')::(bxs 4 d r 710 4++bxs 4 d' r' 720 0),rn + 1⟩) (fun j=>j.2.2.length + j.1=4) (fun j=>j.1) (4,0,[]) ?_ (by simp) fun j hj B10 hN10 hR10 hX10=>?_
  ·refine (Le_swb _ 79 740 (by decide) (by decide)).trans ?_
   simp only [St.swb,swbσ,swbm,AV.swb,AV.swbAll,swp,jN_swb,row_swb,Nat.reduceEqDiff,if_true,if_false,reduceIte]
   exact Le_wk (by first | omega | (dsimp only;omega) | (simp only;omega) | (simp;omega)) (by simp only [go_sem,seval]) (by simp only [go_sem,seval])
  obtain ⟨m,e,q⟩:=j
  simp only at hj
  refine Aw_sq fun B11 hB11 hR11 hX11=>?_
  refine Aw_st hE [0,3,4,10,11,12,13,83] [72,79,95,99,700,701,710,711,712,713,714,720,721,722,723,724,740] fun K hK=>?_
  simp only [go_sem,seval]
  refine hK _ (Aw_cond rfl (fun hc38=>?_) (fun hc38=>?_))
  ·simp only [decide_eq_true_eq] at hc38
   have hg:=rowI_drop (r 3) (d 3) ((m:Int) - 1).toNat (by omega)
   refine Aw_skip (hB11 _ ?_)
   refine Aw_sq fun B12 hB12 hR12 hX12=>?_
   refine Aw_bk fun B13 hN13 hE13 hR13 hX13=>?_
   refine Aw_tx hE [0,3,4,10,11,12,13] [72,79,95,99,700,701,710,711,712,713,714,720,721,722,723,724,740] fun K hK=>?_
   simp only [go_sem,seval,hg]
   refine ⟨⟨by omega,by omega⟩,⟨by omega,by omega⟩,fun h=>?_,fun h cap' hcap'=>?_⟩
   ·obtain ⟨e',rfl⟩:∃ e',e=e' + 1:=⟨e - 1,by omega⟩
    rw [row_put]
    refine hK _ (hN13 _ (hB12 _ ?_))
    refine Aw_tx hE [0,3,4,10,11,12,13] [72,79,95,99,700,701,710,711,712,713,714,720,721,722,723,724,740] fun K hK=>?_
    simp only [go_sem,seval]
    repeat refine ⟨by first|omega|(and_intros<;>first|omega|exact rows_row _|exact wrows_row _|decide|(simp<;>omega))|fail,?_⟩
    have hl1:(q++[(r 3).getD ((m:Int) - 1).toNat 0]).length=q.length + 1:=by simp
    have hmc:((m - 1:Nat):Int)=(m:Int) - 1:=by omega
    have hec:e' + 1 + q.length=e' + (q.length + 1):=by omega
    refine hK _ (hN10 (m - 1,e',q++[(r 3).getD ((m:Int) - 1).toNat 0]) _ (by simp only [hl1];omega) (by simp only;omega) ?_)
    simp only [hl1,hmc,hec]
    exact Le_wk (by first | omega | (dsimp only;omega) | (simp only;omega) | (simp;omega)) (by simp only [go_sem,seval]) (by simp only [go_sem,seval])
   ·obtain ⟨e',rfl⟩:∃ e',cap'=e' + (q.length + 1):=⟨cap' - (q.length + 1),by omega⟩
    rw [Nat.add_sub_cancel,List.append_assoc,List.singleton_append,row_snoc]
    refine hK _ (hN13 _ (hB12 _ ?_))
    refine Aw_tx hE [0,3,4,10,11,12,13] [72,79,95,99,700,701,710,711,712,713,714,720,721,722,723,724,740] fun K hK=>?_
    simp only [go_sem,seval]
    repeat refine ⟨by first|omega|(and_intros<;>first|omega|exact rows_row _|exact wrows_row _|decide|(simp<;>omega))|fail,?_⟩
    have hl1:(q++[(r 3).getD ((m:Int) - 1).toNat 0]).length=q.length + 1:=by simp
    have hmc:((m - 1:Nat):Int)=(m:Int) - 1:=by omega
    have hec:e' + 1 + q.length=e' + (q.length + 1):=by omega
    refine hK _ (hN10 (m - 1,e',q++[(r 3).getD ((m:Int) - 1).toNat 0]) _ (by simp only [hl1];omega) (by simp only;omega) ?_)
    simp only [hl1,hmc,hec]
    refine (Le_swb _ 95 740 (by decide) (by decide)).trans ?_
    simp only [St.swb,swbσ,swbm,AV.swb,AV.swbAll,swp,jN_swb,row_swb,Nat.reduceEqDiff,if_true,if_false,reduceIte]
    exact Le_wk (by first | omega | (dsimp only;omega) | (simp only;omega) | (simp;omega)) (by simp only [go_sem,seval]) (by simp only [go_sem,seval])
  ·simp only [decide_eq_false_iff_not] at hc38
   have hq:q.length=4:=by omega
   refine Aw_exit (hX11 _ _ (hX10 _ _ (hE9 _ (hB8 _ ?_))))
   refine Aw_tx hE [0,3,4,10,11] [72,79,95,99,700,701,710,711,712,713,714,720,721,722,723,724,740] fun K hK=>?_
   simp only [go_sem,seval,hq]
   refine ⟨fun h=>?_,fun h cap' hcap'=>?_⟩
   ·obtain ⟨c1,rfl⟩:∃ c1,c'=c1 + 1:=⟨c' - 1,by omega⟩
    simp only [jN_s,List.set_cons_zero]
    refine hK _ (hN7 _ (hB6 _ ?_))
    refine Aw_tx hE [0,3,4,10,11] [72,79,95,99,700,701,710,711,712,713,714,720,721,722,723,724,740] fun K hK=>?_
    simp only [go_sem,seval]
    repeat refine ⟨by first|omega|(and_intros<;>first|omega|exact rows_row _|exact wrows_row _|decide|(simp<;>omega))|fail,?_⟩
    refine hK _ (hN4 (1,c1,put d' 0 e,put r' 0 q) _ ⟨by omega,put_len hr' hq⟩ (by simp only;omega) ?_)
    refine (Le_swb _ 740 720 (by decide) (by decide)).trans ?_
    simp only [St.swb,swbσ,swbm,AV.swb,AV.swbAll,swp,jN_swb,row_swb,Nat.reduceEqDiff,if_true,if_false,reduceIte]
    exact Le_wk (by first | omega | (dsimp only;omega) | (simp only;omega) | (simp;omega)) (by simp only [go_sem,seval,put,Nat.add_assoc]) (by simp only [go_sem,seval,put])
   ·obtain ⟨c1,rfl⟩:∃ c1,cap'=c1 + 1:=⟨cap' - 1,by omega⟩
    rw [Nat.add_sub_cancel]
    refine hK _ (hN7 _ (hB6 _ ?_))
    refine Aw_tx hE [0,3,4,10,11] [72,79,95,99,700,701,710,711,712,713,714,720,721,722,723,724,740] fun K hK=>?_
    simp only [go_sem,seval]
    repeat refine ⟨by first|omega|(and_intros<;>first|omega|exact rows_row _|exact wrows_row _|decide|(simp<;>omega))|fail,?_⟩
    refine hK _ (hN4 (1,c1,put d' 0 e,put r' 0 q) _ ⟨by omega,put_len hr' hq⟩ (by simp only;omega) ?_)
    refine (Le_swb _ 740 720 (by decide) (by decide)).trans ?_
    simp only [St.swb,swbσ,swbm,AV.swb,AV.swbAll,swp,jN_swb,row_swb,Nat.reduceEqDiff,if_true,if_false,reduceIte]
    refine (Le_swb _ 99 701 (by decide) (by decide)).trans ?_
    simp only [St.swb,swbσ,swbm,AV.swb,AV.swbAll,swp,jN_swb,row_swb,Nat.reduceEqDiff,if_true,if_false,reduceIte]
    exact Le_wk (by first | omega | (dsimp only;omega) | (simp only;omega) | (simp;omega)) (by simp only [go_sem,seval,put,Nat.add_assoc]) (by simp only [go_sem,seval,put])
 ·refine Aw_st hE [0,3,4,10,11,76] [72,79,95,99,700,701,710,711,712,713,714,720,721,722,723,724,740] fun K hK=>?_
  simp only [go_sem,seval]
  refine hK _ (Aw_yes rfl (Aw_skip (hB5 _ ?_)))
  refine Aw_sq fun B6 hB6 hR6 hX6=>?_
  refine Aw_bk fun B7 hN7 hE7 hR7 hX7=>?_
  refine Aw_st hE [0,3,4,10,11,12] [72,79,95,99,700,701,710,711,712,713,714,720,721,722,723,724,740] fun K hK=>?_
  simp only [go_sem,seval]
  refine hK _ ?_;clear hK K
  refine Aw_sq fun B8 hB8 hR8 hX8=>?_
  refine Aw_st hE [0,3,4,10,11,12,13] [72,79,95,99,700,701,710,711,712,713,714,720,721,722,723,724,740] fun K hK=>?_
  simp only [go_sem,seval]
  refine hK _ ?_;clear hK K
  refine Aw_bk fun B9 hN9 hE9 hR9 hX9=>?_
  refine Aw_lp (fun j:Nat × Nat × List Int=>⟨111,[(0,.rd),(3,iv 4),(4,.xs 700 0 4 (c + 4) 1),(10,.xs 701 0 1 (c' + 1) 1),(11,iv 2),(12,.xs 740 0 j.2.2.length (j.2.1 + j.2.2.length) 1),(13,iv ((j.1:Int) - 1))],(740,cI j.2.2++jN j.2.1)::(700,vws 4 d 710 4++jN c)::(701,vws 4 d' 720 1++jN c')::(bxs 4 d r 710 4++bxs 4 d' r' 720 1),rn + 1⟩) (fun j=>j.2.2.length + j.1=4) (fun j=>j.1) (4,0,[]) ?_ (by simp) fun j hj B10 hN10 hR10 hX10=>?_
  ·refine (Le_swb _ 79 740 (by decide) (by decide)).trans ?_
   simp only [St.swb,swbσ,swbm,AV.swb,AV.swbAll,swp,jN_swb,row_swb,Nat.reduceEqDiff,if_true,if_false,reduceIte]
   exact Le_wk (by first | omega | (dsimp only;omega) | (simp only;omega) | (simp;omega)) (by simp only [go_sem,seval]) (by simp only [go_sem,seval])
  obtain ⟨m,e,q⟩:=j
  simp only at hj
  refine Aw_sq fun B11 hB11 hR11 hX11=>?_
  refine Aw_st hE [0,3,4,10,11,12,13,83] [72,79,95,99,700,701,710,711,712,713,714,720,721,722,723,724,740] fun K hK=>?_
  simp only [go_sem,seval]
  refine hK _ (Aw_cond rfl (fun hc38=>?_) (fun hc38=>?_))
  ·simp only [decide_eq_true_eq] at hc38
   have hg:=rowI_drop (r 2) (d 2) ((m:Int) - 1).toNat (by omega)
   refine Aw_skip (hB11 _ ?_)
   refine Aw_sq fun B12 hB12 hR12 hX12=>?_
   refine Aw_bk fun B13 hN13 hE13 hR13 hX13=>?_
   refine Aw_tx hE [0,3,4,10,11,12,13] [72,79,95,99,700,701,710,711,712,713,714,720,721,722,723,724,740] fun K hK=>?_
   simp only [go_sem,seval,hg]
   refine ⟨⟨by omega,by omega⟩,⟨by omega,by omega⟩,fun h=>?_,fun h cap' hcap'=>?_⟩
   ·obtain ⟨e',rfl⟩:∃ e',e=e' + 1:=⟨e - 1,by omega⟩
    rw [row_put]
    refine hK _ (hN13 _ (hB12 _ ?_))
    refine Aw_tx hE [0,3,4,10,11,12,13] [72,79,95,99,700,701,710,711,712,713,714,720,721,722,723,724,740] fun K hK=>?_
    simp only [go_sem,seval]
    repeat refine ⟨by first|omega|(and_intros<;>first|omega|exact rows_row _|exact wrows_row _|decide|(simp<;>omega))|fail,?_⟩
    have hl1:(q++[(r 2).getD ((m:Int) - 1).toNat 0]).length=q.length + 1:=by simp
    have hmc:((m - 1:Nat):Int)=(m:Int) - 1:=by omega
    have hec:e' + 1 + q.length=e' + (q.length + 1):=by omega
    refine hK _ (hN10 (m - 1,e',q++[(r 2).getD ((m:Int) - 1).toNat 0]) _ (by simp only [hl1];omega) (by simp only;omega) ?_)
    simp only [hl1,hmc,hec]
    exact Le_wk (by first | omega | (dsimp only;omega) | (simp only;omega) | (simp;omega)) (by simp only [go_sem,seval]) (by simp only [go_sem,seval])
   ·obtain ⟨e',rfl⟩:∃ e',cap'=e' + (q.length + 1):=⟨cap' - (q.length + 1),by omega⟩
    rw [Nat.add_sub_cancel,List.append_assoc,List.singleton_append,row_snoc]
    refine hK _ (hN13 _ (hB12 _ ?_))
    refine Aw_tx hE [0,3,4,10,11,12,13] [72,79,95,99,700,701,710,711,712,713,714,720,721,722,723,724,740] fun K hK=>?_
    simp only [go_sem,seval]
    repeat refine ⟨by first|omega|(and_intros<;>first|omega|exact rows_row _|exact wrows_row _|decide|(simp<;>omega))|fail,?_⟩
    have hl1:(q++[(r 2).getD ((m:Int) - 1).toNat 0]).length=q.length + 1:=by simp
    have hmc:((m - 1:Nat):Int)=(m:Int) - 1:=by omega
    have hec:e' + 1 + q.length=e' + (q.length + 1):=by omega
    refine hK _ (hN10 (m - 1,e',q++[(r 2).getD ((m:Int) - 1).toNat 0]) _ (by simp only [hl1];omega) (by simp only;omega) ?_)
    simp only [hl1,hmc,hec]
    refine (Le_swb _ 95 740 (by decide) (by decide)).trans ?_
    simp only [St.swb,swbσ,swbm,AV.swb,AV.swbAll,swp,jN_swb,row_swb,Nat.reduceEqDiff,if_true,if_false,reduceIte]
    exact Le_wk (by first | omega | (dsimp only;omega) | (simp only;omega) | (simp;omega)) (by simp only [go_sem,seval]) (by simp only [go_sem,seval])
  ·simp only [decide_eq_false_iff_not] at hc38
   have hq:q.length=4:=by omega
   refine Aw_exit (hX11 _ _ (hX10 _ _ (hE9 _ (hB8 _ ?_))))
   refine Aw_tx hE [0,3,4,10,11] [72,79,95,99,700,701,710,711,712,713,714,720,721,722,723,724,740] fun K hK=>?_
   simp only [go_sem,seval,hq]
   refine ⟨fun h=>?_,fun h cap' hcap'=>?_⟩
   ·obtain ⟨c1,rfl⟩:∃ c1,c'=c1 + 1:=⟨c' - 1,by omega⟩
    simp only [jN_s,List.set_cons_zero]
    refine hK _ (hN7 _ (hB6 _ ?_))
    refine Aw_tx hE [0,3,4,10,11] [72,79,95,99,700,701,710,711,712,713,714,720,721,722,723,724,740] fun K hK=>?_
    simp only [go_sem,seval]
    repeat refine ⟨by first|omega|(and_intros<;>first|omega|exact rows_row _|exact wrows_row _|decide|(simp<;>omega))|fail,?_⟩
    refine hK _ (hN4 (2,c1,put d' 1 e,put r' 1 q) _ ⟨by omega,put_len hr' hq⟩ (by simp only;omega) ?_)
    refine (Le_swb _ 740 721 (by decide) (by decide)).trans ?_
    simp only [St.swb,swbσ,swbm,AV.swb,AV.swbAll,swp,jN_swb,row_swb,Nat.reduceEqDiff,if_true,if_false,reduceIte]
    exact Le_wk (by first | omega | (dsimp only;omega) | (simp only;omega) | (simp;omega)) (by simp only [go_sem,seval,put,Nat.add_assoc]) (by simp only [go_sem,seval,put])
   ·obtain ⟨c1,rfl⟩:∃ c1,cap'=c1 + 2:=⟨cap' - 2,by omega⟩
    rw [Nat.add_sub_cancel]
    refine hK _ (hN7 _ (hB6 _ ?_))
    refine Aw_tx hE [0,3,4,10,11] [72,79,95,99,700,701,710,711,712,713,714,720,721,722,723,724,740] fun K hK=>?_
    simp only [go_sem,seval]
    repeat refine ⟨by first|omega|(and_intros<;>first|omega|exact rows_row _|exact wrows_row _|decide|(simp<;>omega))|fail,?_⟩
    refine hK _ (hN4 (2,c1,put d' 1 e,put r' 1 q) _ ⟨by omega,put_len hr' hq⟩ (by simp only;omega) ?_)
    refine (Le_swb _ 740 721 (by decide) (by decide)).trans ?_
    simp only [St.swb,swbσ,swbm,AV.swb,AV.swbAll,swp,jN_swb,row_swb,Nat.reduceEqDiff,if_true,if_false,reduceIte]
    refine (Le_swb _ 99 701 (by decide) (by decide)).trans ?_
    simp only [St.swb,swbσ,swbm,AV.swb,AV.swbAll,swp,jN_swb,row_swb,Nat.reduceEqDiff,if_true,if_false,reduceIte]
    exact Le_wk (by first | omega | (dsimp only;omega) | (simp only;omega) | (simp;omega)) (by simp only [go_sem,seval,put,Nat.add_assoc]) (by simp only [go_sem,seval,put])
 ·refine Aw_st hE [0,3,4,10,11,76] [72,79,95,99,700,701,710,711,712,713,714,720,721,722,723,724,740] fun K hK=>?_
  simp only [go_sem,seval]
  refine hK _ (Aw_yes rfl (Aw_skip (hB5 _ ?_)))
  refine Aw_sq fun B6 hB6 hR6 hX6=>?_
  refine Aw_bk fun B7 hN7 hE7 hR7 hX7=>?_
  refine Aw_st hE [0,3,4,10,11,12] [72,79,95,99,700,701,710,711,712,713,714,720,721,722,723,724,740] fun K hK=>?_
  simp only [go_sem,seval]
  refine hK _ ?_;clear hK K
  refine Aw_sq fun B8 hB8 hR8 hX8=>?_
  refine Aw_st hE [0,3,4,10,11,12,13] [72,79,95,99,700,701,710,711,712,713,714,720,721,722,723,724,740] fun K hK=>?_
  simp only [go_sem,seval]
  refine hK _ ?_;clear hK K
  refine Aw_bk fun B9 hN9 hE9 hR9 hX9=>?_
  refine Aw_lp (fun j:Nat × Nat × List Int=>⟨111,[(0,.rd),(3,iv 4),(4,.xs 700 0 4 (c + 4) 1),(10,.xs 701 0 2 (c' + 2) 1),(11,iv 1),(12,.xs 740 0 j.2.2.length (j.2.1 + j.2.2.length) 1),(13,iv ((j.1:Int) - 1))],(740,cI j.2.2++jN j.2.1)::(700,vws 4 d 710 4++jN c)::(701,vws 4 d' 720 2++jN c')::(bxs 4 d r 710 4++bxs 4 d' r' 720 2),rn + 1⟩) (fun j=>j.2.2.length + j.1=4) (fun j=>j.1) (4,0,[]) ?_ (by simp) fun j hj B10 hN10 hR10 hX10=>?_
  ·refine (Le_swb _ 79 740 (by decide) (by decide)).trans ?_
   simp only [St.swb,swbσ,swbm,AV.swb,AV.swbAll,swp,jN_swb,row_swb,Nat.reduceEqDiff,if_true,if_false,reduceIte]
   exact Le_wk (by first | omega | (dsimp only;omega) | (simp only;omega) | (simp;omega)) (by simp only [go_sem,seval]) (by simp only [go_sem,seval])
  obtain ⟨m,e,q⟩:=j
  simp only at hj
  refine Aw_sq fun B11 hB11 hR11 hX11=>?_
  refine Aw_st hE [0,3,4,10,11,12,13,83] [72,79,95,99,700,701,710,711,712,713,714,720,721,722,723,724,740] fun K hK=>?_
  simp only [go_sem,seval]
  refine hK _ (Aw_cond rfl (fun hc38=>?_) (fun hc38=>?_))
  ·simp only [decide_eq_true_eq] at hc38
   have hg:=rowI_drop (r 1) (d 1) ((m:Int) - 1).toNat (by omega)
   refine Aw_skip (hB11 _ ?_)
   refine Aw_sq fun B12 hB12 hR12 hX12=>?_
   refine Aw_bk fun B13 hN13 hE13 hR13 hX13=>?_
   refine Aw_tx hE [0,3,4,10,11,12,13] [72,79,95,99,700,701,710,711,712,713,714,720,721,722,723,724,740] fun K hK=>?_
   simp only [go_sem,seval,hg]
   refine ⟨⟨by omega,by omega⟩,⟨by omega,by omega⟩,fun h=>?_,fun h cap' hcap'=>?_⟩
   ·obtain ⟨e',rfl⟩:∃ e',e=e' + 1:=⟨e - 1,by omega⟩
    rw [row_put]
    refine hK _ (hN13 _ (hB12 _ ?_))
    refine Aw_tx hE [0,3,4,10,11,12,13] [72,79,95,99,700,701,710,711,712,713,714,720,721,722,723,724,740] fun K hK=>?_
    simp only [go_sem,seval]
    repeat refine ⟨by first|omega|(and_intros<;>first|omega|exact rows_row _|exact wrows_row _|decide|(simp<;>omega))|fail,?_⟩
    have hl1:(q++[(r 1).getD ((m:Int) - 1).toNat 0]).length=q.length + 1:=by simp
    have hmc:((m - 1:Nat):Int)=(m:Int) - 1:=by omega
    have hec:e' + 1 + q.length=e' + (q.length + 1):=by omega
    refine hK _ (hN10 (m - 1,e',q++[(r 1).getD ((m:Int) - 1).toNat 0]) _ (by simp only [hl1];omega) (by simp only;omega) ?_)
    simp only [hl1,hmc,hec]
    exact Le_wk (by first | omega | (dsimp only;omega) | (simp only;omega) | (simp;omega)) (by simp only [go_sem,seval]) (by simp only [go_sem,seval])
   ·obtain ⟨e',rfl⟩:∃ e',cap'=e' + (q.length + 1):=⟨cap' - (q.length + 1),by omega⟩
    rw [Nat.add_sub_cancel,List.append_assoc,List.singleton_append,row_snoc]
    refine hK _ (hN13 _ (hB12 _ ?_))
    refine Aw_tx hE [0,3,4,10,11,12,13] [72,79,95,99,700,701,710,711,712,713,714,720,721,722,723,724,740] fun K hK=>?_
    simp only [go_sem,seval]
    repeat refine ⟨by first|omega|(and_intros<;>first|omega|exact rows_row _|exact wrows_row _|decide|(simp<;>omega))|fail,?_⟩
    have hl1:(q++[(r 1).getD ((m:Int) - 1).toNat 0]).length=q.length + 1:=by simp
    have hmc:((m - 1:Nat):Int)=(m:Int) - 1:=by omega
    have hec:e' + 1 + q.length=e' + (q.length + 1):=by omega
    refine hK _ (hN10 (m - 1,e',q++[(r 1).getD ((m:Int) - 1).toNat 0]) _ (by simp only [hl1];omega) (by simp only;omega) ?_)
    simp only [hl1,hmc,hec]
    refine (Le_swb _ 95 740 (by decide) (by decide)).trans ?_
    simp only [St.swb,swbσ,swbm,AV.swb,AV.swbAll,swp,jN_swb,row_swb,Nat.reduceEqDiff,if_true,if_false,reduceIte]
    exact Le_wk (by first | omega | (dsimp only;omega) | (simp only;omega) | (simp;omega)) (by simp only [go_sem,seval]) (by simp only [go_sem,seval])
  ·simp only [decide_eq_false_iff_not] at hc38
   have hq:q.length=4:=by omega
   refine Aw_exit (hX11 _ _ (hX10 _ _ (hE9 _ (hB8 _ ?_))))
   refine Aw_tx hE [0,3,4,10,11] [72,79,95,99,700,701,710,711,712,713,714,720,721,722,723,724,740] fun K hK=>?_
   simp only [go_sem,seval,hq]
   refine ⟨fun h=>?_,fun h cap' hcap'=>?_⟩
   ·obtain ⟨c1,rfl⟩:∃ c1,c'=c1 + 1:=⟨c' - 1,by omega⟩
    simp only [jN_s,List.set_cons_zero]
    refine hK _ (hN7 _ (hB6 _ ?_))
    refine Aw_tx hE [0,3,4,10,11] [72,79,95,99,700,701,710,711,712,713,714,720,721,722,723,724,740] fun K hK=>?_
    simp only [go_sem,seval]
    repeat refine ⟨by first|omega|(and_intros<;>first|omega|exact rows_row _|exact wrows_row _|decide|(simp<;>omega))|fail,?_⟩
    refine hK _ (hN4 (3,c1,put d' 2 e,put r' 2 q) _ ⟨by omega,put_len hr' hq⟩ (by simp only;omega) ?_)
    refine (Le_swb _ 740 722 (by decide) (by decide)).trans ?_
    simp only [St.swb,swbσ,swbm,AV.swb,AV.swbAll,swp,jN_swb,row_swb,Nat.reduceEqDiff,if_true,if_false,reduceIte]
    exact Le_wk (by first | omega | (dsimp only;omega) | (simp only;omega) | (simp;omega)) (by simp only [go_sem,seval,put,Nat.add_assoc]) (by simp only [go_sem,seval,put])
   ·obtain ⟨c1,rfl⟩:∃ c1,cap'=c1 + 3:=⟨cap' - 3,by omega⟩
    rw [Nat.add_sub_cancel]
    refine hK _ (hN7 _ (hB6 _ ?_))
    refine Aw_tx hE [0,3,4,10,11] [72,79,95,99,700,701,710,711,712,713,714,720,721,722,723,724,740] fun K hK=>?_
    simp only [go_sem,seval]
    repeat refine ⟨by first|omega|(and_intros<;>first|omega|exact rows_row _|exact wrows_row _|decide|(simp<;>omega))|fail,?_⟩
    refine hK _ (hN4 (3,c1,put d' 2 e,put r' 2 q) _ ⟨by omega,put_len hr' hq⟩ (by simp only;omega) ?_)
    refine (Le_swb _ 740 722 (by decide) (by decide)).trans ?_
    simp only [St.swb,swbσ,swbm,AV.swb,AV.swbAll,swp,jN_swb,row_swb,Nat.reduceEqDiff,if_true,if_false,reduceIte]
    refine (Le_swb _ 99 701 (by decide) (by decide)).trans ?_
    simp only [St.swb,swbσ,swbm,AV.swb,AV.swbAll,swp,jN_swb,row_swb,Nat.reduceEqDiff,if_true,if_false,reduceIte]
    exact Le_wk (by first | omega | (dsimp only;omega) | (simp only;omega) | (simp;omega)) (by simp only [go_sem,seval,put,Nat.add_assoc]) (by simp only [go_sem,seval,put])
 ·refine Aw_st hE [0,3,4,10,11,76] [72,79,95,99,700,701,710,711,712,713,714,720,721,722,723,724,740] fun K hK=>?_
  simp only [go_sem,seval]
  refine hK _ (Aw_yes rfl (Aw_skip (hB5 _ ?_)))
  refine Aw_sq fun B6 hB6 hR6 hX6=>?_
  refine Aw_bk fun B7 hN7 hE7 hR7 hX7=>?_
  refine Aw_st hE [0,3,4,10,11,12] [72,79,95,99,700,701,710,711,712,713,714,720,721,722,723,724,740] fun K hK=>?_
  simp only [go_sem,seval]
  refine hK _ ?_;clear hK K
  refine Aw_sq fun B8 hB8 hR8 hX8=>?_
  refine Aw_st hE [0,3,4,10,11,12,13] [72,79,95,99,700,701,710,711,712,713,714,720,721,722,723,724,740] fun K hK=>?_
  simp only [go_sem,seval]
  refine hK _ ?_;clear hK K
  refine Aw_bk fun B9 hN9 hE9 hR9 hX9=>?_
  refine Aw_lp (fun j:Nat × Nat × List Int=>⟨111,[(0,.rd),(3,iv 4),(4,.xs 700 0 4 (c + 4) 1),(10,.xs 701 0 3 (c' + 3) 1),(11,iv 0),(12,.xs 740 0 j.2.2.length (j.2.1 + j.2.2.length) 1),(13,iv ((j.1:Int) - 1))],(740,cI j.2.2++jN j.2.1)::(700,vws 4 d 710 4++jN c)::(701,vws 4 d' 720 3++jN c')::(bxs 4 d r 710 4++bxs 4 d' r' 720 3),rn + 1⟩) (fun j=>j.2.2.length + j.1=4) (fun j=>j.1) (4,0,[]) ?_ (by simp) fun j hj B10 hN10 hR10 hX10=>?_
  ·refine (Le_swb _ 79 740 (by decide) (by decide)).trans ?_
   simp only [St.swb,swbσ,swbm,AV.swb,AV.swbAll,swp,jN_swb,row_swb,Nat.reduceEqDiff,if_true,if_false,reduceIte]
   exact Le_wk (by first | omega | (dsimp only;omega) | (simp only;omega) | (simp;omega)) (by simp only [go_sem,seval]) (by simp only [go_sem,seval])
  obtain ⟨m,e,q⟩:=j
  simp only at hj
  refine Aw_sq fun B11 hB11 hR11 hX11=>?_
  refine Aw_st hE [0,3,4,10,11,12,13,83] [72,79,95,99,700,701,710,711,712,713,714,720,721,722,723,724,740] fun K hK=>?_
  simp only [go_sem,seval]
  refine hK _ (Aw_cond rfl (fun hc38=>?_) (fun hc38=>?_))
  ·simp only [decide_eq_true_eq] at hc38
   have hg:=rowI_drop (r 0) (d 0) ((m:Int) - 1).toNat (by omega)
   refine Aw_skip (hB11 _ ?_)
   refine Aw_sq fun B12 hB12 hR12 hX12=>?_
   refine Aw_bk fun B13 hN13 hE13 hR13 hX13=>?_
   refine Aw_tx hE [0,3,4,10,11,12,13] [72,79,95,99,700,701,710,711,712,713,714,720,721,722,723,724,740] fun K hK=>?_
   simp only [go_sem,seval,hg]
   refine ⟨⟨by omega,by omega⟩,⟨by omega,by omega⟩,fun h=>?_,fun h cap' hcap'=>?_⟩
   ·obtain ⟨e',rfl⟩:∃ e',e=e' + 1:=⟨e - 1,by omega⟩
    rw [row_put]
    refine hK _ (hN13 _ (hB12 _ ?_))
    refine Aw_tx hE [0,3,4,10,11,12,13] [72,79,95,99,700,701,710,711,712,713,714,720,721,722,723,724,740] fun K hK=>?_
    simp only [go_sem,seval]
    repeat refine ⟨by first|omega|(and_intros<;>first|omega|exact rows_row _|exact wrows_row _|decide|(simp<;>omega))|fail,?_⟩
    have hl1:(q++[(r 0).getD ((m:Int) - 1).toNat 0]).length=q.length + 1:=by simp
    have hmc:((m - 1:Nat):Int)=(m:Int) - 1:=by omega
    have hec:e' + 1 + q.length=e' + (q.length + 1):=by omega
    refine hK _ (hN10 (m - 1,e',q++[(r 0).getD ((m:Int) - 1).toNat 0]) _ (by simp only [hl1];omega) (by simp only;omega) ?_)
    simp only [hl1,hmc,hec]
    exact Le_wk (by first | omega | (dsimp only;omega) | (simp only;omega) | (simp;omega)) (by simp only [go_sem,seval]) (by simp only [go_sem,seval])
   ·obtain ⟨e',rfl⟩:∃ e',cap'=e' + (q.length + 1):=⟨cap' - (q.length + 1),by omega⟩
    rw [Nat.add_sub_cancel,List.append_assoc,List.singleton_append,row_snoc]
    refine hK _ (hN13 _ (hB12 _ ?_))
    refine Aw_tx hE [0,3,4,10,11,12,13] [72,79,95,99,700,701,710,711,712,713,714,720,721,722,723,724,740] fun K hK=>?_
    simp only [go_sem,seval]
    repeat refine ⟨by first|omega|(and_intros<;>first|omega|exact rows_row _|exact wrows_row _|decide|(simp<;>omega))|fail,?_⟩
    have hl1:(q++[(r 0).getD ((m:Int) - 1).toNat 0]).length=q.length + 1:=by simp
    have hmc:((m - 1:Nat):Int)=(m:Int) - 1:=by omega
    have hec:e' + 1 + q.length=e' + (q.length + 1):=by omega
    refine hK _ (hN10 (m - 1,e',q++[(r 0).getD ((m:Int) - 1).toNat 0]) _ (by simp only [hl1];omega) (by simp only;omega) ?_)
    simp only [hl1,hmc,hec]
    refine (Le_swb _ 95 740 (by decide) (by decide)).trans ?_
    simp only [St.swb,swbσ,swbm,AV.swb,AV.swbAll,swp,jN_swb,row_swb,Nat.reduceEqDiff,if_true,if_false,reduceIte]
    exact Le_wk (by first | omega | (dsimp only;omega) | (simp only;omega) | (simp;omega)) (by simp only [go_sem,seval]) (by simp only [go_sem,seval])
  ·simp only [decide_eq_false_iff_not] at hc38
   have hq:q.length=4:=by omega
   refine Aw_exit (hX11 _ _ (hX10 _ _ (hE9 _ (hB8 _ ?_))))
   refine Aw_tx hE [0,3,4,10,11] [72,79,95,99,700,701,710,711,712,713,714,720,721,722,723,724,740] fun K hK=>?_
   simp only [go_sem,seval,hq]
   refine ⟨fun h=>?_,fun h cap' hcap'=>?_⟩
   ·obtain ⟨c1,rfl⟩:∃ c1,c'=c1 + 1:=⟨c' - 1,by omega⟩
    simp only [jN_s,List.set_cons_zero]
    refine hK _ (hN7 _ (hB6 _ ?_))
    refine Aw_tx hE [0,3,4,10,11] [72,79,95,99,700,701,710,711,712,713,714,720,721,722,723,724,740] fun K hK=>?_
    simp only [go_sem,seval]
    repeat refine ⟨by first|omega|(and_intros<;>first|omega|exact rows_row _|exact wrows_row _|decide|(simp<;>omega))|fail,?_⟩
    refine hK _ (hN4 (4,c1,put d' 3 e,put r' 3 q) _ ⟨by omega,put_len hr' hq⟩ (by simp only;omega) ?_)
    refine (Le_swb _ 740 723 (by decide) (by decide)).trans ?_
    simp only [St.swb,swbσ,swbm,AV.swb,AV.swbAll,swp,jN_swb,row_swb,Nat.reduceEqDiff,if_true,if_false,reduceIte]
    exact Le_wk (by first | omega | (dsimp only;omega) | (simp only;omega) | (simp;omega)) (by simp only [go_sem,seval,put,Nat.add_assoc]) (by simp only [go_sem,seval,put])
   ·obtain ⟨c1,rfl⟩:∃ c1,cap'=c1 + 4:=⟨cap' - 4,by omega⟩
    rw [Nat.add_sub_cancel]
    refine hK _ (hN7 _ (hB6 _ ?_))
    refine Aw_tx hE [0,3,4,10,11] [72,79,95,99,700,701,710,711,712,713,714,720,721,722,723,724,740] fun K hK=>?_
    simp only [go_sem,seval]
    repeat refine ⟨by first|omega|(and_intros<;>first|omega|exact rows_row _|exact wrows_row _|decide|(simp<;>omega))|fail,?_⟩
    refine hK _ (hN4 (4,c1,put d' 3 e,put r' 3 q) _ ⟨by omega,put_len hr' hq⟩ (by simp only;omega) ?_)
    refine (Le_swb _ 740 723 (by decide) (by decide)).trans ?_
    simp only [St.swb,swbσ,swbm,AV.swb,AV.swbAll,swp,jN_swb,row_swb,Nat.reduceEqDiff,if_true,if_false,reduceIte]
    refine (Le_swb _ 99 701 (by decide) (by decide)).trans ?_
    simp only [St.swb,swbσ,swbm,AV.swb,AV.swbAll,swp,jN_swb,row_swb,Nat.reduceEqDiff,if_true,if_false,reduceIte]
    exact Le_wk (by first | omega | (dsimp only;omega) | (simp only;omega) | (simp;omega)) (by simp only [go_sem,seval,put,Nat.add_assoc]) (by simp only [go_sem,seval,put])
set_option maxHeartbeats 16000000 in
theorem relsR5 {E:En} (hE:TbOk E tbRels) {k:Nat} (hk:k + 40≤1099511627776) {Q:Exit→St→Prop} (hQ:∀ (L:List (List Int)) (rn:Nat),(2≤L.length∧L.length≤5)→(∀ w ∈ L,w.length=L.length)→rn≤k + 40→Aw E .ret ⟨111,[(2,wsl L)],[],rn⟩ Q) {r:Nat→List Int} (hr:∀ q,(r q).length=5) {d:Nat→Nat} {c rn:Nat} (hrn:rn≤k + 29):Aw E (seqB (seqB (seqB (seqB (seqB (seqB (Tryd.f30.body.getD .skip))))))) ⟨111,[(0,.rd),(3,iv 5),(4,.xs 700 0 5 (c + 5) 1)],(700,vws 5 d 710 5++jN c)::bxs 5 d r 710 5,rn⟩ Q:=by
 have hr0:=hr 0
 have hr1:=hr 1
 have hr2:=hr 2
 have hr3:=hr 3
 have hr4:=hr 4
 refine Aw_sqJ (fun i:(Nat→Nat) × (Nat→List Int) × Nat × Nat=>⟨111,[(0,.rd),(4,.xs 700 0 5 (i.2.2.1 + 5) 1)],(700,vws 5 i.1 710 5++jN i.2.2.1)::bxs 5 i.1 i.2.1 710 5,i.2.2.2⟩) (fun i=>(∀ x,(i.2.1 x).length=5)∧i.2.2.2≤k + 30) (fun i hi=>relsT5 hE hk hQ hi.1 hi.2) fun B1 hB1 hR1 hX1=>?_
 refine Aw_st hE [0,3,4,71] [72,79,95,99,700,701,710,711,712,713,714,720,721,722,723,724,740] fun K hK=>?_
 simp only [go_sem,seval]
 refine ⟨by omega,fun x hx1 hx2=>?_⟩
 refine hK _ (Aw_cond rfl (fun hc=>?_) (fun hc=>?_))
 rotate_left
 ·exact Aw_skip (hB1 (d,r,c,rn + 1) _ ⟨hr,by simp only;omega⟩ (LeE_of (Le_wk (by first | omega | (dsimp only;omega) | (simp only;omega) | (simp;omega)) (by simp only [go_sem,seval]) (by simp only [go_sem,seval]))))
 refine Aw_st hE [0,3,4,10] [72,79,95,99,700,701,710,711,712,713,714,720,721,722,723,724,740] fun K hK=>?_
 simp only [go_sem,seval]
 refine hK _ ?_;clear hK K
 refine Aw_sq fun B2 hB2 hR2 hX2=>?_
 refine Aw_st hE [0,3,4,10,11] [72,79,95,99,700,701,710,711,712,713,714,720,721,722,723,724,740] fun K hK=>?_
 simp only [go_sem,seval]
 refine hK _ ?_;clear hK K
 refine Aw_bk fun B3 hN3 hE3 hR3 hX3=>?_
 refine Aw_lp (fun i:Nat × Nat × (Nat→Nat) × (Nat→List Int)=>⟨111,[(0,.rd),(3,iv 5),(4,.xs 700 0 5 (c + 5) 1),(10,.xs 701 0 i.1 (i.2.1 + i.1) 1),(11,iv ((5:Int) - 1 - (i.1:Int)))],(700,vws 5 d 710 5++jN c)::(701,vws 5 i.2.2.1 720 i.1++jN i.2.1)::(bxs 5 d r 710 5++bxs 5 i.2.2.1 i.2.2.2 720 i.1),rn + 1⟩) (fun i=>i.1≤5∧∀ x,(i.2.2.2 x).length=5) (fun i=>5 - i.1) (0,0,d,r) ?_ ⟨by omega,hr⟩ fun i hi B4 hN4 hR4 hX4=>?_
 ·refine (Le_swb _ 72 701 (by decide) (by decide)).trans ?_
  simp only [St.swb,swbσ,swbm,AV.swb,AV.swbAll,swp,jN_swb,row_swb,Nat.reduceEqDiff,if_true,if_false,reduceIte]
  exact Le_wk (by first | omega | (dsimp only;omega) | (simp only;omega) | (simp;omega)) (by simp only [go_sem,seval]) (by simp only [go_sem,seval])
 obtain ⟨i,c',d',r'⟩:=i
 obtain ⟨hi,hr'⟩:=hi
 simp only at hi hr'
 refine Aw_sq fun B5 hB5 hR5 hX5=>?_
 rcases (show i=5∨i=0∨i=1∨i=2∨i=3∨i=4 by omega) with rfl | rfl | rfl | rfl | rfl | rfl
 ·refine Aw_st hE [0,3,4,10,11,76] [72,79,95,99,700,701,710,711,712,713,714,720,721,722,723,724,740] fun K hK=>?_
  simp only [go_sem,seval]
  refine hK _ (Aw_no rfl (Aw_exit (hX5 _ _ (hX4 _ _ (hE3 _ (hB2 _ ?_))))))
  refine Aw_tx hE [0,4] [72,79,95,99,700,701,710,711,712,713,714,720,721,722,723,724,740] fun K hK=>?_
  simp only [go_sem,seval]
  refine hK _ (hB1 (d',r',c',rn + 1) _ ⟨hr',by simp only;omega⟩ (LeE_of ?_))
  refine (Le_swb _ 701 700 (by decide) (by decide)).trans ((Le_swb _ 720 710 (by decide) (by decide)).trans ((Le_swb _ 721 711 (by decide) (by decide)).trans ((Le_swb _ 722 712 (by decide) (by decide)).trans ((Le_swb _ 723 713 (by decide) (by decide)).trans ((Le_swb _ 724 714 (by decide) (by decide)).trans ?_)))))
  simp only [St.swb,swbσ,swbm,AV.swb,AV.swbAll,swp,jN_swb,row_swb,Nat.reduceEqDiff,if_true,if_false,reduceIte]
  exact Le_wk (by first | omega | (dsimp only;omega) | (simp only;omega) | (simp;omega)) (by simp only [go_sem,seval]) (by simp only [go_sem,seval])
 ·refine Aw_st hE [0,3,4,10,11,76] [72,79,95,99,700,701,710,711,712,713,714,720,721,722,723,724,740] fun K hK=>?_
  simp only [go_sem,seval]
  refine hK _ (Aw_yes rfl (Aw_skip (hB5 _ ?_)))
  refine Aw_sq fun B6 hB6 hR6 hX6=>?_
  refine Aw_bk fun B7 hN7 hE7 hR7 hX7=>?_
  refine Aw_st hE [0,3,4,10,11,12] [72,79,95,99,700,701,710,711,712,713,714,720,721,722,723,724,740] fun K hK=>?_
  simp only [go_sem,seval]
  refine hK _ ?_;clear hK K
  refine Aw_sq fun B8 hB8 hR8 hX8=>?_
  refine Aw_st hE [0,3,4,10,11,12,13] [72,79,95,99,700,701,710,711,712,713,714,720,721,722,723,724,740] fun K hK=>?_
  simp only [go_sem,seval]
  refine hK _ ?_;clear hK K
  refine Aw_bk fun B9 hN9 hE9 hR9 hX9=>?_
  refine Aw_lp (fun j:Nat × Nat × List Int=>⟨111,[(0,.rd),(3,iv 5),(4,.xs 700 0 5 (c + 5) 1),(10,.xs 701 0 0 (c' + 0) 1),(11,iv 4),(12,.xs 740 0 j.2.2.length (j.2.1 + j.2.2.length) 1),(13,iv ((j.1:Int) - 1))],(740,cI j.2.2++jN j.2.1)::(700,vws 5 d 710 5++jN c)::(701,vws 5 d' 720 0++jN c')::(bxs 5 d r 710 5++bxs 5 d' r' 720 0),rn + 1⟩) (fun j=>j.2.2.length + j.1=5) (fun j=>j.1) (5,0,[]) ?_ (by simp) fun j hj B10 hN10 hR10 hX10=>?_
  ·refine (Le_swb _ 79 740 (by decide) (by decide)).trans ?_
   simp only [St.swb,swbσ,swbm,AV.swb,AV.swbAll,swp,jN_swb,row_swb,Nat.reduceEqDiff,if_true,if_false,reduceIte]
   exact Le_wk (by first | omega | (dsimp only;omega) | (simp only;omega) | (simp;omega)) (by simp only [go_sem,seval]) (by simp only [go_sem,seval])
  obtain ⟨m,e,q⟩:=j
  simp only at hj
  refine Aw_sq fun B11 hB11 hR11 hX11=>?_
  refine Aw_st hE [0,3,4,10,11,12,13,83] [72,79,95,99,700,701,710,711,712,713,714,720,721,722,723,724,740] fun K hK=>?_
  simp only [go_sem,seval]
  refine hK _ (Aw_cond rfl (fun hc38=>?_) (fun hc38=>?_))
  ·simp only [decide_eq_true_eq] at hc38
   have hg:=rowI_drop (r 4) (d 4) ((m:Int) - 1).toNat (by omega)
   refine Aw_skip (hB11 _ ?_)
   refine Aw_sq fun B12 hB12 hR12 hX12=>?_
   refine Aw_bk fun B13 hN13 hE13 hR13 hX13=>?_
   refine Aw_tx hE [0,3,4,10,11,12,13] [72,79,95,99,700,701,710,711,712,713,714,720,721,722,723,724,740] fun K hK=>?_
   simp only [go_sem,seval,hg]
   refine ⟨⟨by omega,by omega⟩,⟨by omega,by omega⟩,fun h=>?_,fun h cap' hcap'=>?_⟩
   ·obtain ⟨e',rfl⟩:∃ e',e=e' + 1:=⟨e - 1,by omega⟩
    rw [row_put]
    refine hK _ (hN13 _ (hB12 _ ?_))
    refine Aw_tx hE [0,3,4,10,11,12,13] [72,79,95,99,700,701,710,711,712,713,714,720,721,722,723,724,740] fun K hK=>?_
    simp only [go_sem,seval]
    repeat refine ⟨by first|omega|(and_intros<;>first|omega|exact rows_row _|exact wrows_row _|decide|(simp<;>omega))|fail,?_⟩
    have hl1:(q++[(r 4).getD ((m:Int) - 1).toNat 0]).length=q.length + 1:=by simp
    have hmc:((m - 1:Nat):Int)=(m:Int) - 1:=by omega
    have hec:e' + 1 + q.length=e' + (q.length + 1):=by omega
    refine hK _ (hN10 (m - 1,e',q++[(r 4).getD ((m:Int) - 1).toNat 0]) _ (by simp only [hl1];omega) (by simp only;omega) ?_)
    simp only [hl1,hmc,hec]
    exact Le_wk (by first | omega | (dsimp only;omega) | (simp only;omega) | (simp;omega)) (by simp only [go_sem,seval]) (by simp only [go_sem,seval])
   ·obtain ⟨e',rfl⟩:∃ e',cap'=e' + (q.length + 1):=⟨cap' - (q.length + 1),by omega⟩
    rw [Nat.add_sub_cancel,List.append_assoc,List.singleton_append,row_snoc]
    refine hK _ (hN13 _ (hB12 _ ?_))
    refine Aw_tx hE [0,3,4,10,11,12,13] [72,79,95,99,700,701,710,711,712,713,714,720,721,722,723,724,740] fun K hK=>?_
    simp only [go_sem,seval]
    repeat refine ⟨by first|omega|(and_intros<;>first|omega|exact rows_row _|exact wrows_row _|decide|(simp<;>omega))|fail,?_⟩
    have hl1:(q++[(r 4).getD ((m:Int) - 1).toNat 0]).length=q.length + 1:=by simp
    have hmc:((m - 1:Nat):Int)=(m:Int) - 1:=by omega
    have hec:e' + 1 + q.length=e' + (q.length + 1):=by omega
    refine hK _ (hN10 (m - 1,e',q++[(r 4).getD ((m:Int) - 1).toNat 0]) _ (by simp only [hl1];omega) (by simp only;omega) ?_)
    simp only [hl1,hmc,hec]
    refine (Le_swb _ 95 740 (by decide) (by decide)).trans ?_
    simp only [St.swb,swbσ,swbm,AV.swb,AV.swbAll,swp,jN_swb,row_swb,Nat.reduceEqDiff,if_true,if_false,reduceIte]
    exact Le_wk (by first | omega | (dsimp only;omega) | (simp only;omega) | (simp;omega)) (by simp only [go_sem,seval]) (by simp only [go_sem,seval])
  ·simp only [decide_eq_false_iff_not] at hc38
   have hq:q.length=5:=by omega
   refine Aw_exit (hX11 _ _ (hX10 _ _ (hE9 _ (hB8 _ ?_))))
   refine Aw_tx hE [0,3,4,10,11] [72,79,95,99,700,701,710,711,712,713,714,720,721,722,723,724,740] fun K hK=>?_
   simp only [go_sem,seval,hq]
   refine ⟨fun h=>?_,fun h cap' hcap'=>?_⟩
   ·obtain ⟨c1,rfl⟩:∃ c1,c'=c1 + 1:=⟨c' - 1,by omega⟩
    simp only [jN_s,List.set_cons_zero]
    refine hK _ (hN7 _ (hB6 _ ?_))
    refine Aw_tx hE [0,3,4,10,11] [72,79,95,99,700,701,710,711,712,713,714,720,721,722,723,724,740] fun K hK=>?_
    simp only [go_sem,seval]
    repeat refine ⟨by first|omega|(and_intros<;>first|omega|exact rows_row _|exact wrows_row _|decide|(simp<;>omega))|fail,?_⟩
    refine hK _ (hN4 (1,c1,put d' 0 e,put r' 0 q) _ ⟨by omega,put_len hr' hq⟩ (by simp only;omega) ?_)
    refine (Le_swb _ 740 720 (by decide) (by decide)).trans ?_
    simp only [St.swb,swbσ,swbm,AV.swb,AV.swbAll,swp,jN_swb,row_swb,Nat.reduceEqDiff,if_true,if_false,reduceIte]
    exact Le_wk (by first | omega | (dsimp only;omega) | (simp only;omega) | (simp;omega)) (by simp only [go_sem,seval,put,Nat.add_assoc]) (by simp only [go_sem,seval,put])
   ·obtain ⟨c1,rfl⟩:∃ c1,cap'=c1 + 1:=⟨cap' - 1,by omega⟩
    rw [Nat.add_sub_cancel]
    refine hK _ (hN7 _ (hB6 _ ?_))
    refine Aw_tx hE [0,3,4,10,11] [72,79,95,99,700,701,710,711,712,713,714,720,721,722,723,724,740] fun K hK=>?_
    simp only [go_sem,seval]
    repeat refine ⟨by first|omega|(and_intros<;>first|omega|exact rows_row _|exact wrows_row _|decide|(simp<;>omega))|fail,?_⟩
    refine hK _ (hN4 (1,c1,put d' 0 e,put r' 0 q) _ ⟨by omega,put_len hr' hq⟩ (by simp only;omega) ?_)
    refine (Le_swb _ 740 720 (by decide) (by decide)).trans ?_
    simp only [St.swb,swbσ,swbm,AV.swb,AV.swbAll,swp,jN_swb,row_swb,Nat.reduceEqDiff,if_true,if_false,reduceIte]
    refine (Le_swb _ 99 701 (by decide) (by decide)).trans ?_
    simp only [St.swb,swbσ,swbm,AV.swb,AV.swbAll,swp,jN_swb,row_swb,Nat.reduceEqDiff,if_true,if_false,reduceIte]
    exact Le_wk (by first | omega | (dsimp only;omega) | (simp only;omega) | (simp;omega)) (by simp only [go_sem,seval,put,Nat.add_assoc]) (by simp only [go_sem,seval,put])
 ·refine Aw_st hE [0,3,4,10,11,76] [72,79,95,99,700,701,710,711,712,713,714,720,721,722,723,724,740] fun K hK=>?_
  simp only [go_sem,seval]
  refine hK _ (Aw_yes rfl (Aw_skip (hB5 _ ?_)))
  refine Aw_sq fun B6 hB6 hR6 hX6=>?_
  refine Aw_bk fun B7 hN7 hE7 hR7 hX7=>?_
  refine Aw_st hE [0,3,4,10,11,12] [72,79,95,99,700,701,710,711,712,713,714,720,721,722,723,724,740] fun K hK=>?_
  simp only [go_sem,seval]
  refine hK _ ?_;clear hK K
  refine Aw_sq fun B8 hB8 hR8 hX8=>?_
  refine Aw_st hE [0,3,4,10,11,12,13] [72,79,95,99,700,701,710,711,712,713,714,720,721,722,723,724,740] fun K hK=>?_
  simp only [go_sem,seval]
  refine hK _ ?_;clear hK K
  refine Aw_bk fun B9 hN9 hE9 hR9 hX9=>?_
  refine Aw_lp (fun j:Nat × Nat × List Int=>⟨111,[(0,.rd),(3,iv 5),(4,.xs 700 0 5 (c + 5) 1),(10,.xs 701 0 1 (c' + 1) 1),(11,iv 3),(12,.xs 740 0 j.2.2.length (j.2.1 + j.2.2.length) 1),(13,iv ((j.1:Int) - 1))],(740,cI j.2.2++jN j.2.1)::(700,vws 5 d 710 5++jN c)::(701,vws 5 d' 720 1++jN c')::(bxs 5 d r 710 5++bxs 5 d' r' 720 1),rn + 1⟩) (fun j=>j.2.2.length + j.1=5) (fun j=>j.1) (5,0,[]) ?_ (by simp) fun j hj B10 hN10 hR10 hX10=>?_
  ·refine (Le_swb _ 79 740 (by decide) (by decide)).trans ?_
   simp only [St.swb,swbσ,swbm,AV.swb,AV.swbAll,swp,jN_swb,row_swb,Nat.reduceEqDiff,if_true,if_false,reduceIte]
   exact Le_wk (by first | omega | (dsimp only;omega) | (simp only;omega) | (simp;omega)) (by simp only [go_sem,seval]) (by simp only [go_sem,seval])
  obtain ⟨m,e,q⟩:=j
  simp only at hj
  refine Aw_sq fun B11 hB11 hR11 hX11=>?_
  refine Aw_st hE [0,3,4,10,11,12,13,83] [72,79,95,99,700,701,710,711,712,713,714,720,721,722,723,724,740] fun K hK=>?_
  simp only [go_sem,seval]
  refine hK _ (Aw_cond rfl (fun hc38=>?_) (fun hc38=>?_))
  ·simp only [decide_eq_true_eq] at hc38
   have hg:=rowI_drop (r 3) (d 3) ((m:Int) - 1).toNat (by omega)
   refine Aw_skip (hB11 _ ?_)
   refine Aw_sq fun B12 hB12 hR12 hX12=>?_
   refine Aw_bk fun B13 hN13 hE13 hR13 hX13=>?_
   refine Aw_tx hE [0,3,4,10,11,12,13] [72,79,95,99,700,701,710,711,712,713,714,720,721,722,723,724,740] fun K hK=>?_
   simp only [go_sem,seval,hg]
   refine ⟨⟨by omega,by omega⟩,⟨by omega,by omega⟩,fun h=>?_,fun h cap' hcap'=>?_⟩
   ·obtain ⟨e',rfl⟩:∃ e',e=e' + 1:=⟨e - 1,by omega⟩
    rw [row_put]
    refine hK _ (hN13 _ (hB12 _ ?_))
    refine Aw_tx hE [0,3,4,10,11,12,13] [72,79,95,99,700,701,710,711,712,713,714,720,721,722,723,724,740] fun K hK=>?_
    simp only [go_sem,seval]
    repeat refine ⟨by first|omega|(and_intros<;>first|omega|exact rows_row _|exact wrows_row _|decide|(simp<;>omega))|fail,?_⟩
    have hl1:(q++[(r 3).getD ((m:Int) - 1).toNat 0]).length=q.length + 1:=by simp
    have hmc:((m - 1:Nat):Int)=(m:Int) - 1:=by omega
    have hec:e' + 1 + q.length=e' + (q.length + 1):=by omega
    refine hK _ (hN10 (m - 1,e',q++[(r 3).getD ((m:Int) - 1).toNat 0]) _ (by simp only [hl1];omega) (by simp only;omega) ?_)
    simp only [hl1,hmc,hec]
    exact Le_wk (by first | omega | (dsimp only;omega) | (simp only;omega) | (simp;omega)) (by simp only [go_sem,seval]) (by simp only [go_sem,seval])
   ·obtain ⟨e',rfl⟩:∃ e',cap'=e' + (q.length + 1):=⟨cap' - (q.length + 1),by omega⟩
    rw [Nat.add_sub_cancel,List.append_assoc,List.singleton_append,row_snoc]
    refine hK _ (hN13 _ (hB12 _ ?_))
    refine Aw_tx hE [0,3,4,10,11,12,13] [72,79,95,99,700,701,710,711,712,713,714,720,721,722,723,724,740] fun K hK=>?_
    simp only [go_sem,seval]
    repeat refine ⟨by first|omega|(and_intros<;>first|omega|exact rows_row _|exact wrows_row _|decide|(simp<;>omega))|fail,?_⟩
    have hl1:(q++[(r 3).getD ((m:Int) - 1).toNat 0]).length=q.length + 1:=by simp
    have hmc:((m - 1:Nat):Int)=(m:Int) - 1:=by omega
    have hec:e' + 1 + q.length=e' + (q.length + 1):=by omega
    refine hK _ (hN10 (m - 1,e',q++[(r 3).getD ((m:Int) - 1).toNat 0]) _ (by simp only [hl1];omega) (by simp only;omega) ?_)
    simp only [hl1,hmc,hec]
    refine (Le_swb _ 95 740 (by decide) (by decide)).trans ?_
    simp only [St.swb,swbσ,swbm,AV.swb,AV.swbAll,swp,jN_swb,row_swb,Nat.reduceEqDiff,if_true,if_false,reduceIte]
    exact Le_wk (by first | omega | (dsimp only;omega) | (simp only;omega) | (simp;omega)) (by simp only [go_sem,seval]) (by simp only [go_sem,seval])
  ·simp only [decide_eq_false_iff_not] at hc38
   have hq:q.length=5:=by omega
   refine Aw_exit (hX11 _ _ (hX10 _ _ (hE9 _ (hB8 _ ?_))))
   refine Aw_tx hE [0,3,4,10,11] [72,79,95,99,700,701,710,711,712,713,714,720,721,722,723,724,740] fun K hK=>?_
   simp only [go_sem,seval,hq]
   refine ⟨fun h=>?_,fun h cap' hcap'=>?_⟩
   ·obtain ⟨c1,rfl⟩:∃ c1,c'=c1 + 1:=⟨c' - 1,by omega⟩
    simp only [jN_s,List.set_cons_zero]
    refine hK _ (hN7 _ (hB6 _ ?_))
    refine Aw_tx hE [0,3,4,10,11] [72,79,95,99,700,701,710,711,712,713,714,720,721,722,723,724,740] fun K hK=>?_
    simp only [go_sem,seval]
    repeat refine ⟨by first|omega|(and_intros<;>first|omega|exact rows_row _|exact wrows_row _|decide|(simp<;>omega))|fail,?_⟩
    refine hK _ (hN4 (2,c1,put d' 1 e,put r' 1 q) _ ⟨by omega,put_len hr' hq⟩ (by simp only;omega) ?_)
    refine (Le_swb _ 740 721 (by decide) (by decide)).trans ?_
    simp only [St.swb,swbσ,swbm,AV.swb,AV.swbAll,swp,jN_swb,row_swb,Nat.reduceEqDiff,if_true,if_false,reduceIte]
    exact Le_wk (by first | omega | (dsimp only;omega) | (simp only;omega) | (simp;omega)) (by simp only [go_sem,seval,put,Nat.add_assoc]) (by simp only [go_sem,seval,put])
   ·obtain ⟨c1,rfl⟩:∃ c1,cap'=c1 + 2:=⟨cap' - 2,by omega⟩
    rw [Nat.add_sub_cancel]
    refine hK _ (hN7 _ (hB6 _ ?_))
    refine Aw_tx hE [0,3,4,10,11] [72,79,95,99,700,701,710,711,712,713,714,720,721,722,723,724,740] fun K hK=>?_
    simp only [go_sem,seval]
    repeat refine ⟨by first|omega|(and_intros<;>first|omega|exact rows_row _|exact wrows_row _|decide|(simp<;>omega))|fail,?_⟩
    refine hK _ (hN4 (2,c1,put d' 1 e,put r' 1 q) _ ⟨by omega,put_len hr' hq⟩ (by simp only;omega) ?_)
    refine (Le_swb _ 740 721 (by decide) (by decide)).trans ?_
    simp only [St.swb,swbσ,swbm,AV.swb,AV.swbAll,swp,jN_swb,row_swb,Nat.reduceEqDiff,if_true,if_false,reduceIte]
    refine (Le_swb _ 99 701 (by decide) (by decide)).trans ?_
    simp only [St.swb,swbσ,swbm,AV.swb,AV.swbAll,swp,jN_swb,row_swb,Nat.reduceEqDiff,if_true,if_false,reduceIte]
    exact Le_wk (by first | omega | (dsimp only;omega) | (simp only;omega) | (simp;omega)) (by simp only [go_sem,seval,put,Nat.add_assoc]) (by simp only [go_sem,seval,put])
 ·refine Aw_st hE [0,3,4,10,11,76] [72,79,95,99,700,701,710,711,712,713,714,720,721,722,723,724,740] fun K hK=>?_
  simp only [go_sem,seval]
  refine hK _ (Aw_yes rfl (Aw_skip (hB5 _ ?_)))
  refine Aw_sq fun B6 hB6 hR6 hX6=>?_
  refine Aw_bk fun B7 hN7 hE7 hR7 hX7=>?_
  refine Aw_st hE [0,3,4,10,11,12] [72,79,95,99,700,701,710,711,712,713,714,720,721,722,723,724,740] fun K hK=>?_
  simp only [go_sem,seval]
  refine hK _ ?_;clear hK K
  refine Aw_sq fun B8 hB8 hR8 hX8=>?_
  refine Aw_st hE [0,3,4,10,11,12,13] [72,79,95,99,700,701,710,711,712,713,714,720,721,722,723,724,740] fun K hK=>?_
  simp only [go_sem,seval]
  refine hK _ ?_;clear hK K
  refine Aw_bk fun B9 hN9 hE9 hR9 hX9=>?_
  refine Aw_lp (fun j:Nat × Nat × List Int=>⟨111,[(0,.rd),(3,iv 5),(4,.xs 700 0 5 (c + 5) 1),(10,.xs 701 0 2 (c' + 2) 1),(11,iv 2),(12,.xs 740 0 j.2.2.length (j.2.1 + j.2.2.length) 1),(13,iv ((j.1:Int) - 1))],(740,cI j.2.2++jN j.2.1)::(700,vws 5 d 710 5++jN c)::(701,vws 5 d' 720 2++jN c')::(bxs 5 d r 710 5++bxs 5 d' r' 720 2),rn + 1⟩) (fun j=>j.2.2.length + j.1=5) (fun j=>j.1) (5,0,[]) ?_ (by simp) fun j hj B10 hN10 hR10 hX10=>?_
  ·refine (Le_swb _ 79 740 (by decide) (by decide)).trans ?_
   simp only [St.swb,swbσ,swbm,AV.swb,AV.swbAll,swp,jN_swb,row_swb,Nat.reduceEqDiff,if_true,if_false,reduceIte]
   exact Le_wk (by first | omega | (dsimp only;omega) | (simp only;omega) | (simp;omega)) (by simp only [go_sem,seval]) (by simp only [go_sem,seval])
  obtain ⟨m,e,q⟩:=j
  simp only at hj
  refine Aw_sq fun B11 hB11 hR11 hX11=>?_
  refine Aw_st hE [0,3,4,10,11,12,13,83] [72,79,95,99,700,701,710,711,712,713,714,720,721,722,723,724,740] fun K hK=>?_
  simp only [go_sem,seval]
  refine hK _ (Aw_cond rfl (fun hc38=>?_) (fun hc38=>?_))
  ·simp only [decide_eq_true_eq] at hc38
   have hg:=rowI_drop (r 2) (d 2) ((m:Int) - 1).toNat (by omega)
   refine Aw_skip (hB11 _ ?_)
   refine Aw_sq fun B12 hB12 hR12 hX12=>?_
   refine Aw_bk fun B13 hN13 hE13 hR13 hX13=>?_
   refine Aw_tx hE [0,3,4,10,11,12,13] [72,79,95,99,700,701,710,711,712,713,714,720,721,722,723,724,740] fun K hK=>?_
   simp only [go_sem,seval,hg]
   refine ⟨⟨by omega,by omega⟩,⟨by omega,by omega⟩,fun h=>?_,fun h cap' hcap'=>?_⟩
   ·obtain ⟨e',rfl⟩:∃ e',e=e' + 1:=⟨e - 1,by omega⟩
    rw [row_put]
    refine hK _ (hN13 _ (hB12 _ ?_))
    refine Aw_tx hE [0,3,4,10,11,12,13] [72,79,95,99,700,701,710,711,712,713,714,720,721,722,723,724,740] fun K hK=>?_
    simp only [go_sem,seval]
    repeat refine ⟨by first|omega|(and_intros<;>first|omega|exact rows_row _|exact wrows_row _|decide|(simp<;>omega))|fail,?_⟩
    have hl1:(q++[(r 2).getD ((m:Int) - 1).toNat 0]).length=q.length + 1:=by simp
    have hmc:((m - 1:Nat):Int)=(m:Int) - 1:=by omega
    have hec:e' + 1 + q.length=e' + (q.length + 1):=by omega
    refine hK _ (hN10 (m - 1,e',q++[(r 2).getD ((m:Int) - 1).toNat 0]) _ (by simp only [hl1];omega) (by simp only;omega) ?_)
    simp only [hl1,hmc,hec]
    exact Le_wk (by first | omega | (dsimp only;omega) | (simp only;omega) | (simp;omega)) (by simp only [go_sem,seval]) (by simp only [go_sem,seval])
   ·obtain ⟨e',rfl⟩:∃ e',cap'=e' + (q.length + 1):=⟨cap' - (q.length + 1),by omega⟩
    rw [Nat.add_sub_cancel,List.append_assoc,List.singleton_append,row_snoc]
    refine hK _ (hN13 _ (hB12 _ ?_))
    refine Aw_tx hE [0,3,4,10,11,12,13] [72,79,95,99,700,701,710,711,712,713,714,720,721,722,723,724,740] fun K hK=>?_
    simp only [go_sem,seval]
    repeat refine ⟨by first|omega|(and_intros<;>first|omega|exact rows_row _|exact wrows_row _|decide|(simp<;>omega))|fail,?_⟩
    have hl1:(q++[(r 2).getD ((m:Int) - 1).toNat 0]).length=q.length + 1:=by simp
    have hmc:((m - 1:Nat):Int)=(m:Int) - 1:=by omega
    have hec:e' + 1 + q.length=e' + (q.length + 1):=by omega
    refine hK _ (hN10 (m - 1,e',q++[(r 2).getD ((m:Int) - 1).toNat 0]) _ (by simp only [hl1];omega) (by simp only;omega) ?_)
    simp only [hl1,hmc,hec]
    refine (Le_swb _ 95 740 (by decide) (by decide)).trans ?_
    simp only [St.swb,swbσ,swbm,AV.swb,AV.swbAll,swp,jN_swb,row_swb,Nat.reduceEqDiff,if_true,if_false,reduceIte]
    exact Le_wk (by first | omega | (dsimp only;omega) | (simp only;omega) | (simp;omega)) (by simp only [go_sem,seval]) (by simp only [go_sem,seval])
  ·simp only [decide_eq_false_iff_not] at hc38
   have hq:q.length=5:=by omega
   refine Aw_exit (hX11 _ _ (hX10 _ _ (hE9 _ (hB8 _ ?_))))
   refine Aw_tx hE [0,3,4,10,11] [72,79,95,99,700,701,710,711,712,713,714,720,721,722,723,724,740] fun K hK=>?_
   simp only [go_sem,seval,hq]
   refine ⟨fun h=>?_,fun h cap' hcap'=>?_⟩
   ·obtain ⟨c1,rfl⟩:∃ c1,c'=c1 + 1:=⟨c' - 1,by omega⟩
    simp only [jN_s,List.set_cons_zero]
    refine hK _ (hN7 _ (hB6 _ ?_))
    refine Aw_tx hE [0,3,4,10,11] [72,79,95,99,700,701,710,711,712,713,714,720,721,722,723,724,740] fun K hK=>?_
    simp only [go_sem,seval]
    repeat refine ⟨by first|omega|(and_intros<;>first|omega|exact rows_row _|exact wrows_row _|decide|(simp<;>omega))|fail,?_⟩
    refine hK _ (hN4 (3,c1,put d' 2 e,put r' 2 q) _ ⟨by omega,put_len hr' hq⟩ (by simp only;omega) ?_)
    refine (Le_swb _ 740 722 (by decide) (by decide)).trans ?_
    simp only [St.swb,swbσ,swbm,AV.swb,AV.swbAll,swp,jN_swb,row_swb,Nat.reduceEqDiff,if_true,if_false,reduceIte]
    exact Le_wk (by first | omega | (dsimp only;omega) | (simp only;omega) | (simp;omega)) (by simp only [go_sem,seval,put,Nat.add_assoc]) (by simp only [go_sem,seval,put])
   ·obtain ⟨c1,rfl⟩:∃ c1,cap'=c1 + 3:=⟨cap' - 3,by omega⟩
    rw [Nat.add_sub_cancel]
    refine hK _ (hN7 _ (hB6 _ ?_))
    refine Aw_tx hE [0,3,4,10,11] [72,79,95,99,700,701,710,711,712,713,714,720,721,722,723,724,740] fun K hK=>?_
    simp only [go_sem,seval]
    repeat refine ⟨by first|omega|(and_intros<;>first|omega|exact rows_row _|exact wrows_row _|decide|(simp<;>omega))|fail,?_⟩
    refine hK _ (hN4 (3,c1,put d' 2 e,put r' 2 q) _ ⟨by omega,put_len hr' hq⟩ (by simp only;omega) ?_)
    refine (Le_swb _ 740 722 (by decide) (by decide)).trans ?_
    simp only [St.swb,swbσ,swbm,AV.swb,AV.swbAll,swp,jN_swb,row_swb,Nat.reduceEqDiff,if_true,if_false,reduceIte]
    refine (Le_swb _ 99 701 (by decide) (by decide)).trans ?_
    simp only [St.swb,swbσ,swbm,AV.swb,AV.swbAll,swp,jN_swb,row_swb,Nat.reduceEqDiff,if_true,if_false,reduceIte]
    exact Le_wk (by first | omega | (dsimp only;omega) | (simp only;omega) | (simp;omega)) (by simp only [go_sem,seval,put,Nat.add_assoc]) (by simp only [go_sem,seval,put])
 ·refine Aw_st hE [0,3,4,10,11,76] [72,79,95,99,700,701,710,711,712,713,714,720,721,722,723,724,740] fun K hK=>?_
  simp only [go_sem,seval]
  refine hK _ (Aw_yes rfl (Aw_skip (hB5 _ ?_)))
  refine Aw_sq fun B6 hB6 hR6 hX6=>?_
  refine Aw_bk fun B7 hN7 hE7 hR7 hX7=>?_
  refine Aw_st hE [0,3,4,10,11,12] [72,79,95,99,700,701,710,711,712,713,714,720,721,722,723,724,740] fun K hK=>?_
  simp only [go_sem,seval]
  refine hK _ ?_;clear hK K
  refine Aw_sq fun B8 hB8 hR8 hX8=>?_
  refine Aw_st hE [0,3,4,10,11,12,13] [72,79,95,99,700,701,710,711,712,713,714,720,721,722,723,724,740] fun K hK=>?_
  simp only [go_sem,seval]
  refine hK _ ?_;clear hK K
  refine Aw_bk fun B9 hN9 hE9 hR9 hX9=>?_
  refine Aw_lp (fun j:Nat × Nat × List Int=>⟨111,[(0,.rd),(3,iv 5),(4,.xs 700 0 5 (c + 5) 1),(10,.xs 701 0 3 (c' + 3) 1),(11,iv 1),(12,.xs 740 0 j.2.2.length (j.2.1 + j.2.2.length) 1),(13,iv ((j.1:Int) - 1))],(740,cI j.2.2++jN j.2.1)::(700,vws 5 d 710 5++jN c)::(701,vws 5 d' 720 3++jN c')::(bxs 5 d r 710 5++bxs 5 d' r' 720 3),rn + 1⟩) (fun j=>j.2.2.length + j.1=5) (fun j=>j.1) (5,0,[]) ?_ (by simp) fun j hj B10 hN10 hR10 hX10=>?_
  ·refine (Le_swb _ 79 740 (by decide) (by decide)).trans ?_
   simp only [St.swb,swbσ,swbm,AV.swb,AV.swbAll,swp,jN_swb,row_swb,Nat.reduceEqDiff,if_true,if_false,reduceIte]
   exact Le_wk (by first | omega | (dsimp only;omega) | (simp only;omega) | (simp;omega)) (by simp only [go_sem,seval]) (by simp only [go_sem,seval])
  obtain ⟨m,e,q⟩:=j
  simp only at hj
  refine Aw_sq fun B11 hB11 hR11 hX11=>?_
  refine Aw_st hE [0,3,4,10,11,12,13,83] [72,79,95,99,700,701,710,711,712,713,714,720,721,722,723,724,740] fun K hK=>?_
  simp only [go_sem,seval]
  refine hK _ (Aw_cond rfl (fun hc38=>?_) (fun hc38=>?_))
  ·simp only [decide_eq_true_eq] at hc38
   have hg:=rowI_drop (r 1) (d 1) ((m:Int) - 1).toNat (by omega)
   refine Aw_skip (hB11 _ ?_)
   refine Aw_sq fun B12 hB12 hR12 hX12=>?_
   refine Aw_bk fun B13 hN13 hE13 hR13 hX13=>?_
   refine Aw_tx hE [0,3,4,10,11,12,13] [72,79,95,99,700,701,710,711,712,713,714,720,721,722,723,724,740] fun K hK=>?_
   simp only [go_sem,seval,hg]
   refine ⟨⟨by omega,by omega⟩,⟨by omega,by omega⟩,fun h=>?_,fun h cap' hcap'=>?_⟩
   ·obtain ⟨e',rfl⟩:∃ e',e=e' + 1:=⟨e - 1,by omega⟩
    rw [row_put]
    refine hK _ (hN13 _ (hB12 _ ?_))
    refine Aw_tx hE [0,3,4,10,11,12,13] [72,79,95,99,700,701,710,711,712,713,714,720,721,722,723,724,740] fun K hK=>?_
    simp only [go_sem,seval]
    repeat refine ⟨by first|omega|(and_intros<;>first|omega|exact rows_row _|exact wrows_row _|decide|(simp<;>omega))|fail,?_⟩
    have hl1:(q++[(r 1).getD ((m:Int) - 1).toNat 0]).length=q.length + 1:=by simp
    have hmc:((m - 1:Nat):Int)=(m:Int) - 1:=by omega
    have hec:e' + 1 + q.length=e' + (q.length + 1):=by omega
    refine hK _ (hN10 (m - 1,e',q++[(r 1).getD ((m:Int) - 1).toNat 0]) _ (by simp only [hl1];omega) (by simp only;omega) ?_)
    simp only [hl1,hmc,hec]
    exact Le_wk (by first | omega | (dsimp only;omega) | (simp only;omega) | (simp;omega)) (by simp only [go_sem,seval]) (by simp only [go_sem,seval])
   ·obtain ⟨e',rfl⟩:∃ e',cap'=e' + (q.length + 1):=⟨cap' - (q.length + 1),by omega⟩
    rw [Nat.add_sub_cancel,List.append_assoc,List.singleton_append,row_snoc]
    refine hK _ (hN13 _ (hB12 _ ?_))
    refine Aw_tx hE [0,3,4,10,11,12,13] [72,79,95,99,700,701,710,711,712,713,714,720,721,722,723,724,740] fun K hK=>?_
    simp only [go_sem,seval]
    repeat refine ⟨by first|omega|(and_intros<;>first|omega|exact rows_row _|exact wrows_row _|decide|(simp<;>omega))|fail,?_⟩
    have hl1:(q++[(r 1).getD ((m:Int) - 1).toNat 0]).length=q.length + 1:=by simp
    have hmc:((m - 1:Nat):Int)=(m:Int) - 1:=by omega
    have hec:e' + 1 + q.length=e' + (q.length + 1):=by omega
    refine hK _ (hN10 (m - 1,e',q++[(r 1).getD ((m:Int) - 1).toNat 0]) _ (by simp only [hl1];omega) (by simp only;omega) ?_)
    simp only [hl1,hmc,hec]
    refine (Le_swb _ 95 740 (by decide) (by decide)).trans ?_
    simp only [St.swb,swbσ,swbm,AV.swb,AV.swbAll,swp,jN_swb,row_swb,Nat.reduceEqDiff,if_true,if_false,reduceIte]
    exact Le_wk (by first | omega | (dsimp only;omega) | (simp only;omega) | (simp;omega)) (by simp only [go_sem,seval]) (by simp only [go_sem,seval])
  ·simp only [decide_eq_false_iff_not] at hc38
   have hq:q.length=5:=by omega
   refine Aw_exit (hX11 _ _ (hX10 _ _ (hE9 _ (hB8 _ ?_))))
   refine Aw_tx hE [0,3,4,10,11] [72,79,95,99,700,701,710,711,712,713,714,720,721,722,723,724,740] fun K hK=>?_
   simp only [go_sem,seval,hq]
   refine ⟨fun h=>?_,fun h cap' hcap'=>?_⟩
   ·obtain ⟨c1,rfl⟩:∃ c1,c'=c1 + 1:=⟨c' - 1,by omega⟩
    simp only [jN_s,List.set_cons_zero]
    refine hK _ (hN7 _ (hB6 _ ?_))
    refine Aw_tx hE [0,3,4,10,11] [72,79,95,99,700,701,710,711,712,713,714,720,721,722,723,724,740] fun K hK=>?_
    simp only [go_sem,seval]
    repeat refine ⟨by first|omega|(and_intros<;>first|omega|exact rows_row _|exact wrows_row _|decide|(simp<;>omega))|fail,?_⟩
    refine hK _ (hN4 (4,c1,put d' 3 e,put r' 3 q) _ ⟨by omega,put_len hr' hq⟩ (by simp only;omega) ?_)
    refine (Le_swb _ 740 723 (by decide) (by decide)).trans ?_
    simp only [St.swb,swbσ,swbm,AV.swb,AV.swbAll,swp,jN_swb,row_swb,Nat.reduceEqDiff,if_true,if_false,reduceIte]
    exact Le_wk (by first | omega | (dsimp only;omega) | (simp only;omega) | (simp;omega)) (by simp only [go_sem,seval,put,Nat.add_assoc]) (by simp only [go_sem,seval,put])
   ·obtain ⟨c1,rfl⟩:∃ c1,cap'=c1 + 4:=⟨cap' - 4,by omega⟩
    rw [Nat.add_sub_cancel]
    refine hK _ (hN7 _ (hB6 _ ?_))
    refine Aw_tx hE [0,3,4,10,11] [72,79,95,99,700,701,710,711,712,713,714,720,721,722,723,724,740] fun K hK=>?_
    simp only [go_sem,seval]
    repeat refine ⟨by first|omega|(and_intros<;>first|omega|exact rows_row _|exact wrows_row _|decide|(simp<;>omega))|fail,?_⟩
    refine hK _ (hN4 (4,c1,put d' 3 e,put r' 3 q) _ ⟨by omega,put_len hr' hq⟩ (by simp only;omega) ?_)
    refine (Le_swb _ 740 723 (by decide) (by decide)).trans ?_
    simp only [St.swb,swbσ,swbm,AV.swb,AV.swbAll,swp,jN_swb,row_swb,Nat.reduceEqDiff,if_true,if_false,reduceIte]
    refine (Le_swb _ 99 701 (by decide) (by decide)).trans ?_
    simp only [St.swb,swbσ,swbm,AV.swb,AV.swbAll,swp,jN_swb,row_swb,Nat.reduceEqDiff,if_true,if_false,reduceIte]
    exact Le_wk (by first | omega | (dsimp only;omega) | (simp only;omega) | (simp;omega)) (by simp only [go_sem,seval,put,Nat.add_assoc]) (by simp only [go_sem,seval,put])
 ·refine Aw_st hE [0,3,4,10,11,76] [72,79,95,99,700,701,710,711,712,713,714,720,721,722,723,724,740] fun K hK=>?_
  simp only [go_sem,seval]
  refine hK _ (Aw_yes rfl (Aw_skip (hB5 _ ?_)))
  refine Aw_sq fun B6 hB6 hR6 hX6=>?_
  refine Aw_bk fun B7 hN7 hE7 hR7 hX7=>?_
  refine Aw_st hE [0,3,4,10,11,12] [72,79,95,99,700,701,710,711,712,713,714,720,721,722,723,724,740] fun K hK=>?_
  simp only [go_sem,seval]
  refine hK _ ?_;clear hK K
  refine Aw_sq fun B8 hB8 hR8 hX8=>?_
  refine Aw_st hE [0,3,4,10,11,12,13] [72,79,95,99,700,701,710,711,712,713,714,720,721,722,723,724,740] fun K hK=>?_
  simp only [go_sem,seval]
  refine hK _ ?_;clear hK K
  refine Aw_bk fun B9 hN9 hE9 hR9 hX9=>?_
  refine Aw_lp (fun j:Nat × Nat × List Int=>⟨111,[(0,.rd),(3,iv 5),(4,.xs 700 0 5 (c + 5) 1),(10,.xs 701 0 4 (c' + 4) 1),(11,iv 0),(12,.xs 740 0 j.2.2.length (j.2.1 + j.2.2.length) 1),(13,iv ((j.1:Int) - 1))],(740,cI j.2.2++jN j.2.1)::(700,vws 5 d 710 5++jN c)::(701,vws 5 d' 720 4++jN c')::(bxs 5 d r 710 5++bxs 5 d' r' 720 4),rn + 1⟩) (fun j=>j.2.2.length + j.1=5) (fun j=>j.1) (5,0,[]) ?_ (by simp) fun j hj B10 hN10 hR10 hX10=>?_
  ·refine (Le_swb _ 79 740 (by decide) (by decide)).trans ?_
   simp only [St.swb,swbσ,swbm,AV.swb,AV.swbAll,swp,jN_swb,row_swb,Nat.reduceEqDiff,if_true,if_false,reduceIte]
   exact Le_wk (by first | omega | (dsimp only;omega) | (simp only;omega) | (simp;omega)) (by simp only [go_sem,seval]) (by simp only [go_sem,seval])
  obtain ⟨m,e,q⟩:=j
  simp only at hj
  refine Aw_sq fun B11 hB11 hR11 hX11=>?_
  refine Aw_st hE [0,3,4,10,11,12,13,83] [72,79,95,99,700,701,710,711,712,713,714,720,721,722,723,724,740] fun K hK=>?_
  simp only [go_sem,seval]
  refine hK _ (Aw_cond rfl (fun hc38=>?_) (fun hc38=>?_))
  ·simp only [decide_eq_true_eq] at hc38
   have hg:=rowI_drop (r 0) (d 0) ((m:Int) - 1).toNat (by omega)
   refine Aw_skip (hB11 _ ?_)
   refine Aw_sq fun B12 hB12 hR12 hX12=>?_
   refine Aw_bk fun B13 hN13 hE13 hR13 hX13=>?_
   refine Aw_tx hE [0,3,4,10,11,12,13] [72,79,95,99,700,701,710,711,712,713,714,720,721,722,723,724,740] fun K hK=>?_
   simp only [go_sem,seval,hg]
   refine ⟨⟨by omega,by omega⟩,⟨by omega,by omega⟩,fun h=>?_,fun h cap' hcap'=>?_⟩
   ·obtain ⟨e',rfl⟩:∃ e',e=e' + 1:=⟨e - 1,by omega⟩
    rw [row_put]
    refine hK _ (hN13 _ (hB12 _ ?_))
    refine Aw_tx hE [0,3,4,10,11,12,13] [72,79,95,99,700,701,710,711,712,713,714,720,721,722,723,724,740] fun K hK=>?_
    simp only [go_sem,seval]
    repeat refine ⟨by first|omega|(and_intros<;>first|omega|exact rows_row _|exact wrows_row _|decide|(simp<;>omega))|fail,?_⟩
    have hl1:(q++[(r 0).getD ((m:Int) - 1).toNat 0]).length=q.length + 1:=by simp
    have hmc:((m - 1:Nat):Int)=(m:Int) - 1:=by omega
    have hec:e' + 1 + q.length=e' + (q.length + 1):=by omega
    refine hK _ (hN10 (m - 1,e',q++[(r 0).getD ((m:Int) - 1).toNat 0]) _ (by simp only [hl1];omega) (by simp only;omega) ?_)
    simp only [hl1,hmc,hec]
    exact Le_wk (by first | omega | (dsimp only;omega) | (simp only;omega) | (simp;omega)) (by simp only [go_sem,seval]) (by simp only [go_sem,seval])
   ·obtain ⟨e',rfl⟩:∃ e',cap'=e' + (q.length + 1):=⟨cap' - (q.length + 1),by omega⟩
    rw [Nat.add_sub_cancel,List.append_assoc,List.singleton_append,row_snoc]
    refine hK _ (hN13 _ (hB12 _ ?_))
    refine Aw_tx hE [0,3,4,10,11,12,13] [72,79,95,99,700,701,710,711,712,713,714,720,721,722,723,724,740] fun K hK=>?_
    simp only [go_sem,seval]
    repeat refine ⟨by first|omega|(and_intros<;>first|omega|exact rows_row _|exact wrows_row _|decide|(simp<;>omega))|fail,?_⟩
    have hl1:(q++[(r 0).getD ((m:Int) - 1).toNat 0]).length=q.length + 1:=by simp
    have hmc:((m - 1:Nat):Int)=(m:Int) - 1:=by omega
    have hec:e' + 1 + q.length=e' + (q.length + 1):=by omega
    refine hK _ (hN10 (m - 1,e',q++[(r 0).getD ((m:Int) - 1).toNat 0]) _ (by simp only [hl1];omega) (by simp only;omega) ?_)
    simp only [hl1,hmc,hec]
    refine (Le_swb _ 95 740 (by decide) (by decide)).trans ?_
    simp only [St.swb,swbσ,swbm,AV.swb,AV.swbAll,swp,jN_swb,row_swb,Nat.reduceEqDiff,if_true,if_false,reduceIte]
    exact Le_wk (by first | omega | (dsimp only;omega) | (simp only;omega) | (simp;omega)) (by simp only [go_sem,seval]) (by simp only [go_sem,seval])
  ·simp only [decide_eq_false_iff_not] at hc38
   have hq:q.length=5:=by omega
   refine Aw_exit (hX11 _ _ (hX10 _ _ (hE9 _ (hB8 _ ?_))))
   refine Aw_tx hE [0,3,4,10,11] [72,79,95,99,700,701,710,711,712,713,714,720,721,722,723,724,740] fun K hK=>?_
   simp only [go_sem,seval,hq]
   refine ⟨fun h=>?_,fun h cap' hcap'=>?_⟩
   ·obtain ⟨c1,rfl⟩:∃ c1,c'=c1 + 1:=⟨c' - 1,by omega⟩
    simp only [jN_s,List.set_cons_zero]
    refine hK _ (hN7 _ (hB6 _ ?_))
    refine Aw_tx hE [0,3,4,10,11] [72,79,95,99,700,701,710,711,712,713,714,720,721,722,723,724,740] fun K hK=>?_
    simp only [go_sem,seval]
    repeat refine ⟨by first|omega|(and_intros<;>first|omega|exact rows_row _|exact wrows_row _|decide|(simp<;>omega))|fail,?_⟩
    refine hK _ (hN4 (5,c1,put d' 4 e,put r' 4 q) _ ⟨by omega,put_len hr' hq⟩ (by simp only;omega) ?_)
    refine (Le_swb _ 740 724 (by decide) (by decide)).trans ?_
    simp only [St.swb,swbσ,swbm,AV.swb,AV.swbAll,swp,jN_swb,row_swb,Nat.reduceEqDiff,if_true,if_false,reduceIte]
    exact Le_wk (by first | omega | (dsimp only;omega) | (simp only;omega) | (simp;omega)) (by simp only [go_sem,seval,put,Nat.add_assoc]) (by simp only [go_sem,seval,put])
   ·obtain ⟨c1,rfl⟩:∃ c1,cap'=c1 + 5:=⟨cap' - 5,by omega⟩
    rw [Nat.add_sub_cancel]
    refine hK _ (hN7 _ (hB6 _ ?_))
    refine Aw_tx hE [0,3,4,10,11] [72,79,95,99,700,701,710,711,712,713,714,720,721,722,723,724,740] fun K hK=>?_
    simp only [go_sem,seval]
    repeat refine ⟨by first|omega|(and_intros<;>first|omega|exact rows_row _|exact wrows_row _|decide|(simp<;>omega))|fail,?_⟩
    refine hK _ (hN4 (5,c1,put d' 4 e,put r' 4 q) _ ⟨by omega,put_len hr' hq⟩ (by simp only;omega) ?_)
    refine (Le_swb _ 740 724 (by decide) (by decide)).trans ?_
    simp only [St.swb,swbσ,swbm,AV.swb,AV.swbAll,swp,jN_swb,row_swb,Nat.reduceEqDiff,if_true,if_false,reduceIte]
    refine (Le_swb _ 99 701 (by decide) (by decide)).trans ?_
    simp only [St.swb,swbσ,swbm,AV.swb,AV.swbAll,swp,jN_swb,row_swb,Nat.reduceEqDiff,if_true,if_false,reduceIte]
    exact Le_wk (by first | omega | (dsimp only;omega) | (simp only;omega) | (simp;omega)) (by simp only [go_sem,seval,put,Nat.add_assoc]) (by simp only [go_sem,seval,put])
end Go.Proofs.W
end
