/- YtclgihnpjgoddaaDoorCardDLo: part of the proof that laws hold, for every input that the row speaks of (no condition of ours). -/
import Derived.Test.YtclgihnpjgoddaaDoorWc
import Derived.Test.YtclgihnpjgoddaaDoorWa
import Derived.Test.YtclgihnpjgoddaaDoorEc
import Derived.ChangeVars
import Derived.RowKitTokens
import Derived.Test.YtclgihnpjgoddaaDoorCards
import Derived.Test.YtclgihnpjgoddaaDoorTie
set_option linter.unusedVariables false
set_option linter.unusedSimpArgs false
section
namespace Go.Proofs.W
open Go Go.Eng Go.RowKit
set_option maxRecDepth 100000
theorem lastT_app (k:Int × Int) (r:Rt):∀ a:List Rt,lastT (a++[r]) k=if key r=k then some r else lastT a k
 | []=>by simp [lastT]
 | x::a=>by
  rw [List.cons_append,lastT,lastT,lastT_app k r a]
  split<;>simp
theorem lastT_step {T:List Rt} {j:Nat} (k:Int × Int) (h:j < T.length):lastT (T.take (j + 1)) k=if key T[j]=k then some T[j] else lastT (T.take j) k:=by
 rw [List.take_succ_eq_append_getElem h,lastT_app]
def lastP (T:List Rt) (k:Int × Int) (j:Nat) (v:Int):Prop:=(v = -1∧lastT (T.take j) k=none)∨∃ p:Nat,∃ h:p < T.length,v=p∧lastT (T.take j) k=some T[p]
theorem do_small {l x:List Rt} {D:List (Int × Int)} {T:List Rt} (h:deltaDo l D T=some x) (hl:smallD l) (hT:smallD T):smallD x:=fun r hr=>by
 rcases (do_each h).2 r hr with h1 | ⟨_,h1,_⟩
 ·exact hT r (lastT_mem h1).1
 ·exact hl r h1
def ldA (l x T:List Rt) (D:List (Int × Int)) (k i:Nat):St:=⟨138,[(3,.sl none (rrows l)),(4,.loc 4 0),(7,.sl none (rrows x)),(9,iv i)],[(4,[.sl none (krows D),.sl none (rrows T)])],k⟩
def ldB (l x T:List Rt) (D:List (Int × Int)) (k i:Nat) (v:Int) (j:Nat):St:=⟨138,[(3,.sl none (rrows l)),(4,.loc 4 0),(7,.sl none (rrows x)),(9,iv i),(10,iv v),(11,iv j)],[(4,[.sl none (krows D),.sl none (rrows T)])],k⟩
def ldC (l x T:List Rt) (D:List (Int × Int)) (k i:Nat) (y:Rt) (j:Nat):St:=⟨138,[(3,.sl none (rrows l)),(4,.loc 4 0),(7,.sl none (rrows x)),(9,iv i),(12,bv ((l.take j).any (eqB y))),(13,iv j)],[(4,[.sl none (krows D),.sl none (rrows T)])],k⟩
def ldD (l x T:List Rt) (D:List (Int × Int)) (k i:Nat) (j:Nat):St:=⟨138,[(3,.sl none (rrows l)),(4,.loc 4 0),(7,.sl none (rrows x)),(9,iv i),(12,bv true),(14,iv j)],[(4,[.sl none (krows D),.sl none (rrows T)])],k⟩
set_option maxHeartbeats 8000000 in
theorem fnDeltaDo_ok (pb:Addr):Fine Tryd.prog 4 (cLawP pb):=by
 refine fine_of (T:=TT) Tryd.func4 rfl Tryd.ntmps4 (by rw [Tryd.results4]) rfl rfl tt (gs_cons drawDeltaDo_ok gs_nil) (ds_cons sDeltaDo_ok (ds_cons (iDeltaDo_ok pb) (ds_cons lyRts_ok (ds_cons lyRoute_ok (ds_cons (iRoutesOk_ok pb) ds_nil (wp_inh pb)))) (wp_inh pb))) ?_
 rintro args ⟨bs,hbs,rfl⟩
 refine ⟨by simp,fun k hk E hE Q hQ=>?_⟩
 refine Aw_st hE [0] [4] fun K hK=>?_
 simp only [go_sem,seval]
 refine hK _ ?_;clear hK K
 refine Aw_sq fun B1 hB1 hR1 hX1=>?_
 refine Aw_st hE [0,17] [4] fun K hK=>?_
 simp only [go_sem,seval]
 refine hK _ (Aw_cond rfl (fun hc2=>?_) (fun hc2=>?_))
 ·refine Aw_st hE [2] [4] fun K hK=>?_
  simp only [go_sem,seval]
  refine hK _ (Aw_ret (hR1 _ (hQ _ ?_)))
  simp only [go_sem,seval]
 ·refine Aw_skip (hB1 _ ?_)
  refine Aw_st hE [3,4] [4] fun K hK=>?_
  simp only [go_sem,seval]
  refine ⟨ddd_pre bs hbs,fun l D T hlD=>?_⟩
  obtain ⟨⟨hal,hsl⟩,hDl,hTl,hsT⟩:=hlD
  have hcl:=smallD_small hsl (by omega)
  have hcT:=smallD_small hsT (by omega)
  refine hK _ ?_;clear hK K
  cases hd:deltaDo l D T with
  | none =>
   have hr0:rtsL []=some []:=rfl
   have hk0:krL []=some []:=rfl
   refine Aw_st hE [3,4,5,6] [4] fun K hK=>?_
   simp only [go_sem,seval,hd,resD]
   refine ⟨⟨hcl,by omega,hcT⟩,?_⟩
   refine hK _ ?_;clear hK K
   refine Aw_st hE [3,4,5,6,7,8] [4] fun K hK=>?_
   simp only [go_sem,seval,hd,resD]
   refine ⟨⟨hcl,by omega,hcT⟩,?_⟩
   refine hK _ ?_;clear hK K
   refine Aw_sq fun B3 hB3 hR3 hX3=>?_
   refine Aw_st hE [3,4,5,6,7,8,47] [4] fun K hK=>?_
   simp only [go_sem,seval,hr0,decide_true,and_self,List.length_nil,bne_self_eq_false]
   refine ⟨fun r hr=>(by cases hr),?_⟩
   refine hK _ (Aw_yes rfl ?_)
   refine Aw_st hE [2] [4] fun K hK=>?_
   simp only [go_sem,seval,hr0,decide_true,and_self,List.length_nil,beq_self_eq_true]
   refine ⟨fun r hr=>(by cases hr),?_⟩
   refine hK _ (Aw_ret (hR3 _ (hQ _ ?_)))
   simp only [go_sem,seval]
  | some x =>
   obtain ⟨hokx,heach⟩:=do_each hd
   have hsx:=do_small hd hsl hsT
   have hxl:x.length≤12:=(routesOk_iff.1 hokx).1
   have hcx:=smallD_small hsx (by omega)
   have hsx2:∀ r ∈ x,r.path.length≤1000000∧r.marks.length≤1000000:=fun r hr=>by have:=hsx r hr;omega
   refine Aw_st hE [3,4,5,6] [4] fun K hK=>?_
   simp only [go_sem,seval,hd,resD]
   refine ⟨⟨hcl,by omega,hcT⟩,?_⟩
   refine hK _ ?_;clear hK K
   refine Aw_st hE [3,4,5,6,7,8] [4] fun K hK=>?_
   simp only [go_sem,seval,hd,resD]
   refine ⟨⟨hcl,by omega,hcT⟩,?_⟩
   refine hK _ ?_;clear hK K
   refine Aw_sq fun B3 hB3 hR3 hX3=>?_
   refine Aw_st hE [3,4,5,6,7,8,47] [4] fun K hK=>?_
   simp only [go_sem,seval,decide_true,and_self,bne_self_eq_false]
   refine ⟨⟨by omega,hsx2⟩,?_⟩
   refine hK _ (Aw_no rfl (Aw_skip (hB3 _ ?_)))
   refine Aw_sq fun B8 hB8 hR8 hX8=>?_
   refine Aw_st hE [3,4,7,9] [4] fun K hK=>?_
   simp only [go_sem,seval]
   refine hK _ ?_;clear hK K
   refine Aw_bk fun B9 hN9 hE9 hR9 hX9=>?_
   refine Aw_lp (fun i:Nat=>ldA l x T D k i) (fun i=>i≤x.length) (fun i=>x.length - i) 0 (Le.refl _) (by omega) fun i hi B10 hN10 hR10 hX10=>?_
   simp only [ldA]
   refine Aw_sq fun B11 hB11 hR11 hX11=>?_
   refine Aw_st hE [3,4,7,9,59] [4] fun K hK=>?_
   simp only [go_sem,seval]
   refine hK _ (Aw_cond rfl (fun hc12=>?_) (fun hc12=>?_))
   ·simp only [dte] at hc12
    have hil:i < x.length:=by omega
    have hg:=rrows_at x i hil
    have hy:=List.getElem_mem hil
    have hey:=heach _ hy
    have hys:=hsx2 _ hy
    generalize x[i]=y at hg hy hey hys
    refine Aw_skip (hB11 _ ?_)
    refine Aw_sq fun B13 hB13 hR13 hX13=>?_
    refine Aw_bk fun B14 hN14 hE14 hR14 hX14=>?_
    refine Aw_st hE [3,4,7,9,10] [4] fun K hK=>?_
    simp only [go_sem,seval]
    refine hK _ ?_;clear hK K
    refine Aw_sqJ (fun v:Int=>⟨138,[(3,.sl none (rrows l)),(4,.loc 4 0),(7,.sl none (rrows x)),(9,iv i),(10,iv v)],[(4,[.sl none (krows D),.sl none (rrows T)])],k⟩) (fun v=>lastP T (key y) T.length v) (fun v hv=>?_) fun B15 hB15 hR15 hX15=>?_
    ·refine Aw_sq fun B23 hB23 hR23 hX23=>?_
     unfold lastP at hv
     rw [List.take_length] at hv
     rcases hv with ⟨rfl,hv⟩ | ⟨p,hp,rfl,hv⟩
     ·rw [hv] at hey
      have hey2:y ∈ l∧key y ∉ D:=by
       rcases hey with h | h
       ·cases h
       ·exact h.2
      obtain ⟨hyl,hyD⟩:=hey2
      have hany:l.any (eqB y)=true:=List.any_eq_true.2 ⟨y,hyl,eqB_iff.2 rfl⟩
      refine Aw_st hE [3,4,7,9,10,83] [4] fun K hK=>?_
      simp only [go_sem,seval]
      refine hK _ (Aw_no rfl (Aw_skip (hB23 _ ?_)))
      refine Aw_st hE [3,4,7,9,12] [4] fun K hK=>?_
      simp only [go_sem,seval]
      refine hK _ ?_;clear hK K
      refine Aw_sqJ (fun _:Unit=>⟨138,[(3,.sl none (rrows l)),(4,.loc 4 0),(7,.sl none (rrows x)),(9,iv i),(12,bv true)],[(4,[.sl none (krows D),.sl none (rrows T)])],k⟩) (fun _=>True) (fun _ _=>?_) fun B27 hB27 hR27 hX27=>?_
      ·refine Aw_sq fun B34 hB34 hR34 hX34=>?_
       refine Aw_st hE [3,4,7,9,12,14] [4] fun K hK=>?_
       simp only [go_sem,seval]
       refine hK _ ?_;clear hK K
       refine Aw_bk fun B35 hN35 hE35 hR35 hX35=>?_
       refine Aw_lp (fun j:Nat=>ldD l x T D k i j) (fun j=>j≤D.length) (fun j=>D.length - j) 0 (Le.refl _) (by omega) fun j hj B36 hN36 hR36 hX36=>?_
       simp only [ldD]
       refine Aw_sq fun B37 hB37 hR37 hX37=>?_
       refine Aw_st hE [3,4,7,9,12,14,117] [4] fun K hK=>?_
       simp only [go_sem,seval]
       refine hK _ (Aw_cond rfl (fun hc38=>?_) (fun hc38=>?_))
       ·simp only [dte] at hc38
        have hjl:j < D.length:=by omega
        have hgj:=krows_get D j hjl
        have hjm:=List.getElem_mem hjl
        generalize D[j]=z at hgj hjm
        obtain ⟨zf,zb⟩:=z
        simp only [kR] at hgj
        have hne:(!(zf == y.f && zb == y.b))=true:=by
         rw [Bool.not_eq_true',Bool.eq_false_iff]
         intro h
         simp only [Bool.and_eq_true,beq_iff_eq] at h
         exact hyD (by rw [key,← h.1,← h.2];exact hjm)
        refine Aw_skip (hB37 _ ?_)
        refine Aw_sq fun B39 hB39 hR39 hX39=>?_
        refine Aw_bk fun B40 hN40 hE40 hR40 hX40=>?_
        refine Aw_td hE [3,4,7,9,12,14] [4] 6 (by kernel_rfl) fun K hK=>?_
        simp only [go_sem,seval,hg,hgj]
        refine ⟨by omega,by omega,?_⟩
        rw [hne]
        refine hK _ (hN40 _ (hB39 _ ?_))
        refine Aw_tx hE [3,4,7,9,12,14] [4] fun K hK=>?_
        simp only [go_sem,seval]
        repeat refine sd0 ?_
        exact hK _ (hN36 (j + 1) _ (by omega) (by omega) (Le.refl _))
       ·refine Aw_exit (hX37 _ _ (hX36 _ _ (hE35 _ (hB34 _ ?_))))
        refine Aw_st hE [3,4,7,9,135] [4] fun K hK=>?_
        simp only [go_sem,seval]
        refine hK _ (Aw_no rfl (Aw_skip (hN14 _ (hB13 _ ?_))))
        refine Aw_tx hE [3,4,7,9] [4] fun K hK=>?_
        simp only [go_sem,seval]
        repeat refine sd0 ?_
        exact hK _ (hN10 (i + 1) _ (by omega) (by omega) (Le.refl _))
      ·refine Aw_st hE [3,4,7,9,12,13] [4] fun K hK=>?_
       simp only [go_sem,seval]
       refine hK _ ?_;clear hK K
       refine Aw_bk fun B28 hN28 hE28 hR28 hX28=>?_
       refine Aw_lp (fun j:Nat=>ldC l x T D k i y j) (fun j=>j≤l.length) (fun j=>l.length - j) 0 (Le.refl _) (by omega) fun j hj B29 hN29 hR29 hX29=>?_
       simp only [ldC]
       refine Aw_sq fun B30 hB30 hR30 hX30=>?_
       refine Aw_st hE [3,4,7,9,12,13,98] [4] fun K hK=>?_
       simp only [go_sem,seval]
       refine hK _ (Aw_cond rfl (fun hc31=>?_) (fun hc31=>?_))
       ·simp only [dte] at hc31
        have hjl:j < l.length:=by omega
        have hgj:=rrows_at l j hjl
        obtain ⟨hzp,hzm⟩:=smallR_at hcl j hjl
        have hst:=any_step (p:=eqB y) hjl
        generalize l[j]=z at hgj hst hzp hzm
        have hln:(z.path.length≤4294967296∧y.path.length≤4294967296)∧z.marks.length≤4294967296∧y.marks.length≤4294967296:=by omega
        have hez:eqB y z=decide (z.f=y.f∧z.b=y.b∧z.path=y.path∧z.like=y.like∧z.marks=y.marks):=rfl
        refine Aw_skip (hB30 _ ?_)
        refine Aw_sq fun B32 hB32 hR32 hX32=>?_
        refine Aw_bk fun B33 hN33 hE33 hR33 hX33=>?_
        cases hin:(l.take j).any (eqB y) with
        | true =>
         rw [hin,Bool.true_or] at hst
         refine Aw_td hE [3,4,7,9,12,13] [4] 6 (by kernel_rfl) fun K hK=>?_
         simp only [go_sem,seval]
         refine hK _ (hN33 _ (hB32 _ ?_))
         refine Aw_tx hE [3,4,7,9,12,13] [4] fun K hK=>?_
         simp only [go_sem,seval]
         repeat refine sd0 ?_
         refine hK _ (hN29 (j + 1) _ (by omega) (by omega) ?_)
         simp only [ldC]
         rw [hst]
         exact Le.refl _
        | false =>
         rw [hin,Bool.false_or] at hst
         refine Aw_td hE [3,4,7,9,12,13] [4] 6 (by kernel_rfl) fun K hK=>?_
         simp only [go_sem,seval,hg,hgj]
         refine ⟨by omega,by omega,hln,?_⟩
         refine hK _ (hN33 _ (hB32 _ ?_))
         refine Aw_tx hE [3,4,7,9,12,13] [4] fun K hK=>?_
         simp only [go_sem,seval]
         repeat refine sd0 ?_
         refine hK _ (hN29 (j + 1) _ (by omega) (by omega) ?_)
         simp only [ldC]
         rw [hst,hez]
         exact Le.refl _
       ·simp only [dfn] at hc31
        obtain rfl:j=l.length:=by omega
        rw [List.take_length,hany]
        refine Aw_exit (hX30 _ _ (hX29 _ _ (hE28 _ (hB27 () _ trivial (Le_E (Le_ks [3,4,7,9,12] [4]))))))
     ·have hTy:T[p]=y:=by
       rw [hv] at hey
       rcases hey with h | h
       ·exact Option.some.inj h
       ·cases h.1
      have hgp:=rrows_at T p hp
      rw [hTy] at hgp
      have d1:decide ((0:Int)≤(p:Int))=true:=decide_eq_true (by omega)
      have hln:y.path.length≤4294967296∧y.marks.length≤4294967296:=by omega
      refine Aw_st hE [3,4,7,9,10,83] [4] fun K hK=>?_
      simp only [go_sem,seval,d1]
      refine hK _ (Aw_yes rfl ?_)
      refine Aw_sq fun B25 hB25 hR25 hX25=>?_
      refine Aw_sd hE [3,4,7,9,94] [4] 6 (by kernel_rfl) fun K hK=>?_
      simp only [go_sem,seval,hg,hgp,decide_true,and_self]
      refine ⟨by omega,by omega,hln,?_⟩
      refine hK _ (Aw_no rfl (Aw_skip (hB25 _ ?_)))
      refine Aw_exit (hX23 _ _ (hE14 _ (hB13 _ ?_)))
      refine Aw_tx hE [3,4,7,9] [4] fun K hK=>?_
      simp only [go_sem,seval]
      repeat refine sd0 ?_
      exact hK _ (hN10 (i + 1) _ (by omega) (by omega) (Le.refl _))
    ·refine Aw_st hE [3,4,7,9,10,11] [4] fun K hK=>?_
     simp only [go_sem,seval]
     refine hK _ ?_;clear hK K
     refine Aw_bk fun B16 hN16 hE16 hR16 hX16=>?_
     refine Aw_lp (fun j:Nat × Int=>ldB l x T D k i j.2 j.1) (fun j=>j.1≤T.length∧lastP T (key y) j.1 j.2) (fun j=>T.length - j.1) (0,-1) (Le.refl _) ⟨by simp,.inl ⟨rfl,rfl⟩⟩ fun j hj B17 hN17 hR17 hX17=>?_
     obtain ⟨j,v⟩:=j
     obtain ⟨hj,hv⟩:=hj
     simp only at hj hv
     simp only [ldB]
     refine Aw_sq fun B18 hB18 hR18 hX18=>?_
     refine Aw_st hE [3,4,7,9,10,11,66] [4] fun K hK=>?_
     simp only [go_sem,seval]
     refine hK _ (Aw_cond rfl (fun hc19=>?_) (fun hc19=>?_))
     ·simp only [dte] at hc19
      have hjl:j < T.length:=by omega
      have hgj:=rrows_at T j hjl
      have hst:=lastT_step (key y) hjl
      have hez:(T[j].f == y.f && T[j].b == y.b)=decide (key T[j]=key y):=by
       rw [Bool.eq_iff_iff];simp only [key,Bool.and_eq_true,dte,beq_iff_eq,Prod.mk.injEq]
      refine Aw_skip (hB18 _ ?_)
      refine Aw_sq fun B20 hB20 hR20 hX20=>?_
      refine Aw_bk fun B21 hN21 hE21 hR21 hX21=>?_
      refine Aw_sd hE [3,4,7,9,10,11,80] [4] 6 (by kernel_rfl) fun K hK=>?_
      simp only [go_sem,seval,hg,hgj,hez]
      refine ⟨by omega,by omega,?_⟩
      refine hK _ (Aw_cond rfl (fun hc22=>?_) (fun hc22=>?_))
      ·simp only [dte] at hc22
       rw [if_pos hc22] at hst
       refine Aw_tx hE [3,4,7,9,10,11] [4] fun K hK=>?_
       simp only [go_sem,seval]
       refine hK _ (hN21 _ (hB20 _ ?_))
       refine Aw_tx hE [3,4,7,9,10,11] [4] fun K hK=>?_
       simp only [go_sem,seval]
       repeat refine sd0 ?_
       exact hK _ (hN17 (j + 1,(j:Int)) _ ⟨by simp only;omega,.inr ⟨j,hjl,rfl,hst⟩⟩ (by simp only;omega) (Le.refl _))
      ·simp only [dfn] at hc22
       rw [if_neg hc22] at hst
       refine Aw_skip (hN21 _ (hB20 _ ?_))
       refine Aw_tx hE [3,4,7,9,10,11] [4] fun K hK=>?_
       simp only [go_sem,seval]
       repeat refine sd0 ?_
       refine hK _ (hN17 (j + 1,v) _ ⟨by simp only;omega,?_⟩ (by simp only;omega) (Le.refl _))
       unfold lastP at hv ⊢
       rw [hst]
       exact hv
     ·simp only [dfn] at hc19
      obtain rfl:j=T.length:=by omega
      exact Aw_exit (hX18 _ _ (hX17 _ _ (hE16 _ (hB15 v _ hv (Le_E (Le_ks [3,4,7,9,10] [4]))))))
   ·refine Aw_exit (hX11 _ _ (hX10 _ _ (hE9 _ (hB8 _ ?_))))
    refine Aw_st hE [2] [4] fun K hK=>?_
    simp only [go_sem,seval,hokx]
    refine ⟨hcx,?_⟩
    refine hK _ (Aw_ret (hQ _ ?_))
    simp only [go_sem,seval]
def lpS (l:List Rt) (f b:Int) (k i:Nat):St:=⟨108,[(5,.sl none (rrows l)),(11,.loc 11 0),(12,bv ((l.take i).any (keyB f b))),(13,iv i)],[(11,[iv f,iv b])],k⟩
theorem isSome_res (o:Option (List Rt)):∃ els,resD o = .tup [.sl none els,bv o.isSome]:=by
 cases o with
 | none=>exact ⟨_,rfl⟩
 | some x=>exact ⟨_,rfl⟩
theorem do_small2 {l:List Rt} {D:List (Int × Int)} {T:List Rt} (hl:smallD l) (hT:smallD T):∃ els x b,resD (deltaDo l D T) = .tup [.sl none els,bv b]∧rtsL els=some x∧x.length≤12∧smallD x:=by
 cases h:deltaDo l D T with
 | none=>exact ⟨_,[],_,rfl,rfl,by simp,by simp [smallD]⟩
 | some x=>exact ⟨_,x,_,rfl,rtsL_rows x,(routesOk_iff.1 (do_each h).1).1,do_small h hl hT⟩
set_option maxHeartbeats 8000000 in
theorem fnDropLost_ok (pb:Addr):Fine Tryd.prog 5 (cLawP2 pb):=by
 refine fine_of (T:=TT) Tryd.func5 rfl Tryd.ntmps5 (by rw [Tryd.results5]) rfl rfl tt (gs_cons drawDeltaDo_ok (gs_cons lyRange_ok gs_nil)) (ds_cons sDeltaDo_ok (ds_cons (iDeltaDo_ok pb) (ds_cons lyRts_ok (ds_cons sRoutesOk_ok ds_nil)) (wp_inh pb))) ?_
 rintro args ⟨bs,bs2,hbs,hbs2,rfl⟩
 refine ⟨by simp,fun k hk E hE Q hQ=>?_⟩
 refine Aw_st hE [0,1] [6,11] fun K hK=>?_
 simp only [go_sem,seval]
 refine hK _ ?_;clear hK K
 refine Aw_sq fun B1 hB1 hR1 hX1=>?_
 refine Aw_st hE [0,1,25] [6,11] fun K hK=>?_
 simp only [go_sem,seval]
 refine ⟨fun hg3=>?_,fun hg3=>?_⟩
 ·refine hK _ (Aw_yes rfl ?_)
  refine Aw_st hE [4] [6,11] fun K hK=>?_
  simp only [go_sem,seval]
  refine hK _ (Aw_ret (hR1 _ (hQ _ ?_)))
  simp only [go_sem,seval]
 refine hK _ (Aw_cond rfl (fun hc4=>?_) (fun hc4=>?_))
 ·refine Aw_st hE [4] [6,11] fun K hK=>?_
  simp only [go_sem,seval]
  refine hK _ (Aw_ret (hR1 _ (hQ _ ?_)))
  simp only [go_sem,seval]
 refine Aw_skip (hB1 _ ?_)
 refine Aw_st hE [1,5,6] [6,11] fun K hK=>?_
 simp only [go_sem,seval]
 refine ⟨ddd_pre bs hbs,fun l D T hlD=>?_⟩
 obtain ⟨⟨hal,hsl⟩,hDl,hTl,hsT⟩:=hlD
 have hcl:=smallD_small hsl (by omega)
 have hcT:=smallD_small hsT (by omega)
 obtain ⟨els,x,ob,hres,hrt,hxl,hsx⟩:=do_small2 (D:=D) hsl hsT
 have hsx2:∀ r ∈ x,r.path.length≤1000000∧r.marks.length≤1000000:=fun r hr=>by have:=hsx r hr;omega
 refine hK _ ?_;clear hK K
 refine Aw_st hE [1,5,6,7,8] [6,11] fun K hK=>?_
 simp only [go_sem,seval,hres]
 refine ⟨⟨hcl,by omega,hcT⟩,?_⟩
 refine hK _ ?_;clear hK K
 refine Aw_st hE [1,5,7,8,9,10] [6,11] fun K hK=>?_
 simp only [go_sem,seval,hres]
 refine ⟨⟨hcl,by omega,hcT⟩,?_⟩
 refine hK _ ?_;clear hK K
 refine Aw_sq fun B5 hB5 hR5 hX5=>?_
 cases hok:routesOk l with
 | false =>
  refine Aw_st hE [1,5,7,8,9,10,56] [6,11] fun K hK=>?_
  simp only [go_sem,seval,hrt,hok,decide_true,and_self,bne_self_eq_false]
  refine ⟨⟨by omega,hsx2⟩,hcl,?_⟩
  refine hK _ (Aw_yes rfl ?_)
  refine Aw_st hE [4] [6,11] fun K hK=>?_
  simp only [go_sem,seval,hrt,decide_true,and_self,beq_self_eq_true]
  refine ⟨⟨by omega,hsx2⟩,?_⟩
  refine hK _ (Aw_ret (hR5 _ (hQ _ ?_)))
  simp only [go_sem,seval]
 | true =>
 have hbl:((byteRows bs2).length:Int)≤1048576:=by simp only [dfn] at hc4;omega
 refine Aw_st hE [1,5,7,8,9,10,56] [6,11] fun K hK=>?_
 simp only [go_sem,seval,hrt,hok,decide_true,and_self,bne_self_eq_false]
 refine ⟨⟨by omega,hsx2⟩,hcl,?_⟩
 refine hK _ (Aw_no rfl (Aw_skip (hB5 _ ?_)))
 refine Aw_st hE [5,11] [6,11] fun K hK=>?_
 simp only [go_sem,seval]
 refine ⟨⟨by omega,hbl⟩,fun f b=>?_⟩
 refine hK _ ?_;clear hK K
 refine Aw_st hE [5,11,12] [6,11] fun K hK=>?_
 simp only [go_sem,seval]
 refine hK _ ?_;clear hK K
 refine Aw_sqJ (fun _:Unit=>⟨108,[(5,.sl none (rrows l)),(11,.loc 11 0),(12,bv (l.any (keyB f b)))],[(11,[iv f,iv b])],k⟩) (fun _=>True) (fun _ _=>?_) fun B10 hB10 hR10 hX10=>?_
 ·obtain ⟨h1,h2⟩:=drop_one hok (f,b)
  obtain ⟨e1,h3⟩:=isSome_res (deltaDo l [(f,b)] [])
  have h4:resD (deltaDo l [(f,b),(f,b)] []) = .tup [.sl none [],bv false]:=by rw [h2];rfl
  have hks:krL [[DV.v (.int .i64 f),.v (.int .i64 b)]]=some [(f,b)]:=rfl
  have hks2:krL [[DV.v (.int .i64 f),.v (.int .i64 b)],[DV.v (.int .i64 f),.v (.int .i64 b)]]=some [(f,b),(f,b)]:=rfl
  have hr0:rtsL []=some []:=rfl
  have hs0:smallL []:=⟨by simp,fun r hr=>(by cases hr)⟩
  rw [h1] at h3
  have ha:(l.any fun x=>decide (key x=(f,b)))=l.any (keyB f b):=by
   congr 1
   funext z
   rw [Bool.eq_iff_iff,keyB_iff,dte]
  rw [ha] at h3
  refine Aw_st hE [5,11,12,15] [6,11] fun K hK=>?_
  simp only [go_sem,seval,hks,hr0,h3]
  refine ⟨⟨hcl,hs0⟩,?_⟩
  refine hK _ ?_;clear hK K
  refine Aw_st hE [12,15,17] [6,11] fun K hK=>?_
  simp only [go_sem,seval,hks2,hr0,h4]
  refine ⟨⟨hcl,hs0⟩,?_⟩
  refine hK _ ?_;clear hK K
  refine Aw_st hE [4] [6,11] fun K hK=>?_
  simp only [go_sem,seval,beq_self_eq_true]
  refine hK _ (Aw_ret (hQ _ ?_))
  simp only [go_sem,seval]
 ·refine Aw_st hE [5,11,12,13] [6,11] fun K hK=>?_
  simp only [go_sem,seval]
  refine hK _ ?_;clear hK K
  refine Aw_bk fun B11 hN11 hE11 hR11 hX11=>?_
  refine Aw_lp (fun i:Nat=>lpS l f b k i) (fun i=>i≤l.length) (fun i=>l.length - i) 0 (Le_ks [5,11,12,13] [11]) (by omega) fun i hi B12 hN12 hR12 hX12=>?_
  simp only [lpS]
  refine Aw_sq fun B13 hB13 hR13 hX13=>?_
  refine Aw_st hE [5,11,12,13,71] [6,11] fun K hK=>?_
  simp only [go_sem,seval]
  refine hK _ (Aw_cond rfl (fun hc14=>?_) (fun hc14=>?_))
  ·simp only [dte] at hc14
   have hil:i < l.length:=by omega
   have hg:=rrows_at l i hil
   have hst:=any_step (p:=keyB f b) hil
   generalize l[i]=z at hg hst
   have hez:keyB f b z=(z.f == f && z.b == b):=by
    rw [Bool.eq_iff_iff];simp only [keyB,Bool.and_eq_true,dte,beq_iff_eq]
   refine Aw_skip (hB13 _ ?_)
   refine Aw_sq fun B15 hB15 hR15 hX15=>?_
   refine Aw_bk fun B16 hN16 hE16 hR16 hX16=>?_
   cases hin:(l.take i).any (keyB f b) with
   | true =>
    rw [hin,Bool.true_or] at hst
    refine Aw_td hE [5,11,12,13] [6,11] 6 (by kernel_rfl) fun K hK=>?_
    simp only [go_sem,seval]
    refine hK _ (hN16 _ (hB15 _ ?_))
    refine Aw_tx hE [5,11,12,13] [6,11] fun K hK=>?_
    simp only [go_sem,seval]
    repeat refine sd0 ?_
    refine hK _ (hN12 (i + 1) _ (by omega) (by omega) ?_)
    simp only [lpS]
    rw [hst]
    exact Le.refl _
   | false =>
    rw [hin,Bool.false_or] at hst
    refine Aw_td hE [5,11,12,13] [6,11] 6 (by kernel_rfl) fun K hK=>?_
    simp only [go_sem,seval,hg]
    refine ⟨by omega,?_⟩
    refine hK _ (hN16 _ (hB15 _ ?_))
    refine Aw_tx hE [5,11,12,13] [6,11] fun K hK=>?_
    simp only [go_sem,seval]
    repeat refine sd0 ?_
    refine hK _ (hN12 (i + 1) _ (by omega) (by omega) ?_)
    simp only [lpS]
    rw [hst,hez]
    exact Le.refl _
  ·simp only [dfn] at hc14
   obtain rfl:i=l.length:=by omega
   rw [List.take_length]
   refine Aw_exit (hX13 _ _ (hX12 _ _ (hE11 _ (hB10 () _ trivial (Le_E (Le_ks [5,11,12] [11]))))))
end Go.Proofs.W
end
section
namespace Go.Proofs.YtclgihnpjgoddaaDoor.cDLo
open Go Go.Eng Go.RowKit Go.WideShapes Go.ChangeShapes Go.ChangeAt Go.Proofs.W
set_option maxRecDepth 100000
theorem own:ownKnob Tryd.prog.godebug=none:=by kernel_rfl
theorem star : "*"++ "errors.errorString" = "*errors.errorString" := by decide
theorem rowE (u:TypeId) (h:Tryd.prog.typeName? 3 u=some "*errors.errorString"):u=106 :=
 typeName_ptr_named (nm := "errors.errorString") (by rw [star];kernel_rfl) (by kernel_rfl) (by decide) u (by rw [star];exact h)
theorem gE:Tryd.prog.globalNamed "loop.example/wayboard/impl.errPath" = some 0:=by kernel_rfl
theorem gEType:(Tryd.prog.globals[0]?).map (·.type)=some 89:=by kernel_rfl
theorem w_of {W:World} (h:laidMet Tryd.prog Rows.fnDropLostRow.laid W):∃ pb,WP pb W∧W.var? Tryd.prog "loop.example/wayboard/impl.errPath" = some #[errV pb]:=by
 have h0:=h
 have h1:=laidMet.tail h0
 have h2:=laidMet.tail h1
 have h3:=laidMet.tail h2
 obtain ⟨a0,s0,hv0,hc0,hs0,hz0⟩:=laid_sentinel h3 gE gEType Tryd.underlying89 rowE Tryd.underlying106 Tryd.underlying108 rfl rfl Tryd.underlying9 (by kernel_rfl) (by kernel_rfl)
 refine ⟨a0,⟨⟨?_⟩,?_⟩,hv0⟩
 ·exact Lib.tabIs_of_head (g:=1) (by kernel_rfl) (by kernel_rfl) Tryd.underlying127 Tryd.underlying121 (by kernel_rfl) (by kernel_rfl) h2
 ·simpa using World.var?_cell gE hv0 0
theorem contract (H:Type) (enc:TypeId × Value→H) (W:World) (base:Nat) (args:Array Value) (ds gs:List (DataW H)) (before:List MemPlace)
  (hval:∀ (j:Nat) t v,Tryd.f5.params[j]? = some t→args[j]? = some v→Value.okWide Tryd.prog W .any base t v)
  (hW:DataW.Whole enc Tryd.prog Tryd.f5.params.toList Rows.fnDropLostSpec.vars false W args.toList ds gs before) (hL:laidMetH Tryd.prog Rows.fnDropLostRow.laid W) :
  Calls Tryd.prog 5 args W fun e W'=>∃ v,e = .returned v∧Rows.fnDropLostSpec.post enc Tryd.prog Tryd.f5 false true false false W args v W':=by
 have hW':=hW
 obtain ⟨p,q,hA0,hV0,rfl,hfz,hnd⟩:=hW
 have hA:DataW.TrodAll enc Tryd.prog W 0 (fun _=>true) true Tryd.f5.params.toList args.toList ds p:=hA0
 have hV:DataW.TrodVars enc Tryd.prog W (fun _=>true) ["loop.example/wayboard/impl.errPath"] gs q:=hV0
 rw [Tryd.params5] at hA hval
 obtain ⟨v0,vs0,d0,ds0,p0,q0,hargs,rfl,rfl,hd0,r0⟩:=trodAll_cons hA
 obtain ⟨v1,vs1,d1,ds1,p1,q1,rfl,rfl,rfl,hd1,r1⟩:=trodAll_cons r0
 obtain ⟨rfl,rfl,rfl⟩:=trodAll_nil r1
 obtain rfl:args = #[v0,v1]:=by cases args;simp_all
 obtain ⟨pb,hwp,hv0⟩:=w_of hL
 obtain ⟨rfl,rfl⟩:=hV.unique (vars_read1 enc gE gEType Tryd.underlying89 hv0 trivial _)
 obtain ⟨hin0,hback0⟩:=open_arg (hval 0 22 v0 rfl rfl) hd0
 obtain ⟨hin1,hback1⟩:=open_arg (hval 1 22 v1 rfl rfl) hd1
 clear hA0 hV0
 simp only [List.append_nil] at hW'
 refine (law_callsP2 (fnDropLost_ok pb) W hwp v0 v1 hin0 hin1).mono fun e W' ⟨he,hb⟩=>?_
 subst he
 have hv1:W'.var? Tryd.prog "loop.example/wayboard/impl.errPath" = some #[errV pb]:=var_below' hv0 gE hb
 exact ⟨_,rfl,post_below (pa:=p0++(p1++[])) (pv:=[.cell 0 0]) hW' (fun _ _ _=>trodAll_cons_mk (shut_bool Tryd.underlying4 _) trodAll_mk0) (fun sp hsp=>trodAll_cons_mk (hback0 W' hb sp (fun x hx=>hsp x (by simp only [List.mem_append];simp [hx]))) (trodAll_cons_mk (hback1 W' hb sp (fun x hx=>hsp x (by simp only [List.mem_append];simp [hx]))) trodAll_mk0)) (fun sp _=>vars_read1 enc gE gEType Tryd.underlying89 hv1 trivial sp) (by simp)
  hb (ok_one (by kernel_rfl) rfl (okWide_bool_mk Tryd.underlying4 _))⟩
noncomputable def laidWorld (os : Os) : World :=
  let N := (World.settled Tryd.prog os).heap.size
  let w0 := World.holding Tryd.prog os ⟨#[.cells #[.string ⟨#[110, 111, 116, 32, 97, 32, 112, 97, 116, 104]⟩] 108], #[], []⟩
  let put (h : Array Obj) (g : Nat) (cs : Array Value) : Array Obj := h.modify g fun
    | .cells _ t frozen => .cells cs t frozen
    | o => o
  let cellsOf : DataW Unit → Array Value := fun d => match d with
    | .agg ds => (ds.map fun x => match x with | .lit (.int k n) => Value.int k n | _ => .bool false).toArray
    | _ => #[]
  let h0 := put w0.heap 2 (cellsOf Rows.laid_math_bits_deBruijn32tab)
  let h1 := put h0 3 (cellsOf Rows.laid_math_bits_deBruijn64tab)
  let h2 := put h1 1 (cellsOf Rows.laid_internal_strconv_uint64pow10)
  let h3 := put h2 0 #[.iface 106 (.pointer (some ⟨N + 0, 0, none⟩))]
  { w0 with heap := h3 }

theorem laid_met (os:Os) (args:Array Value):laidMet Tryd.prog Rows.fnDropLostRow.laid ((laidWorld os).forCall (fun _ _=>0) ⟨#[],args,[]⟩).memory :=
 laidMet_of_run' 8 (by kernel_rfl) (by kernel_rfl)
theorem witness_row (os:Os) {H:Type} (enc:TypeId × Value→H) :
  (OpenSpec.ofChange Rows.fnDropLostSpec).preRow enc Tryd.prog Tryd.f5 Rows.fnDropLostRow.domain false Rows.fnDropLostRow.laid ((laidWorld os).forCall (fun _ _=>0) ⟨#[],#[.slice none 0 0,.slice none 0 0],[]⟩).memory #[.slice none 0 0,.slice none 0 0] :=
 OpenSpec.preRow_of_B rfl 8 (by kernel_rfl) (by kernel_rfl) (laid_met os _)
theorem lifted (os:Os) (started:os.Started) (H:Type) (enc:TypeId × Value→H) (F:Stop.Interp) :
  ReturnsInHanded {} Tryd.checked os 5 .any ((OpenSpec.ofChange Rows.fnDropLostSpec).preRow enc Tryd.prog Tryd.f5 Rows.fnDropLostRow.domain false Rows.fnDropLostRow.laid) (((OpenSpec.ofChange Rows.fnDropLostSpec).at F).post enc Tryd.prog Tryd.f5 false true false false):=by
 refine returnsInHanded_of_row (C:=Tryd.checked) (s:=OpenSpec.ofChange Rows.fnDropLostSpec) own started (by kernel_rfl) Tryd.func5
  (witness_row_atRef (enc:=enc) (C:=Tryd.checked) false (laidWorld os) #[.slice none 0 0,.slice none 0 0] rfl (by kernel_rfl) (by kernel_rfl) (by kernel_rfl) (witness_row os enc)) ?_
 intro W base args ds gs before hval hW _ _ _ hL hsh _
 exact contract H enc W base args ds gs before hval hW hL
theorem said:Rows.FnDropLostSaid :=
 OpenClaim.holds_of_cond 5 Tryd.f5 rfl rfl rfl rfl rfl rfl rfl ⟨rfl,rfl,rfl,rfl,rfl⟩ rfl rfl rfl rfl rfl (by kernel_rfl) Tryd.func5 (by kernel_rfl)
  (of_decide_eq_true (by kernel_rfl)) (by unfold Func.isWrapper;first | (rw [if_pos (by decide +kernel)];kernel_rfl) | (rw [if_neg (by decide +kernel)];exact ⟨rfl,rfl⟩))
  (fun os started H enc _ F=>by rw [OpenClaim.pre_eq_preRow];exact lifted os started H enc F)
theorem plain (f:FuncId) (fn:Func) (hf:Tryd.pinned.checked.prog.funcNamed "loop.example/wayboard/laws.FnDropLost" = some f) (hfn:Tryd.pinned.checked.prog.funcs[f]? = some fn) :
  true=Tryd.pinned.checked.prog.looks []∧∀ (j:Nat) t,fn.params[j]? = some t→Tryd.pinned.checked.prog.wantsStandIn t=false:=by
 obtain rfl:f=5:=Option.some.inj ((show Tryd.prog.funcNamed "loop.example/wayboard/laws.FnDropLost" = some 5 by kernel_rfl).symm.trans hf) |>.symm
 obtain rfl:fn=Tryd.f5:=(Option.some.inj (Tryd.func5.symm.trans hfn)).symm
 refine ⟨by kernel_rfl,fun j t ht=>?_⟩
 rw [Tryd.params5] at ht
 obtain rfl:t=22:=by simpa using Array.mem_of_getElem? ht
 exact (show Tryd.prog.wantsStandIn 22=false by kernel_rfl)
theorem card:Rows.FnDropLostCardSaid :=
 Claim7.holds_tied_plain_at .later [] _ _ _ _ said (fun _ h=>by cases h) (by kernel_rfl) (fun _ h=>by cases h) fnDropLost_row_tie rfl ⟨rfl,rfl⟩ (by kernel_rfl) rfl plain (by kernel_rfl)
end Go.Proofs.YtclgihnpjgoddaaDoor.cDLo
end
