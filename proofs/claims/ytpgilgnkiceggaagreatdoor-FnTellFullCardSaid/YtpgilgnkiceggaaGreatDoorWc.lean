/- YtpgilgnkiceggaaGreatDoorWc: part of the proof that a house takes no more than its table holds, for every input that the row speaks of (no condition of ours). -/
import Derived.Test.YtpgilgnkiceggaaGreatDoorWb
import Derived.Test.YtpgilgnkiceggaaGreatDoorEc
import Derived.Test.YtpgilgnkiceggaaGreatDoorWa
set_option linter.unusedVariables false
set_option linter.unusedSimpArgs false
section
namespace Go.Proofs.W
open Go Go.Eng Go.RowKit
set_option linter.unusedSimpArgs false
set_option maxRecDepth 100000

/-! what a house tells,handed out -/
def telO (b:Rb) (x:Rt):Option (Rb × Bool) :=
  if ribOk b && (okR x && decide (x.path.head? = some b.h)) then
    some (if !b.up || (decide (atG b.all x.f x.b < 0) && decide (6≤b.all.length)) then (b,false)
     else if decide (0≤atG b.all x.f x.b) then (⟨b.h,b.up,b.all.set (atG b.all x.f x.b).toNat ⟨x,false⟩⟩,true)
     else (⟨b.h,b.up,telL x b.all⟩,true))
  else none
def handT (z:Rb × Bool) (K:AV→List (Nat × List AV)→Prop):Prop :=
  ∀ cap,z.1.all.length≤cap→K (.tup [.agg [iv z.1.h,bv z.1.up,.xs 900 0 z.1.all.length cap 6],bv z.2]) [(4,[iv z.1.h,bv z.1.up,.xs 900 0 z.1.all.length cap 6]),(900,cGs z.1.all++jk ((cap - z.1.all.length) * 6))]
def tlC (b:Rb) (x:Rt) (K:AV→List (Nat × List AV)→Prop):Prop :=
  (telO b x=none→K (.tup [.agg [iv 0,bv false,.nl],bv false]) [(4,[iv 0,bv false,.nl])])∧(∀ z,telO b x=some z→handT z K)
def cTellM:ConM:={
  pre:=fun args m1=>∃ (h:Int) (up:Bool) (l:List Gt) (f b:Int) (p:List Int) (k:Int) (m:List Int),args=[.agg [iv h,bv up,.sl none (grows l)],.agg [iv f,iv b,isl p,iv k,isl m]]∧m1=[]∧(l.length≤1000∧lensG l)∧p.length≤1000∧m.length≤900
  post:=fun args _ r m2=>∀ (h:Int) (up:Bool) (l:List Gt) (f b:Int) (p:List Int) (k:Int) (m:List Int),args=[.agg [iv h,bv up,.sl none (grows l)],.agg [iv f,iv b,isl p,iv k,isl m]]→∀ K:AV→List (Nat × List AV)→Prop,tlC ⟨h,up,l⟩ ⟨f,b,p,k,m⟩ K→K r m2 }
theorem rbrt_inj {h h':Int} {up up':Bool} {l l':List Gt} {f b k f' b' k':Int} {p m p' m':List Int} (e:[AV.agg [iv h,bv up,.sl none (grows l)],.agg [iv f,iv b,isl p,iv k,isl m]]=[AV.agg [iv h',bv up',.sl none (grows l')],.agg [iv f',iv b',isl p',iv k',isl m']]):h=h'∧up=up'∧l=l'∧f=f'∧b=b'∧p=p'∧k=k'∧m=m':=by
  obtain ⟨e1,e2⟩:=List.cons.inj e
  obtain ⟨a,b,c⟩:=rbav_inj (congrArg (fun z=>[z]) e1)
  exact ⟨a,b,c,rav_inj e2⟩
theorem ribTellM_ok:FineM Tryz.prog 12 cTellM:=by
  refine fineM_of [] ms_nil [(37,(cL21,[],[(2,100),(9,200),(35,300)]))] (mm_cons l21Copy_ok (by decide) mm_nil) [58,88,107,117] [] ex_nil (T:=TT) Tryz.func12 rfl Tryz.ntmps12 (by rw [Tryz.results12]) rfl rfl tt gs_nil (ds_cons sRibOk_ok (ds_cons sRtOk_ok (ds_cons l21At_ok (ds_cons l4Copy_ok (ds_cons l1Cmp_ok ds_nil))))) ?_
  rintro args m1 ⟨h0,up,l,xf,xb,p,xk,m,rfl,rfl,⟨hll,hlen⟩,hpl,hml⟩
  refine ⟨by simp,fun E hE Q hQ=>?_⟩
  refine Aw_st hE [2,3,4] [2,3,4,6,58,88,107,117,229,329] fun K hK=>?_
  simp only [go_sem,reduceIte,Nat.reduceLT,Nat.reduceLeDiff,Nat.reduceEqDiff,Nat.reduceAdd,Nat.reduceMul,Nat.reduceSub,Nat.reduceBEq,Int.reduceToNat,List.reduceReplicate,reduceCtorEq]
  refine hK _ ?_; clear hK K
  refine Aw_sq fun B1 hB1 hR1 hX1=>?_
  refine Aw_sd hE [2,3,4,26] [2,3,4,6,58,88,107,117,229,329] 6 (by kernel_rfl) fun K hK=>?_
  simp only [go_sem,reduceIte,Nat.reduceLT,Nat.reduceLeDiff,Nat.reduceEqDiff,Nat.reduceAdd,Nat.reduceMul,Nat.reduceSub,Nat.reduceBEq,Int.reduceToNat,List.reduceReplicate,reduceCtorEq]
  have hfal:(ribOk ⟨h0,up,l⟩ && (okR ⟨xf,xb,p,xk,m⟩ && decide (p.head? = some h0)))=false→telO ⟨h0,up,l⟩ ⟨xf,xb,p,xk,m⟩=none:=fun e=>by
    simp only [telO,e,Bool.false_eq_true,if_false]
  refine ⟨⟨by omega,hlen⟩,fun hg3=>?_,fun hg3=>⟨⟨by omega,by omega⟩,fun hg4=>?_,fun hg4=>?_⟩⟩
  · have hok:ribOk ⟨h0,up,l⟩=false:=by simpa using hg3
    have hO:=hfal (by rw [hok]; rfl)
    refine hK _ (Aw_yes rfl ?_)
    refine Aw_st hE [4,5] [4] fun K hK=>?_
    simp only [go_sem,reduceIte,Nat.reduceLT,Nat.reduceLeDiff,Nat.reduceEqDiff,Nat.reduceAdd,Nat.reduceMul,Nat.reduceSub,Nat.reduceBEq,Int.reduceToNat,List.reduceReplicate,reduceCtorEq]
    refine hK _ (Aw_ret (hR1 _ (hQ _ ?_)))
    simp only [go_sem,reduceIte,Nat.reduceLT,Nat.reduceLeDiff,Nat.reduceEqDiff,Nat.reduceAdd,Nat.reduceMul,Nat.reduceSub,Nat.reduceBEq,Int.reduceToNat,List.reduceReplicate,reduceCtorEq]
    intro h' up' l' f' b' q' k' m' he K' hK'
    obtain ⟨rfl,rfl,rfl,rfl,rfl,rfl,rfl,rfl⟩:=rbrt_inj he
    exact hK'.1 hO
  · have hok:okR ⟨xf,xb,p,xk,m⟩=false:=by simpa [okR] using hg4
    have hO:=hfal (by rw [hok]; simp)
    refine hK _ (Aw_yes rfl ?_)
    refine Aw_st hE [4,5] [4] fun K hK=>?_
    simp only [go_sem,reduceIte,Nat.reduceLT,Nat.reduceLeDiff,Nat.reduceEqDiff,Nat.reduceAdd,Nat.reduceMul,Nat.reduceSub,Nat.reduceBEq,Int.reduceToNat,List.reduceReplicate,reduceCtorEq]
    refine hK _ (Aw_ret (hR1 _ (hQ _ ?_)))
    simp only [go_sem,reduceIte,Nat.reduceLT,Nat.reduceLeDiff,Nat.reduceEqDiff,Nat.reduceAdd,Nat.reduceMul,Nat.reduceSub,Nat.reduceBEq,Int.reduceToNat,List.reduceReplicate,reduceCtorEq]
    intro h' up' l' f' b' q' k' m' he K' hK'
    obtain ⟨rfl,rfl,rfl,rfl,rfl,rfl,rfl,rfl⟩:=rbrt_inj he
    exact hK'.1 hO
  · have hok1:ribOk ⟨h0,up,l⟩=true:=by simpa using hg3
    have hok2:okR ⟨xf,xb,p,xk,m⟩=true:=by simpa [okR] using hg4
    have hpp:∃ q p',p=q::p':=by
      cases p with
      | nil=>simp [rtOk] at hg4
      | cons q p'=>exact ⟨q,p',rfl⟩
    obtain ⟨q,p',hpq⟩:=hpp
    have hp0:(rows p)[0]? = some [.v (.int .i64 q)]:=by rw [hpq]; rfl
    simp only [go_sem,reduceIte,Nat.reduceLT,Nat.reduceLeDiff,Nat.reduceEqDiff,Nat.reduceAdd,Nat.reduceMul,Nat.reduceSub,Nat.reduceBEq,Int.reduceToNat,List.reduceReplicate,reduceCtorEq,hp0]
    refine ⟨by omega,?_⟩
    refine hK _ (Aw_cond rfl (fun hc5=>?_) (fun hc5=>?_))
    · have hq:¬ q=h0:=by simpa using hc5
      have hO:=hfal (by rw [hpq]; simp [hq])
      refine Aw_st hE [4,5] [4] fun K hK=>?_
      simp only [go_sem,reduceIte,Nat.reduceLT,Nat.reduceLeDiff,Nat.reduceEqDiff,Nat.reduceAdd,Nat.reduceMul,Nat.reduceSub,Nat.reduceBEq,Int.reduceToNat,List.reduceReplicate,reduceCtorEq]
      refine hK _ (Aw_ret (hR1 _ (hQ _ ?_)))
      simp only [go_sem,reduceIte,Nat.reduceLT,Nat.reduceLeDiff,Nat.reduceEqDiff,Nat.reduceAdd,Nat.reduceMul,Nat.reduceSub,Nat.reduceBEq,Int.reduceToNat,List.reduceReplicate,reduceCtorEq]
      intro h' up' l' f' b' q' k' m' he K' hK'
      obtain ⟨rfl,rfl,rfl,rfl,rfl,rfl,rfl,rfl⟩:=rbrt_inj he
      exact hK'.1 hO
    · have hq:q=h0:=by simpa using hc5
      have htr:telO ⟨h0,up,l⟩ ⟨xf,xb,p,xk,m⟩=some (if !up || (decide (atG l xf xb < 0) && decide (6≤l.length)) then ((⟨h0,up,l⟩:Rb),false)
     else if decide (0≤atG l xf xb) then (⟨h0,up,l.set (atG l xf xb).toNat ⟨⟨xf,xb,p,xk,m⟩,false⟩⟩,true)
     else (⟨h0,up,telL ⟨xf,xb,p,xk,m⟩ l⟩,true)):=by
        have hd:decide (p.head? = some h0)=true:=by rw [hpq,hq]; simp
        simp only [telO,hok1,hok2,hd,Bool.and_self,if_true]
      refine Aw_skip (hB1 _ ?_)
      refine Aw_sqJ (fun cap:Nat=>⟨120,[(2,.loc 2 0),(3,.loc 3 0),(4,.loc 4 0),(6,.loc 6 0)],[(2,[iv h0,bv up,.sl none (grows l)]),(3,[iv xf,iv xb,.sl none (rows p),iv xk,.sl none (rows m)]),(4,[iv 0,bv false,.nl]),(6,[iv h0,bv up,.xs 329 0 l.length cap 6]),(329,cGs l++List.replicate ((cap - l.length) * 6) .junk)],0⟩) (fun cap=>l.length≤cap) (fun cap hcap=>?_) fun B2 hN2 hR2 hX2=>?_
      rotate_left
      · refine Aw_tx hE [2,3,4,6] [2,3,4,6,58,88,107,117,229,329] fun K hK=>?_
        simp only [go_sem,reduceIte,Nat.reduceLT,Nat.reduceLeDiff,Nat.reduceEqDiff,Nat.reduceAdd,Nat.reduceMul,Nat.reduceSub,Nat.reduceBEq,Int.reduceToNat,List.reduceReplicate,reduceCtorEq]
        simp only [go_sem,reduceIte,Nat.reduceLT,Nat.reduceLeDiff,Nat.reduceEqDiff,Nat.reduceAdd,Nat.reduceMul,Nat.reduceSub,Nat.reduceBEq,Int.reduceToNat,List.reduceReplicate,reduceCtorEq,cGs_mvn,cGs_strip]
        refine ⟨by decide,⟨hll,hlen⟩,fun hl0=>?_,fun hl0 cap hcap=>?_⟩
        · refine hK _ (hN2 0 _ (by rw [hl0]; exact Nat.le_refl _) ?_)
          subst hl0
          exact Le_E (Le_bx 229 329 (by decide) (by decide) rfl)
        · refine hK _ (hN2 cap _ hcap ?_)
          exact Le_E (Le_kb [2,3,4,6,329] rfl)
      · refine Aw_st hE [2,3,4,6,7] [2,3,4,6,58,88,107,117,229,329] fun K hK=>?_
        simp only [go_sem,reduceIte,Nat.reduceLT,Nat.reduceLeDiff,Nat.reduceEqDiff,Nat.reduceAdd,Nat.reduceMul,Nat.reduceSub,Nat.reduceBEq,Int.reduceToNat,List.reduceReplicate,reduceCtorEq,cGs_nt,cGs_stripF]
        refine ⟨by omega,?_⟩
        refine hK _ ?_; clear hK K
        refine Aw_sq fun B6 hB6 hR6 hX6=>?_
        refine Aw_st hE [2,3,4,6,7,46] [2,3,4,6,58,88,107,117,229,329] fun K hK=>?_
        simp only [go_sem,reduceIte,Nat.reduceLT,Nat.reduceLeDiff,Nat.reduceEqDiff,Nat.reduceAdd,Nat.reduceMul,Nat.reduceSub,Nat.reduceBEq,Int.reduceToNat,List.reduceReplicate,reduceCtorEq,cGs_nt,cGs_stripF]
        refine ⟨fun hg8=>?_,fun hg8=>?_⟩
        · have hO:=htr
          rw [if_pos (by rw [hg8]; rfl)] at hO
          refine hK _ (Aw_yes rfl ?_)
          refine Aw_st hE [4,5] [2,3,4,6,58,88,107,117,229,329] fun K hK=>?_
          simp only [go_sem,reduceIte,Nat.reduceLT,Nat.reduceLeDiff,Nat.reduceEqDiff,Nat.reduceAdd,Nat.reduceMul,Nat.reduceSub,Nat.reduceBEq,Int.reduceToNat,List.reduceReplicate,reduceCtorEq,cGs_nt,cGs_stripF]
          refine hK _ ?_
          refine Aw.leE (Le_E (Le_swb _ 329 900 (by decide) (by decide))) ?_
          simp only [St.swb,swbσ,swbm,AV.swb,AV.swbAll,swp,swbAll_app,swbAll_jk,gcs_swb,cGs_swb,Nat.reduceEqDiff,if_true,if_false,reduceIte]
          refine Aw.leE (Le_E (Le_ks [4,5] [4,900])) ?_
          refine Aw_ret (hR6 _ (hQ _ ?_))
          simp only [go_sem,reduceIte,Nat.reduceLT,Nat.reduceLeDiff,Nat.reduceEqDiff,Nat.reduceAdd,Nat.reduceMul,Nat.reduceSub,Nat.reduceBEq,Int.reduceToNat,List.reduceReplicate,reduceCtorEq,cGs_nt,cGs_stripF]
          intro h' up' l' f' b' q' k' m' he K' hK'
          obtain ⟨rfl,rfl,rfl,rfl,rfl,rfl,rfl,rfl⟩:=rbrt_inj he
          have hz:=hK'.2 _ hO cap (by simp only [List.length_set,List.length_append,List.length_singleton,List.length_cons,List.length_nil]; omega)
          simp only [List.length_set,List.length_append,List.length_singleton,List.length_cons,List.length_nil] at hz
          exact hz
        · repeat refine ⟨by first|omega|(and_intros<;>first|omega|exact rows_row _|decide|(simp<;>omega))|fail,?_⟩
          refine ⟨fun hg9=>?_,fun hg9=>?_⟩
          · repeat refine ⟨by first|omega|(and_intros<;>first|omega|exact rows_row _|decide|(simp<;>omega))|fail,?_⟩
            refine hK _ (Aw_cond rfl (fun hc10=>?_) (fun hc10=>?_))
            · have hO:=htr
              rw [if_pos (by simp only [decide_eq_true_eq] at hg9 hc10; simp only [Bool.or_eq_true,Bool.and_eq_true,decide_eq_true_eq]; exact .inr ⟨hg9,by omega⟩)] at hO
              refine Aw_st hE [4,5] [2,3,4,6,58,88,107,117,229,329] fun K hK=>?_
              simp only [go_sem,reduceIte,Nat.reduceLT,Nat.reduceLeDiff,Nat.reduceEqDiff,Nat.reduceAdd,Nat.reduceMul,Nat.reduceSub,Nat.reduceBEq,Int.reduceToNat,List.reduceReplicate,reduceCtorEq,cGs_nt,cGs_stripF]
              refine hK _ ?_
              refine Aw.leE (Le_E (Le_swb _ 329 900 (by decide) (by decide))) ?_
              simp only [St.swb,swbσ,swbm,AV.swb,AV.swbAll,swp,swbAll_app,swbAll_jk,gcs_swb,cGs_swb,Nat.reduceEqDiff,if_true,if_false,reduceIte]
              refine Aw.leE (Le_E (Le_ks [4,5] [4,900])) ?_
              refine Aw_ret (hR6 _ (hQ _ ?_))
              simp only [go_sem,reduceIte,Nat.reduceLT,Nat.reduceLeDiff,Nat.reduceEqDiff,Nat.reduceAdd,Nat.reduceMul,Nat.reduceSub,Nat.reduceBEq,Int.reduceToNat,List.reduceReplicate,reduceCtorEq,cGs_nt,cGs_stripF]
              intro h' up' l' f' b' q' k' m' he K' hK'
              obtain ⟨rfl,rfl,rfl,rfl,rfl,rfl,rfl,rfl⟩:=rbrt_inj he
              have hz:=hK'.2 _ hO cap (by simp only [List.length_set,List.length_append,List.length_singleton,List.length_cons,List.length_nil]; omega)
              simp only [List.length_set,List.length_append,List.length_singleton,List.length_cons,List.length_nil] at hz
              exact hz
            · have h9:atG l xf xb < 0:=by simpa using hg9
              have h10:¬ 6≤l.length:=by simp only [decide_eq_false_iff_not] at hc10; omega
              have hO:=htr
              rw [if_neg (by rw [hg8]; simp [h10]),if_neg (by simp only [decide_eq_true_eq]; omega)] at hO
              refine Aw_skip (hB6 _ ?_)
              refine Aw_sq fun B11 hB11 hR11 hX11=>?_
              refine Aw_st hE [2,3,4,6,7,49] [2,3,4,6,58,88,107,117,229,329] fun K hK=>?_
              simp only [go_sem,reduceIte,Nat.reduceLT,Nat.reduceLeDiff,Nat.reduceEqDiff,Nat.reduceAdd,Nat.reduceMul,Nat.reduceSub,Nat.reduceBEq,Int.reduceToNat,List.reduceReplicate,reduceCtorEq,cGs_nt,cGs_stripF]
              refine hK _ (Aw_cond rfl (fun hc12=>?_) (fun hc12=>?_))
              · simp only [decide_eq_true_eq] at hc12; omega
              · refine Aw_skip (hB11 _ ?_)
                refine Aw_st hE [2,3,4,6] [2,3,4,6,58] fun K hK=>?_
                simp only [go_sem,reduceIte,Nat.reduceLT,Nat.reduceLeDiff,Nat.reduceEqDiff,Nat.reduceAdd,Nat.reduceMul,Nat.reduceSub,Nat.reduceBEq,Int.reduceToNat,List.reduceReplicate,reduceCtorEq]
                refine hK _ ?_; clear hK K
                refine Aw_st hE [2,3,4,6,8] [2,3,4,6,58,88,107,117,229,329] fun K hK=>?_
                simp only [go_sem,reduceIte,Nat.reduceLT,Nat.reduceLeDiff,Nat.reduceEqDiff,Nat.reduceAdd,Nat.reduceMul,Nat.reduceSub,Nat.reduceBEq,Int.reduceToNat,List.reduceReplicate,reduceCtorEq]
                refine hK _ ?_; clear hK K
                refine Aw_sq fun B13 hB13 hR13 hX13=>?_
                refine Aw_st hE [2,3,4,6,8,9] [2,3,4,6,58,88,107,117,229,329] fun K hK=>?_
                simp only [go_sem,reduceIte,Nat.reduceLT,Nat.reduceLeDiff,Nat.reduceEqDiff,Nat.reduceAdd,Nat.reduceMul,Nat.reduceSub,Nat.reduceBEq,Int.reduceToNat,List.reduceReplicate,reduceCtorEq]
                refine hK _ ?_; clear hK K
                refine Aw_bk fun B14 hN14 hE14 hR14 hX14=>?_
                generalize hx:(⟨xf,xb,p,xk,m⟩:Rt)=x at hO
                refine Aw_lp (fun i:Nat × Nat=>telS h0 up none l xf xb none p xk none m 0 i.1 (telG x (l.take i.1)).2 i.2 (telG x (l.take i.1)).1) (fun i=>i.1≤l.length∧((telG x (l.take i.1)).1≠[]→(telG x (l.take i.1)).1.length≤i.2)) (fun i=>l.length - i.1) (0,0) (Le.refl _) ⟨by simp,fun h=>absurd rfl h⟩ fun i hi B15 hN15 hR15 hX15=>?_
                obtain ⟨i,c⟩:=i
                obtain ⟨hi1,hi2⟩:=hi
                simp only at hi1 hi2
                refine Aw_sq fun B16 hB16 hR16 hX16=>?_
                have hol:=telG_len x (l.take i)
                have hot:(l.take i).length≤i:=by rw [List.length_take]; omega
                have hput:∀ z:List Gt × Bool,telG x (l.take i)=z→(telG x (l.take i)).1=z.1∧(telG x (l.take i)).2=z.2:=fun z e=>by rw [e]; exact ⟨rfl,rfl⟩
                generalize ho:telG x (l.take i)=s at *
                obtain ⟨o,put⟩:=s
                simp only at hi2 hol ⊢
                by_cases hoe:o=[]
                · subst hoe
                  simp only [telS]
                  refine Aw_st hE [2,3,4,6,8,9,64] [2,3,4,6,58,88,107,117,229,329] fun K hK=>?_
                  simp only [go_sem,reduceIte,Nat.reduceLT,Nat.reduceLeDiff,Nat.reduceEqDiff,Nat.reduceAdd,Nat.reduceMul,Nat.reduceSub,Nat.reduceBEq,Int.reduceToNat,List.reduceReplicate,reduceCtorEq]
                  refine hK _ (Aw_cond rfl (fun hc17=>?_) (fun hc17=>?_))
                  · simp only [decide_eq_true_eq] at hc17
                    have hil:i < l.length:=by omega
                    have hget:=grows_get l i hil
                    have hln:=hlen _ (List.getElem_mem hil)
                    have htk:telG x (l.take (i + 1))=telStep x (telG x (l.take i)) l[i]:=by rw [List.take_succ_eq_append_getElem hil,telG_snoc]
                    rw [ho] at htk
                    generalize l[i]=g at hget hln htk
                    obtain ⟨⟨rf,rb,gp,rk,gm⟩,old⟩:=g
                    simp only at hln
                    refine Aw_skip (hB16 _ ?_)
                    refine Aw_sq fun B18 hB18 hR18 hX18=>?_
                    refine Aw_bk fun B19 hN19 hE19 hR19 hX19=>?_
                    refine Aw_sqJ (fun q:Bool × List Gt × Nat=>telS h0 up none l xf xb none p xk none m 0 i q.1 q.2.2 q.2.1) (fun q=>(q.2.1≠[]→q.2.1.length≤q.2.2)∧q.2.1.length≤2000∧telG x (l.take (i + 1))=(q.2.1++[⟨⟨rf,rb,gp,rk,gm⟩,old⟩],q.1)) (fun q hq=>?_) fun B20 hN20 hR20 hX20=>?_
                    rotate_left
                    · refine Aw_se hE [0,1,2,3,4,5,6,7,8,9,10,11,12,13,14] [0,1,3,7,15,7,63,127,255,511,7,1031,4095,8191,16383] [2,3,4,6,8,9,81] [2,3,4,6,58,88,107,117,229,329] (by kernel_rfl) fun K hK=>?_
                      simp only [go_sem,reduceIte,Nat.reduceLT,Nat.reduceLeDiff,Nat.reduceEqDiff,Nat.reduceAdd,Nat.reduceMul,Nat.reduceSub,Nat.reduceBEq,Int.reduceToNat,List.reduceReplicate,reduceCtorEq,hget]
                      have hpo:([]:List Gt)≠[]→([]:List Gt).length≤c:=fun h=>absurd rfl h
                      refine ⟨fun hg22=>⟨by omega,?_⟩,fun hg22=>?_⟩
                      · have hp:put=false:=by simpa using hg22
                        refine hK _ (Aw_cond rfl (fun hc23=>?_) (fun hc23=>?_))
                        · have htk2:telG x (l.take (i + 1))=([]++[⟨x,false⟩]++[⟨⟨rf,rb,gp,rk,gm⟩,old⟩],true):=by
                            rw [htk,← hx]; unfold telStep; exact if_pos (by rw [hp]; simpa using hc23)
                          refine Aw_se hE [0,1,2,3,4,5,6,7,8] [0,1,0,4,12,28,63,127,255] [2,3,4,6,9] [2,3,4,6,58,88,107,117,229,329] (by kernel_rfl) fun K hK=>?_
                          simp only [go_sem,reduceIte,Nat.reduceLT,Nat.reduceLeDiff,Nat.reduceEqDiff,Nat.reduceAdd,Nat.reduceMul,Nat.reduceSub,Nat.reduceBEq,Int.reduceToNat,List.reduceReplicate,reduceCtorEq,gcs_flat,gcs_leaf,gcs_strip]
                          refine ⟨⟨by omega,by omega⟩,by simp,fun cap hcap=>?_⟩
                          refine hK _ ?_; clear hK K
                          refine Aw_tx hE [2,3,4,6,8,9] [2,3,4,6,58,88,107,117,229,329] fun K hK=>?_
                          simp only [go_sem,reduceIte,Nat.reduceLT,Nat.reduceLeDiff,Nat.reduceEqDiff,Nat.reduceAdd,Nat.reduceMul,Nat.reduceSub,Nat.reduceBEq,Int.reduceToNat,List.reduceReplicate,reduceCtorEq]
                          refine hK _ (hN20 (true,[⟨x,false⟩],cap) _ ⟨fun _=>hcap,by simp,htk2⟩ ?_)
                          rw [telS_some (by simp),← hx]
                          refine (Le_E (Le_swb _ 88 107 (by decide) (by decide))).trans ?_
                          simp only [St.swb,swbσ,swbm,AV.swb,AV.swbAll,swp,swbAll_app,swbAll_jk,gcs_swb,cGs_swb,Nat.reduceEqDiff,if_true,if_false,reduceIte]
                          exact Le_E (Le_ks [2,3,4,6,8,9] [2,3,4,6,58,107])
                        · have htk2:telG x (l.take (i + 1))=([]++[⟨⟨rf,rb,gp,rk,gm⟩,old⟩],put):=by
                            rw [htk,← hx]; unfold telStep; exact if_neg (by rw [hp]; simpa using hc23)
                          refine Aw_skip (hN20 (put,[],c) _ ⟨hpo,by simp only; omega,htk2⟩ ?_)
                          simp only [telS]
                          exact Le_E (Le_ks [2,3,4,6,8,9] [2,3,4,6,58,107])
                      · have hp:put=true:=by simpa using hg22
                        have htk2:telG x (l.take (i + 1))=([]++[⟨⟨rf,rb,gp,rk,gm⟩,old⟩],put):=by
                          rw [htk,← hx]; unfold telStep; exact if_neg (by rw [hp]; simp)
                        refine hK _ (Aw_no rfl ?_)
                        refine Aw_skip (hN20 (put,[],c) _ ⟨hpo,by simp only; omega,htk2⟩ ?_)
                        simp only [telS]
                        exact Le_E (Le_ks [2,3,4,6,8,9] [2,3,4,6,58,107])
                    · obtain ⟨put',o',c'⟩:=q
                      obtain ⟨hq1,hq2,hq3⟩:=hq
                      simp only at hq1 hq2 hq3 ⊢
                      by_cases hoe':o'=[]
                      · subst hoe'
                        simp only [telS]
                        refine Aw_te hE [0,2,4,9,11,1,3,5,6,7,8,10,12,13,14,15,16,17,18,19] [0,1,0,4,0,28,60,124,252,0,512,0,3584,7680,15872,32764,65532,131071,262143,524287] [2,3,4,6,8,9] [2,3,4,6,58,88,107,117,229,329] (by kernel_rfl) fun K hK=>?_
                        simp only [go_sem,reduceIte,Nat.reduceLT,Nat.reduceLeDiff,Nat.reduceEqDiff,Nat.reduceAdd,Nat.reduceMul,Nat.reduceSub,Nat.reduceBEq,Int.reduceToNat,List.reduceReplicate,reduceCtorEq,hget,gcs_flat,gcs_leaf,gcs_strip]
                        refine ⟨by omega,⟨by omega,by omega⟩,by omega,by simp,fun cap hcap=>?_⟩
                        refine hK _ (hN19 _ (hB18 _ ?_))
                        refine Aw_tx hE [2,3,4,6,8,9] [2,3,4,6,58,88,107,117,229,329] fun K hK=>?_
                        simp only [go_sem,reduceIte,Nat.reduceLT,Nat.reduceLeDiff,Nat.reduceEqDiff,Nat.reduceAdd,Nat.reduceMul,Nat.reduceSub,Nat.reduceBEq,Int.reduceToNat,List.reduceReplicate,reduceCtorEq]
                        repeat refine ⟨by first|omega|(and_intros<;>first|omega|exact rows_row _|decide|(simp<;>omega))|fail,?_⟩
                        refine hK _ (hN15 (i + 1,cap) _ ⟨by simp only; omega,fun h=>by simp only [hq3]; exact hcap⟩ (by simp only; omega) ?_)
                        simp only [hq3]
                        rw [telS_some (by simp)]
                        exact Le.refl _
                      · rw [telS_some hoe']
                        have hq1:=hq1 hoe'
                        have hin:=cGs_in o' ⟨⟨rf,rb,gp,rk,gm⟩,old⟩ (c' - o'.length)
                        have htk3:=cGs_take o' (jk ((c' - o'.length) * 6))
                        refine Aw_te hE [0,2,4,9,11,1,3,5,6,7,8,10,12,13,14,15,16,17,18,19] [0,1,0,4,0,28,60,124,252,0,512,0,3584,7680,15872,32764,65532,131071,262143,524287] [2,3,4,6,8,9] [2,3,4,6,58,88,107,117,229,329] (by kernel_rfl) fun K hK=>?_
                        simp only [go_sem,reduceIte,Nat.reduceLT,Nat.reduceLeDiff,Nat.reduceEqDiff,Nat.reduceAdd,Nat.reduceMul,Nat.reduceSub,Nat.reduceBEq,Int.reduceToNat,List.reduceReplicate,reduceCtorEq,hget,gcs_flat,gcs_leaf,gcs_strip,htk3,cGs_strip,cGs_nt,cGs_stripF]
                        refine ⟨by omega,⟨by omega,by omega⟩,by omega,⟨by simp,by omega,by rw [List.length_append,cGs_len,List.length_replicate]; omega⟩,fun hle=>?_,fun hgt cap hcap=>?_⟩
                        · rw [hin (by omega)]
                          refine hK _ (hN19 _ (hB18 _ ?_))
                          refine Aw_tx hE [2,3,4,6,8,9] [2,3,4,6,58,88,107,117,229,329] fun K hK=>?_
                          simp only [go_sem,reduceIte,Nat.reduceLT,Nat.reduceLeDiff,Nat.reduceEqDiff,Nat.reduceAdd,Nat.reduceMul,Nat.reduceSub,Nat.reduceBEq,Int.reduceToNat,List.reduceReplicate,reduceCtorEq,cGs_nt,cGs_stripF]
                          repeat refine ⟨by first|omega|(and_intros<;>first|omega|exact rows_row _|decide|(simp<;>omega))|fail,?_⟩
                          refine hK _ (hN15 (i + 1,c') _ ⟨by simp only; omega,fun h=>by simp only [hq3,List.length_append,List.length_singleton]; omega⟩ (by simp only; omega) ?_)
                          simp only [hq3]
                          rw [telS_some (by simp),List.length_append,List.length_singleton,show c' - o'.length - 1=c' - (o'.length + 1) by omega]
                          exact Le.refl _
                        · refine hK _ (hN19 _ (hB18 _ ?_))
                          refine Aw_tx hE [2,3,4,6,8,9] [2,3,4,6,58,88,107,117,229,329] fun K hK=>?_
                          simp only [go_sem,reduceIte,Nat.reduceLT,Nat.reduceLeDiff,Nat.reduceEqDiff,Nat.reduceAdd,Nat.reduceMul,Nat.reduceSub,Nat.reduceBEq,Int.reduceToNat,List.reduceReplicate,reduceCtorEq,cGs_nt,cGs_stripF]
                          repeat refine ⟨by first|omega|(and_intros<;>first|omega|exact rows_row _|decide|(simp<;>omega))|fail,?_⟩
                          refine hK _ (hN15 (i + 1,cap) _ ⟨by simp only; omega,fun h=>by simp only [hq3,List.length_append,List.length_singleton]; omega⟩ (by simp only; omega) ?_)
                          simp only [hq3]
                          rw [telS_some (by simp),List.length_append,List.length_singleton,cGs_app]
                          simp only [cGs,List.append_nil]
                          exact Le.refl _
                  · simp only [decide_eq_false_iff_not] at hc17
                    have hil:i=l.length:=by omega
                    subst hil
                    rw [List.take_length] at ho
                    refine Aw_exit (hX16 _ _ (hX15 _ _ (hE14 _ (hB13 _ ?_))))
                    refine Aw_sq fun B24 hB24 hR24 hX24=>?_
                    refine Aw_st hE [3,4,6,110] [2,3,4,6,58,88,107,117,229,329] fun K hK=>?_
                    simp only [go_sem,reduceIte,Nat.reduceLT,Nat.reduceLeDiff,Nat.reduceEqDiff,Nat.reduceAdd,Nat.reduceMul,Nat.reduceSub,Nat.reduceBEq,Int.reduceToNat,List.reduceReplicate,reduceCtorEq]
                    refine hK _ (Aw_cond rfl (fun hc25=>?_) (fun hc25=>?_))
                    · have hp:put=false:=by simpa using hc25
                      have hT:telL x l=[]++[⟨⟨xf,xb,p,xk,m⟩,false⟩]:=by unfold telL; rw [ho,hp,hx]; rfl
                      rw [hT] at hO
                      refine Aw_te hE [0,1,2,3,4,5,6,7,8] [0,1,0,4,12,28,63,127,255] [4,6] [2,3,4,6,58,88,107,117,229,329] (by kernel_rfl) fun K hK=>?_
                      simp only [go_sem,reduceIte,Nat.reduceLT,Nat.reduceLeDiff,Nat.reduceEqDiff,Nat.reduceAdd,Nat.reduceMul,Nat.reduceSub,Nat.reduceBEq,Int.reduceToNat,List.reduceReplicate,reduceCtorEq,gcs_flat,gcs_leaf,gcs_strip]
                      refine ⟨⟨by omega,by omega⟩,by simp,fun cap hcap=>?_⟩
                      refine hK _ (hB24 _ ?_)
                      refine Aw_st hE [4,5] [2,3,4,6,58,88,107,117,229,329] fun K hK=>?_
                      simp only [go_sem,reduceIte,Nat.reduceLT,Nat.reduceLeDiff,Nat.reduceEqDiff,Nat.reduceAdd,Nat.reduceMul,Nat.reduceSub,Nat.reduceBEq,Int.reduceToNat,List.reduceReplicate,reduceCtorEq]
                      refine hK _ ?_
                      refine Aw.leE (Le_E (Le_swb _ 117 900 (by decide) (by decide))) ?_
                      simp only [St.swb,swbσ,swbm,AV.swb,AV.swbAll,swp,swbAll_app,swbAll_jk,gcs_swb,cGs_swb,Nat.reduceEqDiff,if_true,if_false,reduceIte]
                      refine Aw.leE (Le_E (Le_ks [4,5] [4,900])) ?_
                      refine Aw_ret (hQ _ ?_)
                      simp only [go_sem,reduceIte,Nat.reduceLT,Nat.reduceLeDiff,Nat.reduceEqDiff,Nat.reduceAdd,Nat.reduceMul,Nat.reduceSub,Nat.reduceBEq,Int.reduceToNat,List.reduceReplicate,reduceCtorEq,cGs_nt,cGs_stripF]
                      intro h' up' l' f' b' q' k' m' he K' hK'
                      obtain ⟨rfl,rfl,rfl,rfl,rfl,rfl,rfl,rfl⟩:=rbrt_inj he
                      rw [← hx] at hO
                      have hz:=hK'.2 _ hO cap (by simp only [List.length_set,List.length_append,List.length_singleton,List.length_cons,List.length_nil]; omega)
                      simp only [List.length_set,List.length_append,List.length_singleton,List.length_cons,List.length_nil] at hz
                      exact hz
                    · have hp:put=true:=by simpa using hc25
                      have hT:telL x l=[]:=by unfold telL; rw [ho,hp]; rfl
                      rw [hT] at hO
                      refine Aw_skip (hB24 _ ?_)
                      refine Aw_st hE [4,5] [2,3,4,6,58,88,107,117,229,329] fun K hK=>?_
                      simp only [go_sem,reduceIte,Nat.reduceLT,Nat.reduceLeDiff,Nat.reduceEqDiff,Nat.reduceAdd,Nat.reduceMul,Nat.reduceSub,Nat.reduceBEq,Int.reduceToNat,List.reduceReplicate,reduceCtorEq]
                      refine hK _ ?_
                      refine Aw.leE (Le_E (Le_swb _ 58 900 (by decide) (by decide))) ?_
                      simp only [St.swb,swbσ,swbm,AV.swb,AV.swbAll,swp,swbAll_app,swbAll_jk,gcs_swb,cGs_swb,Nat.reduceEqDiff,if_true,if_false,reduceIte]
                      refine Aw.leE (Le_E (Le_ks [4,5] [4,900])) ?_
                      refine Aw_ret (hQ _ ?_)
                      simp only [go_sem,reduceIte,Nat.reduceLT,Nat.reduceLeDiff,Nat.reduceEqDiff,Nat.reduceAdd,Nat.reduceMul,Nat.reduceSub,Nat.reduceBEq,Int.reduceToNat,List.reduceReplicate,reduceCtorEq,cGs_nt,cGs_stripF]
                      intro h' up' l' f' b' q' k' m' he K' hK'
                      obtain ⟨rfl,rfl,rfl,rfl,rfl,rfl,rfl,rfl⟩:=rbrt_inj he
                      rw [← hx] at hO
                      have hz:=hK'.2 _ hO 0 (by simp only [List.length_set,List.length_append,List.length_singleton,List.length_cons,List.length_nil]; omega)
                      simp only [List.length_set,List.length_append,List.length_singleton,List.length_cons,List.length_nil] at hz
                      exact hz
                · rw [telS_some hoe]
                  have hi2:=hi2 hoe
                  refine Aw_st hE [2,3,4,6,8,9,64] [2,3,4,6,58,88,107,117,229,329] fun K hK=>?_
                  simp only [go_sem,reduceIte,Nat.reduceLT,Nat.reduceLeDiff,Nat.reduceEqDiff,Nat.reduceAdd,Nat.reduceMul,Nat.reduceSub,Nat.reduceBEq,Int.reduceToNat,List.reduceReplicate,reduceCtorEq,cGs_nt,cGs_stripF]
                  refine hK _ (Aw_cond rfl (fun hc17=>?_) (fun hc17=>?_))
                  · simp only [decide_eq_true_eq] at hc17
                    have hil:i < l.length:=by omega
                    have hget:=grows_get l i hil
                    have hln:=hlen _ (List.getElem_mem hil)
                    have htk:telG x (l.take (i + 1))=telStep x (telG x (l.take i)) l[i]:=by rw [List.take_succ_eq_append_getElem hil,telG_snoc]
                    rw [ho] at htk
                    generalize l[i]=g at hget hln htk
                    obtain ⟨⟨rf,rb,gp,rk,gm⟩,old⟩:=g
                    simp only at hln
                    refine Aw_skip (hB16 _ ?_)
                    refine Aw_sq fun B18 hB18 hR18 hX18=>?_
                    refine Aw_bk fun B19 hN19 hE19 hR19 hX19=>?_
                    refine Aw_sqJ (fun q:Bool × List Gt × Nat=>telS h0 up none l xf xb none p xk none m 0 i q.1 q.2.2 q.2.1) (fun q=>(q.2.1≠[]→q.2.1.length≤q.2.2)∧q.2.1.length≤2000∧telG x (l.take (i + 1))=(q.2.1++[⟨⟨rf,rb,gp,rk,gm⟩,old⟩],q.1)) (fun q hq=>?_) fun B20 hN20 hR20 hX20=>?_
                    rotate_left
                    · refine Aw_se hE [0,1,2,3,4,5,6,7,8,9,10,11,12,13,14] [0,1,3,7,15,7,63,127,255,511,7,1031,4095,8191,16383] [2,3,4,6,8,9,81] [2,3,4,6,58,88,107,117,229,329] (by kernel_rfl) fun K hK=>?_
                      simp only [go_sem,reduceIte,Nat.reduceLT,Nat.reduceLeDiff,Nat.reduceEqDiff,Nat.reduceAdd,Nat.reduceMul,Nat.reduceSub,Nat.reduceBEq,Int.reduceToNat,List.reduceReplicate,reduceCtorEq,hget,cGs_nt,cGs_stripF]
                      have hpo:o≠[]→o.length≤c:=fun _=>hi2
                      refine ⟨fun hg22=>⟨by omega,?_⟩,fun hg22=>?_⟩
                      · have hp:put=false:=by simpa using hg22
                        refine hK _ (Aw_cond rfl (fun hc23=>?_) (fun hc23=>?_))
                        · have htk2:telG x (l.take (i + 1))=(o++[⟨x,false⟩]++[⟨⟨rf,rb,gp,rk,gm⟩,old⟩],true):=by
                            rw [htk,← hx]; unfold telStep; exact if_pos (by rw [hp]; simpa using hc23)
                          have hin:=cGs_in o ⟨⟨xf,xb,p,xk,m⟩,false⟩ (c - o.length)
                          have htk3:=cGs_take o (jk ((c - o.length) * 6))
                          refine Aw_se hE [0,1,2,3,4,5,6,7,8] [0,1,0,4,12,28,63,127,255] [2,3,4,6,9] [2,3,4,6,58,88,107,117,229,329] (by kernel_rfl) fun K hK=>?_
                          simp only [go_sem,reduceIte,Nat.reduceLT,Nat.reduceLeDiff,Nat.reduceEqDiff,Nat.reduceAdd,Nat.reduceMul,Nat.reduceSub,Nat.reduceBEq,Int.reduceToNat,List.reduceReplicate,reduceCtorEq,gcs_flat,gcs_leaf,gcs_strip,htk3,cGs_strip,cGs_nt,cGs_stripF]
                          refine ⟨⟨by omega,by omega⟩,⟨by simp,by omega,by rw [List.length_append,cGs_len,List.length_replicate]; omega⟩,fun hle=>?_,fun hgt cap hcap=>?_⟩
                          · rw [hin (by omega)]
                            refine hK _ ?_; clear hK K
                            refine Aw_tx hE [2,3,4,6,8,9] [2,3,4,6,58,88,107,117,229,329] fun K hK=>?_
                            simp only [go_sem,reduceIte,Nat.reduceLT,Nat.reduceLeDiff,Nat.reduceEqDiff,Nat.reduceAdd,Nat.reduceMul,Nat.reduceSub,Nat.reduceBEq,Int.reduceToNat,List.reduceReplicate,reduceCtorEq,cGs_nt,cGs_stripF]
                            refine hK _ (hN20 (true,o++[⟨x,false⟩],c) _ ⟨fun _=>by simp only [List.length_append,List.length_singleton]; omega,by simp only [List.length_append,List.length_singleton]; omega,htk2⟩ ?_)
                            rw [telS_some (by simp),← hx,List.length_append,List.length_singleton,show c - o.length - 1=c - (o.length + 1) by omega]
                            exact Le_E (Le_ks [2,3,4,6,8,9] [2,3,4,6,58,107])
                          · refine hK _ ?_; clear hK K
                            refine Aw_tx hE [2,3,4,6,8,9] [2,3,4,6,58,88,107,117,229,329] fun K hK=>?_
                            simp only [go_sem,reduceIte,Nat.reduceLT,Nat.reduceLeDiff,Nat.reduceEqDiff,Nat.reduceAdd,Nat.reduceMul,Nat.reduceSub,Nat.reduceBEq,Int.reduceToNat,List.reduceReplicate,reduceCtorEq,cGs_nt,cGs_stripF]
                            refine hK _ (hN20 (true,o++[⟨x,false⟩],cap) _ ⟨fun _=>by simp only [List.length_append,List.length_singleton]; omega,by simp only [List.length_append,List.length_singleton]; omega,htk2⟩ ?_)
                            rw [telS_some (by simp),← hx,List.length_append,List.length_singleton,cGs_app]
                            simp only [cGs,List.append_nil]
                            refine (Le_E (Le_swb _ 88 107 (by decide) (by decide))).trans ?_
                            simp only [St.swb,swbσ,swbm,AV.swb,AV.swbAll,swp,swbAll_app,swbAll_jk,gcs_swb,cGs_swb,Nat.reduceEqDiff,if_true,if_false,reduceIte]
                            exact Le_E (Le_ks [2,3,4,6,8,9] [2,3,4,6,58,107])
                        · have htk2:telG x (l.take (i + 1))=(o++[⟨⟨rf,rb,gp,rk,gm⟩,old⟩],put):=by
                            rw [htk,← hx]; unfold telStep; exact if_neg (by rw [hp]; simpa using hc23)
                          refine Aw_skip (hN20 (put,o,c) _ ⟨hpo,by simp only; omega,htk2⟩ ?_)
                          rw [telS_some hoe]
                          exact Le_E (Le_ks [2,3,4,6,8,9] [2,3,4,6,58,107])
                      · have hp:put=true:=by simpa using hg22
                        have htk2:telG x (l.take (i + 1))=(o++[⟨⟨rf,rb,gp,rk,gm⟩,old⟩],put):=by
                          rw [htk,← hx]; unfold telStep; exact if_neg (by rw [hp]; simp)
                        refine hK _ (Aw_no rfl ?_)
                        refine Aw_skip (hN20 (put,o,c) _ ⟨hpo,by simp only; omega,htk2⟩ ?_)
                        rw [telS_some hoe]
                        exact Le_E (Le_ks [2,3,4,6,8,9] [2,3,4,6,58,107])
                    · obtain ⟨put',o',c'⟩:=q
                      obtain ⟨hq1,hq2,hq3⟩:=hq
                      simp only at hq1 hq2 hq3 ⊢
                      by_cases hoe':o'=[]
                      · subst hoe'
                        simp only [telS]
                        refine Aw_te hE [0,2,4,9,11,1,3,5,6,7,8,10,12,13,14,15,16,17,18,19] [0,1,0,4,0,28,60,124,252,0,512,0,3584,7680,15872,32764,65532,131071,262143,524287] [2,3,4,6,8,9] [2,3,4,6,58,88,107,117,229,329] (by kernel_rfl) fun K hK=>?_
                        simp only [go_sem,reduceIte,Nat.reduceLT,Nat.reduceLeDiff,Nat.reduceEqDiff,Nat.reduceAdd,Nat.reduceMul,Nat.reduceSub,Nat.reduceBEq,Int.reduceToNat,List.reduceReplicate,reduceCtorEq,hget,gcs_flat,gcs_leaf,gcs_strip]
                        refine ⟨by omega,⟨by omega,by omega⟩,by omega,by simp,fun cap hcap=>?_⟩
                        refine hK _ (hN19 _ (hB18 _ ?_))
                        refine Aw_tx hE [2,3,4,6,8,9] [2,3,4,6,58,88,107,117,229,329] fun K hK=>?_
                        simp only [go_sem,reduceIte,Nat.reduceLT,Nat.reduceLeDiff,Nat.reduceEqDiff,Nat.reduceAdd,Nat.reduceMul,Nat.reduceSub,Nat.reduceBEq,Int.reduceToNat,List.reduceReplicate,reduceCtorEq]
                        repeat refine ⟨by first|omega|(and_intros<;>first|omega|exact rows_row _|decide|(simp<;>omega))|fail,?_⟩
                        refine hK _ (hN15 (i + 1,cap) _ ⟨by simp only; omega,fun h=>by simp only [hq3]; exact hcap⟩ (by simp only; omega) ?_)
                        simp only [hq3]
                        rw [telS_some (by simp)]
                        exact Le.refl _
                      · rw [telS_some hoe']
                        have hq1:=hq1 hoe'
                        have hin:=cGs_in o' ⟨⟨rf,rb,gp,rk,gm⟩,old⟩ (c' - o'.length)
                        have htk3:=cGs_take o' (jk ((c' - o'.length) * 6))
                        refine Aw_te hE [0,2,4,9,11,1,3,5,6,7,8,10,12,13,14,15,16,17,18,19] [0,1,0,4,0,28,60,124,252,0,512,0,3584,7680,15872,32764,65532,131071,262143,524287] [2,3,4,6,8,9] [2,3,4,6,58,88,107,117,229,329] (by kernel_rfl) fun K hK=>?_
                        simp only [go_sem,reduceIte,Nat.reduceLT,Nat.reduceLeDiff,Nat.reduceEqDiff,Nat.reduceAdd,Nat.reduceMul,Nat.reduceSub,Nat.reduceBEq,Int.reduceToNat,List.reduceReplicate,reduceCtorEq,hget,gcs_flat,gcs_leaf,gcs_strip,htk3,cGs_strip,cGs_nt,cGs_stripF]
                        refine ⟨by omega,⟨by omega,by omega⟩,by omega,⟨by simp,by omega,by rw [List.length_append,cGs_len,List.length_replicate]; omega⟩,fun hle=>?_,fun hgt cap hcap=>?_⟩
                        · rw [hin (by omega)]
                          refine hK _ (hN19 _ (hB18 _ ?_))
                          refine Aw_tx hE [2,3,4,6,8,9] [2,3,4,6,58,88,107,117,229,329] fun K hK=>?_
                          simp only [go_sem,reduceIte,Nat.reduceLT,Nat.reduceLeDiff,Nat.reduceEqDiff,Nat.reduceAdd,Nat.reduceMul,Nat.reduceSub,Nat.reduceBEq,Int.reduceToNat,List.reduceReplicate,reduceCtorEq,cGs_nt,cGs_stripF]
                          repeat refine ⟨by first|omega|(and_intros<;>first|omega|exact rows_row _|decide|(simp<;>omega))|fail,?_⟩
                          refine hK _ (hN15 (i + 1,c') _ ⟨by simp only; omega,fun h=>by simp only [hq3,List.length_append,List.length_singleton]; omega⟩ (by simp only; omega) ?_)
                          simp only [hq3]
                          rw [telS_some (by simp),List.length_append,List.length_singleton,show c' - o'.length - 1=c' - (o'.length + 1) by omega]
                          exact Le.refl _
                        · refine hK _ (hN19 _ (hB18 _ ?_))
                          refine Aw_tx hE [2,3,4,6,8,9] [2,3,4,6,58,88,107,117,229,329] fun K hK=>?_
                          simp only [go_sem,reduceIte,Nat.reduceLT,Nat.reduceLeDiff,Nat.reduceEqDiff,Nat.reduceAdd,Nat.reduceMul,Nat.reduceSub,Nat.reduceBEq,Int.reduceToNat,List.reduceReplicate,reduceCtorEq,cGs_nt,cGs_stripF]
                          repeat refine ⟨by first|omega|(and_intros<;>first|omega|exact rows_row _|decide|(simp<;>omega))|fail,?_⟩
                          refine hK _ (hN15 (i + 1,cap) _ ⟨by simp only; omega,fun h=>by simp only [hq3,List.length_append,List.length_singleton]; omega⟩ (by simp only; omega) ?_)
                          simp only [hq3]
                          rw [telS_some (by simp),List.length_append,List.length_singleton,cGs_app]
                          simp only [cGs,List.append_nil]
                          exact Le.refl _
                  · simp only [decide_eq_false_iff_not] at hc17
                    have hil:i=l.length:=by omega
                    subst hil
                    rw [List.take_length] at ho
                    refine Aw_exit (hX16 _ _ (hX15 _ _ (hE14 _ (hB13 _ ?_))))
                    refine Aw_sq fun B24 hB24 hR24 hX24=>?_
                    refine Aw_st hE [3,4,6,110] [2,3,4,6,58,88,107,117,229,329] fun K hK=>?_
                    simp only [go_sem,reduceIte,Nat.reduceLT,Nat.reduceLeDiff,Nat.reduceEqDiff,Nat.reduceAdd,Nat.reduceMul,Nat.reduceSub,Nat.reduceBEq,Int.reduceToNat,List.reduceReplicate,reduceCtorEq,cGs_nt,cGs_stripF]
                    refine hK _ (Aw_cond rfl (fun hc25=>?_) (fun hc25=>?_))
                    · have hp:put=false:=by simpa using hc25
                      have hT:telL x l=o++[⟨⟨xf,xb,p,xk,m⟩,false⟩]:=by unfold telL; rw [ho,hp,hx]; rfl
                      rw [hT] at hO
                      have hin:=cGs_in o ⟨⟨xf,xb,p,xk,m⟩,false⟩ (c - o.length)
                      have htk3:=cGs_take o (jk ((c - o.length) * 6))
                      refine Aw_te hE [0,1,2,3,4,5,6,7,8] [0,1,0,4,12,28,63,127,255] [4,6] [2,3,4,6,58,88,107,117,229,329] (by kernel_rfl) fun K hK=>?_
                      simp only [go_sem,reduceIte,Nat.reduceLT,Nat.reduceLeDiff,Nat.reduceEqDiff,Nat.reduceAdd,Nat.reduceMul,Nat.reduceSub,Nat.reduceBEq,Int.reduceToNat,List.reduceReplicate,reduceCtorEq,gcs_flat,gcs_leaf,gcs_strip,htk3,cGs_strip,cGs_nt,cGs_stripF]
                      refine ⟨⟨by omega,by omega⟩,⟨by simp,by omega,by rw [List.length_append,cGs_len,List.length_replicate]; omega⟩,fun hle=>?_,fun hgt cap hcap=>?_⟩
                      · rw [hin (by omega)]
                        refine hK _ (hB24 _ ?_)
                        refine Aw_st hE [4,5] [2,3,4,6,58,88,107,117,229,329] fun K hK=>?_
                        simp only [go_sem,reduceIte,Nat.reduceLT,Nat.reduceLeDiff,Nat.reduceEqDiff,Nat.reduceAdd,Nat.reduceMul,Nat.reduceSub,Nat.reduceBEq,Int.reduceToNat,List.reduceReplicate,reduceCtorEq,cGs_nt,cGs_stripF]
                        refine hK _ ?_
                        have hon:(o++[(⟨⟨xf,xb,p,xk,m⟩,false⟩:Gt)]).length=o.length + 1:=by simp
                        have hfg:=frz_grows (o++[⟨⟨xf,xb,p,xk,m⟩,false⟩])
                        rw [hon] at hfg
                        refine Aw.leE (Le_E (Le_swb _ 107 900 (by decide) (by decide))) ?_
                        simp only [St.swb,swbσ,swbm,AV.swb,AV.swbAll,swp,swbAll_app,swbAll_jk,gcs_swb,cGs_swb,Nat.reduceEqDiff,if_true,if_false,reduceIte]
                        refine Aw.leE (Le_E (Le_ks [4,5] [4,900])) ?_
                        refine Aw_ret (hQ _ ?_)
                        simp only [go_sem,reduceIte,Nat.reduceLT,Nat.reduceLeDiff,Nat.reduceEqDiff,Nat.reduceAdd,Nat.reduceMul,Nat.reduceSub,Nat.reduceBEq,Int.reduceToNat,List.reduceReplicate,reduceCtorEq,cGs_nt,cGs_stripF]
                        intro h' up' l' f' b' q' k' m' he K' hK'
                        obtain ⟨rfl,rfl,rfl,rfl,rfl,rfl,rfl,rfl⟩:=rbrt_inj he
                        rw [← hx] at hO
                        have hz:=hK'.2 _ hO c (by simp only [List.length_set,List.length_append,List.length_singleton,List.length_cons,List.length_nil]; omega)
                        simp only [List.length_set,List.length_append,List.length_singleton,List.length_cons,List.length_nil] at hz
                        rw [show c - o.length - 1=c - (o.length + 1) by omega]
                        exact hz
                      · have hca:=cGs_app o [⟨⟨xf,xb,p,xk,m⟩,false⟩]
                        simp only [cGs,List.append_nil] at hca
                        rw [← hca]
                        refine hK _ (hB24 _ ?_)
                        refine Aw_st hE [4,5] [2,3,4,6,58,88,107,117,229,329] fun K hK=>?_
                        simp only [go_sem,reduceIte,Nat.reduceLT,Nat.reduceLeDiff,Nat.reduceEqDiff,Nat.reduceAdd,Nat.reduceMul,Nat.reduceSub,Nat.reduceBEq,Int.reduceToNat,List.reduceReplicate,reduceCtorEq,cGs_nt,cGs_stripF]
                        refine hK _ ?_
                        have hon:(o++[(⟨⟨xf,xb,p,xk,m⟩,false⟩:Gt)]).length=o.length + 1:=by simp
                        have hfg:=frz_grows (o++[⟨⟨xf,xb,p,xk,m⟩,false⟩])
                        rw [hon] at hfg
                        refine Aw.leE (Le_E (Le_swb _ 117 900 (by decide) (by decide))) ?_
                        simp only [St.swb,swbσ,swbm,AV.swb,AV.swbAll,swp,swbAll_app,swbAll_jk,gcs_swb,cGs_swb,Nat.reduceEqDiff,if_true,if_false,reduceIte]
                        refine Aw.leE (Le_E (Le_ks [4,5] [4,900])) ?_
                        refine Aw_ret (hQ _ ?_)
                        simp only [go_sem,reduceIte,Nat.reduceLT,Nat.reduceLeDiff,Nat.reduceEqDiff,Nat.reduceAdd,Nat.reduceMul,Nat.reduceSub,Nat.reduceBEq,Int.reduceToNat,List.reduceReplicate,reduceCtorEq,cGs_nt,cGs_stripF]
                        intro h' up' l' f' b' q' k' m' he K' hK'
                        obtain ⟨rfl,rfl,rfl,rfl,rfl,rfl,rfl,rfl⟩:=rbrt_inj he
                        rw [← hx] at hO
                        have hz:=hK'.2 _ hO cap (by simp only [List.length_set,List.length_append,List.length_singleton,List.length_cons,List.length_nil]; omega)
                        simp only [List.length_set,List.length_append,List.length_singleton,List.length_cons,List.length_nil] at hz
                        exact hz
                    · have hp:put=true:=by simpa using hc25
                      have hT:telL x l=o:=by unfold telL; rw [ho,hp]; rfl
                      rw [hT] at hO
                      refine Aw_skip (hB24 _ ?_)
                      refine Aw_st hE [4,5] [2,3,4,6,58,88,107,117,229,329] fun K hK=>?_
                      simp only [go_sem,reduceIte,Nat.reduceLT,Nat.reduceLeDiff,Nat.reduceEqDiff,Nat.reduceAdd,Nat.reduceMul,Nat.reduceSub,Nat.reduceBEq,Int.reduceToNat,List.reduceReplicate,reduceCtorEq,cGs_nt,cGs_stripF]
                      refine hK _ ?_
                      refine Aw.leE (Le_E (Le_swb _ 107 900 (by decide) (by decide))) ?_
                      simp only [St.swb,swbσ,swbm,AV.swb,AV.swbAll,swp,swbAll_app,swbAll_jk,gcs_swb,cGs_swb,Nat.reduceEqDiff,if_true,if_false,reduceIte]
                      refine Aw.leE (Le_E (Le_ks [4,5] [4,900])) ?_
                      refine Aw_ret (hQ _ ?_)
                      simp only [go_sem,reduceIte,Nat.reduceLT,Nat.reduceLeDiff,Nat.reduceEqDiff,Nat.reduceAdd,Nat.reduceMul,Nat.reduceSub,Nat.reduceBEq,Int.reduceToNat,List.reduceReplicate,reduceCtorEq,cGs_nt,cGs_stripF]
                      intro h' up' l' f' b' q' k' m' he K' hK'
                      obtain ⟨rfl,rfl,rfl,rfl,rfl,rfl,rfl,rfl⟩:=rbrt_inj he
                      rw [← hx] at hO
                      have hz:=hK'.2 _ hO c (by simp only [List.length_set,List.length_append,List.length_singleton,List.length_cons,List.length_nil]; omega)
                      simp only [List.length_set,List.length_append,List.length_singleton,List.length_cons,List.length_nil] at hz
                      exact hz
          · repeat refine ⟨by first|omega|(and_intros<;>first|omega|exact rows_row _|decide|(simp<;>omega))|fail,?_⟩
            have h9:0≤atG l xf xb:=by simp only [decide_eq_false_iff_not] at hg9; omega
            obtain ⟨i,hil,hie⟩:=atG_ge h9
            have hO:=htr
            rw [if_neg (by rw [hg8]; simp [show ¬ atG l xf xb < 0 by omega]),if_pos (by simpa using h9),hie,Int.toNat_natCast] at hO
            refine hK _ (Aw_no rfl ?_)
            refine Aw_skip (hB6 _ ?_)
            refine Aw_sq fun B11 hB11 hR11 hX11=>?_
            refine Aw_st hE [2,3,4,6,7,49] [2,3,4,6,58,88,107,117,229,329] fun K hK=>?_
            simp only [go_sem,reduceIte,Nat.reduceLT,Nat.reduceLeDiff,Nat.reduceEqDiff,Nat.reduceAdd,Nat.reduceMul,Nat.reduceSub,Nat.reduceBEq,Int.reduceToNat,List.reduceReplicate,reduceCtorEq,cGs_nt,cGs_stripF]
            refine hK _ (Aw_cond rfl (fun hc12=>?_) (fun hc12=>?_))
            · have hs6:=set6 xf xb p xk m false (List.replicate ((cap - l.length) * 6) .junk) l i hil
              have hsl:(l.set i ⟨⟨xf,xb,p,xk,m⟩,false⟩).length=l.length:=List.length_set
              have hfg:=frz_grows (l.set i ⟨⟨xf,xb,p,xk,m⟩,false⟩)
              rw [hsl] at hfg
              refine Aw_se hE [0,2,1,3,4,5,6,7] [0,1,0,0,8,24,63,127] [4,6] [2,3,4,6,58,88,107,117,229,329] (by kernel_rfl) fun K hK=>?_
              simp only [go_sem,reduceIte,Nat.reduceLT,Nat.reduceLeDiff,Nat.reduceEqDiff,Nat.reduceAdd,Nat.reduceMul,Nat.reduceSub,Nat.reduceBEq,Int.reduceToNat,List.reduceReplicate,reduceCtorEq,cGs_nt,cGs_stripF]
              simp only [hie,Int.toNat_natCast]
              rw [hs6]
              refine ⟨⟨by omega,by omega⟩,⟨by omega,by omega⟩,by rw [List.length_append,cGs_len]; omega,?_⟩
              refine hK _ ?_; clear hK K
              refine Aw_st hE [4,5] [2,3,4,6,58,88,107,117,229,329] fun K hK=>?_
              simp only [go_sem,reduceIte,Nat.reduceLT,Nat.reduceLeDiff,Nat.reduceEqDiff,Nat.reduceAdd,Nat.reduceMul,Nat.reduceSub,Nat.reduceBEq,Int.reduceToNat,List.reduceReplicate,reduceCtorEq,cGs_nt,cGs_stripF]
              refine hK _ ?_
              refine Aw.leE (Le_E (Le_swb _ 329 900 (by decide) (by decide))) ?_
              simp only [St.swb,swbσ,swbm,AV.swb,AV.swbAll,swp,swbAll_app,swbAll_jk,gcs_swb,cGs_swb,Nat.reduceEqDiff,if_true,if_false,reduceIte]
              refine Aw.leE (Le_E (Le_ks [4,5] [4,900])) ?_
              refine Aw_ret (hR11 _ (hQ _ ?_))
              simp only [go_sem,reduceIte,Nat.reduceLT,Nat.reduceLeDiff,Nat.reduceEqDiff,Nat.reduceAdd,Nat.reduceMul,Nat.reduceSub,Nat.reduceBEq,Int.reduceToNat,List.reduceReplicate,reduceCtorEq,cGs_nt,cGs_stripF]
              intro h' up' l' f' b' q' k' m' he K' hK'
              obtain ⟨rfl,rfl,rfl,rfl,rfl,rfl,rfl,rfl⟩:=rbrt_inj he
              have hz:=hK'.2 _ hO cap (by simp only [List.length_set,List.length_append,List.length_singleton,List.length_cons,List.length_nil]; omega)
              simp only [List.length_set,List.length_append,List.length_singleton,List.length_cons,List.length_nil] at hz
              exact hz
            · simp only [decide_eq_false_iff_not] at hc12; omega
end Go.Proofs.W
end
section
namespace Go.Proofs.W
open Go Go.Eng Go.RowKit
set_option linter.unusedSimpArgs false
set_option maxRecDepth 100000

/-! what the callers see -/
theorem upM_pre (h:Int) (up:Bool) (l:List Gt):cUpM.pre [.agg [iv h,bv up,.sl none (grows l)]] []=(l.length≤1000∧lensG l):=by
  apply propext
  constructor
  · rintro ⟨h',up',l',e,_,h2⟩
    obtain ⟨rfl,rfl,rfl⟩:=rbav_inj e
    exact h2
  · exact fun hh=>⟨h,up,l,rfl,rfl,hh⟩
theorem upM_post (h:Int) (up:Bool) (l:List Gt) (m1:List (Nat × List AV)) (K:AV→List (Nat × List AV)→Prop):(∀ r m2,cUpM.post [.agg [iv h,bv up,.sl none (grows l)]] m1 r m2→K r m2)=upC h up l K:=by
  apply propext
  constructor
  · intro hh
    refine ⟨fun ho=>hh _ _ ?_,fun ho cap hc=>hh _ _ ?_⟩
    all_goals
      intro h' up' l' e K' hK'
      obtain ⟨rfl,rfl,rfl⟩:=rbav_inj e
      first | exact hK'.1 ho | exact hK'.2 ho cap hc | exact hK'.2 z ho cap hc
  · exact fun hh r m2 hp=>hp h up l rfl K hh
attribute [go_sem] upM_pre upM_post
theorem endM_pre (h:Int) (up:Bool) (l:List Gt):cEndM.pre [.agg [iv h,bv up,.sl none (grows l)]] []=(l.length≤1000∧lensG l):=by
  apply propext
  constructor
  · rintro ⟨h',up',l',e,_,h2⟩
    obtain ⟨rfl,rfl,rfl⟩:=rbav_inj e
    exact h2
  · exact fun hh=>⟨h,up,l,rfl,rfl,hh⟩
theorem endM_post (h:Int) (up:Bool) (l:List Gt) (m1:List (Nat × List AV)) (K:AV→List (Nat × List AV)→Prop):(∀ r m2,cEndM.post [.agg [iv h,bv up,.sl none (grows l)]] m1 r m2→K r m2)=enC h up l K:=by
  apply propext
  constructor
  · intro hh
    refine ⟨fun ho=>hh _ _ ?_,fun ho cap hc=>hh _ _ ?_⟩
    all_goals
      intro h' up' l' e K' hK'
      obtain ⟨rfl,rfl,rfl⟩:=rbav_inj e
      first | exact hK'.1 ho | exact hK'.2 ho cap hc | exact hK'.2 z ho cap hc
  · exact fun hh r m2 hp=>hp h up l rfl K hh
attribute [go_sem] endM_pre endM_post
theorem downM_pre (h:Int) (up:Bool) (l:List Gt) (g:Bool):cDownM.pre [.agg [iv h,bv up,.sl none (grows l)],bv g] []=(l.length≤1000∧lensG l):=by
  apply propext
  constructor
  · rintro ⟨h',up',l',g',e,_,h2⟩
    obtain ⟨rfl,rfl,rfl,rfl⟩:=rbav1_inj e
    exact h2
  · exact fun hh=>⟨h,up,l,g,rfl,rfl,hh⟩
theorem downM_post (h:Int) (up:Bool) (l:List Gt) (g:Bool) (m1:List (Nat × List AV)) (K:AV→List (Nat × List AV)→Prop):(∀ r m2,cDownM.post [.agg [iv h,bv up,.sl none (grows l)],bv g] m1 r m2→K r m2)=dnC h up l g K:=by
  apply propext
  constructor
  · intro hh
    refine ⟨fun ho=>hh _ _ ?_,fun ho cap hc=>hh _ _ ?_⟩
    all_goals
      intro h' up' l' g' e K' hK'
      obtain ⟨rfl,rfl,rfl,rfl⟩:=rbav1_inj e
      first | exact hK'.1 ho | exact hK'.2 ho cap hc | exact hK'.2 z ho cap hc
  · exact fun hh r m2 hp=>hp h up l g rfl K hh
attribute [go_sem] downM_pre downM_post
theorem tellM_pre (h:Int) (up:Bool) (l:List Gt) (f:Int) (b:Int) (p:List Int) (k:Int) (m:List Int):cTellM.pre [.agg [iv h,bv up,.sl none (grows l)],.agg [iv f,iv b,isl p,iv k,isl m]] []=((l.length≤1000∧lensG l)∧p.length≤1000∧m.length≤900):=by
  apply propext
  constructor
  · rintro ⟨h',up',l',f',b',p',k',m',e,_,h2⟩
    obtain ⟨rfl,rfl,rfl,rfl,rfl,rfl,rfl,rfl⟩:=rbrt_inj e
    exact h2
  · exact fun hh=>⟨h,up,l,f,b,p,k,m,rfl,rfl,hh⟩
theorem tellM_post (h:Int) (up:Bool) (l:List Gt) (f:Int) (b:Int) (p:List Int) (k:Int) (m:List Int) (m1:List (Nat × List AV)) (K:AV→List (Nat × List AV)→Prop):(∀ r m2,cTellM.post [.agg [iv h,bv up,.sl none (grows l)],.agg [iv f,iv b,isl p,iv k,isl m]] m1 r m2→K r m2)=tlC ⟨h,up,l⟩ ⟨f,b,p,k,m⟩ K:=by
  apply propext
  constructor
  · intro hh
    refine ⟨fun ho=>hh _ _ ?_,fun z ho cap hc=>hh _ _ ?_⟩
    all_goals
      intro h' up' l' f' b' p' k' m' e K' hK'
      obtain ⟨rfl,rfl,rfl,rfl,rfl,rfl,rfl,rfl⟩:=rbrt_inj e
      first | exact hK'.1 ho | exact hK'.2 ho cap hc | exact hK'.2 z ho cap hc
  · exact fun hh r m2 hp=>hp h up l f b p k m rfl K hh
attribute [go_sem] tellM_pre tellM_post
theorem lensG_app {a b:List Gt} (ha:lensG a) (hb:lensG b):lensG (a++b):=fun g hg=>(List.mem_append.1 hg).elim (ha g) (hb g)
theorem lensG_old {l:List Gt} (h:lensG l):lensG (l.map oldG):=by
  intro g hg
  obtain ⟨x,hx,rfl⟩:=List.mem_map.1 hg
  exact h x hx
theorem lensG_end:∀ {l:List Gt},lensG l→lensG (endL l)
  | [],_=>by intro g hg; cases hg
  | x::l,h=>by
    refine lensG_app ?_ (lensG_end fun g hg=>h g (List.mem_cons_of_mem _ hg))
    intro g hg
    split at hg
    · cases hg
    · rw [List.mem_singleton] at hg; rw [hg]; exact h x List.mem_cons_self
end Go.Proofs.W
end
section
namespace Go.Proofs.W
open Go Go.Eng Go.RowKit
set_option linter.unusedSimpArgs false
set_option maxRecDepth 100000

/-! plain laws of what a house told -/
theorem rCmp_neg {f b f' b':Int}:rCmp f b f' b' < 0↔(f < f'∨(f=f'∧b < b')):=by
  unfold rCmp orL orL orL cmpI
  repeat' split
  all_goals omega
theorem rCmp_pos {f b f' b':Int}:0 < rCmp f b f' b'↔(f' < f∨(f'=f∧b' < b)):=by
  unfold rCmp orL orL orL cmpI
  repeat' split
  all_goals omega
def ltG (a b:Gt):Prop:=a.r.f < b.r.f∨(a.r.f=b.r.f∧a.r.b < b.r.b)
theorem ltG_trans {a b c:Gt} (h:ltG a b) (k:ltG b c):ltG a c:=by
  unfold ltG at *; omega
def bG (h:Int) (up:Bool) (g:Gt):Bool:=okR g.r && (decide (g.r.path.head? = some h) && (up || g.old))
theorem allG_iff {h:Int} {up:Bool}:∀ {q:Option Gt} {l:List Gt},allG h up q l=true↔(∀ g ∈ l,bG h up g=true)∧(∀ p,q=some p→∀ g ∈ l,ltG p g)∧l.Pairwise ltG
  | q,[]=>by simp [allG]
  | q,g::l=>by
    have ih:=allG_iff (h:=h) (up:=up) (q:=some g) (l:=l)
    have e:gotOk h up q g=(bG h up g && (match q with | none=>true | some q=>decide (rCmp q.r.f q.r.b g.r.f g.r.b < 0))):=by
      unfold gotOk bG
      cases q <;> simp [Bool.and_assoc]
    rw [allG,Bool.and_eq_true,ih,e,Bool.and_eq_true,List.pairwise_cons]
    constructor
    · rintro ⟨⟨h1,h2⟩,h3,h4,h5⟩
      refine ⟨fun x hx=>?_,fun p hp x hx=>?_,fun x hx=>h4 g rfl x hx,h5⟩
      · rcases List.mem_cons.1 hx with rfl | hx
        · exact h1
        · exact h3 x hx
      · subst hp
        have hg:ltG p g:=rCmp_neg.1 (by simpa using h2)
        rcases List.mem_cons.1 hx with rfl | hx
        · exact hg
        · exact ltG_trans hg (h4 g rfl x hx)
    · rintro ⟨h1,h2,h3,h4⟩
      refine ⟨⟨h1 g (by simp),?_⟩,fun x hx=>h1 x (List.mem_cons_of_mem _ hx),fun p hp x hx=>by obtain rfl:=Option.some.inj hp; exact h3 x hx,h4⟩
      cases q with
      | none=>rfl
      | some p=>simpa using rCmp_neg.2 (h2 p rfl g (by simp))
theorem ribOk_iff {h:Int} {up:Bool} {l:List Gt}:ribOk ⟨h,up,l⟩=true↔isH h=true∧l.length≤6∧(∀ g ∈ l,bG h up g=true)∧l.Pairwise ltG:=by
  unfold ribOk
  rw [Bool.and_eq_true,Bool.and_eq_true,allG_iff]
  simp
theorem bG_up {h:Int} {up:Bool} {g:Gt} (hg:bG h up g=true):bG h true g=true:=by
  simp only [bG,Bool.and_eq_true] at *
  exact ⟨hg.1,hg.2.1,rfl⟩
theorem ribOk_up {h:Int} {up:Bool} {l:List Gt} (hb:ribOk ⟨h,up,l⟩=true):ribOk ⟨h,true,l⟩=true:=by
  rw [ribOk_iff] at *
  exact ⟨hb.1,hb.2.1,fun g hg=>bG_up (hb.2.2.1 g hg),hb.2.2.2⟩
theorem ribOk_nil {h:Int} {up:Bool} (hh:isH h=true):ribOk ⟨h,up,[]⟩=true:=by
  rw [ribOk_iff]
  exact ⟨hh,by simp,by simp,.nil⟩
theorem ribOk_down {h:Int} {up g:Bool} {l:List Gt} (hb:ribOk ⟨h,up,l⟩=true):ribOk ⟨h,false,if g then l.map oldG else []⟩=true:=by
  cases g with
  | false=>exact ribOk_nil (ribOk_iff.1 hb).1
  | true =>
    rw [if_pos rfl]
    rw [ribOk_iff] at *
    obtain ⟨h1,h2,h3,h4⟩:=hb
    refine ⟨h1,by simpa using h2,fun x hx=>?_,List.pairwise_map.2 (h4.imp fun h=>h)⟩
    obtain ⟨y,hy,rfl⟩:=List.mem_map.1 hx
    have:=h3 y hy
    simp only [bG,Bool.and_eq_true] at *
    exact ⟨this.1,this.2.1,by simp [oldG]⟩
theorem endL_eq:∀ l:List Gt,endL l=(l.filter fun g=>!g.old).map newG
  | []=>rfl
  | g::l=>by
    rw [endL,endL_eq l,List.filter_cons]
    cases g.old <;> rfl
theorem ribOk_end {h:Int} {up:Bool} {l:List Gt} (hb:ribOk ⟨h,up,l⟩=true):ribOk ⟨h,up,endL l⟩=true:=by
  rw [ribOk_iff] at *
  obtain ⟨h1,h2,h3,h4⟩:=hb
  refine ⟨h1,Nat.le_trans (endL_len l) h2,fun x hx=>?_,?_⟩
  · rw [endL_eq] at hx
    obtain ⟨y,hy,rfl⟩:=List.mem_map.1 hx
    obtain ⟨hy1,hy2⟩:=List.mem_filter.1 hy
    have:=h3 y hy1
    simp only [bG,Bool.and_eq_true,newG,Bool.or_false] at *
    simp only [Bool.not_eq_true'] at hy2
    exact ⟨this.1,this.2.1,by simpa [hy2] using this.2.2⟩
  · rw [endL_eq]
    exact List.pairwise_map.2 ((h4.sublist List.filter_sublist).imp fun h=>h)
/-- put in its place -/
def insG (x:Rt):List Gt→List Gt
  | []=>[⟨x,false⟩]
  | g::l=>if 0 < rCmp g.r.f g.r.b x.f x.b then ⟨x,false⟩::g::l else g::insG x l
theorem telF_true (x:Rt):∀ (l a:List Gt),l.foldl (telStep x) (a,true)=(a++l,true)
  | [],a=>by simp
  | g::l,a=>by
    rw [List.foldl_cons]
    have:telStep x (a,true) g=(a++[g],true):=rfl
    rw [this,telF_true x l]
    simp
theorem telF_false (x:Rt):∀ (l a:List Gt),(if (l.foldl (telStep x) (a,false)).2 then (l.foldl (telStep x) (a,false)).1 else (l.foldl (telStep x) (a,false)).1++[⟨x,false⟩])=a++insG x l
  | [],a=>rfl
  | g::l,a=>by
    rw [List.foldl_cons,insG]
    by_cases hc:0 < rCmp g.r.f g.r.b x.f x.b
    · have:telStep x (a,false) g=(a++[⟨x,false⟩]++[g],true):=by unfold telStep; simp [hc]
      rw [this,telF_true,if_pos hc,if_pos rfl]
      simp
    · have:telStep x (a,false) g=(a++[g],false):=by unfold telStep; simp [hc]
      rw [this,telF_false x l,if_neg hc]
      simp
theorem telL_ins (x:Rt) (l:List Gt):telL x l=insG x l:=by
  exact (telF_false x l []).trans (List.nil_append _)
theorem insG_mem {x:Rt} {g:Gt}:∀ {l:List Gt},g ∈ insG x l↔g=⟨x,false⟩∨g ∈ l
  | []=>by simp [insG]
  | y::l=>by
    rw [insG]
    split
    · simp
    · simp only [List.mem_cons,insG_mem (l:=l)]
      constructor
      · rintro (h | h | h)
        · exact .inr (.inl h)
        · exact .inl h
        · exact .inr (.inr h)
      · rintro (h | h | h)
        · exact .inr (.inl h)
        · exact .inl h
        · exact .inr (.inr h)
theorem insG_len (x:Rt):∀ l:List Gt,(insG x l).length=l.length + 1
  | []=>rfl
  | y::l=>by
    rw [insG]
    split
    · simp
    · simp [insG_len x l]
theorem insG_pw {x:Rt}:∀ {l:List Gt},l.Pairwise ltG→(∀ g ∈ l,sameRg x.f x.b g=false)→(insG x l).Pairwise ltG
  | [],_,_=>by simp [insG]
  | y::l,hp,hs=>by
    obtain ⟨h1,h2⟩:=List.pairwise_cons.1 hp
    rw [insG]
    split
    · rename_i hc
      rw [rCmp_pos] at hc
      have hxy:ltG ⟨x,false⟩ y:=by unfold ltG; exact hc
      refine List.pairwise_cons.2 ⟨fun z hz=>?_,hp⟩
      rcases List.mem_cons.1 hz with rfl | hz
      · exact hxy
      · exact ltG_trans hxy (h1 z hz)
    · rename_i hc
      rw [rCmp_pos] at hc
      have hne:=hs y (by simp)
      simp only [sameRg,Bool.and_eq_false_iff,decide_eq_false_iff_not] at hne
      refine List.pairwise_cons.2 ⟨fun z hz=>?_,insG_pw h2 fun g hg=>hs g (List.mem_cons_of_mem _ hg)⟩
      rcases insG_mem.1 hz with rfl | hz
      · unfold ltG; simp only; omega
      · exact h1 z hz
theorem atG_neg {l:List Gt} {f b:Int} (h:atG l f b < 0):∀ g ∈ l,sameRg f b g=false:=by
  rcases idxB_some (f:=sameRg f b) (l:=l) (k:=0) with ⟨_,h2⟩ | ⟨i,hi,h1,_⟩
  · exact h2
  · unfold atG at h; omega
theorem atG_at {l:List Gt} {f b:Int} (h:0≤atG l f b):∃ i,∃ hi:i < l.length,atG l f b=(i:Nat)∧l[i].r.f=f∧l[i].r.b=b:=by
  rcases idxB_some (f:=sameRg f b) (l:=l) (k:=0) with ⟨h1,_⟩ | ⟨i,hi,h1,h2,_⟩
  · unfold atG at h; omega
  · simp only [sameRg,Bool.and_eq_true,decide_eq_true_eq] at h2
    exact ⟨i,hi,by unfold atG; rw [h1]; simp,h2.1,h2.2⟩
theorem set_pw {l:List Gt} {i:Nat} (hi:i < l.length) {x:Gt} (hf:l[i].r.f=x.r.f) (hb:l[i].r.b=x.r.b) (hp:l.Pairwise ltG):(l.set i x).Pairwise ltG:=by
  rw [List.pairwise_iff_getElem] at *
  intro a b ha hb' hab
  simp only [List.length_set] at ha hb'
  have:=hp a b ha hb' hab
  rw [List.getElem_set,List.getElem_set]
  unfold ltG at *
  split
  · rename_i e; subst e
    rw [if_neg (by omega)]
    rw [← hf,← hb]; exact this
  · split
    · rename_i e; subst e
      rw [← hf,← hb]; exact this
    · exact this
theorem telO_ok {b:Rb} {x:Rt} {z:Rb × Bool} (h:telO b x=some z):ribOk z.1=true∧z.1.h=b.h∧(z.2=false→z.1=b):=by
  unfold telO at h
  split at h
  · rename_i hc
    simp only [Bool.and_eq_true,decide_eq_true_eq] at hc
    obtain ⟨hb,hx1,hx2⟩:=hc
    obtain ⟨bh,bu,bl⟩:=b
    simp only at hx2 h
    have hb2:=ribOk_iff.1 hb
    obtain rfl:=Option.some.inj h
    split
    · exact ⟨hb,rfl,fun _=>rfl⟩
    · rename_i hn
      simp only [Bool.or_eq_true,Bool.not_eq_true',Bool.and_eq_true,decide_eq_true_eq,not_or,Bool.not_eq_false] at hn
      obtain ⟨hu,hn⟩:=hn
      subst hu
      have hbx:bG bh true ⟨x,false⟩=true:=by simp [bG,hx1,hx2]
      split
      · rename_i h0
        obtain ⟨i,hi,e1,e2,e3⟩:=atG_at (of_decide_eq_true h0)
        refine ⟨?_,rfl,fun h=>by cases h⟩
        rw [e1,Int.toNat_natCast,ribOk_iff]
        refine ⟨hb2.1,by simpa using hb2.2.1,fun g hg=>?_,set_pw hi e2 e3 hb2.2.2.2⟩
        rcases List.mem_or_eq_of_mem_set hg with hg | rfl
        · exact hb2.2.2.1 g hg
        · exact hbx
      · rename_i h0
        simp only [decide_eq_true_eq] at h0
        refine ⟨?_,rfl,fun h=>by cases h⟩
        rw [telL_ins,ribOk_iff]
        refine ⟨hb2.1,by rw [insG_len]; omega,fun g hg=>?_,insG_pw hb2.2.2.2 (atG_neg (by omega))⟩
        rcases insG_mem.1 hg with rfl | hg
        · exact hbx
        · exact hb2.2.2.1 g hg
  · cases h
theorem lensG_tel {b:Rb} {x:Rt} {z:Rb × Bool} (hb:lensG b.all) (hx:x.path.length≤1000∧x.marks.length≤900) (h:telO b x=some z):lensG z.1.all:=by
  unfold telO at h
  split at h
  · obtain rfl:=Option.some.inj h
    split
    · exact hb
    · split
      · intro g hg
        rcases List.mem_or_eq_of_mem_set hg with hg | rfl
        · exact hb g hg
        · exact hx
      · intro g hg
        rw [telL_ins] at hg
        rcases insG_mem.1 hg with rfl | hg
        · exact hx
        · exact hb g hg
  · cases h
theorem lensG_down {l:List Gt} {g:Bool} (h:lensG l):lensG (if g then l.map oldG else []):=by
  cases g
  · intro x hx; cases hx
  · exact lensG_old h
end Go.Proofs.W
end
section
namespace Go.Proofs.W
open Go Go.Eng Go.RowKit
set_option linter.unusedSimpArgs false
set_option maxRecDepth 100000

def dRibOkI (pb:Addr):DFn:={ g:=gRibOk,inv:=WP pb }
attribute [go_sem] dRibOkI
set_option maxHeartbeats 4000000 in
theorem iRibOk_ok (pb:Addr):Fine Tryz.prog 18 (dRibOkI pb).con:=by
  refine fine_det (T:=TT) Tryz.func18 rfl Tryz.ntmps18 (by rw [Tryz.results18]) rfl rfl tt (gs_nil) (ds_cons iIsH_ok (ds_cons (iRtOk_ok pb) (ds_cons iRgCmp_ok ds_nil) (wp_inh pb))) ?_
  intro args c r h hc
  simp only [dRibOkI,gRibOk] at h
  split at h
  rotate_left
  · cases h
  split at h
  rotate_left
  · cases h
  rename_i h0 up t els _ l hgo
  obtain rfl:=gotsL_eq hgo
  obtain ⟨rfl,rfl⟩:=Prod.mk.inj (Option.some.inj h)
  refine ⟨by simp,fun k E hE Q hQ=>?_⟩
  obtain ⟨hll,hlen⟩:=hc
  refine Aw_st hE [1] [1] fun K hK=>?_
  simp only [go_sem,seval]
  refine hK _ ?_; clear hK K
  refine Aw_sq fun B1 hB1 hR1 hX1=>?_
  refine Aw_st hE [1,14] [1] fun K hK=>?_
  simp only [go_sem,seval]
  refine ⟨fun hg3=>?_,fun hg3=>?_⟩
  · have hg3:isH h0=false:=by simpa using hg3
    refine hK _ (Aw_yes rfl ?_)
    refine Aw_st hE [2] [] fun K hK=>?_
    simp only [go_sem,seval]
    refine hK _ (Aw_ret (hR1 _ (hQ _ ?_)))
    simp only [go_sem,seval,ribOk,hg3,Bool.false_and]
  have hg3:isH h0=true:=by simpa using hg3
  refine hK _ (Aw_cond rfl (fun hc4=>?_) (fun hc4=>?_))
  · refine Aw_st hE [2] [] fun K hK=>?_
    simp only [go_sem,seval]
    refine hK _ (Aw_ret (hR1 _ (hQ _ ?_)))
    simp only [decide_eq_true_eq] at hc4
    simp only [go_sem,seval,ribOk,hg3,Bool.true_and,show decide (l.length≤6)=false from decide_eq_false (by omega),Bool.false_and]
  simp only [decide_eq_false_iff_not] at hc4
  refine Aw_skip (hB1 _ ?_)
  refine Aw_sq fun B5 hB5 hR5 hX5=>?_
  refine Aw_st hE [1,16,17,18] [1] fun K hK=>?_
  simp only [go_sem,seval]
  refine hK _ ?_; clear hK K
  refine Aw_bk fun B6 hN6 hE6 hR6 hX6=>?_
  refine Aw_lp (fun i:Nat=>⟨65,[(1,.loc 1 0),(16,.sl t (grows l)),(17,iv l.length),(18,iv i)],[(1,[iv h0,bv up,.sl t (grows l)])],k⟩) (fun i=>i≤l.length∧allG h0 up none l=allG h0 up (prevG l i) (l.drop i)∧∀ j,j < i→∀ g,l[j]? = some g→rngOk g.r.f g.r.b=true) (fun i=>l.length - i) 0 (Le.refl _) ⟨by omega,rfl,fun j hj=>by omega⟩ fun i hi B7 hN7 hR7 hX7=>?_
  obtain ⟨hi1,hi2,hi3⟩:=hi
  refine Aw_st hE [1,16,17,18,19] [1] fun K hK=>?_
  simp only [go_sem,seval]
  refine hK _ ?_; clear hK K
  refine Aw_sq fun B8 hB8 hR8 hX8=>?_
  refine Aw_cond rfl (fun hc9=>?_) (fun hc9=>?_)
  rotate_left
  · refine Aw_exit (hX8 _ _ (hX7 _ _ (hE6 _ (hB5 _ ?_))))
    simp only [decide_eq_false_iff_not] at hc9
    have hal:allG h0 up none l=true:=by rw [hi2,List.drop_eq_nil_of_le (by omega)]; rfl
    refine Aw_st hE [2] [] fun K hK=>?_
    simp only [go_sem,seval]
    refine hK _ (Aw_ret (hQ _ ?_))
    simp only [go_sem,seval,ribOk,hal,hg3,show decide (l.length≤6)=true from decide_eq_true (by omega),Bool.and_self]
  simp only [decide_eq_true_eq] at hc9
  have hil:i < l.length:=by omega
  have hget:=grows_get l i hil
  have hln:=hlen _ (List.getElem_mem hil)
  have hstop:=fun h=>ribOk_stop hil hi2 h
  have hst:=hi2.trans (allG_drop hil)
  have hnx:∀ (hr:rngOk l[i].r.f l[i].r.b=true),∀ j,j < i + 1→∀ g,l[j]? = some g→rngOk g.r.f g.r.b=true:=fun hr j hj g hg=>by
    by_cases hji:j=i
    · subst hji
      rw [List.getElem?_eq_getElem hil] at hg
      obtain rfl:=Option.some.inj hg
      exact hr
    · exact hi3 j (by omega) g hg
  generalize l[i]=x at hget hln hstop hst hnx
  obtain ⟨⟨rf,rb,p,rk,m⟩,old⟩:=x
  simp only at hln hnx
  refine Aw_skip (hB8 _ ?_)
  refine Aw_sq fun B10 hB10 hR10 hX10=>?_
  refine Aw_bk fun B11 hN11 hE11 hR11 hX11=>?_
  refine Aw_st hE [1,3,4,16,17,18] [1,4] fun K hK=>?_
  simp only [go_sem,seval,hget]
  repeat refine ⟨by first|omega|(and_intros<;>first|omega|exact rows_row _|decide|(simp<;>omega))|fail,?_⟩
  refine hK _ ?_; clear hK K
  refine Aw_sq fun B12 hB12 hR12 hX12=>?_
  have hokR:okR ⟨rf,rb,p,rk,m⟩=rtOk rf rb p rk m:=rfl
  cases h1:rtOk rf rb p rk m with
  | false =>
    have hf:=hstop (by simp only [gotOk,hokR,h1,Bool.false_and])
    refine Aw_se hE [0,1,2,3,4,5,6,7,8,9,10,11,12,13,14,15,16,17,18,19,20,21,22,23] [0,1,3,7,15,31,63,127,255,511,31,1055,4095,8191,16383,32767,65535,131071,262143,524287,1048575,2097151,4194303,8388607] [1,3,4,16,17,18,46] [1,4] (by kernel_rfl) fun K hK=>?_
    refine daopsE_cut 6 fun K1 hK1=>?_
    simp only [go_sem,seval,h1]
    repeat refine ⟨by first|omega|(and_intros<;>first|omega|exact rows_row _|decide|(simp<;>omega))|fail,?_⟩
    refine hK1 _ ?_
    clear hK1
    refine daopsE_cut 6 fun K1 hK1=>?_
    simp only [go_sem,seval,h1]
    repeat refine ⟨by first|omega|(and_intros<;>first|omega|exact rows_row _|decide|(simp<;>omega))|fail,?_⟩
    refine hK1 _ ?_
    clear hK1
    refine daopsE_cut 6 fun K1 hK1=>?_
    simp only [go_sem,seval,h1]
    repeat refine ⟨by first|omega|(and_intros<;>first|omega|exact rows_row _|decide|(simp<;>omega))|fail,?_⟩
    refine hK1 _ ?_
    clear hK1
    simp only [go_sem,seval,h1]
    repeat refine ⟨by first|omega|(and_intros<;>first|omega|exact rows_row _|decide|(simp<;>omega))|fail,?_⟩
    refine hK _ (Aw_yes rfl ?_)
    refine Aw_st hE [2] [] fun K hK=>?_
    simp only [go_sem,seval]
    refine hK _ (Aw_ret (hR12 _ (hR11 _ (hR10 _ (hR7 _ (hR6 _ (hR5 _ (hQ _ ?_))))))))
    simp only [go_sem,seval,hf]
  | true =>
  have hrr:=rtOk_r h1
  have hnx:=hnx hrr
  obtain ⟨p0,p',rfl⟩:∃ p0 p',p=p0::p':=by
    have:=(okR_parts (hokR.trans h1)).2.1
    cases p with
    | nil=>simp at this
    | cons a b=>exact ⟨a,b,rfl⟩
  obtain ⟨hln1,hln2⟩:=hln
  have hpl:p'.length≤1000:=by simp at hln1; omega
  have hp0:(rows (p0::p'))[0]? = some [.v (.int .i64 p0)]:=rfl
  by_cases h2:p0=h0
  rotate_left
  · have hf:=hstop (by simp [gotOk,h2])
    have h2d:decide (p0=h0)=false:=decide_eq_false h2
    refine Aw_se hE [0,1,2,3,4,5,6,7,8,9,10,11,12,13,14,15,16,17,18,19,20,21,22,23] [0,1,3,7,15,31,63,127,255,511,31,1055,4095,8191,16383,32767,65535,131071,262143,524287,1048575,2097151,4194303,8388607] [1,3,4,16,17,18,46] [1,4] (by kernel_rfl) fun K hK=>?_
    refine daopsE_cut 6 fun K1 hK1=>?_
    simp only [go_sem,seval,h1,hp0,h2d]
    repeat refine ⟨by first|omega|(and_intros<;>first|omega|exact rows_row _|decide|(simp<;>omega))|fail,?_⟩
    refine hK1 _ ?_
    clear hK1
    refine daopsE_cut 6 fun K1 hK1=>?_
    simp only [go_sem,seval,h1,hp0,h2d]
    repeat refine ⟨by first|omega|(and_intros<;>first|omega|exact rows_row _|decide|(simp<;>omega))|fail,?_⟩
    refine hK1 _ ?_
    clear hK1
    refine daopsE_cut 6 fun K1 hK1=>?_
    simp only [go_sem,seval,h1,hp0,h2d]
    repeat refine ⟨by first|omega|(and_intros<;>first|omega|exact rows_row _|decide|(simp<;>omega))|fail,?_⟩
    refine hK1 _ ?_
    clear hK1
    simp only [go_sem,seval,h1,hp0,h2d]
    repeat refine ⟨by first|omega|(and_intros<;>first|omega|exact rows_row _|decide|(simp<;>omega))|fail,?_⟩
    refine hK _ (Aw_yes rfl ?_)
    refine Aw_st hE [2] [] fun K hK=>?_
    simp only [go_sem,seval]
    refine hK _ (Aw_ret (hR12 _ (hR11 _ (hR10 _ (hR7 _ (hR6 _ (hR5 _ (hQ _ ?_))))))))
    simp only [go_sem,seval,hf]
  have h2d:decide (p0=h0)=true:=decide_eq_true h2
  cases h3:(up || old) with
  | false =>
    have hf:=hstop (by simp only [gotOk,h3,Bool.false_and,Bool.and_false])
    simp only [Bool.or_eq_false_iff] at h3
    refine Aw_se hE [0,1,2,3,4,5,6,7,8,9,10,11,12,13,14,15,16,17,18,19,20,21,22,23] [0,1,3,7,15,31,63,127,255,511,31,1055,4095,8191,16383,32767,65535,131071,262143,524287,1048575,2097151,4194303,8388607] [1,3,4,16,17,18,46] [1,4] (by kernel_rfl) fun K hK=>?_
    refine daopsE_cut 6 fun K1 hK1=>?_
    simp only [go_sem,seval,h1,hp0,h2d,h3.1,h3.2]
    repeat refine ⟨by first|omega|(and_intros<;>first|omega|exact rows_row _|decide|(simp<;>omega))|fail,?_⟩
    refine hK1 _ ?_
    clear hK1
    refine daopsE_cut 6 fun K1 hK1=>?_
    simp only [go_sem,seval,h1,hp0,h2d,h3.1,h3.2]
    repeat refine ⟨by first|omega|(and_intros<;>first|omega|exact rows_row _|decide|(simp<;>omega))|fail,?_⟩
    refine hK1 _ ?_
    clear hK1
    refine daopsE_cut 6 fun K1 hK1=>?_
    simp only [go_sem,seval,h1,hp0,h2d,h3.1,h3.2]
    repeat refine ⟨by first|omega|(and_intros<;>first|omega|exact rows_row _|decide|(simp<;>omega))|fail,?_⟩
    refine hK1 _ ?_
    clear hK1
    simp only [go_sem,seval,h1,hp0,h2d,h3.1,h3.2]
    repeat refine ⟨by first|omega|(and_intros<;>first|omega|exact rows_row _|decide|(simp<;>omega))|fail,?_⟩
    refine hK _ (Aw_yes rfl ?_)
    refine Aw_st hE [2] [] fun K hK=>?_
    simp only [go_sem,seval]
    refine hK _ (Aw_ret (hR12 _ (hR11 _ (hR10 _ (hR7 _ (hR6 _ (hR5 _ (hQ _ ?_))))))))
    simp only [go_sem,seval,hf]
  | true =>
  have e1:okR ⟨rf,rb,h0::p',rk,m⟩=true:=by rw [← h2]; exact hokR.trans h1
  have hgo2:gotOk h0 up (prevG l i) ⟨⟨rf,rb,p0::p',rk,m⟩,old⟩=(match prevG l i with | none=>true | some q=>decide (rCmp q.r.f q.r.b rf rb < 0)):=by
    simp only [gotOk,e1,h3,h2,List.head?_cons,Bool.true_and,decide_true]
    all_goals (cases prevG l i <;> rfl)
  rw [hgo2] at hst hstop
  have hupo:up=true∨(up=false∧old=true):=by
    cases up <;> simp_all
  rcases hupo with hu | ⟨hu,ho⟩
  · subst hu
    refine Aw_se hE [0,1,2,3,4,5,6,7,8,9,10,11,12,13,14,15,16,17,18,19,20,21,22,23] [0,1,3,7,15,31,63,127,255,511,31,1055,4095,8191,16383,32767,65535,131071,262143,524287,1048575,2097151,4194303,8388607] [1,3,4,16,17,18,46] [1,4] (by kernel_rfl) fun K hK=>?_
    refine daopsE_cut 6 fun K1 hK1=>?_
    simp only [go_sem,seval,h1,hp0,h2d]
    repeat refine ⟨by first|omega|(and_intros<;>first|omega|exact rows_row _|decide|(simp<;>omega))|fail,?_⟩
    refine hK1 _ ?_
    clear hK1
    refine daopsE_cut 6 fun K1 hK1=>?_
    simp only [go_sem,seval,h1,hp0,h2d]
    repeat refine ⟨by first|omega|(and_intros<;>first|omega|exact rows_row _|decide|(simp<;>omega))|fail,?_⟩
    refine hK1 _ ?_
    clear hK1
    refine daopsE_cut 6 fun K1 hK1=>?_
    simp only [go_sem,seval,h1,hp0,h2d]
    repeat refine ⟨by first|omega|(and_intros<;>first|omega|exact rows_row _|decide|(simp<;>omega))|fail,?_⟩
    refine hK1 _ ?_
    clear hK1
    simp only [go_sem,seval,h1,hp0,h2d]
    repeat refine ⟨by first|omega|(and_intros<;>first|omega|exact rows_row _|decide|(simp<;>omega))|fail,?_⟩
    refine hK _ (Aw_no rfl (Aw_skip (hB12 _ ?_)))
    by_cases hi0:i=0
    · have hz:decide ((0:Int) < (i:Int))=false:=decide_eq_false (by omega)
      have hpv:prevG l i=none:=by rw [hi0]; rfl
      rw [hpv] at hst
      simp only [Bool.true_and] at hst
      have hst:allG h0 true none l=allG h0 true (prevG l (i + 1)) (l.drop (i + 1)):=hst
      refine Aw_se hE [0,1,2,3,4,5,6,7,8,9,10,11,12,13,14,15,16] [0,1,3,7,15,7,39,127,255,511,1023,7,2055,6151,16383,32767,65535] [1,16,17,18,63] [1] (by kernel_rfl) fun K hK=>?_
      refine daopsE_cut 6 fun K1 hK1=>?_
      simp only [go_sem,seval,hz]
      repeat refine ⟨by first|omega|(and_intros<;>first|omega|exact rows_row _|decide|(simp<;>omega))|fail,?_⟩
      refine hK1 _ ?_
      clear hK1
      refine daopsE_cut 6 fun K1 hK1=>?_
      simp only [go_sem,seval,hz]
      repeat refine ⟨by first|omega|(and_intros<;>first|omega|exact rows_row _|decide|(simp<;>omega))|fail,?_⟩
      refine hK1 _ ?_
      clear hK1
      simp only [go_sem,seval,hz]
      repeat refine ⟨by first|omega|(and_intros<;>first|omega|exact rows_row _|decide|(simp<;>omega))|fail,?_⟩
      refine hK _ (Aw_no rfl (Aw_skip (hN11 _ (hB10 _ ?_))))
      refine Aw_tx hE [1,16,17,18] [1] fun K hK=>?_
      simp only [go_sem,seval]
      repeat refine ⟨by first|omega|(and_intros<;>first|omega|exact rows_row _|decide|(simp<;>omega))|fail,?_⟩
      refine hK _ (hN7 (i + 1) _ ⟨by omega,hst,hnx⟩ (by omega) (Le.refl _))
    · have hz:decide ((0:Int) < (i:Int))=true:=decide_eq_true (by omega)
      have et:((i:Int) - 1).toNat=i - 1:=by omega
      have hget2:=grows_get l (i - 1) (by omega)
      have hrq:=hi3 (i - 1) (by omega) _ (List.getElem?_eq_getElem (by omega))
      have hpv:prevG l i=some l[i - 1]:=by
        cases i with
        | zero=>exact absurd rfl hi0
        | succ j=>exact List.getElem?_eq_getElem (by omega)
      rw [hpv] at hst hstop
      generalize l[i - 1]=y at hget2 hst hstop hrq
      obtain ⟨⟨qf,qb,qp,qk,qm⟩,qo⟩:=y
      simp only at hst hstop hrq
      cases hq:decide (rCmp qf qb rf rb < 0) with
      | true =>
        rw [hq,Bool.true_and] at hst
        have hq2:decide (0≤rCmp qf qb rf rb)=false:=by
          simp only [decide_eq_true_eq] at hq
          exact decide_eq_false (by omega)
        refine Aw_se hE [0,1,2,3,4,5,6,7,8,9,10,11,12,13,14,15,16] [0,1,3,7,15,7,39,127,255,511,1023,7,2055,6151,16383,32767,65535] [1,16,17,18,63] [1] (by kernel_rfl) fun K hK=>?_
        refine daopsE_cut 6 fun K1 hK1=>?_
        simp only [go_sem,seval,hz,et,hget2,hrq,hrr,hq2,Bool.and_self,if_true]
        repeat refine ⟨by first|omega|(and_intros<;>first|omega|exact rows_row _|decide|(simp<;>omega))|fail,?_⟩
        refine hK1 _ ?_
        clear hK1
        refine daopsE_cut 6 fun K1 hK1=>?_
        simp only [go_sem,seval,hz,et,hget2,hrq,hrr,hq2,Bool.and_self,if_true]
        repeat refine ⟨by first|omega|(and_intros<;>first|omega|exact rows_row _|decide|(simp<;>omega))|fail,?_⟩
        refine hK1 _ ?_
        clear hK1
        simp only [go_sem,seval,hz,et,hget2,hrq,hrr,hq2,Bool.and_self,if_true]
        repeat refine ⟨by first|omega|(and_intros<;>first|omega|exact rows_row _|decide|(simp<;>omega))|fail,?_⟩
        refine hK _ (Aw_no rfl (Aw_skip (hN11 _ (hB10 _ ?_))))
        refine Aw_tx hE [1,16,17,18] [1] fun K hK=>?_
        simp only [go_sem,seval]
        repeat refine ⟨by first|omega|(and_intros<;>first|omega|exact rows_row _|decide|(simp<;>omega))|fail,?_⟩
        refine hK _ (hN7 (i + 1) _ ⟨by omega,hst,hnx⟩ (by omega) (Le.refl _))
      | false =>
        have hf:=hstop hq
        have hq2:decide (0≤rCmp qf qb rf rb)=true:=by
          simp only [decide_eq_false_iff_not] at hq
          exact decide_eq_true (by omega)
        refine Aw_se hE [0,1,2,3,4,5,6,7,8,9,10,11,12,13,14,15,16] [0,1,3,7,15,7,39,127,255,511,1023,7,2055,6151,16383,32767,65535] [1,16,17,18,63] [1] (by kernel_rfl) fun K hK=>?_
        refine daopsE_cut 6 fun K1 hK1=>?_
        simp only [go_sem,seval,hz,et,hget2,hrq,hrr,hq2,Bool.and_self,if_true]
        repeat refine ⟨by first|omega|(and_intros<;>first|omega|exact rows_row _|decide|(simp<;>omega))|fail,?_⟩
        refine hK1 _ ?_
        clear hK1
        refine daopsE_cut 6 fun K1 hK1=>?_
        simp only [go_sem,seval,hz,et,hget2,hrq,hrr,hq2,Bool.and_self,if_true]
        repeat refine ⟨by first|omega|(and_intros<;>first|omega|exact rows_row _|decide|(simp<;>omega))|fail,?_⟩
        refine hK1 _ ?_
        clear hK1
        simp only [go_sem,seval,hz,et,hget2,hrq,hrr,hq2,Bool.and_self,if_true]
        repeat refine ⟨by first|omega|(and_intros<;>first|omega|exact rows_row _|decide|(simp<;>omega))|fail,?_⟩
        refine hK _ (Aw_yes rfl ?_)
        refine Aw_st hE [2] [] fun K hK=>?_
        simp only [go_sem,seval]
        refine hK _ (Aw_ret (hR11 _ (hR10 _ (hR7 _ (hR6 _ (hR5 _ (hQ _ ?_)))))))
        simp only [go_sem,seval,hf]
  · subst hu ho
    refine Aw_se hE [0,1,2,3,4,5,6,7,8,9,10,11,12,13,14,15,16,17,18,19,20,21,22,23] [0,1,3,7,15,31,63,127,255,511,31,1055,4095,8191,16383,32767,65535,131071,262143,524287,1048575,2097151,4194303,8388607] [1,3,4,16,17,18,46] [1,4] (by kernel_rfl) fun K hK=>?_
    refine daopsE_cut 6 fun K1 hK1=>?_
    simp only [go_sem,seval,h1,hp0,h2d]
    repeat refine ⟨by first|omega|(and_intros<;>first|omega|exact rows_row _|decide|(simp<;>omega))|fail,?_⟩
    refine hK1 _ ?_
    clear hK1
    refine daopsE_cut 6 fun K1 hK1=>?_
    simp only [go_sem,seval,h1,hp0,h2d]
    repeat refine ⟨by first|omega|(and_intros<;>first|omega|exact rows_row _|decide|(simp<;>omega))|fail,?_⟩
    refine hK1 _ ?_
    clear hK1
    refine daopsE_cut 6 fun K1 hK1=>?_
    simp only [go_sem,seval,h1,hp0,h2d]
    repeat refine ⟨by first|omega|(and_intros<;>first|omega|exact rows_row _|decide|(simp<;>omega))|fail,?_⟩
    refine hK1 _ ?_
    clear hK1
    simp only [go_sem,seval,h1,hp0,h2d]
    repeat refine ⟨by first|omega|(and_intros<;>first|omega|exact rows_row _|decide|(simp<;>omega))|fail,?_⟩
    refine hK _ (Aw_no rfl (Aw_skip (hB12 _ ?_)))
    by_cases hi0:i=0
    · have hz:decide ((0:Int) < (i:Int))=false:=decide_eq_false (by omega)
      have hpv:prevG l i=none:=by rw [hi0]; rfl
      rw [hpv] at hst
      simp only [Bool.true_and] at hst
      have hst:allG h0 false none l=allG h0 false (prevG l (i + 1)) (l.drop (i + 1)):=hst
      refine Aw_se hE [0,1,2,3,4,5,6,7,8,9,10,11,12,13,14,15,16] [0,1,3,7,15,7,39,127,255,511,1023,7,2055,6151,16383,32767,65535] [1,16,17,18,63] [1] (by kernel_rfl) fun K hK=>?_
      refine daopsE_cut 6 fun K1 hK1=>?_
      simp only [go_sem,seval,hz]
      repeat refine ⟨by first|omega|(and_intros<;>first|omega|exact rows_row _|decide|(simp<;>omega))|fail,?_⟩
      refine hK1 _ ?_
      clear hK1
      refine daopsE_cut 6 fun K1 hK1=>?_
      simp only [go_sem,seval,hz]
      repeat refine ⟨by first|omega|(and_intros<;>first|omega|exact rows_row _|decide|(simp<;>omega))|fail,?_⟩
      refine hK1 _ ?_
      clear hK1
      simp only [go_sem,seval,hz]
      repeat refine ⟨by first|omega|(and_intros<;>first|omega|exact rows_row _|decide|(simp<;>omega))|fail,?_⟩
      refine hK _ (Aw_no rfl (Aw_skip (hN11 _ (hB10 _ ?_))))
      refine Aw_tx hE [1,16,17,18] [1] fun K hK=>?_
      simp only [go_sem,seval]
      repeat refine ⟨by first|omega|(and_intros<;>first|omega|exact rows_row _|decide|(simp<;>omega))|fail,?_⟩
      refine hK _ (hN7 (i + 1) _ ⟨by omega,hst,hnx⟩ (by omega) (Le.refl _))
    · have hz:decide ((0:Int) < (i:Int))=true:=decide_eq_true (by omega)
      have et:((i:Int) - 1).toNat=i - 1:=by omega
      have hget2:=grows_get l (i - 1) (by omega)
      have hrq:=hi3 (i - 1) (by omega) _ (List.getElem?_eq_getElem (by omega))
      have hpv:prevG l i=some l[i - 1]:=by
        cases i with
        | zero=>exact absurd rfl hi0
        | succ j=>exact List.getElem?_eq_getElem (by omega)
      rw [hpv] at hst hstop
      generalize l[i - 1]=y at hget2 hst hstop hrq
      obtain ⟨⟨qf,qb,qp,qk,qm⟩,qo⟩:=y
      simp only at hst hstop hrq
      cases hq:decide (rCmp qf qb rf rb < 0) with
      | true =>
        rw [hq,Bool.true_and] at hst
        have hq2:decide (0≤rCmp qf qb rf rb)=false:=by
          simp only [decide_eq_true_eq] at hq
          exact decide_eq_false (by omega)
        refine Aw_se hE [0,1,2,3,4,5,6,7,8,9,10,11,12,13,14,15,16] [0,1,3,7,15,7,39,127,255,511,1023,7,2055,6151,16383,32767,65535] [1,16,17,18,63] [1] (by kernel_rfl) fun K hK=>?_
        refine daopsE_cut 6 fun K1 hK1=>?_
        simp only [go_sem,seval,hz,et,hget2,hrq,hrr,hq2,Bool.and_self,if_true]
        repeat refine ⟨by first|omega|(and_intros<;>first|omega|exact rows_row _|decide|(simp<;>omega))|fail,?_⟩
        refine hK1 _ ?_
        clear hK1
        refine daopsE_cut 6 fun K1 hK1=>?_
        simp only [go_sem,seval,hz,et,hget2,hrq,hrr,hq2,Bool.and_self,if_true]
        repeat refine ⟨by first|omega|(and_intros<;>first|omega|exact rows_row _|decide|(simp<;>omega))|fail,?_⟩
        refine hK1 _ ?_
        clear hK1
        simp only [go_sem,seval,hz,et,hget2,hrq,hrr,hq2,Bool.and_self,if_true]
        repeat refine ⟨by first|omega|(and_intros<;>first|omega|exact rows_row _|decide|(simp<;>omega))|fail,?_⟩
        refine hK _ (Aw_no rfl (Aw_skip (hN11 _ (hB10 _ ?_))))
        refine Aw_tx hE [1,16,17,18] [1] fun K hK=>?_
        simp only [go_sem,seval]
        repeat refine ⟨by first|omega|(and_intros<;>first|omega|exact rows_row _|decide|(simp<;>omega))|fail,?_⟩
        refine hK _ (hN7 (i + 1) _ ⟨by omega,hst,hnx⟩ (by omega) (Le.refl _))
      | false =>
        have hf:=hstop hq
        have hq2:decide (0≤rCmp qf qb rf rb)=true:=by
          simp only [decide_eq_false_iff_not] at hq
          exact decide_eq_true (by omega)
        refine Aw_se hE [0,1,2,3,4,5,6,7,8,9,10,11,12,13,14,15,16] [0,1,3,7,15,7,39,127,255,511,1023,7,2055,6151,16383,32767,65535] [1,16,17,18,63] [1] (by kernel_rfl) fun K hK=>?_
        refine daopsE_cut 6 fun K1 hK1=>?_
        simp only [go_sem,seval,hz,et,hget2,hrq,hrr,hq2,Bool.and_self,if_true]
        repeat refine ⟨by first|omega|(and_intros<;>first|omega|exact rows_row _|decide|(simp<;>omega))|fail,?_⟩
        refine hK1 _ ?_
        clear hK1
        refine daopsE_cut 6 fun K1 hK1=>?_
        simp only [go_sem,seval,hz,et,hget2,hrq,hrr,hq2,Bool.and_self,if_true]
        repeat refine ⟨by first|omega|(and_intros<;>first|omega|exact rows_row _|decide|(simp<;>omega))|fail,?_⟩
        refine hK1 _ ?_
        clear hK1
        simp only [go_sem,seval,hz,et,hget2,hrq,hrr,hq2,Bool.and_self,if_true]
        repeat refine ⟨by first|omega|(and_intros<;>first|omega|exact rows_row _|decide|(simp<;>omega))|fail,?_⟩
        refine hK _ (Aw_yes rfl ?_)
        refine Aw_st hE [2] [] fun K hK=>?_
        simp only [go_sem,seval]
        refine hK _ (Aw_ret (hR11 _ (hR10 _ (hR7 _ (hR6 _ (hR5 _ (hQ _ ?_)))))))
        simp only [go_sem,seval,hf]
end Go.Proofs.W
end
section
namespace Go.Proofs.W
open Go Go.Eng Go.RowKit
set_option linter.unusedSimpArgs false
set_option maxRecDepth 100000

/-! the program's linked lists -/
mutual
theorem avLe_rfl:∀ x:AV,avLe x x
  | .v _=>rfl
  | .nl=>rfl
  | .sl none _=>rfl
  | .sl (some _) _=>rfl
  | .agg l=>avLeL_rfl l
  | .tup l=>avLeL_rfl l
  | .loc _ _=>rfl
  | .xs _ _ _ _ _=>rfl
  | .el _=>rfl
  | .rd=>rfl
  | .dv _=>rfl
  | .mr _=>rfl
  | .mb _=>rfl
  | .junk=>trivial
theorem avLeL_rfl:∀ l:List AV,avLeL l l
  | []=>trivial
  | x::l=>⟨avLe_rfl x,avLeL_rfl l⟩
end
theorem avLe_self (x:AV):avLe x x=True:=eq_true (avLe_rfl x)
theorem avLeL_self (l:List AV):avLeL l l=True:=eq_true (avLeL_rfl l)
def gCopyGot:List AV→Option (Prop × AV)
  | [.agg [.v (.int .i64 f),.v (.int .i64 b),.sl _ e1,.v (.int .i64 k),.sl _ e2,.v (.bool o)]]=>(match intsL e1,intsL e2 with
    | some p,some m=>some (p.length≤1000000∧m.length≤1000000,.agg [iv f,iv b,isl p,iv k,isl m,bv o])
    | _,_=>none)
  | _=>none
def dCopyGot:DFn:={ g:=gCopyGot }
attribute [go_sem] gCopyGot dCopyGot
theorem copyGot_ok:Fine Tryz.prog 66 dCopyGot.con:=by
  refine fine_det (T:=TT) Tryz.func66 rfl Tryz.ntmps66 (by rw [Tryz.results66]) rfl rfl tt (gs_nil) (ds_cons copyD_ok ds_nil) ?_
  intro args c r h hc
  simp only [dCopyGot,gCopyGot] at h
  split at h
  rotate_left
  · cases h
  split at h
  rotate_left
  · cases h
  rename_i f b e1 k0 e2 o _ _ p m hl1 hl2
  obtain rfl:=intsL_eq hl1
  obtain rfl:=intsL_eq hl2
  obtain ⟨rfl,rfl⟩:=Prod.mk.inj (Option.some.inj h)
  refine ⟨by simp,fun k E hE Q hQ=>?_⟩
  refine Aw_st hE [1,2] [1,2] fun K hK=>?_
  simp only [go_sem,reduceIte,Nat.reduceLT,Nat.reduceLeDiff,Nat.reduceEqDiff,Nat.reduceAdd,Nat.reduceMul,Nat.reduceSub,Nat.reduceBEq,Int.reduceToNat,List.reduceReplicate,reduceCtorEq]
  refine hK _ ?_; clear hK K
  apply (fun F0 F1=>Aw_sD hE [([0,1,3,4],(.alt 2 (.ref 1) .non)),([0,1,2,3,4],(.alt 5 (.alt 6 .done .non) .non))] (.fst 0 (.fst 3 (.alt 1 (.alt 2 (.alt 4 (.ref 1) .non) (.alt 4 (.ref 0) .non)) (.alt 4 (.alt 1 (.ref 0) .non) .non)))) [F0,F1] [2] [2])
  · kernel_rfl
  intro K hK
  refine And.intro ?_ (And.intro ?_ (And.intro ?_ trivial))
  iterate 2 (focus (simp only [go_sem,reduceIte,Nat.reduceLT,Nat.reduceLeDiff,Nat.reduceEqDiff,Nat.reduceAdd,Nat.reduceMul,Nat.reduceSub,Nat.reduceBEq,Int.reduceToNat,List.reduceReplicate,reduceCtorEq,↓avLe_self,↓avLeL_self]; repeat' (first | exact (fun _ _ r=>r) | exact LeE_eq (by simp only [go_sem,reduceIte,Nat.reduceLT,Nat.reduceLeDiff,Nat.reduceEqDiff,Nat.reduceAdd,Nat.reduceMul,Nat.reduceSub,Nat.reduceBEq,Int.reduceToNat,List.reduceReplicate,reduceCtorEq,↓avLe_self,↓avLeL_self]) (by simp only [go_sem,reduceIte,Nat.reduceLT,Nat.reduceLeDiff,Nat.reduceEqDiff,Nat.reduceAdd,Nat.reduceMul,Nat.reduceSub,Nat.reduceBEq,Int.reduceToNat,List.reduceReplicate,reduceCtorEq,↓avLe_self,↓avLeL_self]) | exact LeE_wk (by simp only [go_sem,reduceIte,Nat.reduceLT,Nat.reduceLeDiff,Nat.reduceEqDiff,Nat.reduceAdd,Nat.reduceMul,Nat.reduceSub,Nat.reduceBEq,Int.reduceToNat,List.reduceReplicate,reduceCtorEq,↓avLe_self,↓avLeL_self]) (by simp only [go_sem,reduceIte,Nat.reduceLT,Nat.reduceLeDiff,Nat.reduceEqDiff,Nat.reduceAdd,Nat.reduceMul,Nat.reduceSub,Nat.reduceBEq,Int.reduceToNat,List.reduceReplicate,reduceCtorEq,↓avLe_self,↓avLeL_self]) | refine And.intro (by first|omega|(and_intros<;>first|omega|exact crows_row _|exact rrows_row _|exact rows_row _|decide|(simp<;>omega))|fail) ?_ | refine And.intro ?_ ?_)))
  simp only [go_sem,reduceIte,Nat.reduceLT,Nat.reduceLeDiff,Nat.reduceEqDiff,Nat.reduceAdd,Nat.reduceMul,Nat.reduceSub,Nat.reduceBEq,Int.reduceToNat,List.reduceReplicate,reduceCtorEq,↓avLe_self,↓avLeL_self]
  refine hK _ (Aw_ret (hQ _ ?_))
  simp only [go_sem,reduceIte,Nat.reduceLT,Nat.reduceLeDiff,Nat.reduceEqDiff,Nat.reduceAdd,Nat.reduceMul,Nat.reduceSub,Nat.reduceBEq,Int.reduceToNat,List.reduceReplicate,reduceCtorEq]
/-- a list of what is settled -/
def chD:List Gt→DV
  | []=>.v (.pointer none)
  | g::l=>.ptr (g.row++[chD l])
theorem chD_inj:∀ {l l':List Gt},chD l=chD l'→l=l'
  | [],[],_=>rfl
  | [],_::_,h=>by cases h
  | _::_,[],h=>by cases h
  | g::l,g'::l',h=>by
    simp only [chD,DV.ptr.injEq,Gt.row,List.cons_append,List.nil_append,List.cons.injEq,DV.v.injEq,DV.sl.injEq,Value.int.injEq,Value.bool.injEq,true_and,and_true] at h
    obtain ⟨h1,h2,h3,h4,h5,h6,h7⟩:=h
    have i1:∀ {a b:List Int},rows a=rows b→a=b:=fun {a b} e=>by
      have:=congrArg intsL e
      rw [intsL_rows,intsL_rows] at this
      exact Option.some.inj this
    obtain ⟨⟨f,b,p,k,m⟩,o⟩:=g
    obtain ⟨⟨f',b',p',k',m'⟩,o'⟩:=g'
    simp only at h1 h2 h3 h4 h5 h6
    rw [h1,h2,i1 h3,h4,i1 h5,h6,chD_inj h7]
abbrev sesA (h:Int) (up:Bool) (l:List Gt) (n:Int):AV:=.el [.v (.int .i64 h),.v (.bool up),chD l,.v (.int .i64 n)]
def cRibL:Con:={
  pre:=fun args=>∃ (h:Int) (up:Bool) (l:List Gt) (n:Int),args=[sesA h up l n]∧l.length≤1000
  post:=fun args r=>∀ (h:Int) (up:Bool) (l:List Gt) (n:Int),args=[sesA h up l n]→r = .agg [iv h,bv up,.sl none (grows l)] }
theorem cRibL_own:cRibL.own=false:=rfl
theorem cRibL_draws:cRibL.draws=false:=rfl
theorem cRibL_cost:cRibL.cost=0:=rfl
attribute [go_sem] cRibL_own cRibL_draws cRibL_cost
theorem sesA_inj {h h' n n':Int} {up up':Bool} {l l':List Gt} (e:[sesA h up l n]=[sesA h' up' l' n']):h=h'∧up=up'∧l=l'∧n=n':=by
  simp only [List.cons.injEq,AV.el.injEq,DV.v.injEq,Value.int.injEq,Value.bool.injEq,true_and,and_true] at e
  exact ⟨e.1,e.2.1,chD_inj e.2.2.1,e.2.2.2⟩
theorem ribL_pre (h:Int) (up:Bool) (l:List Gt) (n:Int):cRibL.pre [sesA h up l n]=(l.length≤1000):=by
  apply propext
  refine ⟨fun ⟨h',up',l',n',e,hl⟩=>?_,fun hl=>⟨h,up,l,n,rfl,hl⟩⟩
  obtain ⟨rfl,rfl,rfl,rfl⟩:=sesA_inj e
  exact hl
theorem ribL_post (h:Int) (up:Bool) (l:List Gt) (n:Int) (K:AV→Prop):(∀ r,cRibL.post [sesA h up l n] r→K r)=K (.agg [iv h,bv up,.sl none (grows l)]):=by
  apply propext
  refine ⟨fun hh=>hh _ fun h' up' l' n' e=>?_,fun hh r hr=>?_⟩
  · obtain ⟨rfl,rfl,rfl,rfl⟩:=sesA_inj e; rfl
  · rw [hr h up l n rfl]; exact hh
theorem ribL_ex (h:Int) (up:Bool) (l:List Gt) (n:Int):(∃ r,cRibL.post [sesA h up l n] r)=True:=eq_true ⟨_,fun h' up' l' n' e=>by obtain ⟨rfl,rfl,rfl,rfl⟩:=sesA_inj e; rfl⟩
attribute [go_sem] ribL_pre ribL_post ribL_ex
def ribC:List Gt→AV
  | []=>.nl
  | g::l=>.sl (some (31,0,41)) (grows (g::l))
theorem ribC_some {l:List Gt} (h:l≠[]):ribC l = .sl (some (31,0,41)) (grows l):=by
  cases l with
  | nil=>exact absurd rfl h
  | cons g l=>rfl
theorem grows_one (f b:Int) (p:List Int) (k:Int) (m:List Int) (o:Bool):[[DV.v (.int .i64 f),.v (.int .i64 b),.sl (rows p),.v (.int .i64 k),.sl (rows m),.v (.bool o)]]=grows [⟨⟨f,b,p,k,m⟩,o⟩]:=rfl
theorem ribL_ok:Fine Tryz.prog 44 cRibL:=by
  refine fine_of (T:=TT) Tryz.func44 rfl Tryz.ntmps44 (by rw [Tryz.results44]) rfl rfl tt (gs_nil) (ds_nil) ?_
  rintro args ⟨h0,up,l,n0,rfl,hl⟩
  refine ⟨by simp,fun k hk E hE Q hQ=>?_⟩
  refine Aw_st hE [0,2] [2] fun K hK=>?_
  simp only [go_sem,reduceIte,Nat.reduceLT,Nat.reduceLeDiff,Nat.reduceEqDiff,Nat.reduceAdd,Nat.reduceMul,Nat.reduceSub,Nat.reduceBEq,Int.reduceToNat,List.reduceReplicate,reduceCtorEq]
  refine hK _ ?_; clear hK K
  apply (fun F0 F1 F2 F3 F4 F5 F6 F7 F8 F9 F10 F11 F12=>Aw_sD hE [([0,1,2,4,9],(.alt 3 (.ref 2) (.alt 5 (.fst 6 (.ref 7)) .non))),([0,4,5,6,9],(.alt 1 (.fst 2 (.ref 7)) (.alt 7 (.ref 4) .non))),([0,1,2,3,4,9],(.alt 5 (.fst 6 (.ref 9)) .non)),([0,1,2,4,5,6],(.alt 3 (.ref 5) (.alt 7 (.ref 6) (.alt 9 (.ref 7) .non)))),([0,4,5,6,7,9],(.alt 1 (.fst 2 (.ref 10)) .non)),([0,1,2,3,4,5,6],(.alt 7 (.ref 8) (.alt 9 (.ref 9) .non))),([0,1,2,4,5,6,7],(.alt 3 (.ref 8) (.alt 9 (.ref 10) .non))),([0,1,2,4,5,6,9],(.alt 3 (.ref 9) (.alt 7 (.ref 10) .non))),([0,1,2,3,4,5,6,7],(.alt 8 (.alt 9 (.ref 12) .non) (.alt 9 (.ref 11) .non))),([0,1,2,3,4,5,6,9],(.alt 7 (.ref 11) .non)),([0,1,2,4,5,6,7,9],(.alt 3 (.ref 11) .non)),([0,1,2,3,4,5,6,7,9],(.alt 8 (.ref 12) .non)),([0,1,2,3,4,5,6,7,8,9],(.alt 10 .done .non))] (.fst 0 (.fst 4 (.alt 1 (.fst 2 (.alt 3 (.alt 5 (.fst 6 (.ref 5)) (.alt 9 (.ref 2) .non)) (.alt 5 (.fst 6 (.ref 3)) (.alt 9 (.ref 0) .non)))) (.alt 5 (.fst 6 (.alt 1 (.fst 2 (.ref 3)) (.alt 7 (.alt 1 (.fst 2 (.ref 6)) (.alt 9 (.ref 4) .non)) (.alt 9 (.ref 1) .non)))) (.alt 9 (.alt 1 (.fst 2 (.ref 0)) (.alt 5 (.fst 6 (.ref 1)) .non)) .non))))) [F0,F1,F2,F3,F4,F5,F6,F7,F8,F9,F10,F11,F12] [0,2,3] [2,3])
  · kernel_rfl
  intro K hK
  refine And.intro ?_ (And.intro ?_ (And.intro ?_ (And.intro ?_ (And.intro ?_ (And.intro ?_ (And.intro ?_ (And.intro ?_ (And.intro ?_ (And.intro ?_ (And.intro ?_ (And.intro ?_ (And.intro ?_ (And.intro ?_ trivial)))))))))))))
  iterate 13 (focus (simp only [go_sem,reduceIte,Nat.reduceLT,Nat.reduceLeDiff,Nat.reduceEqDiff,Nat.reduceAdd,Nat.reduceMul,Nat.reduceSub,Nat.reduceBEq,Int.reduceToNat,List.reduceReplicate,reduceCtorEq,↓avLe_self,↓avLeL_self]; repeat' (first | exact (fun _ _ r=>r) | exact LeE_eq (by simp only [go_sem,reduceIte,Nat.reduceLT,Nat.reduceLeDiff,Nat.reduceEqDiff,Nat.reduceAdd,Nat.reduceMul,Nat.reduceSub,Nat.reduceBEq,Int.reduceToNat,List.reduceReplicate,reduceCtorEq,↓avLe_self,↓avLeL_self]) (by simp only [go_sem,reduceIte,Nat.reduceLT,Nat.reduceLeDiff,Nat.reduceEqDiff,Nat.reduceAdd,Nat.reduceMul,Nat.reduceSub,Nat.reduceBEq,Int.reduceToNat,List.reduceReplicate,reduceCtorEq,↓avLe_self,↓avLeL_self]) | exact LeE_wk (by simp only [go_sem,reduceIte,Nat.reduceLT,Nat.reduceLeDiff,Nat.reduceEqDiff,Nat.reduceAdd,Nat.reduceMul,Nat.reduceSub,Nat.reduceBEq,Int.reduceToNat,List.reduceReplicate,reduceCtorEq,↓avLe_self,↓avLeL_self]) (by simp only [go_sem,reduceIte,Nat.reduceLT,Nat.reduceLeDiff,Nat.reduceEqDiff,Nat.reduceAdd,Nat.reduceMul,Nat.reduceSub,Nat.reduceBEq,Int.reduceToNat,List.reduceReplicate,reduceCtorEq,↓avLe_self,↓avLeL_self]) | refine And.intro (by first|omega|(and_intros<;>first|omega|exact crows_row _|exact rrows_row _|exact rows_row _|decide|(simp<;>omega))|fail) ?_ | refine And.intro ?_ ?_)))
  simp only [go_sem,reduceIte,Nat.reduceLT,Nat.reduceLeDiff,Nat.reduceEqDiff,Nat.reduceAdd,Nat.reduceMul,Nat.reduceSub,Nat.reduceBEq,Int.reduceToNat,List.reduceReplicate,reduceCtorEq,↓avLe_self,↓avLeL_self]
  refine hK _ ?_; clear hK K
  refine Aw_sq fun B1 hB1 hR1 hX1=>?_
  refine Aw_st hE [2,3,4] [2,3] fun K hK=>?_
  simp only [go_sem,reduceIte,Nat.reduceLT,Nat.reduceLeDiff,Nat.reduceEqDiff,Nat.reduceAdd,Nat.reduceMul,Nat.reduceSub,Nat.reduceBEq,Int.reduceToNat,List.reduceReplicate,reduceCtorEq]
  refine hK _ ?_; clear hK K
  refine Aw_bk fun B2 hN2 hE2 hR2 hX2=>?_
  refine Aw_lp (fun i:Nat=>⟨34,[(2,.loc 2 0),(3,.loc 3 0),(4,(chD (l.drop i)).toAV)],[(2,[iv 0,bv false,.nl]),(3,[iv h0,bv up,ribC (l.take i)])],k⟩) (fun i=>i≤l.length) (fun i=>l.length - i) 0 (Le.refl _) (by omega) fun i hi B3 hN3 hR3 hX3=>?_
  refine Aw_sq fun B4 hB4 hR4 hX4=>?_
  by_cases hil:i < l.length
  · have hd:l.drop i=l[i]::l.drop (i + 1):=List.drop_eq_getElem_cons hil
    have htk:l.take (i + 1)=l.take i++[l[i]]:=List.take_succ_eq_append_getElem hil
    have hne:l.take (i + 1)≠[]:=by rw [htk]; exact List.append_ne_nil_of_right_ne_nil _ (List.cons_ne_nil _ _)
    have hlt:(l.take i).length≤1000:=by rw [List.length_take]; omega
    have hrc:=ribC_some hne
    rw [htk] at hrc
    generalize l.take i=o at hrc hlt htk ⊢
    rw [hd]
    generalize l[i]=g at hrc htk ⊢
    obtain ⟨⟨rf,rb,p,rk,m⟩,old⟩:=g
    simp only [chD,DV.toAV,Gt.row,List.cons_append,List.nil_append]
    refine Aw_stP hE [2,3,4,19] [2,3] fun K hK=>?_
    simp only [go_sem,reduceIte,Nat.reduceLT,Nat.reduceLeDiff,Nat.reduceEqDiff,Nat.reduceAdd,Nat.reduceMul,Nat.reduceSub,Nat.reduceBEq,Int.reduceToNat,List.reduceReplicate,reduceCtorEq]
    refine hK _ (Aw_yes rfl (Aw_skip (hB4 _ ?_)))
    refine Aw_sq fun B6 hB6 hR6 hX6=>?_
    refine Aw_bk fun B7 hN7 hE7 hR7 hX7=>?_
    by_cases ho:o=[]
    · subst ho
      simp only [ribC]
      apply (fun F0 F1 F2=>Aw_tD hE [([0,1,2,3,4],(.alt 5 (.ref 1) .non)),([0,1,2,3,4,5],(.alt 6 (.ref 2) .non)),([0,1,2,3,4,5,6],(.alt 7 (.fst 8 (.alt 9 .done .non)) .non))] (.fst 0 (.fst 2 (.alt 1 (.alt 3 (.fst 4 (.ref 0)) .non) (.alt 3 (.fst 4 (.alt 1 (.ref 0) (.alt 5 (.alt 1 (.ref 1) (.alt 6 (.alt 1 (.ref 2) .non) .non)) .non))) .non)))) [F0,F1,F2] [2,3,4] [2,3])
      · kernel_rfl
      intro K hK
      refine And.intro ?_ (And.intro ?_ (And.intro ?_ (And.intro ?_ trivial)))
      iterate 3 (focus (simp only [go_sem,reduceIte,Nat.reduceLT,Nat.reduceLeDiff,Nat.reduceEqDiff,Nat.reduceAdd,Nat.reduceMul,Nat.reduceSub,Nat.reduceBEq,Int.reduceToNat,List.reduceReplicate,reduceCtorEq,↓avLe_self,↓avLeL_self,grows_one,List.nil_append]; repeat' (first | exact (fun _ _ r=>r) | exact LeE_eq (by simp only [go_sem,reduceIte,Nat.reduceLT,Nat.reduceLeDiff,Nat.reduceEqDiff,Nat.reduceAdd,Nat.reduceMul,Nat.reduceSub,Nat.reduceBEq,Int.reduceToNat,List.reduceReplicate,reduceCtorEq,↓avLe_self,↓avLeL_self,grows_one,List.nil_append]) (by simp only [go_sem,reduceIte,Nat.reduceLT,Nat.reduceLeDiff,Nat.reduceEqDiff,Nat.reduceAdd,Nat.reduceMul,Nat.reduceSub,Nat.reduceBEq,Int.reduceToNat,List.reduceReplicate,reduceCtorEq,↓avLe_self,↓avLeL_self,grows_one,List.nil_append]) | exact LeE_wk (by simp only [go_sem,reduceIte,Nat.reduceLT,Nat.reduceLeDiff,Nat.reduceEqDiff,Nat.reduceAdd,Nat.reduceMul,Nat.reduceSub,Nat.reduceBEq,Int.reduceToNat,List.reduceReplicate,reduceCtorEq,↓avLe_self,↓avLeL_self,grows_one,List.nil_append]) (by simp only [go_sem,reduceIte,Nat.reduceLT,Nat.reduceLeDiff,Nat.reduceEqDiff,Nat.reduceAdd,Nat.reduceMul,Nat.reduceSub,Nat.reduceBEq,Int.reduceToNat,List.reduceReplicate,reduceCtorEq,↓avLe_self,↓avLeL_self,grows_one,List.nil_append]) | refine And.intro (by first|omega|(and_intros<;>first|omega|exact crows_row _|exact rrows_row _|exact rows_row _|decide|(simp<;>omega))|fail) ?_ | refine And.intro ?_ ?_)))
      simp only [go_sem,reduceIte,Nat.reduceLT,Nat.reduceLeDiff,Nat.reduceEqDiff,Nat.reduceAdd,Nat.reduceMul,Nat.reduceSub,Nat.reduceBEq,Int.reduceToNat,List.reduceReplicate,reduceCtorEq,↓avLe_self,↓avLeL_self,grows_one,List.nil_append]
      refine ⟨grows_row _,?_⟩
      refine hK _ (hN7 _ (hB6 _ ?_))
      refine Aw_tx hE [2,3,4] [2,3] fun K hK=>?_
      simp only [go_sem,reduceIte,Nat.reduceLT,Nat.reduceLeDiff,Nat.reduceEqDiff,Nat.reduceAdd,Nat.reduceMul,Nat.reduceSub,Nat.reduceBEq,Int.reduceToNat,List.reduceReplicate,reduceCtorEq]
      refine hK _ (hN3 (i + 1) _ (by omega) (by omega) ?_)
      simp only [List.nil_append] at hrc htk
      rw [htk,hrc]
      exact Le.refl _
    · rw [ribC_some ho]
      apply (fun F0 F1 F2=>Aw_tD hE [([0,1,2,3,4],(.alt 5 (.ref 1) .non)),([0,1,2,3,4,5],(.alt 6 (.ref 2) .non)),([0,1,2,3,4,5,6],(.alt 7 (.fst 8 (.alt 9 .done .non)) .non))] (.fst 0 (.fst 2 (.alt 1 (.alt 3 (.fst 4 (.ref 0)) .non) (.alt 3 (.fst 4 (.alt 1 (.ref 0) (.alt 5 (.alt 1 (.ref 1) (.alt 6 (.alt 1 (.ref 2) .non) .non)) .non))) .non)))) [F0,F1,F2] [2,3,4] [2,3])
      · kernel_rfl
      intro K hK
      refine And.intro ?_ (And.intro ?_ (And.intro ?_ (And.intro ?_ trivial)))
      iterate 3 (focus (simp only [go_sem,reduceIte,Nat.reduceLT,Nat.reduceLeDiff,Nat.reduceEqDiff,Nat.reduceAdd,Nat.reduceMul,Nat.reduceSub,Nat.reduceBEq,Int.reduceToNat,List.reduceReplicate,reduceCtorEq,↓avLe_self,↓avLeL_self,grows_one]; repeat' (first | exact (fun _ _ r=>r) | exact LeE_eq (by simp only [go_sem,reduceIte,Nat.reduceLT,Nat.reduceLeDiff,Nat.reduceEqDiff,Nat.reduceAdd,Nat.reduceMul,Nat.reduceSub,Nat.reduceBEq,Int.reduceToNat,List.reduceReplicate,reduceCtorEq,↓avLe_self,↓avLeL_self,grows_one]) (by simp only [go_sem,reduceIte,Nat.reduceLT,Nat.reduceLeDiff,Nat.reduceEqDiff,Nat.reduceAdd,Nat.reduceMul,Nat.reduceSub,Nat.reduceBEq,Int.reduceToNat,List.reduceReplicate,reduceCtorEq,↓avLe_self,↓avLeL_self,grows_one]) | exact LeE_wk (by simp only [go_sem,reduceIte,Nat.reduceLT,Nat.reduceLeDiff,Nat.reduceEqDiff,Nat.reduceAdd,Nat.reduceMul,Nat.reduceSub,Nat.reduceBEq,Int.reduceToNat,List.reduceReplicate,reduceCtorEq,↓avLe_self,↓avLeL_self,grows_one]) (by simp only [go_sem,reduceIte,Nat.reduceLT,Nat.reduceLeDiff,Nat.reduceEqDiff,Nat.reduceAdd,Nat.reduceMul,Nat.reduceSub,Nat.reduceBEq,Int.reduceToNat,List.reduceReplicate,reduceCtorEq,↓avLe_self,↓avLeL_self,grows_one]) | refine And.intro (by first|omega|(and_intros<;>first|omega|exact crows_row _|exact rrows_row _|exact rows_row _|decide|(simp<;>omega))|fail) ?_ | refine And.intro ?_ ?_)))
      simp only [go_sem,reduceIte,Nat.reduceLT,Nat.reduceLeDiff,Nat.reduceEqDiff,Nat.reduceAdd,Nat.reduceMul,Nat.reduceSub,Nat.reduceBEq,Int.reduceToNat,List.reduceReplicate,reduceCtorEq,↓avLe_self,↓avLeL_self,grows_one]
      refine ⟨⟨grows_row _,by omega⟩,?_⟩
      refine hK _ (hN7 _ (hB6 _ ?_))
      refine Aw_tx hE [2,3,4] [2,3] fun K hK=>?_
      simp only [go_sem,reduceIte,Nat.reduceLT,Nat.reduceLeDiff,Nat.reduceEqDiff,Nat.reduceAdd,Nat.reduceMul,Nat.reduceSub,Nat.reduceBEq,Int.reduceToNat,List.reduceReplicate,reduceCtorEq]
      refine hK _ (hN3 (i + 1) _ (by omega) (by omega) ?_)
      rw [htk,hrc]
      exact Le.refl _
  · have hil2:i=l.length:=by omega
    subst hil2
    rw [List.drop_length,List.take_length]
    simp only [chD,DV.toAV]
    refine Aw_stP hE [2,3,4,19] [2,3] fun K hK=>?_
    simp only [go_sem,reduceIte,Nat.reduceLT,Nat.reduceLeDiff,Nat.reduceEqDiff,Nat.reduceAdd,Nat.reduceMul,Nat.reduceSub,Nat.reduceBEq,Int.reduceToNat,List.reduceReplicate,reduceCtorEq]
    refine hK _ (Aw_no rfl (Aw_exit (hX4 _ _ (hX3 _ _ (hE2 _ (hB1 _ ?_))))))
    by_cases ho:l=[]
    · subst ho
      simp only [ribC]
      refine Aw_st hE [2] [2] fun K hK=>?_
      simp only [go_sem,reduceIte,Nat.reduceLT,Nat.reduceLeDiff,Nat.reduceEqDiff,Nat.reduceAdd,Nat.reduceMul,Nat.reduceSub,Nat.reduceBEq,Int.reduceToNat,List.reduceReplicate,reduceCtorEq]
      refine hK _ (Aw_ret (hQ _ ?_))
      simp only [go_sem,reduceIte,Nat.reduceLT,Nat.reduceLeDiff,Nat.reduceEqDiff,Nat.reduceAdd,Nat.reduceMul,Nat.reduceSub,Nat.reduceBEq,Int.reduceToNat,List.reduceReplicate,reduceCtorEq]
      intro h' up' l' n' e
      obtain ⟨rfl,rfl,rfl,rfl⟩:=sesA_inj e
      rfl
    · rw [ribC_some ho]
      refine Aw_st hE [2] [2] fun K hK=>?_
      simp only [go_sem,reduceIte,Nat.reduceLT,Nat.reduceLeDiff,Nat.reduceEqDiff,Nat.reduceAdd,Nat.reduceMul,Nat.reduceSub,Nat.reduceBEq,Int.reduceToNat,List.reduceReplicate,reduceCtorEq]
      refine hK _ (Aw_ret (hQ _ ?_))
      simp only [go_sem,reduceIte,Nat.reduceLT,Nat.reduceLeDiff,Nat.reduceEqDiff,Nat.reduceAdd,Nat.reduceMul,Nat.reduceSub,Nat.reduceBEq,Int.reduceToNat,List.reduceReplicate,reduceCtorEq]
      intro h' up' l' n' e
      obtain ⟨rfl,rfl,rfl,rfl⟩:=sesA_inj e
      rfl
end Go.Proofs.W
end
section
namespace Go.Proofs.W
open Go Go.Eng Go.RowKit
set_option linter.unusedSimpArgs false
set_option maxRecDepth 100000

/-! lists of nodes,as boxes -/
def hdB:List Gt→Nat→AV
  | [],_=>.v (.pointer none)
  | _::_,k=>.loc k 0
def ndB:List Gt→Nat→List (Nat × List AV)
  | [],_=>[]
  | g::l,k=>(k,gcs g++[hdB l (k + 1)])::ndB l (k + 1)
def sesB (h:Int) (up:Bool) (l:List Gt):List (Nat × List AV):=(600,[iv h,bv up,hdB l 601,iv l.length])::ndB l 601
attribute [go_sem] hdB ndB sesB gcs
def cOpen:ConM:={
  pre:=fun args m1=>∃ (h:Int) (up:Bool) (l:List Gt),args=[.agg [iv h,bv up,.sl none (grows l)]]∧m1=[]∧l.length≤6∧lensG l
  post:=fun args _ r m2=>∀ (h:Int) (up:Bool) (l:List Gt),args=[.agg [iv h,bv up,.sl none (grows l)]]→∀ K:AV→List (Nat × List AV)→Prop,K (.loc 600 0) (sesB h up l)→K r m2 }
theorem open_pre (h:Int) (up:Bool) (l:List Gt):cOpen.pre [.agg [iv h,bv up,.sl none (grows l)]] []=(l.length≤6∧lensG l):=by
  apply propext
  constructor
  · rintro ⟨h',up',l',e,_,h2⟩
    obtain ⟨rfl,rfl,rfl⟩:=rbav_inj e
    exact h2
  · exact fun hh=>⟨h,up,l,rfl,rfl,hh⟩
theorem open_post (h:Int) (up:Bool) (l:List Gt) (m1:List (Nat × List AV)) (K:AV→List (Nat × List AV)→Prop):(∀ r m2,cOpen.post [.agg [iv h,bv up,.sl none (grows l)]] m1 r m2→K r m2)=K (.loc 600 0) (sesB h up l):=by
  apply propext
  constructor
  · intro hh
    refine hh _ _ fun h' up' l' e K' hK'=>?_
    obtain ⟨rfl,rfl,rfl⟩:=rbav_inj e
    exact hK'
  · exact fun hh r m2 hp=>hp h up l rfl K hh
attribute [go_sem] open_pre
theorem six {l:List Gt} (h:l.length≤6):l=[]∨(∃ g1,l=[g1])∨(∃ g1 g2,l=[g1,g2])∨(∃ g1 g2 g3,l=[g1,g2,g3])∨(∃ g1 g2 g3 g4,l=[g1,g2,g3,g4])∨(∃ g1 g2 g3 g4 g5,l=[g1,g2,g3,g4,g5])∨(∃ g1 g2 g3 g4 g5 g6,l=[g1,g2,g3,g4,g5,g6]):=by
  match l,h with
  | [],_=>exact .inl rfl
  | [a],_=>exact .inr (.inl ⟨_,rfl⟩)
  | [a,b],_=>exact .inr (.inr (.inl ⟨_,_,rfl⟩))
  | [a,b,c],_=>exact .inr (.inr (.inr (.inl ⟨_,_,_,rfl⟩)))
  | [a,b,c,d],_=>exact .inr (.inr (.inr (.inr (.inl ⟨_,_,_,_,rfl⟩))))
  | [a,b,c,d,e],_=>exact .inr (.inr (.inr (.inr (.inr (.inl ⟨_,_,_,_,_,rfl⟩)))))
  | [a,b,c,d,e,f],_=>exact .inr (.inr (.inr (.inr (.inr (.inr ⟨_,_,_,_,_,_,rfl⟩)))))
  | _::_::_::_::_::_::_::_,h=>simp at h
set_option maxHeartbeats 8000000 in
theorem open_ok:FineM Tryz.prog 42 cOpen:=by
  refine fineM_of [] ms_nil [] mm_nil [] [] ex_nil (T:=TT) Tryz.func42 rfl Tryz.ntmps42 (by rw [Tryz.results42]) rfl rfl tt gs_nil (ds_cons copyGot_ok ds_nil) ?_
  rintro args m1 ⟨h0,up,l,rfl,rfl,hl6,hlg⟩
  refine ⟨by simp,fun E hE Q hQ=>?_⟩
  have hpost:∀ m2,m2=sesB h0 up l→cOpen.post [.agg [iv h0,bv up,.sl none (grows l)]] [] (.loc 600 0) m2:=by
    intro m2 hm h' up' l' e K' hK'
    obtain ⟨rfl,rfl,rfl⟩:=rbav_inj e
    rw [hm]; exact hK'
  refine Aw_st hE [1] [1,6,15,30,600,601,602,603,604,605,606] fun K hK=>?_
  simp only [go_sem,seval]
  refine hK _ ?_; clear hK K
  refine Aw_st hE [1,3] [1,6,15,30,600,601,602,603,604,605,606] fun K hK=>?_
  simp only [go_sem,seval]
  refine hK _ ?_; clear hK K
  refine Aw.leE (Le_E (Le_swb _ 15 600 (by decide) (by decide))) ?_
  simp only [St.swb,swbσ,swbm,AV.swb,AV.swbAll,swp,Nat.reduceEqDiff,if_true,if_false,reduceIte,gcs,List.cons_append,List.nil_append]
  refine Aw_st hE [1,3,4] [1,6,15,30,600,601,602,603,604,605,606] fun K hK=>?_
  simp only [go_sem,seval]
  refine hK _ ?_; clear hK K
  refine Aw_sq fun B1 hB1 hR1 hX1=>?_
  rcases six hl6 with rfl | ⟨g1,rfl⟩ | ⟨g1,g2,rfl⟩ | ⟨g1,g2,g3,rfl⟩ | ⟨g1,g2,g3,g4,rfl⟩ | ⟨g1,g2,g3,g4,g5,rfl⟩ | ⟨g1,g2,g3,g4,g5,g6,rfl⟩
  · refine Aw_st hE [3,4,20,21,22] [1,6,15,30,600,601,602,603,604,605,606] fun K hK=>?_
    simp only [go_sem,seval]
    refine hK _ ?_; clear hK K
    refine Aw_bk fun B2 hN2 hE2 hR2 hX2=>?_
    refine Aw_unr 1 ?_
    refine Aw_rd fun B3_0 hN3_0 hR3_0 hX3_0=>?_
    refine Aw_st hE [3,4,20,21,22,23] [1,6,15,30,600,601,602,603,604,605,606] fun K hK=>?_
    simp only [go_sem,seval]
    refine hK _ ?_; clear hK K
    refine Aw_sq fun B4_0 hB4_0 hR4_0 hX4_0=>?_
    refine Aw_no rfl ?_
    refine Aw_exit (hX4_0 _ _ (hX3_0 _ _ (hE2 _ (hB1 _ ?_))))
    refine Aw_st hE [2] [1,6,15,30,600,601,602,603,604,605,606] fun K hK=>?_
    simp only [go_sem,seval]
    refine hK _ ?_
    refine Aw.leE (Le_E (Le_ks [2] [600])) ?_
    refine Aw_ret (hQ _ ?_)
    simp only [go_sem,seval]
    exact hpost _ rfl
  · refine Aw_st hE [3,4,20,21,22] [1,6,15,30,600,601,602,603,604,605,606] fun K hK=>?_
    simp only [go_sem,seval]
    refine hK _ ?_; clear hK K
    refine Aw_bk fun B2 hN2 hE2 hR2 hX2=>?_
    refine Aw_unr 2 ?_
    refine Aw_rd fun B3_0 hN3_0 hR3_0 hX3_0=>?_
    refine Aw_st hE [3,4,20,21,22,23] [1,6,15,30,600,601,602,603,604,605,606] fun K hK=>?_
    simp only [go_sem,seval]
    refine hK _ ?_; clear hK K
    refine Aw_sq fun B4_0 hB4_0 hR4_0 hX4_0=>?_
    refine Aw_yes rfl ?_
    refine Aw_skip (hB4_0 _ ?_)
    refine Aw_sq fun B6_0 hB6_0 hR6_0 hX6_0=>?_
    refine Aw_bk fun B7_0 hN7_0 hE7_0 hR7_0 hX7_0=>?_
    have hg_0:(grows [g1])[0]? = some g1.row:=rfl
    have hln_0:=hlg g1 (by simp)
    refine Aw_st hE [3,4,6,20,21,22] [1,6,15,30,600,601,602,603,604,605,606] fun K hK=>?_
    simp only [go_sem,seval,hg_0,Int.reduceAdd]
    repeat refine ⟨by first|omega|(and_intros<;>first|omega|exact rows_row _|decide|(simp<;>omega))|fail,?_⟩
    refine hK _ ?_; clear hK K
    refine Aw_st hE [3,4,20,21,22] [1,6,15,30,600,601,602,603,604,605,606] fun K hK=>?_
    simp only [go_sem,seval]
    refine ⟨⟨by omega,by omega⟩,?_⟩
    refine hK _ ?_; clear hK K
    refine Aw_tx hE [3,4,20,21,22] [1,6,15,30,600,601,602,603,604,605,606] fun K hK=>?_
    simp only [go_sem,seval]
    refine hK _ (hN7_0 _ (hB6_0 _ ?_))
    refine Aw.leE (Le_E (Le_swb _ 30 601 (by decide) (by decide))) ?_
    simp only [St.swb,swbσ,swbm,AV.swb,AV.swbAll,swp,Nat.reduceEqDiff,if_true,if_false,reduceIte,gcs,List.cons_append,List.nil_append]
    refine Aw_tx hE [3,4,20,21,22] [1,6,15,30,600,601,602,603,604,605,606] fun K hK=>?_
    simp only [go_sem,seval,Int.reduceAdd]
    repeat refine ⟨by first|omega|(and_intros<;>first|omega|exact rows_row _|decide|(simp<;>omega))|fail,?_⟩
    refine hK _ (hN3_0 _ ?_)
    refine Aw_rd fun B3_1 hN3_1 hR3_1 hX3_1=>?_
    refine Aw_st hE [3,4,20,21,22,23] [1,6,15,30,600,601,602,603,604,605,606] fun K hK=>?_
    simp only [go_sem,seval]
    refine hK _ ?_; clear hK K
    refine Aw_sq fun B4_1 hB4_1 hR4_1 hX4_1=>?_
    refine Aw_no rfl ?_
    refine Aw_exit (hX4_1 _ _ (hX3_1 _ _ (hE2 _ (hB1 _ ?_))))
    refine Aw_st hE [2] [1,6,15,30,600,601,602,603,604,605,606] fun K hK=>?_
    simp only [go_sem,seval]
    refine hK _ ?_
    refine Aw.leE (Le_E (Le_ks [2] [600,601])) ?_
    refine Aw_ret (hQ _ ?_)
    simp only [go_sem,seval]
    exact hpost _ rfl
  · refine Aw_st hE [3,4,20,21,22] [1,6,15,30,600,601,602,603,604,605,606] fun K hK=>?_
    simp only [go_sem,seval]
    refine hK _ ?_; clear hK K
    refine Aw_bk fun B2 hN2 hE2 hR2 hX2=>?_
    refine Aw_unr 3 ?_
    refine Aw_rd fun B3_0 hN3_0 hR3_0 hX3_0=>?_
    refine Aw_st hE [3,4,20,21,22,23] [1,6,15,30,600,601,602,603,604,605,606] fun K hK=>?_
    simp only [go_sem,seval]
    refine hK _ ?_; clear hK K
    refine Aw_sq fun B4_0 hB4_0 hR4_0 hX4_0=>?_
    refine Aw_yes rfl ?_
    refine Aw_skip (hB4_0 _ ?_)
    refine Aw_sq fun B6_0 hB6_0 hR6_0 hX6_0=>?_
    refine Aw_bk fun B7_0 hN7_0 hE7_0 hR7_0 hX7_0=>?_
    have hg_0:(grows [g1,g2])[0]? = some g1.row:=rfl
    have hln_0:=hlg g1 (by simp)
    refine Aw_st hE [3,4,6,20,21,22] [1,6,15,30,600,601,602,603,604,605,606] fun K hK=>?_
    simp only [go_sem,seval,hg_0,Int.reduceAdd]
    repeat refine ⟨by first|omega|(and_intros<;>first|omega|exact rows_row _|decide|(simp<;>omega))|fail,?_⟩
    refine hK _ ?_; clear hK K
    refine Aw_st hE [3,4,20,21,22] [1,6,15,30,600,601,602,603,604,605,606] fun K hK=>?_
    simp only [go_sem,seval]
    refine ⟨⟨by omega,by omega⟩,?_⟩
    refine hK _ ?_; clear hK K
    refine Aw_tx hE [3,4,20,21,22] [1,6,15,30,600,601,602,603,604,605,606] fun K hK=>?_
    simp only [go_sem,seval]
    refine hK _ (hN7_0 _ (hB6_0 _ ?_))
    refine Aw.leE (Le_E (Le_swb _ 30 601 (by decide) (by decide))) ?_
    simp only [St.swb,swbσ,swbm,AV.swb,AV.swbAll,swp,Nat.reduceEqDiff,if_true,if_false,reduceIte,gcs,List.cons_append,List.nil_append]
    refine Aw_tx hE [3,4,20,21,22] [1,6,15,30,600,601,602,603,604,605,606] fun K hK=>?_
    simp only [go_sem,seval,Int.reduceAdd]
    repeat refine ⟨by first|omega|(and_intros<;>first|omega|exact rows_row _|decide|(simp<;>omega))|fail,?_⟩
    refine hK _ (hN3_0 _ ?_)
    refine Aw_rd fun B3_1 hN3_1 hR3_1 hX3_1=>?_
    refine Aw_st hE [3,4,20,21,22,23] [1,6,15,30,600,601,602,603,604,605,606] fun K hK=>?_
    simp only [go_sem,seval]
    refine hK _ ?_; clear hK K
    refine Aw_sq fun B4_1 hB4_1 hR4_1 hX4_1=>?_
    refine Aw_yes rfl ?_
    refine Aw_skip (hB4_1 _ ?_)
    refine Aw_sq fun B6_1 hB6_1 hR6_1 hX6_1=>?_
    refine Aw_bk fun B7_1 hN7_1 hE7_1 hR7_1 hX7_1=>?_
    have hg_1:(grows [g1,g2])[1]? = some g2.row:=rfl
    have hln_1:=hlg g2 (by simp)
    refine Aw_st hE [3,4,6,20,21,22] [1,6,15,30,600,601,602,603,604,605,606] fun K hK=>?_
    simp only [go_sem,seval,hg_1,Int.reduceAdd]
    repeat refine ⟨by first|omega|(and_intros<;>first|omega|exact rows_row _|decide|(simp<;>omega))|fail,?_⟩
    refine hK _ ?_; clear hK K
    refine Aw_st hE [3,4,20,21,22] [1,6,15,30,600,601,602,603,604,605,606] fun K hK=>?_
    simp only [go_sem,seval]
    refine ⟨⟨by omega,by omega⟩,?_⟩
    refine hK _ ?_; clear hK K
    refine Aw_tx hE [3,4,20,21,22] [1,6,15,30,600,601,602,603,604,605,606] fun K hK=>?_
    simp only [go_sem,seval]
    refine hK _ (hN7_1 _ (hB6_1 _ ?_))
    refine Aw.leE (Le_E (Le_swb _ 30 602 (by decide) (by decide))) ?_
    simp only [St.swb,swbσ,swbm,AV.swb,AV.swbAll,swp,Nat.reduceEqDiff,if_true,if_false,reduceIte,gcs,List.cons_append,List.nil_append]
    refine Aw_tx hE [3,4,20,21,22] [1,6,15,30,600,601,602,603,604,605,606] fun K hK=>?_
    simp only [go_sem,seval,Int.reduceAdd]
    repeat refine ⟨by first|omega|(and_intros<;>first|omega|exact rows_row _|decide|(simp<;>omega))|fail,?_⟩
    refine hK _ (hN3_1 _ ?_)
    refine Aw_rd fun B3_2 hN3_2 hR3_2 hX3_2=>?_
    refine Aw_st hE [3,4,20,21,22,23] [1,6,15,30,600,601,602,603,604,605,606] fun K hK=>?_
    simp only [go_sem,seval]
    refine hK _ ?_; clear hK K
    refine Aw_sq fun B4_2 hB4_2 hR4_2 hX4_2=>?_
    refine Aw_no rfl ?_
    refine Aw_exit (hX4_2 _ _ (hX3_2 _ _ (hE2 _ (hB1 _ ?_))))
    refine Aw_st hE [2] [1,6,15,30,600,601,602,603,604,605,606] fun K hK=>?_
    simp only [go_sem,seval]
    refine hK _ ?_
    refine Aw.leE (Le_E (Le_ks [2] [600,601,602])) ?_
    refine Aw_ret (hQ _ ?_)
    simp only [go_sem,seval]
    exact hpost _ rfl
  · refine Aw_st hE [3,4,20,21,22] [1,6,15,30,600,601,602,603,604,605,606] fun K hK=>?_
    simp only [go_sem,seval]
    refine hK _ ?_; clear hK K
    refine Aw_bk fun B2 hN2 hE2 hR2 hX2=>?_
    refine Aw_unr 4 ?_
    refine Aw_rd fun B3_0 hN3_0 hR3_0 hX3_0=>?_
    refine Aw_st hE [3,4,20,21,22,23] [1,6,15,30,600,601,602,603,604,605,606] fun K hK=>?_
    simp only [go_sem,seval]
    refine hK _ ?_; clear hK K
    refine Aw_sq fun B4_0 hB4_0 hR4_0 hX4_0=>?_
    refine Aw_yes rfl ?_
    refine Aw_skip (hB4_0 _ ?_)
    refine Aw_sq fun B6_0 hB6_0 hR6_0 hX6_0=>?_
    refine Aw_bk fun B7_0 hN7_0 hE7_0 hR7_0 hX7_0=>?_
    have hg_0:(grows [g1,g2,g3])[0]? = some g1.row:=rfl
    have hln_0:=hlg g1 (by simp)
    refine Aw_st hE [3,4,6,20,21,22] [1,6,15,30,600,601,602,603,604,605,606] fun K hK=>?_
    simp only [go_sem,seval,hg_0,Int.reduceAdd]
    repeat refine ⟨by first|omega|(and_intros<;>first|omega|exact rows_row _|decide|(simp<;>omega))|fail,?_⟩
    refine hK _ ?_; clear hK K
    refine Aw_st hE [3,4,20,21,22] [1,6,15,30,600,601,602,603,604,605,606] fun K hK=>?_
    simp only [go_sem,seval]
    refine ⟨⟨by omega,by omega⟩,?_⟩
    refine hK _ ?_; clear hK K
    refine Aw_tx hE [3,4,20,21,22] [1,6,15,30,600,601,602,603,604,605,606] fun K hK=>?_
    simp only [go_sem,seval]
    refine hK _ (hN7_0 _ (hB6_0 _ ?_))
    refine Aw.leE (Le_E (Le_swb _ 30 601 (by decide) (by decide))) ?_
    simp only [St.swb,swbσ,swbm,AV.swb,AV.swbAll,swp,Nat.reduceEqDiff,if_true,if_false,reduceIte,gcs,List.cons_append,List.nil_append]
    refine Aw_tx hE [3,4,20,21,22] [1,6,15,30,600,601,602,603,604,605,606] fun K hK=>?_
    simp only [go_sem,seval,Int.reduceAdd]
    repeat refine ⟨by first|omega|(and_intros<;>first|omega|exact rows_row _|decide|(simp<;>omega))|fail,?_⟩
    refine hK _ (hN3_0 _ ?_)
    refine Aw_rd fun B3_1 hN3_1 hR3_1 hX3_1=>?_
    refine Aw_st hE [3,4,20,21,22,23] [1,6,15,30,600,601,602,603,604,605,606] fun K hK=>?_
    simp only [go_sem,seval]
    refine hK _ ?_; clear hK K
    refine Aw_sq fun B4_1 hB4_1 hR4_1 hX4_1=>?_
    refine Aw_yes rfl ?_
    refine Aw_skip (hB4_1 _ ?_)
    refine Aw_sq fun B6_1 hB6_1 hR6_1 hX6_1=>?_
    refine Aw_bk fun B7_1 hN7_1 hE7_1 hR7_1 hX7_1=>?_
    have hg_1:(grows [g1,g2,g3])[1]? = some g2.row:=rfl
    have hln_1:=hlg g2 (by simp)
    refine Aw_st hE [3,4,6,20,21,22] [1,6,15,30,600,601,602,603,604,605,606] fun K hK=>?_
    simp only [go_sem,seval,hg_1,Int.reduceAdd]
    repeat refine ⟨by first|omega|(and_intros<;>first|omega|exact rows_row _|decide|(simp<;>omega))|fail,?_⟩
    refine hK _ ?_; clear hK K
    refine Aw_st hE [3,4,20,21,22] [1,6,15,30,600,601,602,603,604,605,606] fun K hK=>?_
    simp only [go_sem,seval]
    refine ⟨⟨by omega,by omega⟩,?_⟩
    refine hK _ ?_; clear hK K
    refine Aw_tx hE [3,4,20,21,22] [1,6,15,30,600,601,602,603,604,605,606] fun K hK=>?_
    simp only [go_sem,seval]
    refine hK _ (hN7_1 _ (hB6_1 _ ?_))
    refine Aw.leE (Le_E (Le_swb _ 30 602 (by decide) (by decide))) ?_
    simp only [St.swb,swbσ,swbm,AV.swb,AV.swbAll,swp,Nat.reduceEqDiff,if_true,if_false,reduceIte,gcs,List.cons_append,List.nil_append]
    refine Aw_tx hE [3,4,20,21,22] [1,6,15,30,600,601,602,603,604,605,606] fun K hK=>?_
    simp only [go_sem,seval,Int.reduceAdd]
    repeat refine ⟨by first|omega|(and_intros<;>first|omega|exact rows_row _|decide|(simp<;>omega))|fail,?_⟩
    refine hK _ (hN3_1 _ ?_)
    refine Aw_rd fun B3_2 hN3_2 hR3_2 hX3_2=>?_
    refine Aw_st hE [3,4,20,21,22,23] [1,6,15,30,600,601,602,603,604,605,606] fun K hK=>?_
    simp only [go_sem,seval]
    refine hK _ ?_; clear hK K
    refine Aw_sq fun B4_2 hB4_2 hR4_2 hX4_2=>?_
    refine Aw_yes rfl ?_
    refine Aw_skip (hB4_2 _ ?_)
    refine Aw_sq fun B6_2 hB6_2 hR6_2 hX6_2=>?_
    refine Aw_bk fun B7_2 hN7_2 hE7_2 hR7_2 hX7_2=>?_
    have hg_2:(grows [g1,g2,g3])[2]? = some g3.row:=rfl
    have hln_2:=hlg g3 (by simp)
    refine Aw_st hE [3,4,6,20,21,22] [1,6,15,30,600,601,602,603,604,605,606] fun K hK=>?_
    simp only [go_sem,seval,hg_2,Int.reduceAdd]
    repeat refine ⟨by first|omega|(and_intros<;>first|omega|exact rows_row _|decide|(simp<;>omega))|fail,?_⟩
    refine hK _ ?_; clear hK K
    refine Aw_st hE [3,4,20,21,22] [1,6,15,30,600,601,602,603,604,605,606] fun K hK=>?_
    simp only [go_sem,seval]
    refine ⟨⟨by omega,by omega⟩,?_⟩
    refine hK _ ?_; clear hK K
    refine Aw_tx hE [3,4,20,21,22] [1,6,15,30,600,601,602,603,604,605,606] fun K hK=>?_
    simp only [go_sem,seval]
    refine hK _ (hN7_2 _ (hB6_2 _ ?_))
    refine Aw.leE (Le_E (Le_swb _ 30 603 (by decide) (by decide))) ?_
    simp only [St.swb,swbσ,swbm,AV.swb,AV.swbAll,swp,Nat.reduceEqDiff,if_true,if_false,reduceIte,gcs,List.cons_append,List.nil_append]
    refine Aw_tx hE [3,4,20,21,22] [1,6,15,30,600,601,602,603,604,605,606] fun K hK=>?_
    simp only [go_sem,seval,Int.reduceAdd]
    repeat refine ⟨by first|omega|(and_intros<;>first|omega|exact rows_row _|decide|(simp<;>omega))|fail,?_⟩
    refine hK _ (hN3_2 _ ?_)
    refine Aw_rd fun B3_3 hN3_3 hR3_3 hX3_3=>?_
    refine Aw_st hE [3,4,20,21,22,23] [1,6,15,30,600,601,602,603,604,605,606] fun K hK=>?_
    simp only [go_sem,seval]
    refine hK _ ?_; clear hK K
    refine Aw_sq fun B4_3 hB4_3 hR4_3 hX4_3=>?_
    refine Aw_no rfl ?_
    refine Aw_exit (hX4_3 _ _ (hX3_3 _ _ (hE2 _ (hB1 _ ?_))))
    refine Aw_st hE [2] [1,6,15,30,600,601,602,603,604,605,606] fun K hK=>?_
    simp only [go_sem,seval]
    refine hK _ ?_
    refine Aw.leE (Le_E (Le_ks [2] [600,601,602,603])) ?_
    refine Aw_ret (hQ _ ?_)
    simp only [go_sem,seval]
    exact hpost _ rfl
  · refine Aw_st hE [3,4,20,21,22] [1,6,15,30,600,601,602,603,604,605,606] fun K hK=>?_
    simp only [go_sem,seval]
    refine hK _ ?_; clear hK K
    refine Aw_bk fun B2 hN2 hE2 hR2 hX2=>?_
    refine Aw_unr 5 ?_
    refine Aw_rd fun B3_0 hN3_0 hR3_0 hX3_0=>?_
    refine Aw_st hE [3,4,20,21,22,23] [1,6,15,30,600,601,602,603,604,605,606] fun K hK=>?_
    simp only [go_sem,seval]
    refine hK _ ?_; clear hK K
    refine Aw_sq fun B4_0 hB4_0 hR4_0 hX4_0=>?_
    refine Aw_yes rfl ?_
    refine Aw_skip (hB4_0 _ ?_)
    refine Aw_sq fun B6_0 hB6_0 hR6_0 hX6_0=>?_
    refine Aw_bk fun B7_0 hN7_0 hE7_0 hR7_0 hX7_0=>?_
    have hg_0:(grows [g1,g2,g3,g4])[0]? = some g1.row:=rfl
    have hln_0:=hlg g1 (by simp)
    refine Aw_st hE [3,4,6,20,21,22] [1,6,15,30,600,601,602,603,604,605,606] fun K hK=>?_
    simp only [go_sem,seval,hg_0,Int.reduceAdd]
    repeat refine ⟨by first|omega|(and_intros<;>first|omega|exact rows_row _|decide|(simp<;>omega))|fail,?_⟩
    refine hK _ ?_; clear hK K
    refine Aw_st hE [3,4,20,21,22] [1,6,15,30,600,601,602,603,604,605,606] fun K hK=>?_
    simp only [go_sem,seval]
    refine ⟨⟨by omega,by omega⟩,?_⟩
    refine hK _ ?_; clear hK K
    refine Aw_tx hE [3,4,20,21,22] [1,6,15,30,600,601,602,603,604,605,606] fun K hK=>?_
    simp only [go_sem,seval]
    refine hK _ (hN7_0 _ (hB6_0 _ ?_))
    refine Aw.leE (Le_E (Le_swb _ 30 601 (by decide) (by decide))) ?_
    simp only [St.swb,swbσ,swbm,AV.swb,AV.swbAll,swp,Nat.reduceEqDiff,if_true,if_false,reduceIte,gcs,List.cons_append,List.nil_append]
    refine Aw_tx hE [3,4,20,21,22] [1,6,15,30,600,601,602,603,604,605,606] fun K hK=>?_
    simp only [go_sem,seval,Int.reduceAdd]
    repeat refine ⟨by first|omega|(and_intros<;>first|omega|exact rows_row _|decide|(simp<;>omega))|fail,?_⟩
    refine hK _ (hN3_0 _ ?_)
    refine Aw_rd fun B3_1 hN3_1 hR3_1 hX3_1=>?_
    refine Aw_st hE [3,4,20,21,22,23] [1,6,15,30,600,601,602,603,604,605,606] fun K hK=>?_
    simp only [go_sem,seval]
    refine hK _ ?_; clear hK K
    refine Aw_sq fun B4_1 hB4_1 hR4_1 hX4_1=>?_
    refine Aw_yes rfl ?_
    refine Aw_skip (hB4_1 _ ?_)
    refine Aw_sq fun B6_1 hB6_1 hR6_1 hX6_1=>?_
    refine Aw_bk fun B7_1 hN7_1 hE7_1 hR7_1 hX7_1=>?_
    have hg_1:(grows [g1,g2,g3,g4])[1]? = some g2.row:=rfl
    have hln_1:=hlg g2 (by simp)
    refine Aw_st hE [3,4,6,20,21,22] [1,6,15,30,600,601,602,603,604,605,606] fun K hK=>?_
    simp only [go_sem,seval,hg_1,Int.reduceAdd]
    repeat refine ⟨by first|omega|(and_intros<;>first|omega|exact rows_row _|decide|(simp<;>omega))|fail,?_⟩
    refine hK _ ?_; clear hK K
    refine Aw_st hE [3,4,20,21,22] [1,6,15,30,600,601,602,603,604,605,606] fun K hK=>?_
    simp only [go_sem,seval]
    refine ⟨⟨by omega,by omega⟩,?_⟩
    refine hK _ ?_; clear hK K
    refine Aw_tx hE [3,4,20,21,22] [1,6,15,30,600,601,602,603,604,605,606] fun K hK=>?_
    simp only [go_sem,seval]
    refine hK _ (hN7_1 _ (hB6_1 _ ?_))
    refine Aw.leE (Le_E (Le_swb _ 30 602 (by decide) (by decide))) ?_
    simp only [St.swb,swbσ,swbm,AV.swb,AV.swbAll,swp,Nat.reduceEqDiff,if_true,if_false,reduceIte,gcs,List.cons_append,List.nil_append]
    refine Aw_tx hE [3,4,20,21,22] [1,6,15,30,600,601,602,603,604,605,606] fun K hK=>?_
    simp only [go_sem,seval,Int.reduceAdd]
    repeat refine ⟨by first|omega|(and_intros<;>first|omega|exact rows_row _|decide|(simp<;>omega))|fail,?_⟩
    refine hK _ (hN3_1 _ ?_)
    refine Aw_rd fun B3_2 hN3_2 hR3_2 hX3_2=>?_
    refine Aw_st hE [3,4,20,21,22,23] [1,6,15,30,600,601,602,603,604,605,606] fun K hK=>?_
    simp only [go_sem,seval]
    refine hK _ ?_; clear hK K
    refine Aw_sq fun B4_2 hB4_2 hR4_2 hX4_2=>?_
    refine Aw_yes rfl ?_
    refine Aw_skip (hB4_2 _ ?_)
    refine Aw_sq fun B6_2 hB6_2 hR6_2 hX6_2=>?_
    refine Aw_bk fun B7_2 hN7_2 hE7_2 hR7_2 hX7_2=>?_
    have hg_2:(grows [g1,g2,g3,g4])[2]? = some g3.row:=rfl
    have hln_2:=hlg g3 (by simp)
    refine Aw_st hE [3,4,6,20,21,22] [1,6,15,30,600,601,602,603,604,605,606] fun K hK=>?_
    simp only [go_sem,seval,hg_2,Int.reduceAdd]
    repeat refine ⟨by first|omega|(and_intros<;>first|omega|exact rows_row _|decide|(simp<;>omega))|fail,?_⟩
    refine hK _ ?_; clear hK K
    refine Aw_st hE [3,4,20,21,22] [1,6,15,30,600,601,602,603,604,605,606] fun K hK=>?_
    simp only [go_sem,seval]
    refine ⟨⟨by omega,by omega⟩,?_⟩
    refine hK _ ?_; clear hK K
    refine Aw_tx hE [3,4,20,21,22] [1,6,15,30,600,601,602,603,604,605,606] fun K hK=>?_
    simp only [go_sem,seval]
    refine hK _ (hN7_2 _ (hB6_2 _ ?_))
    refine Aw.leE (Le_E (Le_swb _ 30 603 (by decide) (by decide))) ?_
    simp only [St.swb,swbσ,swbm,AV.swb,AV.swbAll,swp,Nat.reduceEqDiff,if_true,if_false,reduceIte,gcs,List.cons_append,List.nil_append]
    refine Aw_tx hE [3,4,20,21,22] [1,6,15,30,600,601,602,603,604,605,606] fun K hK=>?_
    simp only [go_sem,seval,Int.reduceAdd]
    repeat refine ⟨by first|omega|(and_intros<;>first|omega|exact rows_row _|decide|(simp<;>omega))|fail,?_⟩
    refine hK _ (hN3_2 _ ?_)
    refine Aw_rd fun B3_3 hN3_3 hR3_3 hX3_3=>?_
    refine Aw_st hE [3,4,20,21,22,23] [1,6,15,30,600,601,602,603,604,605,606] fun K hK=>?_
    simp only [go_sem,seval]
    refine hK _ ?_; clear hK K
    refine Aw_sq fun B4_3 hB4_3 hR4_3 hX4_3=>?_
    refine Aw_yes rfl ?_
    refine Aw_skip (hB4_3 _ ?_)
    refine Aw_sq fun B6_3 hB6_3 hR6_3 hX6_3=>?_
    refine Aw_bk fun B7_3 hN7_3 hE7_3 hR7_3 hX7_3=>?_
    have hg_3:(grows [g1,g2,g3,g4])[3]? = some g4.row:=rfl
    have hln_3:=hlg g4 (by simp)
    refine Aw_st hE [3,4,6,20,21,22] [1,6,15,30,600,601,602,603,604,605,606] fun K hK=>?_
    simp only [go_sem,seval,hg_3,Int.reduceAdd]
    repeat refine ⟨by first|omega|(and_intros<;>first|omega|exact rows_row _|decide|(simp<;>omega))|fail,?_⟩
    refine hK _ ?_; clear hK K
    refine Aw_st hE [3,4,20,21,22] [1,6,15,30,600,601,602,603,604,605,606] fun K hK=>?_
    simp only [go_sem,seval]
    refine ⟨⟨by omega,by omega⟩,?_⟩
    refine hK _ ?_; clear hK K
    refine Aw_tx hE [3,4,20,21,22] [1,6,15,30,600,601,602,603,604,605,606] fun K hK=>?_
    simp only [go_sem,seval]
    refine hK _ (hN7_3 _ (hB6_3 _ ?_))
    refine Aw.leE (Le_E (Le_swb _ 30 604 (by decide) (by decide))) ?_
    simp only [St.swb,swbσ,swbm,AV.swb,AV.swbAll,swp,Nat.reduceEqDiff,if_true,if_false,reduceIte,gcs,List.cons_append,List.nil_append]
    refine Aw_tx hE [3,4,20,21,22] [1,6,15,30,600,601,602,603,604,605,606] fun K hK=>?_
    simp only [go_sem,seval,Int.reduceAdd]
    repeat refine ⟨by first|omega|(and_intros<;>first|omega|exact rows_row _|decide|(simp<;>omega))|fail,?_⟩
    refine hK _ (hN3_3 _ ?_)
    refine Aw_rd fun B3_4 hN3_4 hR3_4 hX3_4=>?_
    refine Aw_st hE [3,4,20,21,22,23] [1,6,15,30,600,601,602,603,604,605,606] fun K hK=>?_
    simp only [go_sem,seval]
    refine hK _ ?_; clear hK K
    refine Aw_sq fun B4_4 hB4_4 hR4_4 hX4_4=>?_
    refine Aw_no rfl ?_
    refine Aw_exit (hX4_4 _ _ (hX3_4 _ _ (hE2 _ (hB1 _ ?_))))
    refine Aw_st hE [2] [1,6,15,30,600,601,602,603,604,605,606] fun K hK=>?_
    simp only [go_sem,seval]
    refine hK _ ?_
    refine Aw.leE (Le_E (Le_ks [2] [600,601,602,603,604])) ?_
    refine Aw_ret (hQ _ ?_)
    simp only [go_sem,seval]
    exact hpost _ rfl
  · refine Aw_st hE [3,4,20,21,22] [1,6,15,30,600,601,602,603,604,605,606] fun K hK=>?_
    simp only [go_sem,seval]
    refine hK _ ?_; clear hK K
    refine Aw_bk fun B2 hN2 hE2 hR2 hX2=>?_
    refine Aw_unr 6 ?_
    refine Aw_rd fun B3_0 hN3_0 hR3_0 hX3_0=>?_
    refine Aw_st hE [3,4,20,21,22,23] [1,6,15,30,600,601,602,603,604,605,606] fun K hK=>?_
    simp only [go_sem,seval]
    refine hK _ ?_; clear hK K
    refine Aw_sq fun B4_0 hB4_0 hR4_0 hX4_0=>?_
    refine Aw_yes rfl ?_
    refine Aw_skip (hB4_0 _ ?_)
    refine Aw_sq fun B6_0 hB6_0 hR6_0 hX6_0=>?_
    refine Aw_bk fun B7_0 hN7_0 hE7_0 hR7_0 hX7_0=>?_
    have hg_0:(grows [g1,g2,g3,g4,g5])[0]? = some g1.row:=rfl
    have hln_0:=hlg g1 (by simp)
    refine Aw_st hE [3,4,6,20,21,22] [1,6,15,30,600,601,602,603,604,605,606] fun K hK=>?_
    simp only [go_sem,seval,hg_0,Int.reduceAdd]
    repeat refine ⟨by first|omega|(and_intros<;>first|omega|exact rows_row _|decide|(simp<;>omega))|fail,?_⟩
    refine hK _ ?_; clear hK K
    refine Aw_st hE [3,4,20,21,22] [1,6,15,30,600,601,602,603,604,605,606] fun K hK=>?_
    simp only [go_sem,seval]
    refine ⟨⟨by omega,by omega⟩,?_⟩
    refine hK _ ?_; clear hK K
    refine Aw_tx hE [3,4,20,21,22] [1,6,15,30,600,601,602,603,604,605,606] fun K hK=>?_
    simp only [go_sem,seval]
    refine hK _ (hN7_0 _ (hB6_0 _ ?_))
    refine Aw.leE (Le_E (Le_swb _ 30 601 (by decide) (by decide))) ?_
    simp only [St.swb,swbσ,swbm,AV.swb,AV.swbAll,swp,Nat.reduceEqDiff,if_true,if_false,reduceIte,gcs,List.cons_append,List.nil_append]
    refine Aw_tx hE [3,4,20,21,22] [1,6,15,30,600,601,602,603,604,605,606] fun K hK=>?_
    simp only [go_sem,seval,Int.reduceAdd]
    repeat refine ⟨by first|omega|(and_intros<;>first|omega|exact rows_row _|decide|(simp<;>omega))|fail,?_⟩
    refine hK _ (hN3_0 _ ?_)
    refine Aw_rd fun B3_1 hN3_1 hR3_1 hX3_1=>?_
    refine Aw_st hE [3,4,20,21,22,23] [1,6,15,30,600,601,602,603,604,605,606] fun K hK=>?_
    simp only [go_sem,seval]
    refine hK _ ?_; clear hK K
    refine Aw_sq fun B4_1 hB4_1 hR4_1 hX4_1=>?_
    refine Aw_yes rfl ?_
    refine Aw_skip (hB4_1 _ ?_)
    refine Aw_sq fun B6_1 hB6_1 hR6_1 hX6_1=>?_
    refine Aw_bk fun B7_1 hN7_1 hE7_1 hR7_1 hX7_1=>?_
    have hg_1:(grows [g1,g2,g3,g4,g5])[1]? = some g2.row:=rfl
    have hln_1:=hlg g2 (by simp)
    refine Aw_st hE [3,4,6,20,21,22] [1,6,15,30,600,601,602,603,604,605,606] fun K hK=>?_
    simp only [go_sem,seval,hg_1,Int.reduceAdd]
    repeat refine ⟨by first|omega|(and_intros<;>first|omega|exact rows_row _|decide|(simp<;>omega))|fail,?_⟩
    refine hK _ ?_; clear hK K
    refine Aw_st hE [3,4,20,21,22] [1,6,15,30,600,601,602,603,604,605,606] fun K hK=>?_
    simp only [go_sem,seval]
    refine ⟨⟨by omega,by omega⟩,?_⟩
    refine hK _ ?_; clear hK K
    refine Aw_tx hE [3,4,20,21,22] [1,6,15,30,600,601,602,603,604,605,606] fun K hK=>?_
    simp only [go_sem,seval]
    refine hK _ (hN7_1 _ (hB6_1 _ ?_))
    refine Aw.leE (Le_E (Le_swb _ 30 602 (by decide) (by decide))) ?_
    simp only [St.swb,swbσ,swbm,AV.swb,AV.swbAll,swp,Nat.reduceEqDiff,if_true,if_false,reduceIte,gcs,List.cons_append,List.nil_append]
    refine Aw_tx hE [3,4,20,21,22] [1,6,15,30,600,601,602,603,604,605,606] fun K hK=>?_
    simp only [go_sem,seval,Int.reduceAdd]
    repeat refine ⟨by first|omega|(and_intros<;>first|omega|exact rows_row _|decide|(simp<;>omega))|fail,?_⟩
    refine hK _ (hN3_1 _ ?_)
    refine Aw_rd fun B3_2 hN3_2 hR3_2 hX3_2=>?_
    refine Aw_st hE [3,4,20,21,22,23] [1,6,15,30,600,601,602,603,604,605,606] fun K hK=>?_
    simp only [go_sem,seval]
    refine hK _ ?_; clear hK K
    refine Aw_sq fun B4_2 hB4_2 hR4_2 hX4_2=>?_
    refine Aw_yes rfl ?_
    refine Aw_skip (hB4_2 _ ?_)
    refine Aw_sq fun B6_2 hB6_2 hR6_2 hX6_2=>?_
    refine Aw_bk fun B7_2 hN7_2 hE7_2 hR7_2 hX7_2=>?_
    have hg_2:(grows [g1,g2,g3,g4,g5])[2]? = some g3.row:=rfl
    have hln_2:=hlg g3 (by simp)
    refine Aw_st hE [3,4,6,20,21,22] [1,6,15,30,600,601,602,603,604,605,606] fun K hK=>?_
    simp only [go_sem,seval,hg_2,Int.reduceAdd]
    repeat refine ⟨by first|omega|(and_intros<;>first|omega|exact rows_row _|decide|(simp<;>omega))|fail,?_⟩
    refine hK _ ?_; clear hK K
    refine Aw_st hE [3,4,20,21,22] [1,6,15,30,600,601,602,603,604,605,606] fun K hK=>?_
    simp only [go_sem,seval]
    refine ⟨⟨by omega,by omega⟩,?_⟩
    refine hK _ ?_; clear hK K
    refine Aw_tx hE [3,4,20,21,22] [1,6,15,30,600,601,602,603,604,605,606] fun K hK=>?_
    simp only [go_sem,seval]
    refine hK _ (hN7_2 _ (hB6_2 _ ?_))
    refine Aw.leE (Le_E (Le_swb _ 30 603 (by decide) (by decide))) ?_
    simp only [St.swb,swbσ,swbm,AV.swb,AV.swbAll,swp,Nat.reduceEqDiff,if_true,if_false,reduceIte,gcs,List.cons_append,List.nil_append]
    refine Aw_tx hE [3,4,20,21,22] [1,6,15,30,600,601,602,603,604,605,606] fun K hK=>?_
    simp only [go_sem,seval,Int.reduceAdd]
    repeat refine ⟨by first|omega|(and_intros<;>first|omega|exact rows_row _|decide|(simp<;>omega))|fail,?_⟩
    refine hK _ (hN3_2 _ ?_)
    refine Aw_rd fun B3_3 hN3_3 hR3_3 hX3_3=>?_
    refine Aw_st hE [3,4,20,21,22,23] [1,6,15,30,600,601,602,603,604,605,606] fun K hK=>?_
    simp only [go_sem,seval]
    refine hK _ ?_; clear hK K
    refine Aw_sq fun B4_3 hB4_3 hR4_3 hX4_3=>?_
    refine Aw_yes rfl ?_
    refine Aw_skip (hB4_3 _ ?_)
    refine Aw_sq fun B6_3 hB6_3 hR6_3 hX6_3=>?_
    refine Aw_bk fun B7_3 hN7_3 hE7_3 hR7_3 hX7_3=>?_
    have hg_3:(grows [g1,g2,g3,g4,g5])[3]? = some g4.row:=rfl
    have hln_3:=hlg g4 (by simp)
    refine Aw_st hE [3,4,6,20,21,22] [1,6,15,30,600,601,602,603,604,605,606] fun K hK=>?_
    simp only [go_sem,seval,hg_3,Int.reduceAdd]
    repeat refine ⟨by first|omega|(and_intros<;>first|omega|exact rows_row _|decide|(simp<;>omega))|fail,?_⟩
    refine hK _ ?_; clear hK K
    refine Aw_st hE [3,4,20,21,22] [1,6,15,30,600,601,602,603,604,605,606] fun K hK=>?_
    simp only [go_sem,seval]
    refine ⟨⟨by omega,by omega⟩,?_⟩
    refine hK _ ?_; clear hK K
    refine Aw_tx hE [3,4,20,21,22] [1,6,15,30,600,601,602,603,604,605,606] fun K hK=>?_
    simp only [go_sem,seval]
    refine hK _ (hN7_3 _ (hB6_3 _ ?_))
    refine Aw.leE (Le_E (Le_swb _ 30 604 (by decide) (by decide))) ?_
    simp only [St.swb,swbσ,swbm,AV.swb,AV.swbAll,swp,Nat.reduceEqDiff,if_true,if_false,reduceIte,gcs,List.cons_append,List.nil_append]
    refine Aw_tx hE [3,4,20,21,22] [1,6,15,30,600,601,602,603,604,605,606] fun K hK=>?_
    simp only [go_sem,seval,Int.reduceAdd]
    repeat refine ⟨by first|omega|(and_intros<;>first|omega|exact rows_row _|decide|(simp<;>omega))|fail,?_⟩
    refine hK _ (hN3_3 _ ?_)
    refine Aw_rd fun B3_4 hN3_4 hR3_4 hX3_4=>?_
    refine Aw_st hE [3,4,20,21,22,23] [1,6,15,30,600,601,602,603,604,605,606] fun K hK=>?_
    simp only [go_sem,seval]
    refine hK _ ?_; clear hK K
    refine Aw_sq fun B4_4 hB4_4 hR4_4 hX4_4=>?_
    refine Aw_yes rfl ?_
    refine Aw_skip (hB4_4 _ ?_)
    refine Aw_sq fun B6_4 hB6_4 hR6_4 hX6_4=>?_
    refine Aw_bk fun B7_4 hN7_4 hE7_4 hR7_4 hX7_4=>?_
    have hg_4:(grows [g1,g2,g3,g4,g5])[4]? = some g5.row:=rfl
    have hln_4:=hlg g5 (by simp)
    refine Aw_st hE [3,4,6,20,21,22] [1,6,15,30,600,601,602,603,604,605,606] fun K hK=>?_
    simp only [go_sem,seval,hg_4,Int.reduceAdd]
    repeat refine ⟨by first|omega|(and_intros<;>first|omega|exact rows_row _|decide|(simp<;>omega))|fail,?_⟩
    refine hK _ ?_; clear hK K
    refine Aw_st hE [3,4,20,21,22] [1,6,15,30,600,601,602,603,604,605,606] fun K hK=>?_
    simp only [go_sem,seval]
    refine ⟨⟨by omega,by omega⟩,?_⟩
    refine hK _ ?_; clear hK K
    refine Aw_tx hE [3,4,20,21,22] [1,6,15,30,600,601,602,603,604,605,606] fun K hK=>?_
    simp only [go_sem,seval]
    refine hK _ (hN7_4 _ (hB6_4 _ ?_))
    refine Aw.leE (Le_E (Le_swb _ 30 605 (by decide) (by decide))) ?_
    simp only [St.swb,swbσ,swbm,AV.swb,AV.swbAll,swp,Nat.reduceEqDiff,if_true,if_false,reduceIte,gcs,List.cons_append,List.nil_append]
    refine Aw_tx hE [3,4,20,21,22] [1,6,15,30,600,601,602,603,604,605,606] fun K hK=>?_
    simp only [go_sem,seval,Int.reduceAdd]
    repeat refine ⟨by first|omega|(and_intros<;>first|omega|exact rows_row _|decide|(simp<;>omega))|fail,?_⟩
    refine hK _ (hN3_4 _ ?_)
    refine Aw_rd fun B3_5 hN3_5 hR3_5 hX3_5=>?_
    refine Aw_st hE [3,4,20,21,22,23] [1,6,15,30,600,601,602,603,604,605,606] fun K hK=>?_
    simp only [go_sem,seval]
    refine hK _ ?_; clear hK K
    refine Aw_sq fun B4_5 hB4_5 hR4_5 hX4_5=>?_
    refine Aw_no rfl ?_
    refine Aw_exit (hX4_5 _ _ (hX3_5 _ _ (hE2 _ (hB1 _ ?_))))
    refine Aw_st hE [2] [1,6,15,30,600,601,602,603,604,605,606] fun K hK=>?_
    simp only [go_sem,seval]
    refine hK _ ?_
    refine Aw.leE (Le_E (Le_ks [2] [600,601,602,603,604,605])) ?_
    refine Aw_ret (hQ _ ?_)
    simp only [go_sem,seval]
    exact hpost _ rfl
  · refine Aw_st hE [3,4,20,21,22] [1,6,15,30,600,601,602,603,604,605,606] fun K hK=>?_
    simp only [go_sem,seval]
    refine hK _ ?_; clear hK K
    refine Aw_bk fun B2 hN2 hE2 hR2 hX2=>?_
    refine Aw_unr 7 ?_
    refine Aw_rd fun B3_0 hN3_0 hR3_0 hX3_0=>?_
    refine Aw_st hE [3,4,20,21,22,23] [1,6,15,30,600,601,602,603,604,605,606] fun K hK=>?_
    simp only [go_sem,seval]
    refine hK _ ?_; clear hK K
    refine Aw_sq fun B4_0 hB4_0 hR4_0 hX4_0=>?_
    refine Aw_yes rfl ?_
    refine Aw_skip (hB4_0 _ ?_)
    refine Aw_sq fun B6_0 hB6_0 hR6_0 hX6_0=>?_
    refine Aw_bk fun B7_0 hN7_0 hE7_0 hR7_0 hX7_0=>?_
    have hg_0:(grows [g1,g2,g3,g4,g5,g6])[0]? = some g1.row:=rfl
    have hln_0:=hlg g1 (by simp)
    refine Aw_st hE [3,4,6,20,21,22] [1,6,15,30,600,601,602,603,604,605,606] fun K hK=>?_
    simp only [go_sem,seval,hg_0,Int.reduceAdd]
    repeat refine ⟨by first|omega|(and_intros<;>first|omega|exact rows_row _|decide|(simp<;>omega))|fail,?_⟩
    refine hK _ ?_; clear hK K
    refine Aw_st hE [3,4,20,21,22] [1,6,15,30,600,601,602,603,604,605,606] fun K hK=>?_
    simp only [go_sem,seval]
    refine ⟨⟨by omega,by omega⟩,?_⟩
    refine hK _ ?_; clear hK K
    refine Aw_tx hE [3,4,20,21,22] [1,6,15,30,600,601,602,603,604,605,606] fun K hK=>?_
    simp only [go_sem,seval]
    refine hK _ (hN7_0 _ (hB6_0 _ ?_))
    refine Aw.leE (Le_E (Le_swb _ 30 601 (by decide) (by decide))) ?_
    simp only [St.swb,swbσ,swbm,AV.swb,AV.swbAll,swp,Nat.reduceEqDiff,if_true,if_false,reduceIte,gcs,List.cons_append,List.nil_append]
    refine Aw_tx hE [3,4,20,21,22] [1,6,15,30,600,601,602,603,604,605,606] fun K hK=>?_
    simp only [go_sem,seval,Int.reduceAdd]
    repeat refine ⟨by first|omega|(and_intros<;>first|omega|exact rows_row _|decide|(simp<;>omega))|fail,?_⟩
    refine hK _ (hN3_0 _ ?_)
    refine Aw_rd fun B3_1 hN3_1 hR3_1 hX3_1=>?_
    refine Aw_st hE [3,4,20,21,22,23] [1,6,15,30,600,601,602,603,604,605,606] fun K hK=>?_
    simp only [go_sem,seval]
    refine hK _ ?_; clear hK K
    refine Aw_sq fun B4_1 hB4_1 hR4_1 hX4_1=>?_
    refine Aw_yes rfl ?_
    refine Aw_skip (hB4_1 _ ?_)
    refine Aw_sq fun B6_1 hB6_1 hR6_1 hX6_1=>?_
    refine Aw_bk fun B7_1 hN7_1 hE7_1 hR7_1 hX7_1=>?_
    have hg_1:(grows [g1,g2,g3,g4,g5,g6])[1]? = some g2.row:=rfl
    have hln_1:=hlg g2 (by simp)
    refine Aw_st hE [3,4,6,20,21,22] [1,6,15,30,600,601,602,603,604,605,606] fun K hK=>?_
    simp only [go_sem,seval,hg_1,Int.reduceAdd]
    repeat refine ⟨by first|omega|(and_intros<;>first|omega|exact rows_row _|decide|(simp<;>omega))|fail,?_⟩
    refine hK _ ?_; clear hK K
    refine Aw_st hE [3,4,20,21,22] [1,6,15,30,600,601,602,603,604,605,606] fun K hK=>?_
    simp only [go_sem,seval]
    refine ⟨⟨by omega,by omega⟩,?_⟩
    refine hK _ ?_; clear hK K
    refine Aw_tx hE [3,4,20,21,22] [1,6,15,30,600,601,602,603,604,605,606] fun K hK=>?_
    simp only [go_sem,seval]
    refine hK _ (hN7_1 _ (hB6_1 _ ?_))
    refine Aw.leE (Le_E (Le_swb _ 30 602 (by decide) (by decide))) ?_
    simp only [St.swb,swbσ,swbm,AV.swb,AV.swbAll,swp,Nat.reduceEqDiff,if_true,if_false,reduceIte,gcs,List.cons_append,List.nil_append]
    refine Aw_tx hE [3,4,20,21,22] [1,6,15,30,600,601,602,603,604,605,606] fun K hK=>?_
    simp only [go_sem,seval,Int.reduceAdd]
    repeat refine ⟨by first|omega|(and_intros<;>first|omega|exact rows_row _|decide|(simp<;>omega))|fail,?_⟩
    refine hK _ (hN3_1 _ ?_)
    refine Aw_rd fun B3_2 hN3_2 hR3_2 hX3_2=>?_
    refine Aw_st hE [3,4,20,21,22,23] [1,6,15,30,600,601,602,603,604,605,606] fun K hK=>?_
    simp only [go_sem,seval]
    refine hK _ ?_; clear hK K
    refine Aw_sq fun B4_2 hB4_2 hR4_2 hX4_2=>?_
    refine Aw_yes rfl ?_
    refine Aw_skip (hB4_2 _ ?_)
    refine Aw_sq fun B6_2 hB6_2 hR6_2 hX6_2=>?_
    refine Aw_bk fun B7_2 hN7_2 hE7_2 hR7_2 hX7_2=>?_
    have hg_2:(grows [g1,g2,g3,g4,g5,g6])[2]? = some g3.row:=rfl
    have hln_2:=hlg g3 (by simp)
    refine Aw_st hE [3,4,6,20,21,22] [1,6,15,30,600,601,602,603,604,605,606] fun K hK=>?_
    simp only [go_sem,seval,hg_2,Int.reduceAdd]
    repeat refine ⟨by first|omega|(and_intros<;>first|omega|exact rows_row _|decide|(simp<;>omega))|fail,?_⟩
    refine hK _ ?_; clear hK K
    refine Aw_st hE [3,4,20,21,22] [1,6,15,30,600,601,602,603,604,605,606] fun K hK=>?_
    simp only [go_sem,seval]
    refine ⟨⟨by omega,by omega⟩,?_⟩
    refine hK _ ?_; clear hK K
    refine Aw_tx hE [3,4,20,21,22] [1,6,15,30,600,601,602,603,604,605,606] fun K hK=>?_
    simp only [go_sem,seval]
    refine hK _ (hN7_2 _ (hB6_2 _ ?_))
    refine Aw.leE (Le_E (Le_swb _ 30 603 (by decide) (by decide))) ?_
    simp only [St.swb,swbσ,swbm,AV.swb,AV.swbAll,swp,Nat.reduceEqDiff,if_true,if_false,reduceIte,gcs,List.cons_append,List.nil_append]
    refine Aw_tx hE [3,4,20,21,22] [1,6,15,30,600,601,602,603,604,605,606] fun K hK=>?_
    simp only [go_sem,seval,Int.reduceAdd]
    repeat refine ⟨by first|omega|(and_intros<;>first|omega|exact rows_row _|decide|(simp<;>omega))|fail,?_⟩
    refine hK _ (hN3_2 _ ?_)
    refine Aw_rd fun B3_3 hN3_3 hR3_3 hX3_3=>?_
    refine Aw_st hE [3,4,20,21,22,23] [1,6,15,30,600,601,602,603,604,605,606] fun K hK=>?_
    simp only [go_sem,seval]
    refine hK _ ?_; clear hK K
    refine Aw_sq fun B4_3 hB4_3 hR4_3 hX4_3=>?_
    refine Aw_yes rfl ?_
    refine Aw_skip (hB4_3 _ ?_)
    refine Aw_sq fun B6_3 hB6_3 hR6_3 hX6_3=>?_
    refine Aw_bk fun B7_3 hN7_3 hE7_3 hR7_3 hX7_3=>?_
    have hg_3:(grows [g1,g2,g3,g4,g5,g6])[3]? = some g4.row:=rfl
    have hln_3:=hlg g4 (by simp)
    refine Aw_st hE [3,4,6,20,21,22] [1,6,15,30,600,601,602,603,604,605,606] fun K hK=>?_
    simp only [go_sem,seval,hg_3,Int.reduceAdd]
    repeat refine ⟨by first|omega|(and_intros<;>first|omega|exact rows_row _|decide|(simp<;>omega))|fail,?_⟩
    refine hK _ ?_; clear hK K
    refine Aw_st hE [3,4,20,21,22] [1,6,15,30,600,601,602,603,604,605,606] fun K hK=>?_
    simp only [go_sem,seval]
    refine ⟨⟨by omega,by omega⟩,?_⟩
    refine hK _ ?_; clear hK K
    refine Aw_tx hE [3,4,20,21,22] [1,6,15,30,600,601,602,603,604,605,606] fun K hK=>?_
    simp only [go_sem,seval]
    refine hK _ (hN7_3 _ (hB6_3 _ ?_))
    refine Aw.leE (Le_E (Le_swb _ 30 604 (by decide) (by decide))) ?_
    simp only [St.swb,swbσ,swbm,AV.swb,AV.swbAll,swp,Nat.reduceEqDiff,if_true,if_false,reduceIte,gcs,List.cons_append,List.nil_append]
    refine Aw_tx hE [3,4,20,21,22] [1,6,15,30,600,601,602,603,604,605,606] fun K hK=>?_
    simp only [go_sem,seval,Int.reduceAdd]
    repeat refine ⟨by first|omega|(and_intros<;>first|omega|exact rows_row _|decide|(simp<;>omega))|fail,?_⟩
    refine hK _ (hN3_3 _ ?_)
    refine Aw_rd fun B3_4 hN3_4 hR3_4 hX3_4=>?_
    refine Aw_st hE [3,4,20,21,22,23] [1,6,15,30,600,601,602,603,604,605,606] fun K hK=>?_
    simp only [go_sem,seval]
    refine hK _ ?_; clear hK K
    refine Aw_sq fun B4_4 hB4_4 hR4_4 hX4_4=>?_
    refine Aw_yes rfl ?_
    refine Aw_skip (hB4_4 _ ?_)
    refine Aw_sq fun B6_4 hB6_4 hR6_4 hX6_4=>?_
    refine Aw_bk fun B7_4 hN7_4 hE7_4 hR7_4 hX7_4=>?_
    have hg_4:(grows [g1,g2,g3,g4,g5,g6])[4]? = some g5.row:=rfl
    have hln_4:=hlg g5 (by simp)
    refine Aw_st hE [3,4,6,20,21,22] [1,6,15,30,600,601,602,603,604,605,606] fun K hK=>?_
    simp only [go_sem,seval,hg_4,Int.reduceAdd]
    repeat refine ⟨by first|omega|(and_intros<;>first|omega|exact rows_row _|decide|(simp<;>omega))|fail,?_⟩
    refine hK _ ?_; clear hK K
    refine Aw_st hE [3,4,20,21,22] [1,6,15,30,600,601,602,603,604,605,606] fun K hK=>?_
    simp only [go_sem,seval]
    refine ⟨⟨by omega,by omega⟩,?_⟩
    refine hK _ ?_; clear hK K
    refine Aw_tx hE [3,4,20,21,22] [1,6,15,30,600,601,602,603,604,605,606] fun K hK=>?_
    simp only [go_sem,seval]
    refine hK _ (hN7_4 _ (hB6_4 _ ?_))
    refine Aw.leE (Le_E (Le_swb _ 30 605 (by decide) (by decide))) ?_
    simp only [St.swb,swbσ,swbm,AV.swb,AV.swbAll,swp,Nat.reduceEqDiff,if_true,if_false,reduceIte,gcs,List.cons_append,List.nil_append]
    refine Aw_tx hE [3,4,20,21,22] [1,6,15,30,600,601,602,603,604,605,606] fun K hK=>?_
    simp only [go_sem,seval,Int.reduceAdd]
    repeat refine ⟨by first|omega|(and_intros<;>first|omega|exact rows_row _|decide|(simp<;>omega))|fail,?_⟩
    refine hK _ (hN3_4 _ ?_)
    refine Aw_rd fun B3_5 hN3_5 hR3_5 hX3_5=>?_
    refine Aw_st hE [3,4,20,21,22,23] [1,6,15,30,600,601,602,603,604,605,606] fun K hK=>?_
    simp only [go_sem,seval]
    refine hK _ ?_; clear hK K
    refine Aw_sq fun B4_5 hB4_5 hR4_5 hX4_5=>?_
    refine Aw_yes rfl ?_
    refine Aw_skip (hB4_5 _ ?_)
    refine Aw_sq fun B6_5 hB6_5 hR6_5 hX6_5=>?_
    refine Aw_bk fun B7_5 hN7_5 hE7_5 hR7_5 hX7_5=>?_
    have hg_5:(grows [g1,g2,g3,g4,g5,g6])[5]? = some g6.row:=rfl
    have hln_5:=hlg g6 (by simp)
    refine Aw_st hE [3,4,6,20,21,22] [1,6,15,30,600,601,602,603,604,605,606] fun K hK=>?_
    simp only [go_sem,seval,hg_5,Int.reduceAdd]
    repeat refine ⟨by first|omega|(and_intros<;>first|omega|exact rows_row _|decide|(simp<;>omega))|fail,?_⟩
    refine hK _ ?_; clear hK K
    refine Aw_st hE [3,4,20,21,22] [1,6,15,30,600,601,602,603,604,605,606] fun K hK=>?_
    simp only [go_sem,seval]
    refine ⟨⟨by omega,by omega⟩,?_⟩
    refine hK _ ?_; clear hK K
    refine Aw_tx hE [3,4,20,21,22] [1,6,15,30,600,601,602,603,604,605,606] fun K hK=>?_
    simp only [go_sem,seval]
    refine hK _ (hN7_5 _ (hB6_5 _ ?_))
    refine Aw.leE (Le_E (Le_swb _ 30 606 (by decide) (by decide))) ?_
    simp only [St.swb,swbσ,swbm,AV.swb,AV.swbAll,swp,Nat.reduceEqDiff,if_true,if_false,reduceIte,gcs,List.cons_append,List.nil_append]
    refine Aw_tx hE [3,4,20,21,22] [1,6,15,30,600,601,602,603,604,605,606] fun K hK=>?_
    simp only [go_sem,seval,Int.reduceAdd]
    repeat refine ⟨by first|omega|(and_intros<;>first|omega|exact rows_row _|decide|(simp<;>omega))|fail,?_⟩
    refine hK _ (hN3_5 _ ?_)
    refine Aw_rd fun B3_6 hN3_6 hR3_6 hX3_6=>?_
    refine Aw_st hE [3,4,20,21,22,23] [1,6,15,30,600,601,602,603,604,605,606] fun K hK=>?_
    simp only [go_sem,seval]
    refine hK _ ?_; clear hK K
    refine Aw_sq fun B4_6 hB4_6 hR4_6 hX4_6=>?_
    refine Aw_no rfl ?_
    refine Aw_exit (hX4_6 _ _ (hX3_6 _ _ (hE2 _ (hB1 _ ?_))))
    refine Aw_st hE [2] [1,6,15,30,600,601,602,603,604,605,606] fun K hK=>?_
    simp only [go_sem,seval]
    refine hK _ ?_
    refine Aw.leE (Le_E (Le_ks [2] [600,601,602,603,604,605,606])) ?_
    refine Aw_ret (hQ _ ?_)
    simp only [go_sem,seval]
    exact hpost _ rfl
end Go.Proofs.W
end
section
namespace Go.Proofs.W
open Go Go.Eng Go.RowKit
set_option linter.unusedSimpArgs false
set_option maxRecDepth 100000

theorem open_postL {h:Int} {up:Bool} {l:List Gt} {M:List (Nat × List AV)} (hM:sesB h up l=M) (m1:List (Nat × List AV)) (K:AV→List (Nat × List AV)→Prop):(∀ r m2,cOpen.post [.agg [iv h,bv up,.sl none (grows l)]] m1 r m2→K r m2)=K (.loc 600 0) M:=by
  rw [open_post,hM]
theorem ribL_p {h:Int} {up:Bool} (l:List Gt) {n:Int} (hl:l.length≤1000):cRibL.pre [sesA h up l n]:=⟨h,up,l,n,rfl,hl⟩
theorem ribL_q {h:Int} {up:Bool} (l:List Gt) {n:Int} {K:AV→Prop} (hk:K (.agg [iv h,bv up,.sl none (grows l)])):∀ r,cRibL.post [sesA h up l n] r→K r:=fun r hr=>by
  rw [hr h up l n rfl]; exact hk
def dRibDownI (pb:Addr):DFn:={ g:=gRibDown,inv:=WP pb }
attribute [go_sem] dRibDownI
end Go.Proofs.W
end
section
namespace Go.Proofs.W
open Go Go.Eng Go.RowKit
set_option linter.unusedSimpArgs false
set_option maxRecDepth 100000

/-! the link of a prefix,over lent boxes: 1000 the session,1001 and on the nodes -/
def skN (f b:Int):List Gt→Nat
  | []=>0
  | g::l=>if rCmp g.r.f g.r.b f b < 0 then skN f b l + 1 else 0
def skM (f b:Int):List (Nat × List AV)→Nat
  | (_,.v (.int .i64 f1)::.v (.int .i64 b1)::_)::ms=>if rCmp f1 b1 f b < 0 then skM f b ms + 1 else 0
  | _=>0
def lnkN:Nat→AV
  | 0=>.loc 1000 2
  | n + 1=>.loc (1001 + n) 6
theorem skM_nd (f b:Int):∀ (l:List Gt) (k:Nat),skM f b (ndB l k)=skN f b l
  | [],_=>rfl
  | g::l,k=>by
    show (if rCmp g.r.f g.r.b f b < 0 then skM f b (ndB l (k + 1)) + 1 else 0)=_
    rw [skM_nd f b l (k + 1)]; rfl
def sesL (h:Int) (up:Bool) (l:List Gt) (n:Int):List (Nat × List AV):=(1000,[iv h,bv up,hdB l 1001,iv n])::ndB l 1001
attribute [go_sem] sesL
def cSeek:ConM:={
  pre:=fun args m1=>∃ (h:Int) (up:Bool) (l:List Gt) (n f b:Int),args=[.loc 1000 0,.agg [iv f,iv b]]∧m1=sesL h up l n∧l.length≤6∧(∀ g ∈ l,rngOk g.r.f g.r.b=true)∧rngOk f b=true
  post:=fun args m1 r m2=>m2=m1∧∀ f b:Int,args=[.loc 1000 0,.agg [iv f,iv b]]→r=lnkN (skM f b m1.tail) }
set_option maxHeartbeats 16000000 in
theorem seek_ok:FineM Tryz.prog 67 cSeek:=by
  refine fineM_of [] ms_nil [] mm_nil [] [] ex_nil (T:=TT) Tryz.func67 rfl Tryz.ntmps67 (by rw [Tryz.results67]) rfl rfl tt gs_nil (ds_cons iRgCmp_ok ds_nil) ?_
  rintro args m1 ⟨h0,up,l,n,f,b,rfl,rfl,hl6,hlg,hr⟩
  refine ⟨by simp,fun E hE Q hQ=>?_⟩
  have hpost:∀ (l':List Gt) (r:AV) m2,l=l'→m2=sesL h0 up l n→r=lnkN (skN f b l')→cSeek.post [.loc 1000 0,.agg [iv f,iv b]] (sesL h0 up l n) r m2:=by
    rintro l' r m2 rfl rfl rfl
    refine ⟨rfl,fun f' b' e=>?_⟩
    simp only [List.cons.injEq,AV.agg.injEq,AV.v.injEq,Value.int.injEq,and_true,true_and] at e
    obtain ⟨rfl,rfl⟩:=e
    simp only [sesL,List.tail_cons,skM_nd]
  rcases six hl6 with rfl | ⟨g1,rfl⟩ | ⟨g1,g2,rfl⟩ | ⟨g1,g2,g3,rfl⟩ | ⟨g1,g2,g3,g4,rfl⟩ | ⟨g1,g2,g3,g4,g5,rfl⟩ | ⟨g1,g2,g3,g4,g5,g6,rfl⟩
  · refine Aw_st hE [0,3] [3,1000,1001,1002,1003,1004,1005,1006] fun K hK=>?_
    simp only [go_sem,seval]
    refine hK _ ?_; clear hK K
    refine Aw_st hE [3,5] [3,1000,1001,1002,1003,1004,1005,1006] fun K hK=>?_
    simp only [go_sem,seval]
    refine hK _ ?_; clear hK K
    refine Aw_sq fun B1 hB1 hR1 hX1=>?_
    refine Aw_bk fun B2 hN2 hE2 hR2 hX2=>?_
    refine Aw_unr 1 ?_
    refine Aw_rd fun B3_0 hN3_0 hR3_0 hX3_0=>?_
    refine Aw_sq fun B4_0 hB4_0 hR4_0 hX4_0=>?_
    refine Aw_sd hE [3,5,25] [3,1000,1001,1002,1003,1004,1005,1006] 6 (by kernel_rfl) fun K hK=>?_
    simp only [go_sem,seval]
    refine hK _ (Aw_no rfl (Aw_exit (hX4_0 _ _ (hX3_0 _ _ (hE2 _ (hB1 _ ?_))))))
    refine Aw_st hE [4] [3,1000,1001,1002,1003,1004,1005,1006] fun K hK=>?_
    simp only [go_sem,seval]
    refine hK _ ?_
    refine Aw.leE (Le_E (Le_ks [4] [1000])) ?_
    refine Aw_ret (hQ _ ?_)
    simp only [go_sem,seval]
    refine hpost [] _ _ rfl rfl ?_
    rw [show skN f b []=0 by simp [skN]]
    rfl
  · refine Aw_st hE [0,3] [3,1000,1001,1002,1003,1004,1005,1006] fun K hK=>?_
    simp only [go_sem,seval]
    refine hK _ ?_; clear hK K
    refine Aw_st hE [3,5] [3,1000,1001,1002,1003,1004,1005,1006] fun K hK=>?_
    simp only [go_sem,seval]
    refine hK _ ?_; clear hK K
    refine Aw_sq fun B1 hB1 hR1 hX1=>?_
    refine Aw_bk fun B2 hN2 hE2 hR2 hX2=>?_
    refine Aw_unr 2 ?_
    refine Aw_rd fun B3_0 hN3_0 hR3_0 hX3_0=>?_
    refine Aw_sq fun B4_0 hB4_0 hR4_0 hX4_0=>?_
    have hr_0:=hlg g1 (by simp)
    refine Aw_sd hE [3,5,25] [3,1000,1001,1002,1003,1004,1005,1006] 6 (by kernel_rfl) fun K hK=>?_
    simp only [go_sem,seval,hr_0,hr,Bool.and_self,if_true]
    refine hK _ (Aw_cond rfl (fun hc_0=>?_) (fun hc_0=>?_))
    rotate_left
    · simp only [decide_eq_false_iff_not] at hc_0
      refine Aw_exit (hX4_0 _ _ (hX3_0 _ _ (hE2 _ (hB1 _ ?_))))
      refine Aw_st hE [4] [3,1000,1001,1002,1003,1004,1005,1006] fun K hK=>?_
      simp only [go_sem,seval]
      refine hK _ ?_
      refine Aw.leE (Le_E (Le_ks [4] [1000,1001])) ?_
      refine Aw_ret (hQ _ ?_)
      simp only [go_sem,seval]
      refine hpost [g1] _ _ rfl rfl ?_
      rw [show skN f b [g1]=0 by simp [skN,hc_0]]
      rfl
    simp only [decide_eq_true_eq] at hc_0
    refine Aw_skip (hB4_0 _ ?_)
    refine Aw_bk fun B5_0 hN5_0 hE5_0 hR5_0 hX5_0=>?_
    refine Aw_tx hE [3,5] [3,1000,1001,1002,1003,1004,1005,1006] fun K hK=>?_
    simp only [go_sem,seval]
    refine hK _ (hN5_0 _ (hN3_0 _ ?_))
    refine Aw_rd fun B3_1 hN3_1 hR3_1 hX3_1=>?_
    refine Aw_sq fun B4_1 hB4_1 hR4_1 hX4_1=>?_
    refine Aw_sd hE [3,5,25] [3,1000,1001,1002,1003,1004,1005,1006] 6 (by kernel_rfl) fun K hK=>?_
    simp only [go_sem,seval]
    refine hK _ (Aw_no rfl (Aw_exit (hX4_1 _ _ (hX3_1 _ _ (hE2 _ (hB1 _ ?_))))))
    refine Aw_st hE [4] [3,1000,1001,1002,1003,1004,1005,1006] fun K hK=>?_
    simp only [go_sem,seval]
    refine hK _ ?_
    refine Aw.leE (Le_E (Le_ks [4] [1000,1001])) ?_
    refine Aw_ret (hQ _ ?_)
    simp only [go_sem,seval]
    refine hpost [g1] _ _ rfl rfl ?_
    rw [show skN f b [g1]=1 by simp [skN,hc_0]]
    rfl
  · refine Aw_st hE [0,3] [3,1000,1001,1002,1003,1004,1005,1006] fun K hK=>?_
    simp only [go_sem,seval]
    refine hK _ ?_; clear hK K
    refine Aw_st hE [3,5] [3,1000,1001,1002,1003,1004,1005,1006] fun K hK=>?_
    simp only [go_sem,seval]
    refine hK _ ?_; clear hK K
    refine Aw_sq fun B1 hB1 hR1 hX1=>?_
    refine Aw_bk fun B2 hN2 hE2 hR2 hX2=>?_
    refine Aw_unr 3 ?_
    refine Aw_rd fun B3_0 hN3_0 hR3_0 hX3_0=>?_
    refine Aw_sq fun B4_0 hB4_0 hR4_0 hX4_0=>?_
    have hr_0:=hlg g1 (by simp)
    refine Aw_sd hE [3,5,25] [3,1000,1001,1002,1003,1004,1005,1006] 6 (by kernel_rfl) fun K hK=>?_
    simp only [go_sem,seval,hr_0,hr,Bool.and_self,if_true]
    refine hK _ (Aw_cond rfl (fun hc_0=>?_) (fun hc_0=>?_))
    rotate_left
    · simp only [decide_eq_false_iff_not] at hc_0
      refine Aw_exit (hX4_0 _ _ (hX3_0 _ _ (hE2 _ (hB1 _ ?_))))
      refine Aw_st hE [4] [3,1000,1001,1002,1003,1004,1005,1006] fun K hK=>?_
      simp only [go_sem,seval]
      refine hK _ ?_
      refine Aw.leE (Le_E (Le_ks [4] [1000,1001,1002])) ?_
      refine Aw_ret (hQ _ ?_)
      simp only [go_sem,seval]
      refine hpost [g1,g2] _ _ rfl rfl ?_
      rw [show skN f b [g1,g2]=0 by simp [skN,hc_0]]
      rfl
    simp only [decide_eq_true_eq] at hc_0
    refine Aw_skip (hB4_0 _ ?_)
    refine Aw_bk fun B5_0 hN5_0 hE5_0 hR5_0 hX5_0=>?_
    refine Aw_tx hE [3,5] [3,1000,1001,1002,1003,1004,1005,1006] fun K hK=>?_
    simp only [go_sem,seval]
    refine hK _ (hN5_0 _ (hN3_0 _ ?_))
    refine Aw_rd fun B3_1 hN3_1 hR3_1 hX3_1=>?_
    refine Aw_sq fun B4_1 hB4_1 hR4_1 hX4_1=>?_
    have hr_1:=hlg g2 (by simp)
    refine Aw_sd hE [3,5,25] [3,1000,1001,1002,1003,1004,1005,1006] 6 (by kernel_rfl) fun K hK=>?_
    simp only [go_sem,seval,hr_1,hr,Bool.and_self,if_true]
    refine hK _ (Aw_cond rfl (fun hc_1=>?_) (fun hc_1=>?_))
    rotate_left
    · simp only [decide_eq_false_iff_not] at hc_1
      refine Aw_exit (hX4_1 _ _ (hX3_1 _ _ (hE2 _ (hB1 _ ?_))))
      refine Aw_st hE [4] [3,1000,1001,1002,1003,1004,1005,1006] fun K hK=>?_
      simp only [go_sem,seval]
      refine hK _ ?_
      refine Aw.leE (Le_E (Le_ks [4] [1000,1001,1002])) ?_
      refine Aw_ret (hQ _ ?_)
      simp only [go_sem,seval]
      refine hpost [g1,g2] _ _ rfl rfl ?_
      rw [show skN f b [g1,g2]=1 by simp [skN,hc_0,hc_1]]
      rfl
    simp only [decide_eq_true_eq] at hc_1
    refine Aw_skip (hB4_1 _ ?_)
    refine Aw_bk fun B5_1 hN5_1 hE5_1 hR5_1 hX5_1=>?_
    refine Aw_tx hE [3,5] [3,1000,1001,1002,1003,1004,1005,1006] fun K hK=>?_
    simp only [go_sem,seval]
    refine hK _ (hN5_1 _ (hN3_1 _ ?_))
    refine Aw_rd fun B3_2 hN3_2 hR3_2 hX3_2=>?_
    refine Aw_sq fun B4_2 hB4_2 hR4_2 hX4_2=>?_
    refine Aw_sd hE [3,5,25] [3,1000,1001,1002,1003,1004,1005,1006] 6 (by kernel_rfl) fun K hK=>?_
    simp only [go_sem,seval]
    refine hK _ (Aw_no rfl (Aw_exit (hX4_2 _ _ (hX3_2 _ _ (hE2 _ (hB1 _ ?_))))))
    refine Aw_st hE [4] [3,1000,1001,1002,1003,1004,1005,1006] fun K hK=>?_
    simp only [go_sem,seval]
    refine hK _ ?_
    refine Aw.leE (Le_E (Le_ks [4] [1000,1001,1002])) ?_
    refine Aw_ret (hQ _ ?_)
    simp only [go_sem,seval]
    refine hpost [g1,g2] _ _ rfl rfl ?_
    rw [show skN f b [g1,g2]=2 by simp [skN,hc_0,hc_1]]
    rfl
  · refine Aw_st hE [0,3] [3,1000,1001,1002,1003,1004,1005,1006] fun K hK=>?_
    simp only [go_sem,seval]
    refine hK _ ?_; clear hK K
    refine Aw_st hE [3,5] [3,1000,1001,1002,1003,1004,1005,1006] fun K hK=>?_
    simp only [go_sem,seval]
    refine hK _ ?_; clear hK K
    refine Aw_sq fun B1 hB1 hR1 hX1=>?_
    refine Aw_bk fun B2 hN2 hE2 hR2 hX2=>?_
    refine Aw_unr 4 ?_
    refine Aw_rd fun B3_0 hN3_0 hR3_0 hX3_0=>?_
    refine Aw_sq fun B4_0 hB4_0 hR4_0 hX4_0=>?_
    have hr_0:=hlg g1 (by simp)
    refine Aw_sd hE [3,5,25] [3,1000,1001,1002,1003,1004,1005,1006] 6 (by kernel_rfl) fun K hK=>?_
    simp only [go_sem,seval,hr_0,hr,Bool.and_self,if_true]
    refine hK _ (Aw_cond rfl (fun hc_0=>?_) (fun hc_0=>?_))
    rotate_left
    · simp only [decide_eq_false_iff_not] at hc_0
      refine Aw_exit (hX4_0 _ _ (hX3_0 _ _ (hE2 _ (hB1 _ ?_))))
      refine Aw_st hE [4] [3,1000,1001,1002,1003,1004,1005,1006] fun K hK=>?_
      simp only [go_sem,seval]
      refine hK _ ?_
      refine Aw.leE (Le_E (Le_ks [4] [1000,1001,1002,1003])) ?_
      refine Aw_ret (hQ _ ?_)
      simp only [go_sem,seval]
      refine hpost [g1,g2,g3] _ _ rfl rfl ?_
      rw [show skN f b [g1,g2,g3]=0 by simp [skN,hc_0]]
      rfl
    simp only [decide_eq_true_eq] at hc_0
    refine Aw_skip (hB4_0 _ ?_)
    refine Aw_bk fun B5_0 hN5_0 hE5_0 hR5_0 hX5_0=>?_
    refine Aw_tx hE [3,5] [3,1000,1001,1002,1003,1004,1005,1006] fun K hK=>?_
    simp only [go_sem,seval]
    refine hK _ (hN5_0 _ (hN3_0 _ ?_))
    refine Aw_rd fun B3_1 hN3_1 hR3_1 hX3_1=>?_
    refine Aw_sq fun B4_1 hB4_1 hR4_1 hX4_1=>?_
    have hr_1:=hlg g2 (by simp)
    refine Aw_sd hE [3,5,25] [3,1000,1001,1002,1003,1004,1005,1006] 6 (by kernel_rfl) fun K hK=>?_
    simp only [go_sem,seval,hr_1,hr,Bool.and_self,if_true]
    refine hK _ (Aw_cond rfl (fun hc_1=>?_) (fun hc_1=>?_))
    rotate_left
    · simp only [decide_eq_false_iff_not] at hc_1
      refine Aw_exit (hX4_1 _ _ (hX3_1 _ _ (hE2 _ (hB1 _ ?_))))
      refine Aw_st hE [4] [3,1000,1001,1002,1003,1004,1005,1006] fun K hK=>?_
      simp only [go_sem,seval]
      refine hK _ ?_
      refine Aw.leE (Le_E (Le_ks [4] [1000,1001,1002,1003])) ?_
      refine Aw_ret (hQ _ ?_)
      simp only [go_sem,seval]
      refine hpost [g1,g2,g3] _ _ rfl rfl ?_
      rw [show skN f b [g1,g2,g3]=1 by simp [skN,hc_0,hc_1]]
      rfl
    simp only [decide_eq_true_eq] at hc_1
    refine Aw_skip (hB4_1 _ ?_)
    refine Aw_bk fun B5_1 hN5_1 hE5_1 hR5_1 hX5_1=>?_
    refine Aw_tx hE [3,5] [3,1000,1001,1002,1003,1004,1005,1006] fun K hK=>?_
    simp only [go_sem,seval]
    refine hK _ (hN5_1 _ (hN3_1 _ ?_))
    refine Aw_rd fun B3_2 hN3_2 hR3_2 hX3_2=>?_
    refine Aw_sq fun B4_2 hB4_2 hR4_2 hX4_2=>?_
    have hr_2:=hlg g3 (by simp)
    refine Aw_sd hE [3,5,25] [3,1000,1001,1002,1003,1004,1005,1006] 6 (by kernel_rfl) fun K hK=>?_
    simp only [go_sem,seval,hr_2,hr,Bool.and_self,if_true]
    refine hK _ (Aw_cond rfl (fun hc_2=>?_) (fun hc_2=>?_))
    rotate_left
    · simp only [decide_eq_false_iff_not] at hc_2
      refine Aw_exit (hX4_2 _ _ (hX3_2 _ _ (hE2 _ (hB1 _ ?_))))
      refine Aw_st hE [4] [3,1000,1001,1002,1003,1004,1005,1006] fun K hK=>?_
      simp only [go_sem,seval]
      refine hK _ ?_
      refine Aw.leE (Le_E (Le_ks [4] [1000,1001,1002,1003])) ?_
      refine Aw_ret (hQ _ ?_)
      simp only [go_sem,seval]
      refine hpost [g1,g2,g3] _ _ rfl rfl ?_
      rw [show skN f b [g1,g2,g3]=2 by simp [skN,hc_0,hc_1,hc_2]]
      rfl
    simp only [decide_eq_true_eq] at hc_2
    refine Aw_skip (hB4_2 _ ?_)
    refine Aw_bk fun B5_2 hN5_2 hE5_2 hR5_2 hX5_2=>?_
    refine Aw_tx hE [3,5] [3,1000,1001,1002,1003,1004,1005,1006] fun K hK=>?_
    simp only [go_sem,seval]
    refine hK _ (hN5_2 _ (hN3_2 _ ?_))
    refine Aw_rd fun B3_3 hN3_3 hR3_3 hX3_3=>?_
    refine Aw_sq fun B4_3 hB4_3 hR4_3 hX4_3=>?_
    refine Aw_sd hE [3,5,25] [3,1000,1001,1002,1003,1004,1005,1006] 6 (by kernel_rfl) fun K hK=>?_
    simp only [go_sem,seval]
    refine hK _ (Aw_no rfl (Aw_exit (hX4_3 _ _ (hX3_3 _ _ (hE2 _ (hB1 _ ?_))))))
    refine Aw_st hE [4] [3,1000,1001,1002,1003,1004,1005,1006] fun K hK=>?_
    simp only [go_sem,seval]
    refine hK _ ?_
    refine Aw.leE (Le_E (Le_ks [4] [1000,1001,1002,1003])) ?_
    refine Aw_ret (hQ _ ?_)
    simp only [go_sem,seval]
    refine hpost [g1,g2,g3] _ _ rfl rfl ?_
    rw [show skN f b [g1,g2,g3]=3 by simp [skN,hc_0,hc_1,hc_2]]
    rfl
  · refine Aw_st hE [0,3] [3,1000,1001,1002,1003,1004,1005,1006] fun K hK=>?_
    simp only [go_sem,seval]
    refine hK _ ?_; clear hK K
    refine Aw_st hE [3,5] [3,1000,1001,1002,1003,1004,1005,1006] fun K hK=>?_
    simp only [go_sem,seval]
    refine hK _ ?_; clear hK K
    refine Aw_sq fun B1 hB1 hR1 hX1=>?_
    refine Aw_bk fun B2 hN2 hE2 hR2 hX2=>?_
    refine Aw_unr 5 ?_
    refine Aw_rd fun B3_0 hN3_0 hR3_0 hX3_0=>?_
    refine Aw_sq fun B4_0 hB4_0 hR4_0 hX4_0=>?_
    have hr_0:=hlg g1 (by simp)
    refine Aw_sd hE [3,5,25] [3,1000,1001,1002,1003,1004,1005,1006] 6 (by kernel_rfl) fun K hK=>?_
    simp only [go_sem,seval,hr_0,hr,Bool.and_self,if_true]
    refine hK _ (Aw_cond rfl (fun hc_0=>?_) (fun hc_0=>?_))
    rotate_left
    · simp only [decide_eq_false_iff_not] at hc_0
      refine Aw_exit (hX4_0 _ _ (hX3_0 _ _ (hE2 _ (hB1 _ ?_))))
      refine Aw_st hE [4] [3,1000,1001,1002,1003,1004,1005,1006] fun K hK=>?_
      simp only [go_sem,seval]
      refine hK _ ?_
      refine Aw.leE (Le_E (Le_ks [4] [1000,1001,1002,1003,1004])) ?_
      refine Aw_ret (hQ _ ?_)
      simp only [go_sem,seval]
      refine hpost [g1,g2,g3,g4] _ _ rfl rfl ?_
      rw [show skN f b [g1,g2,g3,g4]=0 by simp [skN,hc_0]]
      rfl
    simp only [decide_eq_true_eq] at hc_0
    refine Aw_skip (hB4_0 _ ?_)
    refine Aw_bk fun B5_0 hN5_0 hE5_0 hR5_0 hX5_0=>?_
    refine Aw_tx hE [3,5] [3,1000,1001,1002,1003,1004,1005,1006] fun K hK=>?_
    simp only [go_sem,seval]
    refine hK _ (hN5_0 _ (hN3_0 _ ?_))
    refine Aw_rd fun B3_1 hN3_1 hR3_1 hX3_1=>?_
    refine Aw_sq fun B4_1 hB4_1 hR4_1 hX4_1=>?_
    have hr_1:=hlg g2 (by simp)
    refine Aw_sd hE [3,5,25] [3,1000,1001,1002,1003,1004,1005,1006] 6 (by kernel_rfl) fun K hK=>?_
    simp only [go_sem,seval,hr_1,hr,Bool.and_self,if_true]
    refine hK _ (Aw_cond rfl (fun hc_1=>?_) (fun hc_1=>?_))
    rotate_left
    · simp only [decide_eq_false_iff_not] at hc_1
      refine Aw_exit (hX4_1 _ _ (hX3_1 _ _ (hE2 _ (hB1 _ ?_))))
      refine Aw_st hE [4] [3,1000,1001,1002,1003,1004,1005,1006] fun K hK=>?_
      simp only [go_sem,seval]
      refine hK _ ?_
      refine Aw.leE (Le_E (Le_ks [4] [1000,1001,1002,1003,1004])) ?_
      refine Aw_ret (hQ _ ?_)
      simp only [go_sem,seval]
      refine hpost [g1,g2,g3,g4] _ _ rfl rfl ?_
      rw [show skN f b [g1,g2,g3,g4]=1 by simp [skN,hc_0,hc_1]]
      rfl
    simp only [decide_eq_true_eq] at hc_1
    refine Aw_skip (hB4_1 _ ?_)
    refine Aw_bk fun B5_1 hN5_1 hE5_1 hR5_1 hX5_1=>?_
    refine Aw_tx hE [3,5] [3,1000,1001,1002,1003,1004,1005,1006] fun K hK=>?_
    simp only [go_sem,seval]
    refine hK _ (hN5_1 _ (hN3_1 _ ?_))
    refine Aw_rd fun B3_2 hN3_2 hR3_2 hX3_2=>?_
    refine Aw_sq fun B4_2 hB4_2 hR4_2 hX4_2=>?_
    have hr_2:=hlg g3 (by simp)
    refine Aw_sd hE [3,5,25] [3,1000,1001,1002,1003,1004,1005,1006] 6 (by kernel_rfl) fun K hK=>?_
    simp only [go_sem,seval,hr_2,hr,Bool.and_self,if_true]
    refine hK _ (Aw_cond rfl (fun hc_2=>?_) (fun hc_2=>?_))
    rotate_left
    · simp only [decide_eq_false_iff_not] at hc_2
      refine Aw_exit (hX4_2 _ _ (hX3_2 _ _ (hE2 _ (hB1 _ ?_))))
      refine Aw_st hE [4] [3,1000,1001,1002,1003,1004,1005,1006] fun K hK=>?_
      simp only [go_sem,seval]
      refine hK _ ?_
      refine Aw.leE (Le_E (Le_ks [4] [1000,1001,1002,1003,1004])) ?_
      refine Aw_ret (hQ _ ?_)
      simp only [go_sem,seval]
      refine hpost [g1,g2,g3,g4] _ _ rfl rfl ?_
      rw [show skN f b [g1,g2,g3,g4]=2 by simp [skN,hc_0,hc_1,hc_2]]
      rfl
    simp only [decide_eq_true_eq] at hc_2
    refine Aw_skip (hB4_2 _ ?_)
    refine Aw_bk fun B5_2 hN5_2 hE5_2 hR5_2 hX5_2=>?_
    refine Aw_tx hE [3,5] [3,1000,1001,1002,1003,1004,1005,1006] fun K hK=>?_
    simp only [go_sem,seval]
    refine hK _ (hN5_2 _ (hN3_2 _ ?_))
    refine Aw_rd fun B3_3 hN3_3 hR3_3 hX3_3=>?_
    refine Aw_sq fun B4_3 hB4_3 hR4_3 hX4_3=>?_
    have hr_3:=hlg g4 (by simp)
    refine Aw_sd hE [3,5,25] [3,1000,1001,1002,1003,1004,1005,1006] 6 (by kernel_rfl) fun K hK=>?_
    simp only [go_sem,seval,hr_3,hr,Bool.and_self,if_true]
    refine hK _ (Aw_cond rfl (fun hc_3=>?_) (fun hc_3=>?_))
    rotate_left
    · simp only [decide_eq_false_iff_not] at hc_3
      refine Aw_exit (hX4_3 _ _ (hX3_3 _ _ (hE2 _ (hB1 _ ?_))))
      refine Aw_st hE [4] [3,1000,1001,1002,1003,1004,1005,1006] fun K hK=>?_
      simp only [go_sem,seval]
      refine hK _ ?_
      refine Aw.leE (Le_E (Le_ks [4] [1000,1001,1002,1003,1004])) ?_
      refine Aw_ret (hQ _ ?_)
      simp only [go_sem,seval]
      refine hpost [g1,g2,g3,g4] _ _ rfl rfl ?_
      rw [show skN f b [g1,g2,g3,g4]=3 by simp [skN,hc_0,hc_1,hc_2,hc_3]]
      rfl
    simp only [decide_eq_true_eq] at hc_3
    refine Aw_skip (hB4_3 _ ?_)
    refine Aw_bk fun B5_3 hN5_3 hE5_3 hR5_3 hX5_3=>?_
    refine Aw_tx hE [3,5] [3,1000,1001,1002,1003,1004,1005,1006] fun K hK=>?_
    simp only [go_sem,seval]
    refine hK _ (hN5_3 _ (hN3_3 _ ?_))
    refine Aw_rd fun B3_4 hN3_4 hR3_4 hX3_4=>?_
    refine Aw_sq fun B4_4 hB4_4 hR4_4 hX4_4=>?_
    refine Aw_sd hE [3,5,25] [3,1000,1001,1002,1003,1004,1005,1006] 6 (by kernel_rfl) fun K hK=>?_
    simp only [go_sem,seval]
    refine hK _ (Aw_no rfl (Aw_exit (hX4_4 _ _ (hX3_4 _ _ (hE2 _ (hB1 _ ?_))))))
    refine Aw_st hE [4] [3,1000,1001,1002,1003,1004,1005,1006] fun K hK=>?_
    simp only [go_sem,seval]
    refine hK _ ?_
    refine Aw.leE (Le_E (Le_ks [4] [1000,1001,1002,1003,1004])) ?_
    refine Aw_ret (hQ _ ?_)
    simp only [go_sem,seval]
    refine hpost [g1,g2,g3,g4] _ _ rfl rfl ?_
    rw [show skN f b [g1,g2,g3,g4]=4 by simp [skN,hc_0,hc_1,hc_2,hc_3]]
    rfl
  · refine Aw_st hE [0,3] [3,1000,1001,1002,1003,1004,1005,1006] fun K hK=>?_
    simp only [go_sem,seval]
    refine hK _ ?_; clear hK K
    refine Aw_st hE [3,5] [3,1000,1001,1002,1003,1004,1005,1006] fun K hK=>?_
    simp only [go_sem,seval]
    refine hK _ ?_; clear hK K
    refine Aw_sq fun B1 hB1 hR1 hX1=>?_
    refine Aw_bk fun B2 hN2 hE2 hR2 hX2=>?_
    refine Aw_unr 6 ?_
    refine Aw_rd fun B3_0 hN3_0 hR3_0 hX3_0=>?_
    refine Aw_sq fun B4_0 hB4_0 hR4_0 hX4_0=>?_
    have hr_0:=hlg g1 (by simp)
    refine Aw_sd hE [3,5,25] [3,1000,1001,1002,1003,1004,1005,1006] 6 (by kernel_rfl) fun K hK=>?_
    simp only [go_sem,seval,hr_0,hr,Bool.and_self,if_true]
    refine hK _ (Aw_cond rfl (fun hc_0=>?_) (fun hc_0=>?_))
    rotate_left
    · simp only [decide_eq_false_iff_not] at hc_0
      refine Aw_exit (hX4_0 _ _ (hX3_0 _ _ (hE2 _ (hB1 _ ?_))))
      refine Aw_st hE [4] [3,1000,1001,1002,1003,1004,1005,1006] fun K hK=>?_
      simp only [go_sem,seval]
      refine hK _ ?_
      refine Aw.leE (Le_E (Le_ks [4] [1000,1001,1002,1003,1004,1005])) ?_
      refine Aw_ret (hQ _ ?_)
      simp only [go_sem,seval]
      refine hpost [g1,g2,g3,g4,g5] _ _ rfl rfl ?_
      rw [show skN f b [g1,g2,g3,g4,g5]=0 by simp [skN,hc_0]]
      rfl
    simp only [decide_eq_true_eq] at hc_0
    refine Aw_skip (hB4_0 _ ?_)
    refine Aw_bk fun B5_0 hN5_0 hE5_0 hR5_0 hX5_0=>?_
    refine Aw_tx hE [3,5] [3,1000,1001,1002,1003,1004,1005,1006] fun K hK=>?_
    simp only [go_sem,seval]
    refine hK _ (hN5_0 _ (hN3_0 _ ?_))
    refine Aw_rd fun B3_1 hN3_1 hR3_1 hX3_1=>?_
    refine Aw_sq fun B4_1 hB4_1 hR4_1 hX4_1=>?_
    have hr_1:=hlg g2 (by simp)
    refine Aw_sd hE [3,5,25] [3,1000,1001,1002,1003,1004,1005,1006] 6 (by kernel_rfl) fun K hK=>?_
    simp only [go_sem,seval,hr_1,hr,Bool.and_self,if_true]
    refine hK _ (Aw_cond rfl (fun hc_1=>?_) (fun hc_1=>?_))
    rotate_left
    · simp only [decide_eq_false_iff_not] at hc_1
      refine Aw_exit (hX4_1 _ _ (hX3_1 _ _ (hE2 _ (hB1 _ ?_))))
      refine Aw_st hE [4] [3,1000,1001,1002,1003,1004,1005,1006] fun K hK=>?_
      simp only [go_sem,seval]
      refine hK _ ?_
      refine Aw.leE (Le_E (Le_ks [4] [1000,1001,1002,1003,1004,1005])) ?_
      refine Aw_ret (hQ _ ?_)
      simp only [go_sem,seval]
      refine hpost [g1,g2,g3,g4,g5] _ _ rfl rfl ?_
      rw [show skN f b [g1,g2,g3,g4,g5]=1 by simp [skN,hc_0,hc_1]]
      rfl
    simp only [decide_eq_true_eq] at hc_1
    refine Aw_skip (hB4_1 _ ?_)
    refine Aw_bk fun B5_1 hN5_1 hE5_1 hR5_1 hX5_1=>?_
    refine Aw_tx hE [3,5] [3,1000,1001,1002,1003,1004,1005,1006] fun K hK=>?_
    simp only [go_sem,seval]
    refine hK _ (hN5_1 _ (hN3_1 _ ?_))
    refine Aw_rd fun B3_2 hN3_2 hR3_2 hX3_2=>?_
    refine Aw_sq fun B4_2 hB4_2 hR4_2 hX4_2=>?_
    have hr_2:=hlg g3 (by simp)
    refine Aw_sd hE [3,5,25] [3,1000,1001,1002,1003,1004,1005,1006] 6 (by kernel_rfl) fun K hK=>?_
    simp only [go_sem,seval,hr_2,hr,Bool.and_self,if_true]
    refine hK _ (Aw_cond rfl (fun hc_2=>?_) (fun hc_2=>?_))
    rotate_left
    · simp only [decide_eq_false_iff_not] at hc_2
      refine Aw_exit (hX4_2 _ _ (hX3_2 _ _ (hE2 _ (hB1 _ ?_))))
      refine Aw_st hE [4] [3,1000,1001,1002,1003,1004,1005,1006] fun K hK=>?_
      simp only [go_sem,seval]
      refine hK _ ?_
      refine Aw.leE (Le_E (Le_ks [4] [1000,1001,1002,1003,1004,1005])) ?_
      refine Aw_ret (hQ _ ?_)
      simp only [go_sem,seval]
      refine hpost [g1,g2,g3,g4,g5] _ _ rfl rfl ?_
      rw [show skN f b [g1,g2,g3,g4,g5]=2 by simp [skN,hc_0,hc_1,hc_2]]
      rfl
    simp only [decide_eq_true_eq] at hc_2
    refine Aw_skip (hB4_2 _ ?_)
    refine Aw_bk fun B5_2 hN5_2 hE5_2 hR5_2 hX5_2=>?_
    refine Aw_tx hE [3,5] [3,1000,1001,1002,1003,1004,1005,1006] fun K hK=>?_
    simp only [go_sem,seval]
    refine hK _ (hN5_2 _ (hN3_2 _ ?_))
    refine Aw_rd fun B3_3 hN3_3 hR3_3 hX3_3=>?_
    refine Aw_sq fun B4_3 hB4_3 hR4_3 hX4_3=>?_
    have hr_3:=hlg g4 (by simp)
    refine Aw_sd hE [3,5,25] [3,1000,1001,1002,1003,1004,1005,1006] 6 (by kernel_rfl) fun K hK=>?_
    simp only [go_sem,seval,hr_3,hr,Bool.and_self,if_true]
    refine hK _ (Aw_cond rfl (fun hc_3=>?_) (fun hc_3=>?_))
    rotate_left
    · simp only [decide_eq_false_iff_not] at hc_3
      refine Aw_exit (hX4_3 _ _ (hX3_3 _ _ (hE2 _ (hB1 _ ?_))))
      refine Aw_st hE [4] [3,1000,1001,1002,1003,1004,1005,1006] fun K hK=>?_
      simp only [go_sem,seval]
      refine hK _ ?_
      refine Aw.leE (Le_E (Le_ks [4] [1000,1001,1002,1003,1004,1005])) ?_
      refine Aw_ret (hQ _ ?_)
      simp only [go_sem,seval]
      refine hpost [g1,g2,g3,g4,g5] _ _ rfl rfl ?_
      rw [show skN f b [g1,g2,g3,g4,g5]=3 by simp [skN,hc_0,hc_1,hc_2,hc_3]]
      rfl
    simp only [decide_eq_true_eq] at hc_3
    refine Aw_skip (hB4_3 _ ?_)
    refine Aw_bk fun B5_3 hN5_3 hE5_3 hR5_3 hX5_3=>?_
    refine Aw_tx hE [3,5] [3,1000,1001,1002,1003,1004,1005,1006] fun K hK=>?_
    simp only [go_sem,seval]
    refine hK _ (hN5_3 _ (hN3_3 _ ?_))
    refine Aw_rd fun B3_4 hN3_4 hR3_4 hX3_4=>?_
    refine Aw_sq fun B4_4 hB4_4 hR4_4 hX4_4=>?_
    have hr_4:=hlg g5 (by simp)
    refine Aw_sd hE [3,5,25] [3,1000,1001,1002,1003,1004,1005,1006] 6 (by kernel_rfl) fun K hK=>?_
    simp only [go_sem,seval,hr_4,hr,Bool.and_self,if_true]
    refine hK _ (Aw_cond rfl (fun hc_4=>?_) (fun hc_4=>?_))
    rotate_left
    · simp only [decide_eq_false_iff_not] at hc_4
      refine Aw_exit (hX4_4 _ _ (hX3_4 _ _ (hE2 _ (hB1 _ ?_))))
      refine Aw_st hE [4] [3,1000,1001,1002,1003,1004,1005,1006] fun K hK=>?_
      simp only [go_sem,seval]
      refine hK _ ?_
      refine Aw.leE (Le_E (Le_ks [4] [1000,1001,1002,1003,1004,1005])) ?_
      refine Aw_ret (hQ _ ?_)
      simp only [go_sem,seval]
      refine hpost [g1,g2,g3,g4,g5] _ _ rfl rfl ?_
      rw [show skN f b [g1,g2,g3,g4,g5]=4 by simp [skN,hc_0,hc_1,hc_2,hc_3,hc_4]]
      rfl
    simp only [decide_eq_true_eq] at hc_4
    refine Aw_skip (hB4_4 _ ?_)
    refine Aw_bk fun B5_4 hN5_4 hE5_4 hR5_4 hX5_4=>?_
    refine Aw_tx hE [3,5] [3,1000,1001,1002,1003,1004,1005,1006] fun K hK=>?_
    simp only [go_sem,seval]
    refine hK _ (hN5_4 _ (hN3_4 _ ?_))
    refine Aw_rd fun B3_5 hN3_5 hR3_5 hX3_5=>?_
    refine Aw_sq fun B4_5 hB4_5 hR4_5 hX4_5=>?_
    refine Aw_sd hE [3,5,25] [3,1000,1001,1002,1003,1004,1005,1006] 6 (by kernel_rfl) fun K hK=>?_
    simp only [go_sem,seval]
    refine hK _ (Aw_no rfl (Aw_exit (hX4_5 _ _ (hX3_5 _ _ (hE2 _ (hB1 _ ?_))))))
    refine Aw_st hE [4] [3,1000,1001,1002,1003,1004,1005,1006] fun K hK=>?_
    simp only [go_sem,seval]
    refine hK _ ?_
    refine Aw.leE (Le_E (Le_ks [4] [1000,1001,1002,1003,1004,1005])) ?_
    refine Aw_ret (hQ _ ?_)
    simp only [go_sem,seval]
    refine hpost [g1,g2,g3,g4,g5] _ _ rfl rfl ?_
    rw [show skN f b [g1,g2,g3,g4,g5]=5 by simp [skN,hc_0,hc_1,hc_2,hc_3,hc_4]]
    rfl
  · refine Aw_st hE [0,3] [3,1000,1001,1002,1003,1004,1005,1006] fun K hK=>?_
    simp only [go_sem,seval]
    refine hK _ ?_; clear hK K
    refine Aw_st hE [3,5] [3,1000,1001,1002,1003,1004,1005,1006] fun K hK=>?_
    simp only [go_sem,seval]
    refine hK _ ?_; clear hK K
    refine Aw_sq fun B1 hB1 hR1 hX1=>?_
    refine Aw_bk fun B2 hN2 hE2 hR2 hX2=>?_
    refine Aw_unr 7 ?_
    refine Aw_rd fun B3_0 hN3_0 hR3_0 hX3_0=>?_
    refine Aw_sq fun B4_0 hB4_0 hR4_0 hX4_0=>?_
    have hr_0:=hlg g1 (by simp)
    refine Aw_sd hE [3,5,25] [3,1000,1001,1002,1003,1004,1005,1006] 6 (by kernel_rfl) fun K hK=>?_
    simp only [go_sem,seval,hr_0,hr,Bool.and_self,if_true]
    refine hK _ (Aw_cond rfl (fun hc_0=>?_) (fun hc_0=>?_))
    rotate_left
    · simp only [decide_eq_false_iff_not] at hc_0
      refine Aw_exit (hX4_0 _ _ (hX3_0 _ _ (hE2 _ (hB1 _ ?_))))
      refine Aw_st hE [4] [3,1000,1001,1002,1003,1004,1005,1006] fun K hK=>?_
      simp only [go_sem,seval]
      refine hK _ ?_
      refine Aw.leE (Le_E (Le_ks [4] [1000,1001,1002,1003,1004,1005,1006])) ?_
      refine Aw_ret (hQ _ ?_)
      simp only [go_sem,seval]
      refine hpost [g1,g2,g3,g4,g5,g6] _ _ rfl rfl ?_
      rw [show skN f b [g1,g2,g3,g4,g5,g6]=0 by simp [skN,hc_0]]
      rfl
    simp only [decide_eq_true_eq] at hc_0
    refine Aw_skip (hB4_0 _ ?_)
    refine Aw_bk fun B5_0 hN5_0 hE5_0 hR5_0 hX5_0=>?_
    refine Aw_tx hE [3,5] [3,1000,1001,1002,1003,1004,1005,1006] fun K hK=>?_
    simp only [go_sem,seval]
    refine hK _ (hN5_0 _ (hN3_0 _ ?_))
    refine Aw_rd fun B3_1 hN3_1 hR3_1 hX3_1=>?_
    refine Aw_sq fun B4_1 hB4_1 hR4_1 hX4_1=>?_
    have hr_1:=hlg g2 (by simp)
    refine Aw_sd hE [3,5,25] [3,1000,1001,1002,1003,1004,1005,1006] 6 (by kernel_rfl) fun K hK=>?_
    simp only [go_sem,seval,hr_1,hr,Bool.and_self,if_true]
    refine hK _ (Aw_cond rfl (fun hc_1=>?_) (fun hc_1=>?_))
    rotate_left
    · simp only [decide_eq_false_iff_not] at hc_1
      refine Aw_exit (hX4_1 _ _ (hX3_1 _ _ (hE2 _ (hB1 _ ?_))))
      refine Aw_st hE [4] [3,1000,1001,1002,1003,1004,1005,1006] fun K hK=>?_
      simp only [go_sem,seval]
      refine hK _ ?_
      refine Aw.leE (Le_E (Le_ks [4] [1000,1001,1002,1003,1004,1005,1006])) ?_
      refine Aw_ret (hQ _ ?_)
      simp only [go_sem,seval]
      refine hpost [g1,g2,g3,g4,g5,g6] _ _ rfl rfl ?_
      rw [show skN f b [g1,g2,g3,g4,g5,g6]=1 by simp [skN,hc_0,hc_1]]
      rfl
    simp only [decide_eq_true_eq] at hc_1
    refine Aw_skip (hB4_1 _ ?_)
    refine Aw_bk fun B5_1 hN5_1 hE5_1 hR5_1 hX5_1=>?_
    refine Aw_tx hE [3,5] [3,1000,1001,1002,1003,1004,1005,1006] fun K hK=>?_
    simp only [go_sem,seval]
    refine hK _ (hN5_1 _ (hN3_1 _ ?_))
    refine Aw_rd fun B3_2 hN3_2 hR3_2 hX3_2=>?_
    refine Aw_sq fun B4_2 hB4_2 hR4_2 hX4_2=>?_
    have hr_2:=hlg g3 (by simp)
    refine Aw_sd hE [3,5,25] [3,1000,1001,1002,1003,1004,1005,1006] 6 (by kernel_rfl) fun K hK=>?_
    simp only [go_sem,seval,hr_2,hr,Bool.and_self,if_true]
    refine hK _ (Aw_cond rfl (fun hc_2=>?_) (fun hc_2=>?_))
    rotate_left
    · simp only [decide_eq_false_iff_not] at hc_2
      refine Aw_exit (hX4_2 _ _ (hX3_2 _ _ (hE2 _ (hB1 _ ?_))))
      refine Aw_st hE [4] [3,1000,1001,1002,1003,1004,1005,1006] fun K hK=>?_
      simp only [go_sem,seval]
      refine hK _ ?_
      refine Aw.leE (Le_E (Le_ks [4] [1000,1001,1002,1003,1004,1005,1006])) ?_
      refine Aw_ret (hQ _ ?_)
      simp only [go_sem,seval]
      refine hpost [g1,g2,g3,g4,g5,g6] _ _ rfl rfl ?_
      rw [show skN f b [g1,g2,g3,g4,g5,g6]=2 by simp [skN,hc_0,hc_1,hc_2]]
      rfl
    simp only [decide_eq_true_eq] at hc_2
    refine Aw_skip (hB4_2 _ ?_)
    refine Aw_bk fun B5_2 hN5_2 hE5_2 hR5_2 hX5_2=>?_
    refine Aw_tx hE [3,5] [3,1000,1001,1002,1003,1004,1005,1006] fun K hK=>?_
    simp only [go_sem,seval]
    refine hK _ (hN5_2 _ (hN3_2 _ ?_))
    refine Aw_rd fun B3_3 hN3_3 hR3_3 hX3_3=>?_
    refine Aw_sq fun B4_3 hB4_3 hR4_3 hX4_3=>?_
    have hr_3:=hlg g4 (by simp)
    refine Aw_sd hE [3,5,25] [3,1000,1001,1002,1003,1004,1005,1006] 6 (by kernel_rfl) fun K hK=>?_
    simp only [go_sem,seval,hr_3,hr,Bool.and_self,if_true]
    refine hK _ (Aw_cond rfl (fun hc_3=>?_) (fun hc_3=>?_))
    rotate_left
    · simp only [decide_eq_false_iff_not] at hc_3
      refine Aw_exit (hX4_3 _ _ (hX3_3 _ _ (hE2 _ (hB1 _ ?_))))
      refine Aw_st hE [4] [3,1000,1001,1002,1003,1004,1005,1006] fun K hK=>?_
      simp only [go_sem,seval]
      refine hK _ ?_
      refine Aw.leE (Le_E (Le_ks [4] [1000,1001,1002,1003,1004,1005,1006])) ?_
      refine Aw_ret (hQ _ ?_)
      simp only [go_sem,seval]
      refine hpost [g1,g2,g3,g4,g5,g6] _ _ rfl rfl ?_
      rw [show skN f b [g1,g2,g3,g4,g5,g6]=3 by simp [skN,hc_0,hc_1,hc_2,hc_3]]
      rfl
    simp only [decide_eq_true_eq] at hc_3
    refine Aw_skip (hB4_3 _ ?_)
    refine Aw_bk fun B5_3 hN5_3 hE5_3 hR5_3 hX5_3=>?_
    refine Aw_tx hE [3,5] [3,1000,1001,1002,1003,1004,1005,1006] fun K hK=>?_
    simp only [go_sem,seval]
    refine hK _ (hN5_3 _ (hN3_3 _ ?_))
    refine Aw_rd fun B3_4 hN3_4 hR3_4 hX3_4=>?_
    refine Aw_sq fun B4_4 hB4_4 hR4_4 hX4_4=>?_
    have hr_4:=hlg g5 (by simp)
    refine Aw_sd hE [3,5,25] [3,1000,1001,1002,1003,1004,1005,1006] 6 (by kernel_rfl) fun K hK=>?_
    simp only [go_sem,seval,hr_4,hr,Bool.and_self,if_true]
    refine hK _ (Aw_cond rfl (fun hc_4=>?_) (fun hc_4=>?_))
    rotate_left
    · simp only [decide_eq_false_iff_not] at hc_4
      refine Aw_exit (hX4_4 _ _ (hX3_4 _ _ (hE2 _ (hB1 _ ?_))))
      refine Aw_st hE [4] [3,1000,1001,1002,1003,1004,1005,1006] fun K hK=>?_
      simp only [go_sem,seval]
      refine hK _ ?_
      refine Aw.leE (Le_E (Le_ks [4] [1000,1001,1002,1003,1004,1005,1006])) ?_
      refine Aw_ret (hQ _ ?_)
      simp only [go_sem,seval]
      refine hpost [g1,g2,g3,g4,g5,g6] _ _ rfl rfl ?_
      rw [show skN f b [g1,g2,g3,g4,g5,g6]=4 by simp [skN,hc_0,hc_1,hc_2,hc_3,hc_4]]
      rfl
    simp only [decide_eq_true_eq] at hc_4
    refine Aw_skip (hB4_4 _ ?_)
    refine Aw_bk fun B5_4 hN5_4 hE5_4 hR5_4 hX5_4=>?_
    refine Aw_tx hE [3,5] [3,1000,1001,1002,1003,1004,1005,1006] fun K hK=>?_
    simp only [go_sem,seval]
    refine hK _ (hN5_4 _ (hN3_4 _ ?_))
    refine Aw_rd fun B3_5 hN3_5 hR3_5 hX3_5=>?_
    refine Aw_sq fun B4_5 hB4_5 hR4_5 hX4_5=>?_
    have hr_5:=hlg g6 (by simp)
    refine Aw_sd hE [3,5,25] [3,1000,1001,1002,1003,1004,1005,1006] 6 (by kernel_rfl) fun K hK=>?_
    simp only [go_sem,seval,hr_5,hr,Bool.and_self,if_true]
    refine hK _ (Aw_cond rfl (fun hc_5=>?_) (fun hc_5=>?_))
    rotate_left
    · simp only [decide_eq_false_iff_not] at hc_5
      refine Aw_exit (hX4_5 _ _ (hX3_5 _ _ (hE2 _ (hB1 _ ?_))))
      refine Aw_st hE [4] [3,1000,1001,1002,1003,1004,1005,1006] fun K hK=>?_
      simp only [go_sem,seval]
      refine hK _ ?_
      refine Aw.leE (Le_E (Le_ks [4] [1000,1001,1002,1003,1004,1005,1006])) ?_
      refine Aw_ret (hQ _ ?_)
      simp only [go_sem,seval]
      refine hpost [g1,g2,g3,g4,g5,g6] _ _ rfl rfl ?_
      rw [show skN f b [g1,g2,g3,g4,g5,g6]=5 by simp [skN,hc_0,hc_1,hc_2,hc_3,hc_4,hc_5]]
      rfl
    simp only [decide_eq_true_eq] at hc_5
    refine Aw_skip (hB4_5 _ ?_)
    refine Aw_bk fun B5_5 hN5_5 hE5_5 hR5_5 hX5_5=>?_
    refine Aw_tx hE [3,5] [3,1000,1001,1002,1003,1004,1005,1006] fun K hK=>?_
    simp only [go_sem,seval]
    refine hK _ (hN5_5 _ (hN3_5 _ ?_))
    refine Aw_rd fun B3_6 hN3_6 hR3_6 hX3_6=>?_
    refine Aw_sq fun B4_6 hB4_6 hR4_6 hX4_6=>?_
    refine Aw_sd hE [3,5,25] [3,1000,1001,1002,1003,1004,1005,1006] 6 (by kernel_rfl) fun K hK=>?_
    simp only [go_sem,seval]
    refine hK _ (Aw_no rfl (Aw_exit (hX4_6 _ _ (hX3_6 _ _ (hE2 _ (hB1 _ ?_))))))
    refine Aw_st hE [4] [3,1000,1001,1002,1003,1004,1005,1006] fun K hK=>?_
    simp only [go_sem,seval]
    refine hK _ ?_
    refine Aw.leE (Le_E (Le_ks [4] [1000,1001,1002,1003,1004,1005,1006])) ?_
    refine Aw_ret (hQ _ ?_)
    simp only [go_sem,seval]
    refine hpost [g1,g2,g3,g4,g5,g6] _ _ rfl rfl ?_
    rw [show skN f b [g1,g2,g3,g4,g5,g6]=6 by simp [skN,hc_0,hc_1,hc_2,hc_3,hc_4,hc_5]]
    rfl
end Go.Proofs.W
end
section
namespace Go.Proofs.W
open Go Go.Eng Go.RowKit
set_option linter.unusedSimpArgs false
set_option maxRecDepth 100000

/-! what is old goes from a list -/
def hdR:List Gt→AV
  | []=>.v (.pointer none)
  | _::r=>.loc (570 + r.length) 0
def rsN:List Gt→List (Nat × List AV)
  | []=>[]
  | g::r=>(570 + r.length,gcs g++[hdR r])::rsN r
def nxK (x:AV):List Gt→Nat→AV
  | [],_=>x
  | _::_,k=>.loc k 0
def kpN (x:AV):List Gt→Nat→List (Nat × List AV)
  | [],_=>[]
  | g::o,k=>(k,gcs g++[nxK x o (k + 1)])::kpN x o (k + 1)
def lnk:List Gt→AV
  | []=>.loc 410 2
  | _::o=>.loc (550 + o.length) 6
attribute [go_sem] hdR rsN nxK kpN lnk
def sndC:Code→Code
  | .seq _ y=>y
  | c=>c
def tbEnd (pb:Addr):Tb:={ T:=TT,G:=[(44,cRibL)],D:=[(18,dRibOkI pb)],draws:=false,gl:=[],M:=[],MM:=[(42,(cOpen,[],[(600,400),(601,401),(602,402),(603,403),(604,404),(605,405),(606,406)]))],X:=[],EX:=[] }
attribute [go_sem] tbEnd
end Go.Proofs.W
end
section
namespace Go.Proofs.W
open Go Go.Eng Go.RowKit
set_option linter.unusedSimpArgs false
set_option maxRecDepth 100000

def dRibEndI (pb:Addr):DFn:={ g:=gRibEnd,inv:=WP pb }
attribute [go_sem] dRibEndI
end Go.Proofs.W
end
section
namespace Go.Proofs.W
open Go Go.Eng Go.RowKit
set_option linter.unusedSimpArgs false
set_option maxRecDepth 100000

/-! what a house told is drawn -/
theorem fromD_pre (h:Int):cFromD.pre [.rd,iv h]=True:=by simp [cFromD]
theorem fromD_post (args:List AV) (K:AV→Prop):(∀ r,cFromD.post args r→K r)=(∀ x:Rt,(x.path.length≤3∧x.marks.length≤9)→K x.av):=by
  apply propext
  exact ⟨fun h p hp=>h _ ⟨p,hp,rfl⟩,fun h r ⟨p,hp,e⟩=>e ▸ h p hp⟩
theorem fromD_ex (args:List AV):(∃ r,cFromD.post args r)=True:=eq_true ⟨_,⟨0,0,[],0,[]⟩,by simp,rfl⟩
attribute [go_sem] fromD_pre fromD_post fromD_ex upC dnC enC handG hand0
theorem LeE_fG {E:En} {tb:Tb} (hE:TbOk E tb) (ht:tb.lent=false) {st:St} (d:Nat) (L:List Gt) {rest:List AV} (hl:lkm d st.m=some (cGs L++rest)) (hk0:bk d=0:=by decide):LeE E st (st.frz d (gD L)) :=
  LeE_frz (hE.nl ht) d (L.length * 6) hl (by rw [List.take_left' (cGs_len L)]; exact ofAll_cGs L) hk0
/-- the data,or a view of it that is lent -/
def twoC (A:ConM):ConM:={ pre:=fun a m=>(m=[]∧A.pre a m)∨(m≠[]∧(lendC A).pre a m),post:=fun a m r m2=>(m=[]→A.post a m r m2)∧(m≠[]→(lendC A).post a m r m2) }
theorem twoC_ok {P:Program} {f:FuncId} {A:ConM} (hA:FineM P f A) (iA:∀ w,A.inv w):FineM P f (twoC A):=by
  refine ⟨hA.1,fun c args m1 vs h1 h2 h3 h4 _ h6 h7 h8 h9=>?_⟩
  rcases h4 with ⟨hm,hp⟩ | ⟨hm,hp⟩
  · exact (hA.2 c args m1 vs h1 h2 h3 hp (iA _) h6 h7 h8 h9).mono fun e w' ⟨v,r,m2,c',he,hq,O⟩=>⟨v,r,m2,c',he,⟨fun _=>hq,fun h=>absurd hm h⟩,O⟩
  · exact ((lendC_ok hA).2 c args m1 vs h1 h2 h3 hp (iA _) h6 h7 h8 h9).mono fun e w' ⟨v,r,m2,c',he,hq,O⟩=>⟨v,r,m2,c',he,⟨fun h=>absurd h hm,fun _=>hq⟩,O⟩
def cTellO:ConM:=twoC cTellM
theorem ribTellO_ok:FineM Tryz.prog 12 cTellO:=twoC_ok ribTellM_ok (fun _=>trivial)
section
variable {h:Int} {up:Bool} {l:List Gt} {f b:Int} {p:List Int} {k:Int} {m:List Int}
theorem tellO_pre:cTellO.pre [.agg [iv h,bv up,.sl none (grows l)],.agg [iv f,iv b,isl p,iv k,isl m]] []=((l.length≤1000∧lensG l)∧p.length≤1000∧m.length≤900):=by
  rw [← tellM_pre]
  exact propext ⟨fun h=>h.elim (fun h=>h.2) (fun h=>absurd rfl h.1),fun h=>.inl ⟨rfl,h⟩⟩
theorem tellO_post (K:AV→List (Nat × List AV)→Prop):(∀ r m2,cTellO.post [.agg [iv h,bv up,.sl none (grows l)],.agg [iv f,iv b,isl p,iv k,isl m]] [] r m2→K r m2)=tlC ⟨h,up,l⟩ ⟨f,b,p,k,m⟩ K:=by
  rw [← tellM_post h up l f b p k m [] K]
  exact propext ⟨fun hh r m2 hp=>hh r m2 ⟨fun _=>hp,fun h=>absurd rfl h⟩,fun hh r m2 hp=>hh r m2 (hp.1 rfl)⟩
theorem tellO_some {zh:Int} {zu zo:Bool} {zl:List Gt} (hz:telO ⟨h,up,l⟩ ⟨f,b,p,k,m⟩=some (⟨zh,zu,zl⟩,zo)) (K:AV→List (Nat × List AV)→Prop):(∀ r m2,cTellO.post [.agg [iv h,bv up,.sl none (grows l)],.agg [iv f,iv b,isl p,iv k,isl m]] [] r m2→K r m2) =
    (∀ cap,zl.length≤cap→K (.tup [.agg [iv zh,bv zu,.xs 900 0 zl.length cap 6],bv zo]) [(4,[iv zh,bv zu,.xs 900 0 zl.length cap 6]),(900,cGs zl++jk ((cap - zl.length) * 6))]):=by
  rw [tellO_post]
  apply propext
  refine ⟨fun hh=>hh.2 _ hz,fun hh=>⟨fun e=>?_,fun z' hz'=>?_⟩⟩
  · rw [e] at hz; cases hz
  · obtain rfl:=Option.some.inj (hz.symm.trans hz'); exact hh
theorem frz_args (cap:Nat):List.map (AV.frz 1000 (gD l)) [.agg [iv h,bv up,.xs 1000 0 l.length cap 6],.agg [iv f,iv b,isl p,iv k,isl m]]=[.agg [iv h,bv up,.sl none (grows l)],.agg [iv f,iv b,isl p,iv k,isl m]]:=by
  have e:AV.frz 1000 (gD l) (.xs 1000 0 l.length cap 6) = .sl none (grows l):=by
    simp only [AV.frz,if_true,Nat.zero_add,List.drop_zero]
    rw [if_pos (by rw [gD_len]; exact Nat.le_refl _),frz_grows]
  simp only [List.map_cons,List.map_nil,AV.frz,AV.frzAll]
  simp only [AV.frz] at e
  rw [e]
theorem tellV_p (cap:Nat) (rest:List AV) (hl:(l.length≤1000∧lensG l)∧p.length≤1000∧m.length≤900):cTellO.pre [.agg [iv h,bv up,.xs 1000 0 l.length cap 6],.agg [iv f,iv b,isl p,iv k,isl m]] [(1000,cGs l++rest)] :=
  .inr ⟨by simp,_,gD l,rfl,by
    show DV.ofAll ((cGs l++rest).take (l.length * 6))=_
    rw [List.take_left' (cGs_len l)]; exact ofAll_cGs l,by rw [frz_args,tellM_pre]; exact hl⟩
theorem tellV_q {cap:Nat} {rest:List AV} (hf:∀ z,telO ⟨h,up,l⟩ ⟨f,b,p,k,m⟩=some z→z.2=false) {r:AV} {m2:List (Nat × List AV)} (hp:cTellO.post [.agg [iv h,bv up,.xs 1000 0 l.length cap 6],.agg [iv f,iv b,isl p,iv k,isl m]] [(1000,cGs l++rest)] r m2) :
    ∃ h' u' w,r = .tup [.agg [iv h',bv u',.v w],bv false]∧m2=[(1000,cGs l++rest)]:=by
  obtain ⟨ls,ys,r0,m0,e,hy,hq,hpl,e2⟩:=hp.2 (by simp)
  obtain ⟨e1,_⟩:=List.cons.inj e
  obtain ⟨_,e1⟩:=Prod.mk.inj e1
  subst e1
  have hy2:DV.ofAll ((cGs l++rest).take (l.length * 6))=some ys:=hy
  rw [List.take_left' (cGs_len l),ofAll_cGs] at hy2
  obtain rfl:=Option.some.inj hy2
  rw [frz_args] at hq
  have key:∃ h' u' a,r0 = .tup [.agg [iv h',bv u',a],bv false]∧(a = .nl∨∃ d off n cap sz,a = .xs d off n cap sz):=by
    refine hq h up l f b p k m rfl (fun r0 _=>∃ h' u' a,r0 = .tup [.agg [iv h',bv u',a],bv false]∧(a = .nl∨∃ d off n cap sz,a = .xs d off n cap sz)) ⟨fun _=>⟨0,false,.nl,rfl,.inl rfl⟩,fun z hz cap hc=>?_⟩
    have:=hf z hz
    obtain ⟨⟨zh,zu,zl⟩,zo⟩:=z
    simp only at this
    subst this
    exact ⟨zh,zu,_,rfl,.inr ⟨_,_,_,_,_,rfl⟩⟩
  obtain ⟨h',u',a,rfl,ha⟩:=key
  have hpl2:∃ w,r = .tup [.agg [iv h',bv u',.v w],bv false]:=by
    rcases ha with rfl | ⟨d,off,n,cap,sz,rfl⟩
    all_goals
      simp only [Pl,PlL] at hpl
      obtain ⟨ls',rfl,y,ys,rfl,⟨ls2,rfl,y1,ys1,rfl,rfl,y2,ys2,rfl,rfl,y3,ys3,rfl,⟨w,rfl⟩,rfl⟩,y4,ys4,rfl,rfl,rfl⟩:=hpl
      exact ⟨w,rfl⟩
  obtain ⟨w,rfl⟩:=hpl2
  exact ⟨h',u',w,rfl,e2⟩
theorem tellV_eq {cap:Nat} {rest:List AV} (hf:∀ z,telO ⟨h,up,l⟩ ⟨f,b,p,k,m⟩=some z→z.2=false) (K:AV→List (Nat × List AV)→Prop) :
    (∀ r m2,cTellO.post [.agg [iv h,bv up,.xs 1000 0 l.length cap 6],.agg [iv f,iv b,isl p,iv k,isl m]] [(1000,cGs l++rest)] r m2→K r m2) =
    (∀ (h':Int) (u':Bool) (w:Value),cTellO.post [.agg [iv h,bv up,.xs 1000 0 l.length cap 6],.agg [iv f,iv b,isl p,iv k,isl m]] [(1000,cGs l++rest)] (.tup [.agg [iv h',bv u',.v w],bv false]) [(1000,cGs l++rest)]→K (.tup [.agg [iv h',bv u',.v w],bv false]) [(1000,cGs l++rest)]):=by
  apply propext
  refine ⟨fun hh h' u' w hp=>hh _ _ hp,fun hh r m2 hp=>?_⟩
  obtain ⟨h',u',w,rfl,rfl⟩:=tellV_q hf hp
  exact hh h' u' w hp
end
theorem telO_two (b:Rb) (x:Rt):(∃ h u l,telO b x=some (⟨h,u,l⟩,true))∨(∀ z,telO b x=some z→z.2=false):=by
  cases h:telO b x with
  | none=>exact .inr fun z hz=>by cases hz
  | some z =>
    obtain ⟨⟨zh,zu,zl⟩,zo⟩:=z
    cases zo with
    | true=>exact .inl ⟨zh,zu,zl,rfl⟩
    | false=>exact .inr fun z hz=>by obtain rfl:=Option.some.inj hz; rfl
def cRibD:Con:={ pre:=fun args=>∃ h:Int,args=[.rd,iv h]∧isH h=true,post:=fun _ r=>∃ b:Rb,(b.all.length≤7∧lensG b.all)∧r=b.av,cost:=240,draws:=true }
theorem cRibD_own:cRibD.own=false:=rfl
theorem cRibD_draws:cRibD.draws=true:=rfl
theorem cRibD_cost:cRibD.cost=240:=rfl
attribute [go_sem] cRibD_own cRibD_draws cRibD_cost
def ribS (h0:Int) (up:Bool) (l:List Gt) (cap:Nat) (n:Int) (rn:Nat):St:=⟨74,[(0,.rd),(1,iv h0),(4,.loc 4 0),(5,.loc 5 0),(6,iv n)],[(4,[iv 0,bv false,.nl]),(5,[iv h0,bv up,.xs 60 0 l.length cap 6]),(60,cGs l++jk ((cap - l.length) * 6))],rn⟩
theorem cGs_stk (d:Nat):∀ l:List Gt,AV.stripAll d (cGs l)=cGs l
  | []=>rfl
  | g::l=>by
    rw [AV.stripAll_eq,cGs,List.map_append,← AV.stripAll_eq,← AV.stripAll_eq,cGs_stk d l]
    rfl
theorem cGj_stk (d n:Nat) (l:List Gt):AV.stripAll d (cGs l++jk n)=cGs l++jk n:=by
  rw [AV.stripAll_eq,List.map_append,← AV.stripAll_eq,cGs_stk]
  simp [jk,AV.strip]
theorem cGj_str (d n:Nat) (l:List Gt):AV.stripLAll d (cGs l++jk n)=cGs l++jk n:=by
  rw [AV.stripLAll_eq,List.map_append,← AV.stripLAll_eq,cGs_strip]
  simp [jk,AV.stripL]
theorem okRt_len {x:Rt} (h:okRt x):x.path.length≤1000∧x.marks.length≤900:=by
  obtain ⟨_,h1,_,_,_,h2⟩:=h
  exact ⟨by omega,by omega⟩
def ribT (h0:Int) (up:Bool) (l:List Gt) (cap:Nat) (rn:Nat):St:=⟨74,[(0,.rd),(4,.loc 4 0),(5,.loc 5 0)],[(4,[iv 0,bv false,.nl]),(5,[iv h0,bv up,.xs 60 0 l.length cap 6]),(60,cGs l++jk ((cap - l.length) * 6))],rn⟩
set_option maxHeartbeats 4000000 in
theorem l92Rib_ok:Fine Tryz.prog 33 cRibD:=by
  refine fine_ofX [] gl_nil [] ms_nil [(30,(cDownM,[],[(4,100),(900,200)])),(23,(cUpM,[],[(2,100),(900,200)])),(60,(cEndM,[],[(2,100),(900,200)])),(12,(cTellO,[],[(4,100),(900,200)]))] (mm_cons ribDownM_ok (by decide) (mm_cons ribUpM_ok (by decide) (mm_cons ribEndM_ok (by decide) (mm_cons ribTellO_ok (by decide) mm_nil)))) [10,71] [] ex_nil (T:=TT) Tryz.func33 rfl Tryz.ntmps33 (by rw [Tryz.results33]) rfl rfl tt (gs_cons pick_ok (gs_cons l92From_ok (gs_cons l91Route_ok gs_nil))) ds_nil ?_
  rintro args ⟨h0,rfl,hh⟩
  refine ⟨by simp,fun k hk E hE Q hQ=>?_⟩
  have hk:=hk rfl
  simp only [go_sem] at hk
  refine Aw_st hE [0,1,4] [4,5,7,10,60,71,125,136,140,144,154,225,236,240,244,254] fun K hK=>?_
  simp only [go_sem,seval]
  refine hK _ ?_; clear hK K
  refine Aw_st hE [0,1,4,5] [4,5,7,10,60,71,125,136,140,144,154,225,236,240,244,254] fun K hK=>?_
  simp only [go_sem,seval]
  refine hK _ ?_; clear hK K
  refine Aw_sq fun B1 hB1 hR1 hX1=>?_
  refine Aw_st hE [0,1,4,5,6] [4,5,7,10,60,71,125,136,140,144,154,225,236,240,244,254] fun K hK=>?_
  simp only [go_sem,seval]
  repeat' (first | (refine And.intro (by first | omega | decide) ?_) | intro)
  rename_i n0 hn1 hn2
  refine hK _ ?_; clear hK K
  refine Aw_bk fun B2 hN2 hE2 hR2 hX2=>?_
  refine Aw_lp (fun i:(Bool × List Gt × Nat) × Int=>ribS h0 i.1.1 i.1.2.1 i.1.2.2 i.2 (k + 190 - 31 * i.2.toNat)) (fun i=>ribOk ⟨h0,i.1.1,i.1.2.1⟩=true∧lensG i.1.2.1∧i.1.2.1.length≤i.1.2.2∧0≤i.2∧i.2≤6) (fun i=>i.2.toNat) ((true,[],0),n0) ((Le_bx 10 60 (by decide) (by decide) rfl).trans (Le_rn (by simp only; omega))) ⟨ribOk_nil hh,(by intro g hg; cases hg),by simp,by omega,by omega⟩ fun i hi B3 hN3 hR3 hX3=>?_
  obtain ⟨⟨up,l,cap⟩,n⟩:=i
  obtain ⟨hok,hlg,hcap,hn1,hn2⟩:=hi
  simp only at hok hlg hcap hn1 hn2
  have hl6:=(ribOk_iff.1 hok).2.1
  simp only [ribS]
  refine Aw_sq fun B4 hB4 hR4 hX4=>?_
  refine Aw_st hE [0,1,4,5,6,15] [4,5,7,10,60,71,125,136,140,144,154,225,236,240,244,254] fun K hK=>?_
  simp only [go_sem,seval,cGs_nt,cGs_stripF]
  refine hK _ (Aw_cond rfl (fun hc5=>?_) (fun hc5=>?_))
  · simp only [decide_eq_true_eq] at hc5
    refine Aw_skip (hB4 _ ?_)
    refine Aw_sq fun B6 hB6 hR6 hX6=>?_
    refine Aw_bk fun B7 hN7 hE7 hR7 hX7=>?_
    refine Aw_st hE [0,1,4,5,6,19] [4,5,7,10,60,71,125,136,140,144,154,225,236,240,244,254] fun K hK=>?_
    simp only [go_sem,seval,cGs_nt,cGs_stripF]
    repeat' (first | (refine And.intro (by first | omega | decide) ?_) | intro)
    rename_i x hx1 hx2
    refine hK _ ?_; clear hK K
    refine Aw_bk fun B8 hN8 hE8 hR8 hX8=>?_
    refine Aw_st hE [0,1,4,5,6,19,30] [4,5,7,10,60,71,125,136,140,144,154,225,236,240,244,254] fun K hK=>?_
    simp only [go_sem,seval,cGs_nt,cGs_stripF]
    refine hK _ (Aw_cond rfl (fun hc9=>?_) (fun hc9=>?_))
    · refine Aw_fG hE rfl 60 l rfl ?_
      simp only [go_sem,seval,gD_len,frz_grows]
      refine Aw_tS hE (.fst 1 (.alt 0 (.alt 2 (.alt 3 (.alt 4 (.alt 5 .done .non) .non) .non) .non) (.alt 2 (.alt 0 (.alt 3 (.alt 4 (.alt 5 .done .non) .non) .non) (.alt 3 (.alt 0 (.alt 4 (.alt 5 .done .non) .non) .non) .non)) .non))) [0,1,4,5,6] [4,5,7,10,60,71,125,136,140,144,154,225,236,240,244,254] (by kernel_rfl) fun K hK=>?_
      simp only [go_sem,seval,cGs_nt,cGs_stripF,cGs_strip,cGs_mvn]
      repeat' (first | (refine And.intro (by first | omega | decide | exact ⟨by omega,hlg⟩) ?_) | (refine And.intro ?_ ?_) | intro)
      all_goals first | (exfalso; rename_i hf; rw [hok] at hf; cases hf; done) | skip
      all_goals
        rename_i y _ _ _ cap' hcap'
        have h1:=ribOk_down (g:=decide (0 < y)) hok
        have h2:=lensG_down (g:=decide (0 < y)) hlg
        generalize (if decide (0 < y)=true then List.map oldG l else [])=L at h1 h2 hcap' ⊢
        refine hK _ (hN8 _ (hN7 _ (hB6 _ ?_)))
        refine Aw_tx hE [0,1,4,5,6] [4,5,7,10,60,71,125,136,140,144,154,225,236,240,244,254] fun K hK=>?_
        simp only [go_sem,seval,cGs_nt,cGs_stripF]
        repeat refine ⟨by first|omega|(and_intros<;>first|omega|exact rows_row _|decide|(simp<;>omega))|fail,?_⟩
        refine hK _ (hN3 ((false,L,cap'),n - 1) _ ⟨h1,h2,hcap',by simp only; omega,by simp only; omega⟩ (by simp only; omega) ?_)
        refine (Le_swb _ 236 60 (by decide) (by decide)).trans ?_
        simp only [St.swb,swbσ,swbm,AV.swb,AV.swbAll,swp,swbAll_app,swbAll_jk,gcs_swb,cGs_swb,Nat.reduceEqDiff,if_true,if_false,reduceIte]
        exact (Le_ks [0,1,4,5,6] [4,5,60]).trans (Le_rn (by simp only; omega))
    · refine Aw_st hE [0,1,4,5,6,19,37] [4,5,7,10,60,71,125,136,140,144,154,225,236,240,244,254] fun K hK=>?_
      simp only [go_sem,seval,cGs_nt,cGs_stripF]
      refine hK _ (Aw_cond rfl (fun hc10=>?_) (fun hc10=>?_))
      · refine Aw_fG hE rfl 60 l rfl ?_
        simp only [go_sem,seval,gD_len,frz_grows]
        refine Aw_tx hE [0,1,4,5,6] [4,5,7,10,60,71,125,136,140,144,154,225,236,240,244,254] fun K hK=>?_
        simp only [go_sem,seval,cGs_nt,cGs_stripF,cGs_strip,cGs_mvn]
        refine ⟨by decide,⟨by omega,hlg⟩,fun hf=>?_,fun _ cap' hcap'=>?_⟩
        · rw [hok] at hf; cases hf
        · skip
          refine hK _ (hN8 _ (hN7 _ (hB6 _ ?_)))
          refine Aw_tx hE [0,1,4,5,6] [4,5,7,10,60,71,125,136,140,144,154,225,236,240,244,254] fun K hK=>?_
          simp only [go_sem,seval,cGs_nt,cGs_stripF]
          repeat refine ⟨by first|omega|(and_intros<;>first|omega|exact rows_row _|decide|(simp<;>omega))|fail,?_⟩
          refine hK _ (hN3 ((true,l,cap'),n - 1) _ ⟨ribOk_up hok,hlg,hcap',by simp only; omega,by simp only; omega⟩ (by simp only; omega) ?_)
          refine (Le_swb _ 240 60 (by decide) (by decide)).trans ?_
          simp only [St.swb,swbσ,swbm,AV.swb,AV.swbAll,swp,swbAll_app,swbAll_jk,gcs_swb,cGs_swb,Nat.reduceEqDiff,if_true,if_false,reduceIte]
          exact (Le_ks [0,1,4,5,6] [4,5,60]).trans (Le_rn (by simp only; omega))
      · refine Aw_st hE [0,1,4,5,6,41] [4,5,7,10,60,71,125,136,140,144,154,225,236,240,244,254] fun K hK=>?_
        simp only [go_sem,seval,cGs_nt,cGs_stripF]
        refine hK _ (Aw_cond rfl (fun hc11=>?_) (fun hc11=>?_))
        · refine Aw_fG hE rfl 60 l rfl ?_
          simp only [go_sem,seval,gD_len,frz_grows]
          refine Aw_tx hE [0,1,4,5,6] [4,5,7,10,60,71,125,136,140,144,154,225,236,240,244,254] fun K hK=>?_
          simp only [go_sem,seval,cGs_nt,cGs_stripF,cGs_strip,cGs_mvn]
          refine ⟨by decide,⟨by omega,hlg⟩,fun hf=>?_,fun _ cap' hcap'=>?_⟩
          · rw [hok] at hf; cases hf
          · skip
            refine hK _ (hN8 _ (hN7 _ (hB6 _ ?_)))
            refine Aw_tx hE [0,1,4,5,6] [4,5,7,10,60,71,125,136,140,144,154,225,236,240,244,254] fun K hK=>?_
            simp only [go_sem,seval,cGs_nt,cGs_stripF]
            repeat refine ⟨by first|omega|(and_intros<;>first|omega|exact rows_row _|decide|(simp<;>omega))|fail,?_⟩
            refine hK _ (hN3 ((up,endL l,cap'),n - 1) _ ⟨ribOk_end hok,lensG_end hlg,hcap',by simp only; omega,by simp only; omega⟩ (by simp only; omega) ?_)
            refine (Le_swb _ 244 60 (by decide) (by decide)).trans ?_
            simp only [St.swb,swbσ,swbm,AV.swb,AV.swbAll,swp,swbAll_app,swbAll_jk,gcs_swb,cGs_swb,Nat.reduceEqDiff,if_true,if_false,reduceIte]
            exact (Le_ks [0,1,4,5,6] [4,5,60]).trans (Le_rn (by simp only; omega))
        · refine Aw_sS hE (.fst 1 (.fst 2 (.alt 0 (.alt 3 (.cut (.alt 4 (.fst 5 (.fst 6 (.fst 7 (.alt 8 (.alt 9 (.fst 10 .done) .non) .non)))) (.alt 8 (.cut (.alt 4 (.fst 5 (.fst 6 (.fst 7 (.alt 9 (.fst 10 .done) .non)))) .non)) .non))) (.alt 8 (.alt 3 (.cut (.alt 4 (.fst 5 (.fst 6 (.fst 7 (.alt 9 (.fst 10 .done) .non)))) .non)) .non) .non)) (.alt 3 (.alt 0 (.cut (.alt 4 (.fst 5 (.fst 6 (.fst 7 (.alt 8 (.alt 9 (.fst 10 .done) .non) .non)))) (.alt 8 (.cut (.alt 4 (.fst 5 (.fst 6 (.fst 7 (.alt 9 (.fst 10 .done) .non)))) .non)) .non))) (.alt 8 (.alt 0 (.cut (.alt 4 (.fst 5 (.fst 6 (.fst 7 (.alt 9 (.fst 10 .done) .non)))) .non)) .non) .non)) (.alt 8 (.alt 0 (.alt 3 (.cut (.alt 4 (.fst 5 (.fst 6 (.fst 7 (.alt 9 (.fst 10 .done) .non)))) .non)) .non) (.alt 3 (.alt 0 (.cut (.alt 4 (.fst 5 (.fst 6 (.fst 7 (.alt 9 (.fst 10 .done) .non)))) .non)) .non) .non)) .non))))) [0,1,4,5,6,7,8] [4,5,7,10,60,71,125,136,140,144,154,225,236,240,244,254] (by kernel_rfl) fun K hK=>?_
          simp only [go_sem,seval,cGs_nt,cGs_stripF,cGs_strip,cGs_mvn]
          repeat' (first | (refine And.intro (by omega) ?_) | (refine And.intro ?_ ?_) | intro)
          all_goals
            rename_i x hx
            obtain ⟨xf,xb,p,xk,m⟩:=x
            simp only at hx
            have hbd:(l.length≤1000∧lensG l)∧p.length≤1000∧m.length≤900:=⟨⟨by omega,hlg⟩,by omega,by omega⟩
            rcases telO_two ⟨h0,up,l⟩ ⟨xf,xb,p,xk,m⟩ with ⟨zh,zu,zl,hz⟩ | hf
            · obtain ⟨hz1,hz2,_⟩:=telO_ok hz
              have hz3:=lensG_tel hlg ⟨by simp only; omega,by simp only; omega⟩ hz
              simp only at hz1 hz2 hz3
              subst hz2
              refine ⟨_,LeE_fG hE rfl 60 l rfl,?_⟩
              have hT:=fun (K:AV→List (Nat × List AV)→Prop)=>tellO_some hz K
              have hVp:=hbd
              simp only [go_sem,seval,gD_len,frz_grows,cGs_nt,cGs_stripF,cGs_strip,cGs_mvn,↓hT,tellO_pre]
              repeat' (first | (refine And.intro (by first | omega | decide | exact hbd) ?_) | (refine And.intro ?_ ?_) | (refine Exists.intro _ (And.intro (fun _ _ r=>r) ?_); simp only [go_sem,seval,cGs_nt,cGs_stripF,cGs_strip,cGs_mvn,↓hT,tellO_pre]) | (intro) | fail)
              all_goals
                rename_i cap' hcap'
                refine hK _ ?_; clear hK K
                refine Aw_st hE [0,1,4,5,6,7,28] [4,5,7,10,60,71,125,136,140,144,154,225,236,240,244,254] fun K hK=>?_
                simp only [go_sem,seval,cGs_nt,cGs_stripF,cGs_strip,cGs_mvn]
                refine hK _ (Aw_yes rfl ?_)
                refine Aw_tx hE [0,1,4,5,6] [4,5,7,10,60,71,125,136,140,144,154,225,236,240,244,254] fun K hK=>?_
                simp only [go_sem,seval,cGs_nt,cGs_stripF,cGs_strip,cGs_mvn]
                refine hK _ (hN8 _ (hN7 _ (hB6 _ ?_)))
                refine Aw_tx hE [0,1,4,5,6] [4,5,7,10,60,71,125,136,140,144,154,225,236,240,244,254] fun K hK=>?_
                simp only [go_sem,seval,cGs_nt,cGs_stripF]
                repeat refine ⟨by first|omega|(and_intros<;>first|omega|exact rows_row _|decide|(simp<;>omega))|fail,?_⟩
                refine hK _ (hN3 ((zu,zl,cap'),n - 1) _ ⟨hz1,hz3,hcap',by simp only; omega,by simp only; omega⟩ (by simp only; omega) ?_)
                refine (Le_swb _ 225 60 (by decide) (by decide)).trans ?_
                simp only [St.swb,swbσ,swbm,AV.swb,AV.swbAll,swp,swbAll_app,swbAll_jk,gcs_swb,cGs_swb,Nat.reduceEqDiff,if_true,if_false,reduceIte]
                exact (Le_ks [0,1,4,5,6] [4,5,60]).trans (Le_rn (by simp only; omega))
            · have hV:=fun (cap:Nat) (rest:List AV) (K:AV→List (Nat × List AV)→Prop)=>tellV_eq (cap:=cap) (rest:=rest) hf K
              have hVp:=fun (cap:Nat) (rest:List AV)=>tellV_p (f:=xf) (b:=xb) (k:=xk) (h:=h0) (up:=up) cap rest hbd
              refine ⟨_,fun _ _ r=>r,?_⟩
              simp only [go_sem,seval,cGs_nt,cGs_stripF,cGs_strip,cGs_mvn,↓hV]
              repeat' (first | (refine And.intro (by first | omega | decide | exact hVp _ _) ?_) | (refine And.intro ?_ ?_) | (refine Exists.intro _ (And.intro (fun _ _ r=>r) ?_); simp only [go_sem,seval,cGs_nt,cGs_stripF,cGs_strip,cGs_mvn,↓hV]) | (intro) | fail)
              all_goals
                refine hK _ ?_; clear hK K
                refine Aw_st hE [0,1,4,5,6,7,28] [4,5,7,10,60,71,125,136,140,144,154,225,236,240,244,254] fun K hK=>?_
                simp only [go_sem,seval,cGs_nt,cGs_stripF,cGs_strip,cGs_mvn]
                refine hK _ (Aw_no rfl (Aw_skip (hN8 _ (hN7 _ (hB6 _ ?_)))))
                refine Aw_tx hE [0,1,4,5,6] [4,5,7,10,60,71,125,136,140,144,154,225,236,240,244,254] fun K hK=>?_
                simp only [go_sem,seval,cGs_nt,cGs_stripF]
                repeat refine ⟨by first|omega|(and_intros<;>first|omega|exact rows_row _|decide|(simp<;>omega))|fail,?_⟩
                refine hK _ (hN3 ((up,l,cap),n - 1) _ ⟨hok,hlg,hcap,by simp only; omega,by simp only; omega⟩ (by simp only; omega) ?_)
                exact (Le_ks [0,1,4,5,6] [4,5,60]).trans (Le_rn (by simp only; omega))
  · simp only [decide_eq_false_iff_not] at hc5
    refine Aw_exit (hX4 _ _ (hX3 _ _ (hE2 _ (hB1 _ ?_))))
    refine Aw_sqJ (fun q:Bool × Nat=>ribT h0 q.1 l q.2 (k + 191)) (fun q=>l.length≤q.2) (fun q hq=>?_) fun B13 hB13 hR13 hX13=>?_
    · obtain ⟨up',cap'⟩:=q
      simp only at hq
      simp only [ribT]
      refine Aw_sq fun B17 hB17 hR17 hX17=>?_
      refine Aw_st hE [0,4,5,56] [4,5,7,10,60,71,125,136,140,144,154,225,236,240,244,254] fun K hK=>?_
      simp only [go_sem,seval,cGs_nt,cGs_stripF,cGs_strip,cGs_mvn]
      repeat' (first | (refine And.intro (by first | omega | decide) ?_) | intro)
      rename_i x hx1 hx2
      refine hK _ ?_; clear hK K
      refine Aw_bk fun B18 hN18 hE18 hR18 hX18=>?_
      refine Aw_st hE [0,4,5,56,57] [4,5,7,10,60,71,125,136,140,144,154,225,236,240,244,254] fun K hK=>?_
      simp only [go_sem,seval,cGs_nt,cGs_stripF,cGs_strip,cGs_mvn]
      refine hK _ (Aw_cond rfl (fun hc19=>?_) (fun hc19=>?_))
      · refine Aw_tx hE [4,5] [4,5,7,10,60,71,125,136,140,144,154,225,236,240,244,254] fun K hK=>?_
        simp only [go_sem,seval,cGs_nt,cGs_stripF,cGs_strip,cGs_mvn]
        repeat refine ⟨by first|omega|(and_intros<;>first|omega|exact rows_row _|decide|(simp<;>omega))|fail,?_⟩
        refine hK _ (hN18 _ (hB17 _ ?_))
        refine Aw_fG hE rfl 60 l rfl ?_
        simp only [go_sem,seval,gD_len,frz_grows]
        refine Aw_st hE [4] [4,5,7,10,60,71,125,136,140,144,154,225,236,240,244,254] fun K hK=>?_
        simp only [go_sem,seval]
        refine hK _ (Aw_ret (hQ _ ?_))
        simp only [go_sem,seval]
        exact ⟨by omega,⟨h0,!up',l⟩,⟨by simp only; omega,hlg⟩,rfl⟩
      · refine Aw_st hE [0,4,5,63] [4,5,7,10,60,71,125,136,140,144,154,225,236,240,244,254] fun K hK=>?_
        simp only [go_sem,seval,cGs_nt,cGs_stripF,cGs_strip,cGs_mvn]
        refine hK _ (Aw_cond rfl (fun hc20=>?_) (fun hc20=>?_))
        · have hta:=cGs_take l (jk ((cap' - l.length) * 6))
          refine Aw_tS hE (.fst 0 (.fst 2 (.alt 1 (.alt 3 (.alt 4 (.alt 5 (.alt 6 (.fst 7 (.alt 8 .done .non)) .non) .non) .non) .non) (.alt 3 (.alt 1 (.alt 4 (.alt 5 (.alt 6 (.fst 7 (.alt 8 .done .non)) .non) .non) .non) (.alt 4 (.alt 1 (.alt 5 (.alt 6 (.fst 7 (.alt 8 .done .non)) .non) .non) (.alt 5 (.alt 1 (.alt 6 (.fst 7 (.alt 8 .done .non)) .non) .non) .non)) .non)) .non)))) [4,5] [4,5,7,10,60,71,125,136,140,144,154,225,236,240,244,254] (by kernel_rfl) fun K hK=>?_
          simp only [go_sem,seval,cGs_nt,cGs_stripF,cGs_strip,cGs_mvn,gcs_flat,gcs_leaf,gcs_strip,hta,cGj_stk,cGj_str]
          repeat' (first | (refine And.intro (by first | omega | exact ⟨by simp,by omega,by rw [List.length_append,cGs_len,List.length_replicate]; omega⟩) ?_) | (refine And.intro ?_ ?_) | (intro) | fail)
          all_goals first
            | (rename_i x hx _ cap2 hcap2
               obtain ⟨g0,hg0⟩:∃ g0:Gt,g0=⟨⟨x.f,x.b,x.path,x.like,x.marks⟩,false⟩:=⟨_,rfl⟩
               have hgl:lensG (l++[g0]):=lensG_app hlg (by intro g hg; rw [List.mem_singleton] at hg; rw [hg,hg0]; exact okRt_len hx)
               rw [← hg0]
               have hca:=cGs_app l [g0]
               simp only [cGs,List.append_nil] at hca
               rw [← hca]
               have hon:(l++[g0]).length=l.length + 1:=by simp
               have hfg:=frz_grows (l++[g0])
               rw [hon] at hfg
               refine hK _ (hN18 _ (hB17 _ ?_))
               refine Aw_fG hE rfl 71 (l++[g0]) rfl ?_
               simp only [go_sem,seval,gD_len,hon,hfg]
               refine Aw_st hE [4] [4,5,7,10,60,71,125,136,140,144,154,225,236,240,244,254] fun K hK=>?_
               simp only [go_sem,seval]
               refine hK _ (Aw_ret (hQ _ ?_))
               simp only [go_sem,seval]
               exact ⟨by omega,⟨h0,up',l++[g0]⟩,⟨by simp only [hon]; omega,hgl⟩,congrArg (fun z=>AV.agg [iv h0,bv up',AV.sl none z]) hfg⟩)
            | (rename_i x hx hfit
               obtain ⟨g0,hg0⟩:∃ g0:Gt,g0=⟨⟨x.f,x.b,x.path,x.like,x.marks⟩,false⟩:=⟨_,rfl⟩
               have hgl:lensG (l++[g0]):=lensG_app hlg (by intro g hg; rw [List.mem_singleton] at hg; rw [hg,hg0]; exact okRt_len hx)
               rw [← hg0,cGs_in l g0 (cap' - l.length) (by omega)]
               have hon:(l++[g0]).length=l.length + 1:=by simp
               have hfg:=frz_grows (l++[g0])
               rw [hon] at hfg
               refine hK _ (hN18 _ (hB17 _ ?_))
               refine Aw_fG hE rfl 60 (l++[g0]) rfl ?_
               simp only [go_sem,seval,gD_len,hon,hfg]
               refine Aw_st hE [4] [4,5,7,10,60,71,125,136,140,144,154,225,236,240,244,254] fun K hK=>?_
               simp only [go_sem,seval]
               refine hK _ (Aw_ret (hQ _ ?_))
               simp only [go_sem,seval]
               exact ⟨by omega,⟨h0,up',l++[g0]⟩,⟨by simp only [hon]; omega,hgl⟩,congrArg (fun z=>AV.agg [iv h0,bv up',AV.sl none z]) hfg⟩)
            | fail
        · refine Aw_skip (hN18 _ (hB17 _ ?_))
          refine Aw_fG hE rfl 60 l rfl ?_
          simp only [go_sem,seval,gD_len,frz_grows]
          refine Aw_st hE [4] [4,5,7,10,60,71,125,136,140,144,154,225,236,240,244,254] fun K hK=>?_
          simp only [go_sem,seval]
          refine hK _ (Aw_ret (hQ _ ?_))
          simp only [go_sem,seval]
          exact ⟨by omega,⟨h0,up',l⟩,⟨by simp only; omega,hlg⟩,rfl⟩
    · refine Aw_st hE [0,4,5,52] [4,5,7,10,60,71,125,136,140,144,154,225,236,240,244,254] fun K hK=>?_
      simp only [go_sem,seval,cGs_nt,cGs_stripF,cGs_strip,cGs_mvn]
      refine ⟨fun hg15=>?_,fun hg15=>?_⟩
      · repeat' (first | (refine And.intro (by first | omega | decide) ?_) | intro)
        rename_i y _ _
        refine hK _ (Aw_cond rfl (fun hc16=>?_) (fun hc16=>?_))
        · refine Aw_fG hE rfl 60 l rfl ?_
          simp only [go_sem,seval,gD_len,frz_grows]
          refine Aw_tx hE [0,4,5] [4,5,7,10,60,71,125,136,140,144,154,225,236,240,244,254] fun K hK=>?_
          simp only [go_sem,seval,cGs_nt,cGs_stripF,cGs_strip,cGs_mvn]
          refine ⟨by decide,⟨by omega,hlg⟩,fun hf=>?_,fun _ cap' hcap'=>?_⟩
          · rw [hok] at hf; cases hf
          · refine hK _ (hB13 (true,cap') _ hcap' (Le_E ?_))
            refine (Le_swb _ 254 60 (by decide) (by decide)).trans ?_
            simp only [St.swb,swbσ,swbm,AV.swb,AV.swbAll,swp,swbAll_app,swbAll_jk,gcs_swb,cGs_swb,Nat.reduceEqDiff,if_true,if_false,reduceIte]
            exact (Le_ks [0,4,5] [4,5,60]).trans (Le_rn (by simp only; omega))
        · exact Aw_skip (hB13 (up,cap) _ hcap (Le_E ((Le_ks [0,4,5] [4,5,60]).trans (Le_rn (by simp only; omega)))))
      · refine hK _ (Aw_no rfl ?_)
        exact Aw_skip (hB13 (up,cap) _ hcap (Le_E ((Le_ks [0,4,5] [4,5,60]).trans (Le_rn (by simp only; omega)))))
end Go.Proofs.W
end
section
namespace Go.Proofs.W
open Go Go.Eng Go.RowKit
set_option linter.unusedSimpArgs false
set_option maxRecDepth 100000

/-! what a house told,and a range,are drawn -/
theorem ribD_post (args:List AV) (K:AV→Prop):(∀ r,cRibD.post args r→K r)=(∀ b:Rb,(b.all.length≤7∧lensG b.all)→K b.av):=by
  apply propext
  exact ⟨fun h p hp=>h _ ⟨p,hp,rfl⟩,fun h r ⟨p,hp,e⟩=>e ▸ h p hp⟩
theorem ribD_ex (args:List AV):(∃ r,cRibD.post args r)=True:=eq_true ⟨_,⟨0,false,[]⟩,⟨by simp,by intro g hg; cases hg⟩,rfl⟩
theorem ribD_pre' (h:Int):cRibD.pre [.rd,iv h]=(isH h=true):=by
  apply propext
  refine ⟨fun ⟨h',e,hh⟩=>?_,fun hh=>⟨h,rfl,hh⟩⟩
  simp only [List.cons.injEq,AV.v.injEq,Value.int.injEq,true_and,and_true] at e
  rw [e]; exact hh
attribute [go_sem] ribD_post ribD_ex ribD_pre'
theorem isH_pick {x:Int} (h1:0≤x) (h2:x < 5∨x=0):isH (1 + x)=true:=by simp [isH]; omega
/-- what a house told,and whatever range -/
def cDRD:Con:={ pre:=codeArg,post:=fun _ r=>∃ (b:Rb) (f c:Int),(b.all.length≤7∧lensG b.all)∧r = .tup [b.av,.agg [iv f,iv c]] }
theorem cDRD_own:cDRD.own=false:=rfl
theorem cDRD_draws:cDRD.draws=false:=rfl
theorem cDRD_cost:cDRD.cost=0:=rfl
attribute [go_sem] cDRD_own cDRD_draws cDRD_cost
theorem drd_post (args:List AV) (K:AV→Prop):(∀ r,cDRD.post args r→K r)=(∀ (b:Rb) (f c:Int),(b.all.length≤7∧lensG b.all)→K (.tup [b.av,.agg [iv f,iv c]])):=by
  apply propext
  exact ⟨fun h b f c h1=>h _ ⟨b,f,c,h1,rfl⟩,fun h r ⟨b,f,c,h1,e⟩=>e ▸ h b f c h1⟩
attribute [go_sem] drd_post
end Go.Proofs.W
end
