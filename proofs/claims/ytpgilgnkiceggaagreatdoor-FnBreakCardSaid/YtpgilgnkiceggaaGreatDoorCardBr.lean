/- YtpgilgnkiceggaaGreatDoorCardBr: part of the proof that laws hold, for every input that the row speaks of (no condition of ours). -/
import Derived.Test.YtpgilgnkiceggaaGreatDoorWe
import Derived.Test.YtpgilgnkiceggaaGreatDoorWd
import Derived.ChangeVars
import Derived.RowKitTokens
import Derived.Test.YtpgilgnkiceggaaGreatDoorCards
import Derived.Test.YtpgilgnkiceggaaGreatDoorTie
set_option linter.unusedVariables false
set_option linter.unusedSimpArgs false
section
namespace Go.Proofs.W
open Go Go.Eng Go.RowKit
set_option linter.unusedSimpArgs false
set_option maxRecDepth 100000
/-! what a house that broke down is told again -/
def mixL (l:List Gt) (i:Nat):List Gt:=(l.take i).map newG++(l.drop i).map oldG
theorem mix_zero (l:List Gt):mixL l 0=l.map oldG:=by simp [mixL]
theorem mix_end (l:List Gt):mixL l l.length=l.map newG:=by simp [mixL]
theorem mix_len (l:List Gt) (i:Nat):(mixL l i).length=l.length:=by simp [mixL];omega
theorem mix_get {l:List Gt} {i:Nat} (hi:i < l.length):(mixL l i)[i]'(by rw [mix_len];exact hi)=oldG l[i]:=by
 unfold mixL
 rw [List.getElem_append_right (by simp;omega)]
 simp [Nat.min_eq_left (Nat.le_of_lt hi)]
theorem mix_succ {l:List Gt} {i:Nat} (hi:i < l.length):(mixL l i).set i ⟨l[i].r,false⟩=mixL l (i + 1):=by
 unfold mixL
 rw [List.set_append_right _ _ (by simp;omega)]
 simp only [List.length_map,List.length_take,Nat.min_eq_left (Nat.le_of_lt hi),Nat.sub_self]
 rw [List.drop_eq_getElem_cons hi,List.take_succ_eq_append_getElem hi]
 simp only [List.map_cons,List.set_cons_zero,List.map_append,List.map_nil,List.append_assoc,List.cons_append,List.nil_append]
 rfl
theorem mix_at {l:List Gt} {i:Nat} (hi:i < l.length) (hp:(mixL l i).Pairwise ltG):0≤atG (mixL l i) l[i].r.f l[i].r.b∧put l[i].r (mixL l i)=mixL l (i + 1):=by
 have hm:oldG l[i] ∈ mixL l i:=by rw [← mix_get hi];exact List.getElem_mem _
 have h0:0≤atG (mixL l i) l[i].r.f l[i].r.b:=had_iff.2 ⟨_,hm,by simp [sameRg,oldG]⟩
 refine ⟨h0,?_⟩
 obtain ⟨j,hj,he,hf,hb⟩:=atG_at h0
 have hil:i < (mixL l i).length:=by rw [mix_len];exact hi
 have hgi:=mix_get hi
 have hf2:(mixL l i)[i].r.f=l[i].r.f:=by rw [hgi];rfl
 have hb2:(mixL l i)[i].r.b=l[i].r.b:=by rw [hgi];rfl
 have hij:j=i:=by
  rw [List.pairwise_iff_getElem] at hp
  rcases Nat.lt_trichotomy j i with h | h | h
  ·have:=hp j i hj hil h
   unfold ltG at this;omega
  ·exact h
  ·have:=hp i j hil hj h
   unfold ltG at this;omega
 subst hij
 unfold put
 rw [if_pos h0,he]
 exact mix_succ hi
theorem mix_ok {h:Int} {up:Bool} {l:List Gt} (hok:ribOk ⟨h,up,l⟩=true):∀ i,i≤l.length→ribOk ⟨h,true,mixL l i⟩=true
 | 0,_=>by
  have:=ribOk_up (ribOk_down (g:=true) hok)
  rw [mix_zero];exact this
 | i + 1,hi=>by
  have h1:=mix_ok hok i (by omega)
  obtain ⟨h2,h3⟩:=mix_at (l:=l) (i:=i) (by omega) (ribOk_iff.1 h1).2.2.2
  have hb:=(ribOk_iff.1 hok).2.2.1 l[i] (List.getElem_mem _)
  simp only [bG,Bool.and_eq_true,decide_eq_true_eq] at hb
  rw [← h3]
  exact put_ok h1 hb.1 hb.2.1 (.inl h2)
theorem mix_tel {h:Int} {up:Bool} {l:List Gt} (hok:ribOk ⟨h,up,l⟩=true) {i:Nat} (hi:i < l.length):telR ⟨h,true,mixL l i⟩ l[i].r = .tup [.agg [iv h,bv true,.sl none (grows (mixL l (i + 1)))],bv true]∧resR (ribFind ⟨h,true,mixL l i⟩ l[i].r.f l[i].r.b) = .tup [l[i].r.av,bv true]:=by
 have h1:=mix_ok hok i (by omega)
 obtain ⟨h2,h3⟩:=mix_at (l:=l) (i:=i) (by omega) (ribOk_iff.1 h1).2.2.2
 have hb:=(ribOk_iff.1 hok).2.2.1 l[i] (List.getElem_mem _)
 simp only [bG,Bool.and_eq_true,decide_eq_true_eq] at hb
 constructor
 ·rw [telR_res,tel_some h1 hb.1 hb.2.1,if_pos ⟨rfl,.inl h2⟩,h3];rfl
 ·have hm:oldG l[i] ∈ mixL l i:=by rw [← mix_get hi];exact List.getElem_mem _
  rw [find_mem h1 hm (by simp [sameRg,oldG])];rfl
theorem mix_lens {l:List Gt} (hl:lensG l) (i:Nat):lensG (mixL l i):=by
 intro g hg
 rcases List.mem_append.1 hg with h | h
 ·obtain ⟨x,hx,rfl⟩:=List.mem_map.1 h
  exact hl x (List.mem_of_mem_take hx)
 ·obtain ⟨x,hx,rfl⟩:=List.mem_map.1 h
  exact hl x (List.mem_of_mem_drop hx)
theorem endL_new (l:List Gt):endL (l.map newG)=l.map newG:=by
 rw [endL_eq,List.filter_map]
 have h1:List.filter ((fun g:Gt=>!g.old) ∘ newG) l=l:=List.filter_eq_self.2 fun g _=>rfl
 rw [h1,List.map_map];rfl
set_option maxHeartbeats 4000000 in
theorem fnBreak_ok (pb:Addr):Fine Tryz.prog 10 (cLawH pb):=by
 refine fine_of (T:=TT) Tryz.func10 rfl Tryz.ntmps10 (by rw [Tryz.results10]) rfl rfl tt (gs_cons drawRibDown_ok gs_nil) (ds_cons ribDown_ok (ds_cons (iRibDown_ok pb) (ds_cons lyRib_ok (ds_cons lyRoute_ok (ds_cons sRibOk_ok (ds_cons (iRibFind_ok pb) (ds_cons (iRibUp_ok pb) (ds_cons (iRibTell_ok pb) (ds_cons (iRibEnd_ok pb) ds_nil (whp_inh pb)) (wh_inh pb)) (whp_inh pb)) (whp_inh pb))))) (whp_inh pb))) ?_
 rintro args ⟨bs,hbs,rfl⟩
 refine ⟨by simp,fun k hk E hE Q hQ=>?_⟩
 refine Aw_st hE [0] [] fun K hK=>?_
 simp only [go_sem,seval]
 refine hK _ ?_;clear hK K
 refine Aw_sq fun B1 hB1 hR1 hX1=>?_
 refine Aw_st hE [0,15] [] fun K hK=>?_
 simp only [go_sem,seval]
 refine hK _ (Aw_cond rfl (fun hc2=>?_) (fun hc2=>?_))
 ·refine Aw_st hE [2] [] fun K hK=>?_
  simp only [go_sem,seval]
  refine hK _ (Aw_ret (hR1 _ (hQ _ ?_)))
  simp only [go_sem,seval]
 refine Aw_skip (hB1 _ ?_)
 refine Aw_st hE [3,4] [3] fun K hK=>?_
 simp only [go_sem,seval]
 refine ⟨drw_pre bs hbs,fun b g hb=>?_⟩
 obtain ⟨h0,up,l⟩:=b
 obtain ⟨hb1,hlg⟩:=hb
 simp only at hb1 hlg
 refine hK _ ?_;clear hK K
 cases hok:ribOk ⟨h0,up,l⟩ with
 | false =>
  refine Aw_st hE [3,4,5] [3,5] fun K hK=>?_
  simp only [go_sem,seval,hok,Bool.false_eq_true,if_false]
  refine ⟨⟨by omega,hlg⟩,?_⟩
  refine hK _ ?_;clear hK K
  have hln:=lensG_nil2
  refine Aw_sq fun B3 hB3 hR3 hX3=>?_
  refine Aw_sd hE [3,4,5,34] [3,5] 6 (by kernel_rfl) fun K hK=>?_
  simp only [go_sem,seval,hok,Bool.false_eq_true,if_false,gotsL_nil2,eqGs_refl,decide_true,Bool.and_self]
  repeat (refine And.intro (by first | omega | assumption | (and_intros<;>first | omega | assumption | decide) | fail) ?_)
  refine hK _ (Aw_yes rfl ?_)
  refine Aw_sd hE [2] [] 6 (by kernel_rfl) fun K hK=>?_
  simp only [go_sem,seval,hok,Bool.false_eq_true,if_false,gotsL_nil2,eqGs_refl,decide_true,Bool.and_self]
  repeat (refine And.intro (by first | omega | assumption | (and_intros<;>first | omega | assumption | decide) | fail) ?_)
  refine hK _ (Aw_ret (hR3 _ (hQ _ ?_)))
  simp only [go_sem,seval]
 | true =>
  refine Aw_st hE [3,4,5] [3,5] fun K hK=>?_
  simp only [go_sem,seval,hok,if_true]
  refine ⟨⟨by omega,hlg⟩,?_⟩
  refine hK _ ?_;clear hK K
  refine Aw_sq fun B3 hB3 hR3 hX3=>?_
  have hlg2:=lensG_down (g:=g) hlg
  have hlen2:(if g=true then l.map oldG else []).length≤7:=by cases g<;>simp<;>omega
  have hrk:=eqGs_refl (if g=true then l.map oldG else [])
  refine Aw_sd hE [3,4,5,34] [3,5] 6 (by kernel_rfl) fun K hK=>?_
  simp only [go_sem,seval,hok,if_true,hrk,decide_true,Bool.and_self]
  refine ⟨⟨by omega,hlg⟩,⟨⟨by omega,hlg2⟩,by omega,hlg2⟩,⟨by omega,hlg⟩,?_⟩
  refine hK _ (Aw_no rfl (Aw_skip (hB3 _ ?_)))
  have hlg3:=lensG_old hlg
  have hml:(l.map oldG).length=l.length:=List.length_map _
  have hok2:ribOk ⟨h0,false,l.map oldG⟩=true:=ribOk_down (g:=true) hok
  refine Aw_st hE [3,6] [3,6] fun K hK=>?_
  simp only [go_sem,seval,hok,hok2,if_true]
  repeat (refine And.intro (by first | omega | assumption | (and_intros<;>first | omega | assumption | decide) | fail) ?_)
  refine hK _ ?_;clear hK K
  refine Aw_sq fun B7 hB7 hR7 hX7=>?_
  refine Aw_st hE [3,6,7] [3,6] fun K hK=>?_
  simp only [go_sem,seval]
  refine hK _ ?_;clear hK K
  refine Aw_bk fun B8 hN8 hE8 hR8 hX8=>?_
  refine Aw_lp (fun i:Nat=>⟨127,[(3,.loc 3 0),(6,.loc 6 0),(7,iv i)],[(3,[iv h0,bv up,.sl none (grows l)]),(6,[iv h0,bv true,.sl none (grows (mixL l i))])],k⟩) (fun i=>i≤l.length) (fun i=>l.length - i) 0 (by rw [mix_zero];exact Le.refl _) (by omega) fun i hi B9 hN9 hR9 hX9=>?_
  have hmx:=mix_ok hok i hi
  have hmn:=mix_len l i
  have hmg:=mix_lens hlg i
  refine Aw_sq fun B10 hB10 hR10 hX10=>?_
  refine Aw_st hE [3,6,7,47] [3,6] fun K hK=>?_
  simp only [go_sem,seval]
  refine hK _ (Aw_cond rfl (fun hc11=>?_) (fun hc11=>?_))
  ·simp only [decide_eq_true_eq] at hc11
   have hil:i < l.length:=by omega
   have hget:=grows_get l i hil
   have hln:=hlg _ (List.getElem_mem hil)
   obtain ⟨htl,hfd⟩:=mix_tel hok hil
   have hmn2:=mix_len l (i + 1)
   have hmg2:=mix_lens hlg (i + 1)
   generalize mixL l i=L at hmx hmn hmg htl hfd ⊢
   generalize hL2:mixL l (i + 1)=L2 at htl hmn2 hmg2
   generalize l[i]=x at hget hln htl hfd
   obtain ⟨⟨rf,rb,p,rk,m⟩,old⟩:=x
   simp only at hln htl hfd
   refine Aw_skip (hB10 _ ?_)
   refine Aw_sq fun B12 hB12 hR12 hX12=>?_
   refine Aw_bk fun B13 hN13 hE13 hR13 hX13=>?_
   refine Aw_sq fun B14 hB14 hR14 hX14=>?_
   apply (fun F0 F1 F2 F3 F4 F5 F6 F7 F8 F9 F10=>Aw_sD hE [([0,1,2,3],(.alt 4 (.fst 5 (.fst 6 (.ref 4))) (.alt 12 (.ref 3) .non))),([0,1,3,12],(.alt 2 (.ref 3) .non)),([1,2,3,12],(.alt 0 (.ref 3) (.alt 4 (.fst 5 (.fst 6 (.ref 5))) .non))),([0,1,2,3,12],(.alt 4 (.fst 5 (.fst 6 (.ref 7))) .non)),([0,1,2,3,4,5,6],(.alt 7 (.ref 6) (.alt 12 (.ref 7) .non))),([1,2,3,4,5,6,12],(.alt 0 (.ref 7) (.alt 7 (.ref 8) .non))),([0,1,2,3,4,5,6,7],(.alt 8 (.fst 9 (.fst 10 (.fst 11 (.alt 12 (.ref 10) .non)))) (.alt 12 (.ref 9) .non))),([0,1,2,3,4,5,6,12],(.alt 7 (.ref 9) .non)),([1,2,3,4,5,6,7,12],(.alt 0 (.ref 9) .non)),([0,1,2,3,4,5,6,7,12],(.alt 8 (.fst 9 (.fst 10 (.fst 11 (.ref 10)))) .non)),([0,1,2,3,4,5,6,7,8,9,10,11,12],(.alt 13 (.fst 14 .done) .non))] (.fst 1 (.fst 3 (.alt 0 (.alt 2 (.ref 0) (.alt 12 (.ref 1) .non)) (.alt 2 (.alt 0 (.ref 0) (.alt 4 (.fst 5 (.fst 6 (.alt 0 (.ref 4) (.alt 7 (.alt 0 (.ref 6) (.alt 12 (.ref 8) .non)) (.alt 12 (.ref 5) .non))))) (.alt 12 (.ref 2) .non))) (.alt 12 (.alt 0 (.ref 1) (.alt 2 (.ref 2) .non)) .non))))) [F0,F1,F2,F3,F4,F5,F6,F7,F8,F9,F10] [3,6,7,9] [3,6])
   ·kernel_rfl
   intro K hK
   refine And.intro ?_ (And.intro ?_ (And.intro ?_ (And.intro ?_ (And.intro ?_ (And.intro ?_ (And.intro ?_ (And.intro ?_ (And.intro ?_ (And.intro ?_ (And.intro ?_ (And.intro ?_ trivial)))))))))))
   iterate 11 (focus (simp only [go_sem,seval,hget,hfd,Rt.av];repeat' (first | exact (fun _ _ r=>r) | exact LeE_eq (by simp only [go_sem,seval,hget,hfd,Rt.av]) (by simp only [go_sem,seval,hget,hfd,Rt.av]) | exact LeE_wk (by simp only [go_sem,seval,hget,hfd,Rt.av]) (by simp only [go_sem,seval,hget,hfd,Rt.av]) | refine And.intro (by first|omega|(and_intros<;>first|omega|exact crows_row _|exact rrows_row _|exact rows_row _|decide|(simp<;>omega))|fail) ?_ | refine And.intro ?_ ?_)))
   simp only [go_sem,seval,hget,hfd,Rt.av]
   refine hK _ ?_;clear hK K
   refine Aw_st hE [3,6,7,63] [3,6] fun K hK=>?_
   simp only [go_sem,seval,Bool.not_true]
   refine hK _ (Aw_no rfl (Aw_skip (hB14 _ ?_)))
   apply (fun F0 F1 F2 F3 F4 F5 F6 F7 F8 F9 F10=>Aw_sD hE [([0,1,2,3],(.alt 4 (.fst 5 (.ref 4)) (.alt 11 (.ref 3) .non))),([0,1,3,11],(.alt 2 (.ref 3) .non)),([1,2,3,11],(.alt 0 (.ref 3) (.alt 4 (.fst 5 (.ref 5)) .non))),([0,1,2,3,11],(.alt 4 (.fst 5 (.ref 7)) .non)),([0,1,2,3,4,5],(.alt 6 (.ref 6) (.alt 11 (.ref 7) .non))),([1,2,3,4,5,11],(.alt 0 (.ref 7) (.alt 6 (.ref 8) .non))),([0,1,2,3,4,5,6],(.alt 7 (.fst 8 (.fst 9 (.fst 10 (.alt 11 (.ref 10) .non)))) (.alt 11 (.ref 9) .non))),([0,1,2,3,4,5,11],(.alt 6 (.ref 9) .non)),([1,2,3,4,5,6,11],(.alt 0 (.ref 9) .non)),([0,1,2,3,4,5,6,11],(.alt 7 (.fst 8 (.fst 9 (.fst 10 (.ref 10)))) .non)),([0,1,2,3,4,5,6,7,8,9,10,11],(.alt 12 (.fst 13 .done) .non))] (.fst 1 (.fst 3 (.alt 0 (.alt 2 (.ref 0) (.alt 11 (.ref 1) .non)) (.alt 2 (.alt 0 (.ref 0) (.alt 4 (.fst 5 (.alt 0 (.ref 4) (.alt 6 (.alt 0 (.ref 6) (.alt 11 (.ref 8) .non)) (.alt 11 (.ref 5) .non)))) (.alt 11 (.ref 2) .non))) (.alt 11 (.alt 0 (.ref 1) (.alt 2 (.ref 2) .non)) .non))))) [F0,F1,F2,F3,F4,F5,F6,F7,F8,F9,F10] [3,6,7,10,11] [3,6,10])
   ·kernel_rfl
   intro K hK
   refine And.intro ?_ (And.intro ?_ (And.intro ?_ (And.intro ?_ (And.intro ?_ (And.intro ?_ (And.intro ?_ (And.intro ?_ (And.intro ?_ (And.intro ?_ (And.intro ?_ (And.intro ?_ trivial)))))))))))
   iterate 11 (focus (simp only [go_sem,seval,hget,htl];repeat' (first | exact (fun _ _ r=>r) | exact LeE_eq (by simp only [go_sem,seval,hget,htl]) (by simp only [go_sem,seval,hget,htl]) | exact LeE_wk (by simp only [go_sem,seval,hget,htl]) (by simp only [go_sem,seval,hget,htl]) | refine And.intro (by first|omega|(and_intros<;>first|omega|exact crows_row _|exact rrows_row _|exact rows_row _|decide|(simp<;>omega))|fail) ?_ | refine And.intro ?_ ?_)))
   simp only [go_sem,seval,hget,htl]
   refine hK _ ?_;clear hK K
   refine Aw_sq fun B16 hB16 hR16 hX16=>?_
   refine Aw_st hE [3,6,7,10,76] [3,6,10] fun K hK=>?_
   simp only [go_sem,seval,Bool.not_true]
   refine hK _ (Aw_no rfl (Aw_skip (hB16 _ ?_)))
   refine Aw_tx hE [3,6,7] [3,6] fun K hK=>?_
   simp only [go_sem,seval]
   refine hK _ (hN13 _ (hB12 _ ?_))
   refine Aw_tx hE [3,6,7] [3,6] fun K hK=>?_
   simp only [go_sem,seval]
   repeat refine ⟨by first|omega|(and_intros<;>first|omega|exact rows_row _|decide|(simp<;>omega))|fail,?_⟩
   refine hK _ (hN9 (i + 1) _ (by omega) (by omega) ?_)
   rw [hL2]
   exact Le.refl _
  ·simp only [decide_eq_false_iff_not] at hc11
   have hil:i=l.length:=by omega
   subst hil
   rw [mix_end] at *
   have hnl:(l.map newG).length=l.length:=List.length_map _
   have hnr:=eqGs_refl (l.map newG)
   refine Aw_exit (hX10 _ _ (hX9 _ _ (hE8 _ (hB7 _ ?_))))
   refine Aw_st hE [3,6] [3,6] fun K hK=>?_
   simp only [go_sem,seval,hmx,if_true,endL_new]
   repeat (refine And.intro (by first | omega | assumption | (and_intros<;>first | omega | assumption | decide) | fail) ?_)
   refine hK _ ?_;clear hK K
   refine Aw_sq fun B18 hB18 hR18 hX18=>?_
   refine Aw_st hE [3,6,12] [3,6] fun K hK=>?_
   simp only [go_sem,seval]
   refine hK _ ?_;clear hK K
   refine Aw_bk fun B19 hN19 hE19 hR19 hX19=>?_
   refine Aw_lp (fun i:Nat=>⟨127,[(3,.loc 3 0),(6,.loc 6 0),(12,iv i)],[(3,[iv h0,bv up,.sl none (grows l)]),(6,[iv h0,bv true,.sl none (grows (l.map newG))])],k⟩) (fun i=>i≤l.length) (fun i=>l.length - i) 0 (Le.refl _) (by omega) fun i hi2 B20 hN20 hR20 hX20=>?_
   refine Aw_sq fun B21 hB21 hR21 hX21=>?_
   refine Aw_st hE [3,6,12,84] [3,6] fun K hK=>?_
   simp only [go_sem,seval]
   refine hK _ (Aw_cond rfl (fun hc22=>?_) (fun hc22=>?_))
   ·simp only [decide_eq_true_eq] at hc22
    have hil:i < l.length:=by omega
    have hget:=grows_get l i hil
    have hget2:=grows_get (l.map newG) i (by rw [hnl];exact hil)
    have hln:=hlg _ (List.getElem_mem hil)
    rw [List.getElem_map] at hget2
    generalize l[i]=x at hget hget2 hln
    obtain ⟨⟨rf,rb,p,rk,m⟩,old⟩:=x
    simp only [newG] at hln hget2
    refine Aw_skip (hB21 _ ?_)
    refine Aw_sq fun B23 hB23 hR23 hX23=>?_
    refine Aw_bk fun B24 hN24 hE24 hR24 hX24=>?_
    have hge:decide ((l.length:Int)≤i)=false:=decide_eq_false (by omega)
    refine Aw_se hE [0,1,2,3,4,5,6,7,8,9,10,11,12,13,14,15,16,17,18,19,20,21,22,23,24,25,26,27,28] [0,0,2,6,15,31,63,127,63,511,1023,2047,4095,8191,16383,32767,16383,131071,262143,524287,16383,1064959,16383,7356415,15745023,32522239,67108863,134217727,268435455] [3,6,12,115] [3,6] (by kernel_rfl) fun K hK=>?_
    refine daopsE_cut 6 fun K1 hK1=>?_
    simp only [go_sem,seval,hget,hget2,hnl,hge,Bool.not_true,and_self,decide_true]
    repeat refine ⟨by first|omega|(and_intros<;>first|omega|exact rows_row _|decide|(simp<;>omega))|fail,?_⟩
    refine hK1 _ ?_
    clear hK1
    refine daopsE_cut 6 fun K1 hK1=>?_
    simp only [go_sem,seval,hget,hget2,hnl,hge,Bool.not_true,and_self,decide_true]
    repeat refine ⟨by first|omega|(and_intros<;>first|omega|exact rows_row _|decide|(simp<;>omega))|fail,?_⟩
    refine hK1 _ ?_
    clear hK1
    refine daopsE_cut 6 fun K1 hK1=>?_
    simp only [go_sem,seval,hget,hget2,hnl,hge,Bool.not_true,and_self,decide_true]
    repeat refine ⟨by first|omega|(and_intros<;>first|omega|exact rows_row _|decide|(simp<;>omega))|fail,?_⟩
    refine hK1 _ ?_
    clear hK1
    refine daopsE_cut 6 fun K1 hK1=>?_
    simp only [go_sem,seval,hget,hget2,hnl,hge,Bool.not_true,and_self,decide_true]
    repeat refine ⟨by first|omega|(and_intros<;>first|omega|exact rows_row _|decide|(simp<;>omega))|fail,?_⟩
    refine hK1 _ ?_
    clear hK1
    simp only [go_sem,seval,hget,hget2,hnl,hge,Bool.not_true,and_self,decide_true]
    repeat refine ⟨by first|omega|(and_intros<;>first|omega|exact rows_row _|decide|(simp<;>omega))|fail,?_⟩
    refine hK _ (Aw_no rfl (Aw_skip (hN24 _ (hB23 _ ?_))))
    refine Aw_tx hE [3,6,12] [3,6] fun K hK=>?_
    simp only [go_sem,seval]
    repeat refine ⟨by first|omega|(and_intros<;>first|omega|exact rows_row _|decide|(simp<;>omega))|fail,?_⟩
    refine hK _ (hN20 (i + 1) _ (by omega) (by omega) (Le.refl _))
   ·simp only [decide_eq_false_iff_not] at hc22
    refine Aw_exit (hX21 _ _ (hX20 _ _ (hE19 _ (hB18 _ ?_))))
    refine Aw_st hE [2] [] fun K hK=>?_
    simp only [go_sem,seval,hnl,decide_true,Bool.and_self]
    refine hK _ (Aw_ret (hQ _ ?_))
    simp only [go_sem,seval]
end Go.Proofs.W
end
section
namespace Go.Proofs.YtpgilgnkiceggaaGreatDoor.cBr
open Go Go.Eng Go.RowKit Go.WideShapes Go.ChangeShapes Go.ChangeAt Go.Proofs.W
set_option maxRecDepth 100000
theorem own:ownKnob Tryz.prog.godebug=none:=by kernel_rfl
theorem star : "*"++ "errors.errorString" = "*errors.errorString" := by decide
theorem rowE (u:TypeId) (h:Tryz.prog.typeName? 3 u=some "*errors.errorString"):u=139 :=
 typeName_ptr_named (nm := "errors.errorString") (by rw [star];kernel_rfl) (by kernel_rfl) (by decide) u (by rw [star];exact h)
theorem gE:Tryz.prog.globalNamed "loop.example/wayboard/impl.errPath" = some 0:=by kernel_rfl
theorem gEType:(Tryz.prog.globals[0]?).map (·.type)=some 66:=by kernel_rfl
theorem gT:Tryz.prog.globalNamed "errors.errorType" = some 1:=by kernel_rfl
theorem rtT:(Tryz.prog.cutTypes.find? (·.1 == "internal/reflectlite.rtype")).map (·.2)=some 124:=by kernel_rfl
theorem oneRow:((List.range 187).filter fun t=>Tryz.prog.rowNamed t [101,114,114,111,114])=[66]:=by kernel_rfl
theorem tsize:Tryz.prog.types.size=187:=by kernel_rfl
theorem w_of {W:World} (h:laidMetH Tryz.prog Rows.fnBreakRow.laid W):∃ pb,WH pb W∧W.var? Tryz.prog "loop.example/wayboard/impl.errPath" = some #[errV pb]:=by
 obtain ⟨h0,hh⟩:=(h:laidMet Tryz.prog [("math/bits.deBruijn32tab",Rows.laid_math_bits_deBruijn32tab),("math/bits.deBruijn64tab",Rows.laid_math_bits_deBruijn64tab),("internal/strconv.uint64pow10",Rows.laid_internal_strconv_uint64pow10),("loop.example/wayboard/impl.errPath",Rows.laid_loop_example_wayboard_impl_errPath)] W∧handlesMet Tryz.prog [("errors.errorType",Rows.laid_errors_errorType)] W)
 have h1:=laidMet.tail h0
 have h2:=laidMet.tail h1
 have h3:=laidMet.tail h2
 obtain ⟨a0,s0,hv0,hc0,hs0,hz0⟩:=laid_sentinel h3 gE gEType Tryz.underlying66 rowE Tryz.underlying139 Tryz.underlying141 rfl rfl Tryz.underlying9 (by kernel_rfl) (by kernel_rfl)
 refine ⟨a0,⟨⟨⟨?_⟩,?_⟩,?_⟩,hv0⟩
 ·exact Lib.tabIs_of_head (g:=2) (by kernel_rfl) (by kernel_rfl) Tryz.underlying152 Tryz.underlying146 (by kernel_rfl) (by kernel_rfl) h2
 ·simpa using World.var?_cell gE hv0 0
 ·obtain ⟨name,u,ty,e1,e2,e3,e4,e5⟩:=hh _ (List.mem_singleton.2 rfl)
  have en:name=[101,114,114,111,114]:=(Option.some.inj e1).symm
  subst en
  obtain rfl:=Option.some.inj (rtT.symm.trans e2)
  have hm:ty ∈ (List.range 187).filter fun t=>Tryz.prog.rowNamed t [101,114,114,111,114]:=List.mem_filter.2 ⟨List.mem_range.2 (by rw [← tsize];exact e3),e4⟩
  rw [oneRow] at hm
  obtain rfl:=List.mem_singleton.1 hm
  have hx:typeHandle Tryz.prog 66 = .pointer (some ⟨5,66,none⟩):=by kernel_rfl
  rw [hx] at e5
  unfold hdl
  simpa using World.var?_cell gT e5 0
theorem contract (H:Type) (enc:TypeId × Value→H) (W:World) (base:Nat) (args:Array Value) (ds gs:List (DataW H)) (before:List MemPlace)
  (hval:∀ (j:Nat) t v,Tryz.f10.params[j]? = some t→args[j]? = some v→Value.okWide Tryz.prog W .any base t v)
  (hW:DataW.Whole enc Tryz.prog Tryz.f10.params.toList Rows.fnBreakSpec.vars false W args.toList ds gs before) (hL:laidMetH Tryz.prog Rows.fnBreakRow.laid W) :
  Calls Tryz.prog 10 args W fun e W'=>∃ v,e = .returned v∧Rows.fnBreakSpec.post enc Tryz.prog Tryz.f10 false true false false W args v W':=by
 have hW':=hW
 obtain ⟨p,q,hA0,hV0,rfl,hfz,hnd⟩:=hW
 have hA:DataW.TrodAll enc Tryz.prog W 0 (fun _=>true) true Tryz.f10.params.toList args.toList ds p:=hA0
 have hV:DataW.TrodVars enc Tryz.prog W (fun _=>true) ["loop.example/wayboard/impl.errPath"] gs q:=hV0
 rw [Tryz.params10] at hA hval
 obtain ⟨v0,vs0,d0,ds0,p0,q0,hargs,rfl,rfl,hd0,r0⟩:=trodAll_cons hA
 obtain ⟨rfl,rfl,rfl⟩:=trodAll_nil r0
 obtain rfl:args = #[v0]:=by cases args;simp_all
 obtain ⟨pb,hwp,hv0⟩:=w_of hL
 obtain ⟨rfl,rfl⟩:=hV.unique (vars_read1 enc gE gEType Tryz.underlying66 hv0 trivial _)
 obtain ⟨hin0,hback0⟩:=open_arg (hval 0 22 v0 rfl rfl) hd0
 clear hA0 hV0
 simp only [List.append_nil] at hW'
 refine (law_callsH (fnBreak_ok pb) W hwp v0 hin0).mono fun e W' ⟨he,hb⟩=>?_
 subst he
 have hv1:W'.var? Tryz.prog "loop.example/wayboard/impl.errPath" = some #[errV pb]:=var_below' hv0 gE hb
 exact ⟨_,rfl,post_below (pa:=p0++[]) (pv:=[.cell 0 0]) hW' (fun _ _ _=>trodAll_cons_mk (shut_bool Tryz.underlying4 _) trodAll_mk0) (fun sp hsp=>trodAll_cons_mk (hback0 W' hb sp (fun x hx=>hsp x (by simp only [List.mem_append];simp [hx]))) trodAll_mk0) (fun sp _=>vars_read1 enc gE gEType Tryz.underlying66 hv1 trivial sp) (by simp)
  hb (ok_one (by kernel_rfl) rfl (okWide_bool_mk Tryz.underlying4 _))⟩
noncomputable def laidWorld (os : Os) : World :=
  let N := (World.settled Tryz.prog os).heap.size
  let w0 := World.holding Tryz.prog os ⟨#[.cells #[.string ⟨#[110, 111, 116, 32, 97, 32, 112, 97, 116, 104]⟩] 141], #[], []⟩
  let put (h : Array Obj) (g : Nat) (cs : Array Value) : Array Obj := h.modify g fun
    | .cells _ t frozen => .cells cs t frozen
    | o => o
  let cellsOf : DataW Unit → Array Value := fun d => match d with
    | .agg ds => (ds.map fun x => match x with | .lit (.int k n) => Value.int k n | _ => .bool false).toArray
    | _ => #[]
  let h0 := put w0.heap 3 (cellsOf Rows.laid_math_bits_deBruijn32tab)
  let h1 := put h0 4 (cellsOf Rows.laid_math_bits_deBruijn64tab)
  let h2 := put h1 2 (cellsOf Rows.laid_internal_strconv_uint64pow10)
  let h3 := put h2 1 #[.iface 124 (.agg #[.pointer (some ⟨5, 66, none⟩)])]
  let h4 := put h3 0 #[.iface 139 (.pointer (some ⟨N + 0, 0, none⟩))]
  { w0 with heap := h4 }

theorem laid_met (os:Os) (args:Array Value):laidMetH Tryz.prog Rows.fnBreakRow.laid ((laidWorld os).forCall (fun _ _=>0) ⟨#[],args,[]⟩).memory :=
 laidMetH_of_parts (laidMet_of_run' 8 (by kernel_rfl) (by kernel_rfl)) (by kernel_rfl)
theorem witness_row (os:Os) {H:Type} (enc:TypeId × Value→H) :
  (OpenSpec.ofChange Rows.fnBreakSpec).preRow enc Tryz.prog Tryz.f10 Rows.fnBreakRow.domain false Rows.fnBreakRow.laid ((laidWorld os).forCall (fun _ _=>0) ⟨#[],#[.slice none 0 0],[]⟩).memory #[.slice none 0 0] :=
 OpenSpec.preRow_of_B rfl 8 (by kernel_rfl) (by kernel_rfl) (laid_met os _)
theorem lifted (os:Os) (started:os.Started) (H:Type) (enc:TypeId × Value→H) (F:Stop.Interp) :
  ReturnsInHanded {} Tryz.checked os 10 .any ((OpenSpec.ofChange Rows.fnBreakSpec).preRow enc Tryz.prog Tryz.f10 Rows.fnBreakRow.domain false Rows.fnBreakRow.laid) (((OpenSpec.ofChange Rows.fnBreakSpec).at F).post enc Tryz.prog Tryz.f10 false true false false):=by
 refine returnsInHanded_of_row (C:=Tryz.checked) (s:=OpenSpec.ofChange Rows.fnBreakSpec) own started (by kernel_rfl) Tryz.func10
  (witness_row_atRef (enc:=enc) (C:=Tryz.checked) false (laidWorld os) #[.slice none 0 0] rfl (by kernel_rfl) (by kernel_rfl) (by kernel_rfl) (witness_row os enc)) ?_
 intro W base args ds gs before hval hW _ _ _ hL hsh _
 exact contract H enc W base args ds gs before hval hW hL
theorem said:Rows.FnBreakSaid :=
 OpenClaim.holds_of_cond 10 Tryz.f10 rfl rfl rfl rfl rfl rfl rfl ⟨rfl,rfl,rfl,rfl,rfl⟩ rfl rfl rfl rfl rfl (by kernel_rfl) Tryz.func10 (by kernel_rfl)
  (of_decide_eq_true (by kernel_rfl)) (by unfold Func.isWrapper;first | (rw [if_pos (by decide +kernel)];kernel_rfl) | (rw [if_neg (by decide +kernel)];exact ⟨rfl,rfl⟩))
  (fun os started H enc _ F=>by rw [OpenClaim.pre_eq_preRow];exact lifted os started H enc F)
theorem plain (f:FuncId) (fn:Func) (hf:Tryz.pinned.checked.prog.funcNamed "loop.example/wayboard/laws.FnBreak" = some f) (hfn:Tryz.pinned.checked.prog.funcs[f]? = some fn) :
  true=Tryz.pinned.checked.prog.looks []∧∀ (j:Nat) t,fn.params[j]? = some t→Tryz.pinned.checked.prog.wantsStandIn t=false:=by
 obtain rfl:f=10:=Option.some.inj ((show Tryz.prog.funcNamed "loop.example/wayboard/laws.FnBreak" = some 10 by kernel_rfl).symm.trans hf) |>.symm
 obtain rfl:fn=Tryz.f10:=(Option.some.inj (Tryz.func10.symm.trans hfn)).symm
 refine ⟨by kernel_rfl,fun j t ht=>?_⟩
 rw [Tryz.params10] at ht
 obtain rfl:t=22:=by simpa using Array.mem_of_getElem? ht
 exact (show Tryz.prog.wantsStandIn 22=false by kernel_rfl)
theorem card:Rows.FnBreakCardSaid :=
 Claim7.holds_tied_plain_at .later [] _ _ _ _ said (fun _ h=>by cases h) (by kernel_rfl) (fun _ h=>by cases h) fnBreak_row_tie rfl ⟨rfl,rfl⟩ (by kernel_rfl) rfl plain (by kernel_rfl)
end Go.Proofs.YtpgilgnkiceggaaGreatDoor.cBr
end
