/- YtclgihnpjgoddaaDoorWc: part of the proof that laws hold, for every input that the row speaks of (no condition of ours). -/
import Derived.Test.YtclgihnpjgoddaaDoorWb
import Derived.Test.YtclgihnpjgoddaaDoorWa
import Derived.Test.YtclgihnpjgoddaaDoorEc
set_option linter.unusedVariables false
set_option linter.unusedSimpArgs false
section
namespace Go.Proofs.W
open Go Go.Eng Go.RowKit
set_option maxRecDepth 100000
def gPutO:List AV→Option (Prop × AV)
 | [.sl _ els,.agg [.v (.int .i64 f),.v (.int .i64 b),.sl _ e1,.v (.int .i64 k),.sl _ e2]]=>(match rtsL els,intsL e1,intsL e2 with
  | some l,some p,some m=>some (smallL l∧p.length≤1000∧m.length≤900,.sl (some (0,0,36)) (rrows (putG l ⟨f,b,p,k,m⟩)))
  | _,_,_=>none)
 | _=>none
def dPutO:DFn:={ g:=gPutO,own:=true }
attribute [go_sem] gPutO dPutO
theorem l23PutO_ok:Fine Tryd.prog 37 dPutO.con:=by
 refine fine_det (T:=TT) Tryd.func37 rfl Tryd.ntmps37 (by rw [Tryd.results37]) rfl rfl tt (gs_nil) (ds_cons l1Cmp_ok (ds_cons l4Copy_ok ds_nil)) ?_
 intro args c r h hc
 simp only [dPutO,gPutO] at h
 split at h
 rotate_left
 ·cases h
 split at h
 rotate_left
 ·cases h
 rename_i t els f b t1 e1 kk t2 e2 _ _ _ l p m hrt hl1 hl2
 obtain rfl:=rtsL_eq hrt
 obtain rfl:=intsL_eq hl1
 obtain rfl:=intsL_eq hl2
 obtain ⟨rfl,rfl⟩:=Prod.mk.inj (Option.some.inj h)
 refine ⟨by simp,fun k E hE Q hQ=>?_⟩
 obtain ⟨⟨hll,hsm⟩,hp,hm⟩:=hc
 have hp':p.length≤1000000:=by omega
 have hm':m.length≤1000000:=by omega
 refine Aw_st hE [0,3] [3] fun K hK=>?_
 simp only [go_sem,seval]
 refine hK _ ?_;clear hK K
 refine Aw_st hE [0,3,5] [3] fun K hK=>?_
 simp only [go_sem,seval]
 refine hK _ ?_;clear hK K
 refine Aw_st hE [0,3,5,6] [3] fun K hK=>?_
 simp only [go_sem,seval]
 refine hK _ ?_;clear hK K
 refine Aw_sq fun B1 hB1 hR1 hX1=>?_
 refine Aw_st hE [0,3,5,6,7] [3] fun K hK=>?_
 simp only [go_sem,seval]
 refine hK _ ?_;clear hK K
 refine Aw_bk fun B2 hN2 hE2 hR2 hX2=>?_
 refine Aw_lp (fun i:Nat=>putS l ⟨f,b,p,kk,m⟩ k i (foldP ⟨f,b,p,kk,m⟩ (l.take i))) (fun i=>i≤l.length) (fun i=>l.length - i) 0 (Le_wk (by first | omega | (dsimp only;omega) | (simp only;omega) | (simp;omega)) (by simp only [go_sem,seval];exact ⟨rfl,rfl⟩) (by simp only [go_sem,seval])) (by omega) fun i hi B3 hN3 hR3 hX3=>?_
 have hfl:=foldP_len ⟨f,b,p,kk,m⟩ (l.take i)
 have htl:(l.take i).length≤i:=by rw [List.length_take];omega
 have hst:=foldP_step (r:=⟨f,b,p,kk,m⟩) (l:=l) (i:=i)
 have hend:i=l.length→foldP ⟨f,b,p,kk,m⟩ (l.take i)=foldP ⟨f,b,p,kk,m⟩ l:=fun e=>by rw [e,List.take_length]
 generalize foldP ⟨f,b,p,kk,m⟩ (l.take i)=s at hfl hst hend ⊢
 obtain ⟨out,put⟩:=s
 simp only at hfl
 simp only [putS]
 refine Aw_sq fun B4 hB4 hR4 hX4=>?_
 refine Aw_st hE [0,3,5,6,7,13] [3] fun K hK=>?_
 simp only [go_sem,seval]
 refine hK _ (Aw_cond rfl (fun hc5=>?_) (fun hc5=>?_))
 ·simp only [dte] at hc5
  have hil:i < l.length:=by omega
  have hg:=rrows_at l i hil
  have hst:=hst hil
  generalize l[i]=x at hg hst
  obtain ⟨xf,xb,xp,xk,xm⟩:=x
  refine Aw_skip (hB4 _ ?_)
  refine Aw_sq fun B6 hB6 hR6 hX6=>?_
  refine Aw_bk fun B7 hN7 hE7 hR7 hX7=>?_
  refine Aw_sd hE [0,3,5,6,7,8] [3] 6 (by kernel_rfl) fun K hK=>?_
  simp only [go_sem,seval,hg]
  repeat refine sd0 ?_
  refine hK _ ?_;clear hK K
  refine Aw_sq fun B8 hB8 hR8 hX8=>?_
  cases put with
  | true =>
   have hcs:True:=trivial
   refine Aw_st hE [0,3,5,6,7,8,29] [3] fun K hK=>?_
   simp only [go_sem,seval]
   repeat refine sd0 ?_
   refine hK _ (Aw_no rfl (Aw_skip (hB8 _ ?_)))
   refine Aw_st hE [0,3,5,6,7,36] [3] fun K hK=>?_
   simp only [go_sem,seval]
   refine hK _ (Aw_cond rfl (fun hc12=>?_) (fun hc12=>?_))
   ·have hz:¬ rCmp xf xb f b=0:=by simpa using hc12
    refine Aw_tx hE [0,3,5,6,7] [3] fun K hK=>?_
    simp only [go_sem,seval,hg,rrows_one]
    refine ⟨by omega,⟨rrows_row _,by (try simp only [List.length_append,List.length_singleton]);omega⟩,?_⟩
    refine hK _ (hN7 _ (hB6 _ ?_))
    refine Aw_tx hE [0,3,5,6,7] [3] fun K hK=>?_
    simp only [go_sem,seval]
    repeat refine sd0 ?_
    refine hK _ (hN3 (i + 1) _ (by omega) (by omega) ?_)
    have hs':stepP ⟨f,b,p,kk,m⟩ (out,true) ⟨xf,xb,xp,xk,xm⟩=(out++[⟨xf,xb,xp,xk,xm⟩],true):=by simp [stepP,cK,hz,hcs]
    rw [hst.trans hs']
    exact Le_tk 43 9 rfl
   ·have hz:rCmp xf xb f b=0:=by simpa using hc12
    refine Aw_skip (hN7 _ (hB6 _ ?_))
    refine Aw_tx hE [0,3,5,6,7] [3] fun K hK=>?_
    simp only [go_sem,seval]
    repeat refine sd0 ?_
    refine hK _ (hN3 (i + 1) _ (by omega) (by omega) ?_)
    have hs':stepP ⟨f,b,p,kk,m⟩ (out,true) ⟨xf,xb,xp,xk,xm⟩=(out,true):=by simp [stepP,cK,hz,hcs]
    rw [hst.trans hs']
    exact Le.refl _
  | false =>
   by_cases hcs:0≤rCmp xf xb f b
   ·have d1:decide (0≤rCmp xf xb f b)=true:=decide_eq_true hcs
    refine Aw_st hE [0,3,5,6,7,8,29] [3] fun K hK=>?_
    simp only [go_sem,seval,d1]
    repeat refine sd0 ?_
    refine hK _ (Aw_yes rfl ?_)
    refine Aw_st hE [0,3,5,7,8] [3] fun K hK=>?_
    simp only [go_sem,seval,rrows_one]
    refine ⟨⟨hp',hm'⟩,⟨rrows_row _,by omega⟩,?_⟩
    refine hK _ ?_;clear hK K
    refine Aw_tx hE [0,3,5,6,7,8] [3] fun K hK=>?_
    simp only [go_sem,seval]
    refine hK _ (hB8 _ ?_)
    refine Aw_st hE [0,3,5,6,7,36] [3] fun K hK=>?_
    simp only [go_sem,seval]
    refine hK _ (Aw_cond rfl (fun hc12=>?_) (fun hc12=>?_))
    ·have hz:¬ rCmp xf xb f b=0:=by simpa using hc12
     refine Aw_tx hE [0,3,5,6,7] [3] fun K hK=>?_
     simp only [go_sem,seval,hg,rrows_one]
     refine ⟨by omega,⟨rrows_row _,by (try simp only [List.length_append,List.length_singleton]);omega⟩,?_⟩
     refine hK _ (hN7 _ (hB6 _ ?_))
     refine Aw_tx hE [0,3,5,6,7] [3] fun K hK=>?_
     simp only [go_sem,seval]
     repeat refine sd0 ?_
     refine hK _ (hN3 (i + 1) _ (by omega) (by omega) ?_)
     have hs':stepP ⟨f,b,p,kk,m⟩ (out,false) ⟨xf,xb,xp,xk,xm⟩=(out++[⟨f,b,p,kk,m⟩]++[⟨xf,xb,xp,xk,xm⟩],true):=by simp [stepP,cK,hz,hcs]
     rw [hst.trans hs']
     exact Le_tk 43 9 rfl
    ·have hz:rCmp xf xb f b=0:=by simpa using hc12
     refine Aw_skip (hN7 _ (hB6 _ ?_))
     refine Aw_tx hE [0,3,5,6,7] [3] fun K hK=>?_
     simp only [go_sem,seval]
     repeat refine sd0 ?_
     refine hK _ (hN3 (i + 1) _ (by omega) (by omega) ?_)
     have hs':stepP ⟨f,b,p,kk,m⟩ (out,false) ⟨xf,xb,xp,xk,xm⟩=(out++[⟨f,b,p,kk,m⟩],true):=by simp [stepP,cK,hz,hcs]
     rw [hst.trans hs']
     exact Le_tk 34 9 rfl
   ·have d1:decide (0≤rCmp xf xb f b)=false:=decide_eq_false hcs
    refine Aw_st hE [0,3,5,6,7,8,29] [3] fun K hK=>?_
    simp only [go_sem,seval,d1]
    repeat refine sd0 ?_
    refine hK _ (Aw_no rfl (Aw_skip (hB8 _ ?_)))
    refine Aw_st hE [0,3,5,6,7,36] [3] fun K hK=>?_
    simp only [go_sem,seval]
    refine hK _ (Aw_cond rfl (fun hc12=>?_) (fun hc12=>?_))
    ·have hz:¬ rCmp xf xb f b=0:=by simpa using hc12
     refine Aw_tx hE [0,3,5,6,7] [3] fun K hK=>?_
     simp only [go_sem,seval,hg,rrows_one]
     refine ⟨by omega,⟨rrows_row _,by (try simp only [List.length_append,List.length_singleton]);omega⟩,?_⟩
     refine hK _ (hN7 _ (hB6 _ ?_))
     refine Aw_tx hE [0,3,5,6,7] [3] fun K hK=>?_
     simp only [go_sem,seval]
     repeat refine sd0 ?_
     refine hK _ (hN3 (i + 1) _ (by omega) (by omega) ?_)
     have hs':stepP ⟨f,b,p,kk,m⟩ (out,false) ⟨xf,xb,xp,xk,xm⟩=(out++[⟨xf,xb,xp,xk,xm⟩],false):=by simp [stepP,cK,hz,hcs]
     rw [hst.trans hs']
     exact Le_tk 43 9 rfl
    ·have hz:rCmp xf xb f b=0:=by simpa using hc12
     omega
 ·simp only [dfn] at hc5
  have hst:=hend (by omega)
  refine Aw_exit (hX4 _ _ (hX3 _ _ (hE2 _ (hB1 _ ?_))))
  refine Aw_sq fun B15 hB15 hR15 hX15=>?_
  cases put with
  | true =>
   refine Aw_st hE [3,5,45] [3] fun K hK=>?_
   simp only [go_sem,seval]
   refine hK _ (Aw_no rfl (Aw_skip (hB15 _ ?_)))
   refine Aw_st hE [4] [] fun K hK=>?_
   simp only [go_sem,seval]
   refine hK _ (Aw_ret (hQ _ ?_))
   simp only [go_sem,seval,putG,← hst,List.append_nil]
  | false =>
   refine Aw_st hE [3,5,45] [3] fun K hK=>?_
   simp only [go_sem,seval]
   refine hK _ (Aw_yes rfl ?_)
   refine Aw_tx hE [5] [] fun K hK=>?_
   simp only [go_sem,seval,rrows_one]
   refine ⟨⟨hp',hm'⟩,⟨rrows_row _,by omega⟩,?_⟩
   refine hK _ (hB15 _ ?_)
   refine Aw_st hE [4] [] fun K hK=>?_
   simp only [go_sem,seval]
   refine hK _ (Aw_ret (hQ _ ?_))
   simp only [go_sem,seval,putG,← hst]
def cRtsO:Con:={ pre:=fun args=>args=[.rd],post:=fun _ r=>∃ l:List Rt,(l.length≤7∧smallD l)∧r = .sl (some (0,0,36)) (rrows l),cost:=240,draws:=true,own:=true }
theorem cRtsO_own:cRtsO.own=true:=rfl
theorem cRtsO_draws:cRtsO.draws=true:=rfl
theorem cRtsO_cost:cRtsO.cost=240:=rfl
attribute [go_sem] cRtsO_own cRtsO_draws cRtsO_cost
theorem rtsO_pre:cRtsO.pre [.rd]=True:=by simp [cRtsO]
theorem rtsO_post (args:List AV) (K:AV→Prop):(∀ r,cRtsO.post args r→K r)=(∀ l:List Rt,(l.length≤7∧smallD l)→K (.sl (some (0,0,36)) (rrows l))):=by
 apply propext
 exact ⟨fun h p hp=>h _ ⟨p,hp,rfl⟩,fun h r ⟨p,hp,e⟩=>e ▸ h p hp⟩
theorem rtsO_ex (args:List AV):(∃ r,cRtsO.post args r)=True:=eq_true ⟨_,[],by simp [smallD],rfl⟩
attribute [go_sem] rtsO_pre rtsO_post rtsO_ex
def rtO (l:List Rt) (n:Int) (rn:Nat):St:=⟨28,[(0,.rd),(3,.sl (some (5,0,36)) (rrows l)),(4,iv n)],[],rn⟩
set_option maxHeartbeats 4000000 in
theorem l92RoutesO_ok:Fine Tryd.prog 45 cRtsO:=by
 refine fine_ofX [] gl_nil [] ms_nil [] mm_nil [] [] ex_nil (T:=TT) Tryd.func45 rfl Tryd.ntmps45 (by rw [Tryd.results45]) rfl rfl tt (gs_cons pick_ok (gs_cons l92From_ok (gs_cons l91Route_ok gs_nil))) (ds_cons l23PutO_ok ds_nil) ?_
 rintro args rfl
 refine ⟨by simp,fun k hk E hE Q hQ=>?_⟩
 have hk:=hk rfl
 simp only [go_sem] at hk
 refine Aw_st hE [0] [] fun K hK=>?_
 simp only [go_sem,seval]
 refine hK _ ?_;clear hK K
 refine Aw_st hE [0,3] [] fun K hK=>?_
 simp only [go_sem,seval]
 refine hK _ ?_;clear hK K
 refine Aw_sq fun B1 hB1 hR1 hX1=>?_
 refine Aw_st hE [0,3,4] [] fun K hK=>?_
 simp only [go_sem,seval]
 repeat' (first | (refine And.intro (by first | omega | decide) ?_) | intro)
 rename_i n0 hn1 hn2
 refine hK _ ?_;clear hK K
 refine Aw_bk fun B2 hN2 hE2 hR2 hX2=>?_
 refine Aw_lp (fun i:List Rt × Int=>rtO i.1 i.2 (k + 190 - 31 * i.2.toNat)) (fun i=>sortR i.1∧smallD i.1∧0≤i.2∧i.1.length + i.2≤6) (fun i=>i.2.toNat) ([],n0) (Le_rn (by simp only;omega)) ⟨List.Pairwise.nil,(by intro g hg;cases hg),by omega,by simp;omega⟩ fun i hi B3 hN3 hR3 hX3=>?_
 obtain ⟨l,n⟩:=i
 obtain ⟨hs,hsm,hn1,hn2⟩:=hi
 simp only at hs hsm hn1 hn2
 simp only [rtO]
 refine Aw_sq fun B4 hB4 hR4 hX4=>?_
 refine Aw_st hE [0,3,4,9] [] fun K hK=>?_
 simp only [go_sem,seval]
 refine hK _ (Aw_cond rfl (fun hc5=>?_) (fun hc5=>?_))
 ·simp only [dte] at hc5
  refine Aw_skip (hB4 _ ?_)
  refine Aw_sq fun B6 hB6 hR6 hX6=>?_
  refine Aw_bk fun B7 hN7 hE7 hR7 hX7=>?_
  refine Aw_tx hE [0,3,4] [] fun K hK=>?_
  simp only [go_sem,seval]
  repeat' (first | (refine And.intro (by first | omega | decide) ?_) | intro)
  rename_i x hx
  obtain ⟨hx1,hx2⟩:=hx
  obtain ⟨xf,xb,xp,xk,xm⟩:=x
  simp only at hx1 hx2
  refine ⟨⟨smallD_small hsm (by omega),by simp only;omega,by simp only;omega⟩,?_⟩
  have h1:=sort_put hs ⟨xf,xb,xp,xk,xm⟩
  have h2:=smallD_put (r:=⟨xf,xb,xp,xk,xm⟩) hsm ⟨by simp only;omega,by simp only;omega⟩
  have h3:=putR_len ⟨xf,xb,xp,xk,xm⟩ l
  rw [putG_eq hs]
  generalize putR l ⟨xf,xb,xp,xk,xm⟩=L at h1 h2 h3 ⊢
  refine hK _ (hN7 _ (hB6 _ ?_))
  refine Aw_tx hE [0,3,4] [] fun K hK=>?_
  simp only [go_sem,seval]
  repeat refine sd0 ?_
  refine hK _ (hN3 (L,n - 1) _ ⟨h1,h2,by simp only;omega,by simp only;omega⟩ (by simp only;omega) ?_)
  exact (Le_tk 18 5 rfl).trans (Le_rn (by simp only;omega))
 ·simp only [dfn] at hc5
  refine Aw_exit (hX4 _ _ (hX3 _ _ (hE2 _ (hB1 _ ?_))))
  refine Aw_sq fun B8 hB8 hR8 hX8=>?_
  refine Aw_st hE [0,3,21] [] fun K hK=>?_
  simp only [go_sem,seval]
  repeat' (first | (refine And.intro (by first | omega | decide) ?_) | intro)
  refine hK _ (Aw_cond rfl (fun hc9=>?_) (fun hc9=>?_))
  ·refine Aw_st hE [2] [] fun K hK=>?_
   simp only [go_sem,seval,rrows_one]
   refine ⟨by omega,fun x hx=>⟨⟨rrows_row _,by omega⟩,?_⟩⟩
   have hxs:smallD (l++[x]):=fun y hy=>by
    rcases List.mem_append.1 hy with hy | hy
    ·exact hsm y hy
    ·obtain rfl:=List.mem_singleton.1 hy
     obtain ⟨_,q1,_,_,_,q2⟩:=hx
     exact ⟨by omega,by omega⟩
   refine hK _ (Aw_ret (hR8 _ (hQ _ ?_)))
   simp only [go_sem,seval]
   exact ⟨by omega,l++[x],⟨by simp;omega,hxs⟩,rfl⟩
  ·refine Aw_skip (hB8 _ ?_)
   refine Aw_st hE [2] [] fun K hK=>?_
   simp only [go_sem,seval]
   refine hK _ (Aw_ret (hQ _ ?_))
   simp only [go_sem,seval]
   exact ⟨by omega,l,⟨by omega,hsm⟩,rfl⟩
def gDeltaO:List AV→Option (Prop × AV)
 | [.sl _ e1,.sl _ e2]=>(match rtsL e1,rtsL e2 with
  | some a,some b=>some (smallL a∧smallL b,.agg [.sl (some (0,0,33)) (krows (dropsB a b)),.sl (some (0,1,36)) (rrows (tellsB a b))])
  | _,_=>none)
 | _=>none
def dDeltaO:DFn:={ g:=gDeltaO,own:=true }
attribute [go_sem] gDeltaO dDeltaO
set_option maxHeartbeats 4000000 in
theorem sDeltaOfO_ok:Fine Tryd.prog 12 dDeltaO.con:=by
 refine fine_det (T:=TT) Tryd.func12 rfl Tryd.ntmps12 (by rw [Tryd.results12]) rfl rfl tt (gs_nil) (ds_cons sRoutesOk_ok (ds_cons l23At_ok (ds_cons l4Cmp_ok (ds_cons l4Copy_ok ds_nil)))) ?_
 intro args c r h hc
 simp only [dDeltaO,gDeltaO] at h
 split at h
 rotate_left
 ·cases h
 split at h
 rotate_left
 ·cases h
 rename_i ta e1 tb e2 _ _ a b hrt1 hrt2
 obtain rfl:=rtsL_eq hrt1
 obtain rfl:=rtsL_eq hrt2
 obtain ⟨rfl,rfl⟩:=Prod.mk.inj (Option.some.inj h)
 refine ⟨by simp,fun k E hE Q hQ=>?_⟩
 obtain ⟨hca,hcb⟩:=hc
 have hal:=hca.1
 have hbl:=hcb.1
 refine Aw_st hE [0,1,4] [4,5] fun K hK=>?_
 simp only [go_sem,seval]
 refine hK _ ?_;clear hK K
 refine Aw_st hE [0,1,4,5] [4,5] fun K hK=>?_
 simp only [go_sem,seval]
 refine hK _ ?_;clear hK K
 refine Aw_sq fun B1 hB1 hR1 hX1=>?_
 cases hoa:routesOk a with
 | false =>
  have hd:dropsB a b=[]:=by unfold dropsB;rw [hoa];rfl
  have ht:tellsB a b=[]:=by unfold tellsB;rw [hoa];rfl
  refine Aw_st hE [0,1,4,5,19] [4,5] fun K hK=>?_
  simp only [go_sem,seval,hoa]
  refine ⟨hca,?_⟩
  refine hK _ (Aw_yes rfl ?_)
  refine Aw_st hE [4] [4,5] fun K hK=>?_
  simp only [go_sem,seval]
  refine hK _ (Aw_ret (hR1 _ (hQ _ ?_)))
  simp only [go_sem,seval,hd,ht]
  rfl
 | true =>
 cases hob:routesOk b with
 | false =>
  have hd:dropsB a b=[]:=by unfold dropsB;rw [hoa,hob];rfl
  have ht:tellsB a b=[]:=by unfold tellsB;rw [hoa,hob];rfl
  refine Aw_st hE [0,1,4,5,19] [4,5] fun K hK=>?_
  simp only [go_sem,seval,hoa,hob]
  refine ⟨hca,hcb,?_⟩
  refine hK _ (Aw_yes rfl ?_)
  refine Aw_st hE [4] [4,5] fun K hK=>?_
  simp only [go_sem,seval]
  refine hK _ (Aw_ret (hR1 _ (hQ _ ?_)))
  simp only [go_sem,seval,hd,ht]
  rfl
 | true =>
 have hd:dropsB a b=dropsF a b:=by unfold dropsB;rw [hoa,hob];rfl
 have ht:tellsB a b=tellsF a b:=by unfold tellsB;rw [hoa,hob];rfl
 refine Aw_st hE [0,1,4,5,19] [4,5] fun K hK=>?_
 simp only [go_sem,seval,hoa,hob]
 refine ⟨hca,hcb,?_⟩
 refine hK _ (Aw_no rfl (Aw_skip (hB1 _ ?_)))
 refine Aw_sq fun B5 hB5 hR5 hX5=>?_
 refine Aw_st hE [0,1,4,5,6] [4,5] fun K hK=>?_
 simp only [go_sem,seval]
 refine hK _ ?_;clear hK K
 refine Aw_bk fun B6 hN6 hE6 hR6 hX6=>?_
 refine Aw_lp (fun i:Nat=>dS a b k i none) (fun i=>i≤a.length) (fun i=>a.length - i) 0 (Le_wk (by first | omega | (dsimp only;omega) | (simp only;omega) | (simp;omega)) (by simp only [go_sem,seval]) (by simp only [go_sem,seval];exact ⟨rfl,rfl⟩)) (by omega) fun i hi B7 hN7 hR7 hX7=>?_
 have hDl:=dropsU_len a b i
 simp only [dS]
 refine Aw_sq fun B8 hB8 hR8 hX8=>?_
 refine Aw_st hE [0,1,4,5,6,24] [4,5] fun K hK=>?_
 simp only [go_sem,seval]
 refine hK _ (Aw_cond rfl (fun hc9=>?_) (fun hc9=>?_))
 ·simp only [dte] at hc9
  have hil:i < a.length:=by omega
  have hg:=rrows_at a i hil
  have hst:=dropsU_step (b:=b) hil
  generalize a[i]=x at hg hst
  obtain ⟨xf,xb,xp,xk,xm⟩:=x
  simp only [key,atR_neg] at hst
  refine Aw_skip (hB8 _ ?_)
  refine Aw_sq fun B10 hB10 hR10 hX10=>?_
  refine Aw_bk fun B11 hN11 hE11 hR11 hX11=>?_
  refine Aw_st hE [0,1,4,5,6,34] [4,5] fun K hK=>?_
  simp only [go_sem,seval,hg]
  repeat refine sd0 ?_
  refine hK _ (Aw_cond rfl (fun hc12=>?_) (fun hc12=>?_))
  ·rw [hc12,if_pos rfl] at hst
   refine Aw_td hE [0,1,4,5,6] [4,5] 6 (by kernel_rfl) fun K hK=>?_
   simp only [go_sem,seval,hg,krows_one]
   refine ⟨by omega,⟨krows_row _,by omega⟩,?_⟩
   refine hK _ (hN11 _ (hB10 _ ?_))
   refine Aw_tx hE [0,1,4,5,6] [4,5] fun K hK=>?_
   simp only [go_sem,seval]
   repeat refine sd0 ?_
   refine hK _ (hN7 (i + 1) _ (by omega) (by omega) ?_)
   simp only [dS]
   rw [hst]
   exact Le_tk 43 9 rfl
  ·rw [hc12,if_neg (by simp),List.append_nil] at hst
   refine Aw_skip (hN11 _ (hB10 _ ?_))
   refine Aw_tx hE [0,1,4,5,6] [4,5] fun K hK=>?_
   simp only [go_sem,seval]
   repeat refine sd0 ?_
   refine hK _ (hN7 (i + 1) _ (by omega) (by omega) ?_)
   simp only [dS]
   rw [hst]
   exact Le.refl _
 ·simp only [dfn] at hc9
  obtain rfl:i=a.length:=by omega
  refine Aw_exit (hX8 _ _ (hX7 _ _ (hE6 _ (hB5 _ ?_))))
  refine Aw_sq fun B13 hB13 hR13 hX13=>?_
  refine Aw_st hE [0,1,4,5,7] [4,5] fun K hK=>?_
  simp only [go_sem,seval]
  refine hK _ ?_;clear hK K
  refine Aw_bk fun B14 hN14 hE14 hR14 hX14=>?_
  refine Aw_lp (fun i:Nat=>dS a b k a.length (some i)) (fun i=>i≤b.length) (fun i=>b.length - i) 0 (Le.refl _) (by omega) fun i hi B15 hN15 hR15 hX15=>?_
  have hTl:=tellsU_len a b i
  simp only [dS,Option.getD_some]
  refine Aw_sq fun B16 hB16 hR16 hX16=>?_
  refine Aw_st hE [0,1,4,5,7,48] [4,5] fun K hK=>?_
  simp only [go_sem,seval]
  refine hK _ (Aw_cond rfl (fun hc17=>?_) (fun hc17=>?_))
  ·simp only [dte] at hc17
   have hil:i < b.length:=by omega
   have hg:=rrows_at b i hil
   obtain ⟨hxp,hxm⟩:=smallR_at hcb i hil
   have hsty:=fun h=>tellsU_yes (a:=a) hil h
   have hstn:=fun h=>tellsU_no (a:=a) hil h
   generalize b[i]=x at hg hsty hstn hxp hxm
   obtain ⟨xf,xb,xp,xk,xm⟩:=x
   simp only at hxp hxm
   have hxp':xp.length≤1000000:=by omega
   have hxm':xm.length≤1000000:=by omega
   refine Aw_skip (hB16 _ ?_)
   refine Aw_sq fun B18 hB18 hR18 hX18=>?_
   refine Aw_bk fun B19 hN19 hE19 hR19 hX19=>?_
   refine Aw_st hE [0,1,4,5,7,8] [4,5] fun K hK=>?_
   simp only [go_sem,seval,hg]
   repeat refine sd0 ?_
   refine hK _ ?_;clear hK K
   rcases atR_look a xf xb with ⟨h1,h2⟩ | ⟨j,hj,h1,h2⟩
   ·have hst:=hstn (show ¬ look a (xf,xb)=some _ by rw [h2];simp)
    rw [h1]
    refine Aw_sd hE [0,1,4,5,7,71] [4,5] 6 (by kernel_rfl) fun K hK=>?_
    simp only [go_sem,seval]
    refine ⟨fun _=>?_,fun h=>absurd h (by simp)⟩
    refine hK _ (Aw_yes rfl ?_)
    refine Aw_td hE [0,1,4,5,7] [4,5] 6 (by kernel_rfl) fun K hK=>?_
    simp only [go_sem,seval,hg,rrows_one]
    refine ⟨by omega,⟨hxp',hxm'⟩,⟨rrows_row _,by omega⟩,?_⟩
    refine hK _ (hN19 _ (hB18 _ ?_))
    refine Aw_tx hE [0,1,4,5,7] [4,5] fun K hK=>?_
    simp only [go_sem,seval]
    repeat refine sd0 ?_
    refine hK _ (hN15 (i + 1) _ (by omega) (by omega) ?_)
    simp only [dS,Option.getD_some]
    rw [hst]
    exact Le_tk 80 10 rfl
   ·rw [h1]
    have hgj:=rrows_at a j hj
    obtain ⟨hyp,hym⟩:=smallR_at hca j hj
    have h2:look a (xf,xb)=some a[j]:=h2
    generalize a[j]=y at hgj h2 hyp hym
    have hsame:=rtCmp_same (x:=y) (y:=⟨xf,xb,xp,xk,xm⟩)
    obtain ⟨yf,yb,yp,yk,ym⟩:=y
    simp only at hyp hym hsame
    have dj:decide ((j:Int) < 0)=false:=decide_eq_false (by omega)
    have hln:(yp.length≤4294967296∧xp.length≤4294967296)∧ym.length≤4294967296∧xm.length≤4294967296:=by omega
    by_cases he:rtCmp yf yb yp yk ym xf xb xp xk xm=0
    ·have hst:=hsty (show look a (xf,xb)=some _ by rw [h2,hsame.1 he])
     have d1:decide (rtCmp yf yb yp yk ym xf xb xp xk xm=0)=true:=decide_eq_true he
     refine Aw_sd hE [0,1,4,5,7,71] [4,5] 6 (by kernel_rfl) fun K hK=>?_
     simp only [go_sem,seval,hg,hgj,dj,d1,he]
     repeat refine sd0 ?_
     refine hK _ (Aw_no rfl (Aw_skip (hN19 _ (hB18 _ ?_))))
     refine Aw_tx hE [0,1,4,5,7] [4,5] fun K hK=>?_
     simp only [go_sem,seval]
     repeat refine sd0 ?_
     refine hK _ (hN15 (i + 1) _ (by omega) (by omega) ?_)
     simp only [dS,Option.getD_some]
     rw [hst]
     exact Le.refl _
    ·have hst:=hstn (show ¬ look a (xf,xb)=some _ by rw [h2];exact fun e=>he (hsame.2 (Option.some.inj e)))
     have d1:decide (rtCmp yf yb yp yk ym xf xb xp xk xm=0)=false:=decide_eq_false he
     refine Aw_sd hE [0,1,4,5,7,71] [4,5] 6 (by kernel_rfl) fun K hK=>?_
     simp only [go_sem,seval,hg,hgj,dj,d1,he]
     repeat refine sd0 ?_
     refine hK _ (Aw_yes rfl ?_)
     refine Aw_td hE [0,1,4,5,7] [4,5] 6 (by kernel_rfl) fun K hK=>?_
     simp only [go_sem,seval,hg,rrows_one]
     refine ⟨by omega,⟨hxp',hxm'⟩,⟨rrows_row _,by omega⟩,?_⟩
     refine hK _ (hN19 _ (hB18 _ ?_))
     refine Aw_tx hE [0,1,4,5,7] [4,5] fun K hK=>?_
     simp only [go_sem,seval]
     repeat refine sd0 ?_
     refine hK _ (hN15 (i + 1) _ (by omega) (by omega) ?_)
     simp only [dS,Option.getD_some]
     rw [hst]
     exact Le_tk 80 10 rfl
  ·simp only [dfn] at hc17
   obtain rfl:i=b.length:=by omega
   have e1:dropsU a b a.length=dropsF a b:=by unfold dropsU;rw [List.take_length]
   have e2:tellsU a b b.length=tellsF a b:=by unfold tellsU;rw [List.take_length]
   rw [e1,e2]
   refine Aw_exit (hX16 _ _ (hX15 _ _ (hE14 _ (hB13 _ ?_))))
   refine Aw_st hE [4] [4,5] fun K hK=>?_
   simp only [go_sem,seval]
   refine hK _ (Aw_ret (hQ _ ?_))
   simp only [go_sem,seval,hd,ht]
   rfl
def cDDD:Con:={ pre:=codeArg,post:=fun _ r=>∃ (l:List Rt) (D:List (Int × Int)) (T:List Rt),((l.length≤7∧smallD l)∧D.length≤8∧T.length≤11∧smallD T)∧r = .tup [.sl none (rrows l),.agg [.sl none (krows D),.sl none (rrows T)]] }
theorem cDDD_own:cDDD.own=false:=rfl
theorem cDDD_draws:cDDD.draws=false:=rfl
theorem cDDD_cost:cDDD.cost=0:=rfl
attribute [go_sem] cDDD_own cDDD_draws cDDD_cost
theorem ddd_pre (bs:List Nat) (h:∀ b ∈ bs,b < 256):cDDD.pre [.sl none (byteRows bs)]:=⟨bs,h,rfl⟩
theorem ddd_post (args:List AV) (K:AV→Prop):(∀ r,cDDD.post args r→K r)=(∀ (l:List Rt) (D:List (Int × Int)) (T:List Rt),((l.length≤7∧smallD l)∧D.length≤8∧T.length≤11∧smallD T)→K (.tup [.sl none (rrows l),.agg [.sl none (krows D),.sl none (rrows T)]])):=by
 apply propext
 exact ⟨fun h x n m h1=>h _ ⟨x,n,m,h1,rfl⟩,fun h r ⟨x,n,m,h1,e⟩=>e ▸ h x n m h1⟩
attribute [go_sem] ddd_post
def cDRO:Con:={ pre:=codeArg,post:=fun _ r=>∃ l:List Rt,(l.length≤8∧smallD l)∧r = .sl none (rrows l) }
theorem cDRO_own:cDRO.own=false:=rfl
theorem cDRO_draws:cDRO.draws=false:=rfl
theorem cDRO_cost:cDRO.cost=0:=rfl
attribute [go_sem] cDRO_own cDRO_draws cDRO_cost
theorem dro_pre (bs:List Nat) (h:∀ b ∈ bs,b < 256):cDRO.pre [.sl none (byteRows bs)]:=⟨bs,h,rfl⟩
theorem dro_post (args:List AV) (K:AV→Prop):(∀ r,cDRO.post args r→K r)=(∀ (l:List Rt),(l.length≤8∧smallD l)→K (.sl none (rrows l))):=by
 apply propext
 exact ⟨fun h x h1=>h _ ⟨x,h1,rfl⟩,fun h r ⟨x,h1,e⟩=>e ▸ h x h1⟩
attribute [go_sem] dro_post
theorem drawRoutesOk_ok:Fine Tryd.prog 22 cDRO:=by
 refine fine_draw (T:=TT) (C:=cDRO) Tryd.func22 rfl Tryd.ntmps22 (by rw [Tryd.results22]) rfl rfl tt rfl rfl (G:=[(45,cRtsO),(34,cPick),(46,cFromD)]) (D:=[]) (gs_cons l92RoutesO_ok (gs_cons pick_ok (gs_cons l92From_ok gs_nil))) ds_nil (l1:=[_]) (l2:=[_]) rfl rfl rfl rfl (by decide) open_calls ⟨_,Tryd.func24,rfl,rfl⟩ ?_ ?_
 ·rintro args r ⟨x,_,rfl⟩;rfl
 rintro args ⟨bs,hbs,rfl⟩
 refine ⟨by simp,bs,hbs,fun n E hE J hJ=>?_⟩
 refine Aw_tx hE [0] [] fun K hK=>?_
 simp only [go_sem,seval]
 refine hK _ ?_
 simp only [thenA]
 simp only [go_sem,seval]
 refine hJ _ rfl rfl fun E hE Q hQ=>?_
 simp only [go_sem,seval]
 refine Aw_st hE [3,4] [] fun K hK=>?_
 simp only [go_sem,seval]
 intro l hl
 obtain ⟨hll,hls⟩:=hl
 refine hK _ ?_;clear hK K
 refine Aw_sq fun B1 hB1 hR1 hX1=>?_
 refine Aw_st hE [3,4,11] [] fun K hK=>?_
 simp only [go_sem,seval]
 repeat' (first | (refine And.intro (by first | omega | decide) ?_) | intro)
 refine hK _ (Aw_cond rfl (fun hc9=>?_) (fun hc9=>?_))
 ·refine Aw_st hE [2] [] fun K hK=>?_
  simp only [go_sem,seval,rrows_one]
  refine fun x hx=>⟨⟨rrows_row _,by omega⟩,?_⟩
  have hxs:smallD (l++[x]):=fun y hy=>by
   rcases List.mem_append.1 hy with hy | hy
   ·exact hls y hy
   ·obtain rfl:=List.mem_singleton.1 hy
    exact ⟨by omega,by omega⟩
  refine hK _ (Aw_ret (hR1 _ (hQ _ ?_)))
  simp only [go_sem,seval]
  exact ⟨l++[x],⟨by simp;omega,hxs⟩,rfl⟩
 ·refine Aw_skip (hB1 _ ?_)
  refine Aw_st hE [2] [] fun K hK=>?_
  simp only [go_sem,seval]
  refine hK _ (Aw_ret (hQ _ ?_))
  simp only [go_sem,seval]
  exact ⟨l,⟨by omega,hls⟩,rfl⟩
theorem drawDeltaDo_ok:Fine Tryd.prog 16 cDDD:=by
 refine fine_draw (T:=TT) (C:=cDDD) Tryd.func16 rfl Tryd.ntmps16 (by rw [Tryd.results16]) rfl rfl tt rfl rfl (G:=[(23,cChg),(34,cPick),(35,cRange),(36,cRouteD)]) (D:=[(12,dDeltaO)]) (gs_cons l92Change_ok (gs_cons pick_ok (gs_cons l91Range_ok (gs_cons l91Route_ok gs_nil)))) (ds_cons sDeltaOfO_ok ds_nil) (l1:=[_]) (l2:=[_]) rfl rfl rfl rfl (by decide) open_calls ⟨_,Tryd.func24,rfl,rfl⟩ ?_ ?_
 ·rintro args r ⟨x,y,z,_,rfl⟩;rfl
 rintro args ⟨bs,hbs,rfl⟩
 refine ⟨by simp,bs,hbs,fun n E hE J hJ=>?_⟩
 refine Aw_tx hE [0,3] [3,7] fun K hK=>?_
 simp only [go_sem,seval]
 refine hK _ ?_
 simp only [thenA]
 simp only [go_sem,seval]
 refine hJ _ rfl rfl fun E hE Q hQ=>?_
 simp only [go_sem,seval]
 refine Aw_st hE [3,4,5,6] [3,7] fun K hK=>?_
 simp only [go_sem,seval]
 intro a b hab
 obtain ⟨⟨hal,hsa⟩,hbl,hsb⟩:=hab
 have hca:=smallD_small hsa (by omega)
 have hcb:=smallD_small hsb (by omega)
 have hDl:(dropsB a b).length≤7:=by
  unfold dropsB
  split
  ·unfold dropsF;rw [List.length_map];have:=List.length_filter_le (fun x=>(look b (key x)).isNone) a;omega
  ·simp
 have hTl:(tellsB a b).length≤10:=by
  unfold tellsB
  split
  ·unfold tellsF;have:=List.length_filter_le (fun s=>!decide (look a (key s)=some s)) b;omega
  ·simp
 have hTs:smallD (tellsB a b):=fun r hr=>by
  unfold tellsB at hr
  split at hr
  ·exact hsb r (List.mem_filter.1 hr).1
  ·cases hr
 refine hK _ ?_;clear hK K
 refine Aw_st hE [3,4,5,7] [3,7] fun K hK=>?_
 simp only [go_sem,seval]
 refine ⟨⟨hca,hcb⟩,?_⟩
 generalize dropsB a b=D at hDl ⊢
 generalize tellsB a b=T at hTl hTs ⊢
 refine hK _ ?_;clear hK K
 refine Aw_sqJ (fun q:List (Int × Int) × List Rt=>⟨40,[(3,.loc 3 0),(5,.sl none (rrows a)),(7,.loc 7 0)],[(3,[.nl,.nl]),(7,[.sl none (krows q.1),.sl none (rrows q.2)])],1000⟩) (fun q=>q.1.length≤8∧q.2.length≤11∧smallD q.2) (fun q hq=>?_) fun B1 hB1 hR1 hX1=>?_
 ·obtain ⟨D,T⟩:=q
  refine Aw_sd hE [2,3] [3,7] 6 (by kernel_rfl) fun K hK=>?_
  simp only [go_sem,seval]
  refine hK _ (Aw_ret (hQ _ ?_))
  simp only [go_sem,seval]
  exact ⟨a,D,T,⟨⟨hal,hsa⟩,hq⟩,rfl⟩
 refine Aw_st hE [3,4,5,7,19] [3,7] fun K hK=>?_
 simp only [go_sem,seval]
 repeat' (first | (refine And.intro (by first | omega | decide) ?_) | intro)
 rename_i n0 hn1 hn2
 refine hK _ ?_;clear hK K
 refine Aw_bk fun B2 hN2 hE2 hR2 hX2=>?_
 refine Aw_st hE [3,4,5,7,19,20] [3,7] fun K hK=>?_
 simp only [go_sem,seval]
 refine hK _ (Aw_cond rfl (fun hc3=>?_) (fun hc3=>?_))
 ·refine Aw_td hE [3,5,7] [3,7] 6 (by kernel_rfl) fun K hK=>?_
  simp only [go_sem,seval,krows_one]
  intro f b0 hfb
  refine ⟨⟨krows_row _,by omega⟩,hK _ (hN2 _ (hB1 (D++[(f,b0)],T) _ ⟨by simp;omega,by simp only;omega,hTs⟩ (Le_E (Le_wk (by decide) ⟨rfl,rfl,rfl,trivial⟩ ⟨⟨rfl,rfl,trivial⟩,⟨rfl,rfl,trivial⟩,trivial⟩))))⟩
 ·refine Aw_st hE [3,4,5,7,29] [3,7] fun K hK=>?_
  simp only [go_sem,seval]
  refine hK _ (Aw_cond rfl (fun hc4=>?_) (fun hc4=>?_))
  ·refine Aw_td hE [3,5,7] [3,7] 6 (by kernel_rfl) fun K hK=>?_
   simp only [go_sem,seval,rrows_one]
   intro x hx
   refine ⟨⟨rrows_row _,by omega⟩,hK _ (hN2 _ (hB1 (D,T++[x]) _ ⟨by simp only;omega,by simp;omega,fun y hy=>?_⟩ (Le_E (Le_wk (by decide) ⟨rfl,rfl,rfl,trivial⟩ ⟨⟨rfl,rfl,trivial⟩,⟨rfl,rfl,trivial⟩,trivial⟩))))⟩
   rcases List.mem_append.1 hy with hy | hy
   ·exact hTs y hy
   ·obtain rfl:=List.mem_singleton.1 hy
    obtain ⟨_,q1,_,_,_,q2⟩:=hx
    exact ⟨by omega,by omega⟩
  ·refine Aw_skip (hN2 _ (hB1 (D,T) _ ⟨by simp only;omega,by simp only;omega,hTs⟩ (Le_E (Le_wk (by decide) ⟨rfl,rfl,rfl,trivial⟩ ⟨⟨rfl,rfl,trivial⟩,⟨rfl,rfl,trivial⟩,trivial⟩))))
theorem any_step {p:Rt→Bool} {l:List Rt} {i:Nat} (hi:i < l.length):(l.take (i + 1)).any p=((l.take i).any p || p l[i]):=by
 rw [List.take_succ_eq_append_getElem hi,List.any_append];simp
def eqB (y x:Rt):Bool:=decide (x.f=y.f∧x.b=y.b∧x.path=y.path∧x.like=y.like∧x.marks=y.marks)
theorem eqB_iff {y x:Rt}:eqB y x=true↔x=y:=by
 rw [rt_ext];simp only [eqB,dte,and_assoc]
theorem tells_mem {a b:List Rt} {r:Rt} (h:r ∈ tellsB a b):r ∈ b:=by
 unfold tellsB at h
 split at h
 ·exact (List.mem_filter.1 h).1
 ·cases h
theorem tellsB_len (a b:List Rt):(tellsB a b).length≤b.length:=by
 unfold tellsB
 split
 ·exact List.length_filter_le _ _
 ·simp
theorem dropsB_len (a b:List Rt):(dropsB a b).length≤a.length:=by
 unfold dropsB
 split
 ·unfold dropsF;rw [List.length_map];exact List.length_filter_le _ _
 ·simp
def cLyR:Con:={ pre:=fun args=>∃ n:Int,(0≤n∧n≤1048576)∧args=[iv n],post:=fun _ r=>∃ f b:Int,r = .agg [iv f,iv b] }
theorem cLyR_own:cLyR.own=false:=rfl
theorem cLyR_draws:cLyR.draws=false:=rfl
theorem cLyR_cost:cLyR.cost=0:=rfl
attribute [go_sem] cLyR_own cLyR_draws cLyR_cost
theorem lyR_pre (n:Int):cLyR.pre [iv n]=(0≤n∧n≤1048576):=by
 simp [cLyR]
theorem lyR_post (args:List AV) (K:AV→Prop):(∀ r,cLyR.post args r→K r)=(∀ f b:Int,K (.agg [iv f,iv b])):=by
 apply propext
 exact ⟨fun h f b=>h _ ⟨f,b,rfl⟩,fun h r ⟨f,b,e⟩=>e ▸ h f b⟩
theorem lyR_ex (args:List AV):(∃ r,cLyR.post args r)=True:=eq_true ⟨_,0,0,rfl⟩
attribute [go_sem] lyR_pre lyR_post lyR_ex
theorem szR_half:∀ i:Nat,i < 8→(szR i).tdiv 2=szR ((i + 1:Nat):Int):=by decide
theorem szR_le:∀ i:Nat,i < 9→1≤szR i∧szR i≤256:=by decide
set_option maxHeartbeats 4000000 in
theorem lyRange_ok:Fine Tryd.prog 21 cLyR:=by
 refine fine_of (T:=TT) Tryd.func21 rfl Tryd.ntmps21 (by rw [Tryd.results21]) rfl rfl tt gs_nil ds_nil ?_
 rintro args ⟨n,⟨hn0,hn1⟩,rfl⟩
 refine ⟨by simp,fun k hk E hE Q hQ=>?_⟩
 have hm:n.tmod 9=n % 9:=Int.tmod_eq_emod_of_nonneg hn0
 have hm2:(n * 37).tmod 256=n * 37 % 256:=Int.tmod_eq_emod_of_nonneg (by omega)
 refine Aw_st hE [0,2] [2] fun K hK=>?_
 simp only [go_sem,seval]
 refine hK _ ?_;clear hK K
 refine Aw_st hE [0,2,3] [2] fun K hK=>?_
 simp only [go_sem,seval,hm]
 repeat refine sd0 ?_
 refine hK _ ?_;clear hK K
 refine Aw_st hE [0,2,3,4] [2] fun K hK=>?_
 simp only [go_sem,seval]
 refine hK _ ?_;clear hK K
 refine Aw_sq fun B1 hB1 hR1 hX1=>?_
 refine Aw_st hE [0,2,3,4,5] [2] fun K hK=>?_
 simp only [go_sem,seval]
 refine hK _ ?_;clear hK K
 refine Aw_bk fun B2 hN2 hE2 hR2 hX2=>?_
 refine Aw_lp (fun i:Nat=>⟨24,[(0,iv n),(2,.loc 2 0),(3,iv (n % 9)),(4,iv (szR i)),(5,iv i)],[(2,[iv 0,iv 0])],k⟩) (fun i=>(i:Int)≤n % 9) (fun i=>9 - i) 0 (Le.refl _) (by omega) fun i hi B3 hN3 hR3 hX3=>?_
 have hsz:=szR_le i (by omega)
 refine Aw_sq fun B4 hB4 hR4 hX4=>?_
 refine Aw_st hE [0,2,3,4,5,10] [2] fun K hK=>?_
 simp only [go_sem,seval]
 refine hK _ (Aw_cond rfl (fun hc5=>?_) (fun hc5=>?_))
 ·simp only [dte] at hc5
  have hhf:=szR_half i (by omega)
  have hsz2:=szR_le (i + 1) (by omega)
  refine Aw_skip (hB4 _ ?_)
  refine Aw_sq fun B6 hB6 hR6 hX6=>?_
  refine Aw_bk fun B7 hN7 hE7 hR7 hX7=>?_
  refine Aw_tx hE [0,2,3,4,5] [2] fun K hK=>?_
  simp only [go_sem,seval,hhf]
  repeat refine sd0 ?_
  refine hK _ (hN7 _ (hB6 _ ?_))
  refine Aw_tx hE [0,2,3,4,5] [2] fun K hK=>?_
  simp only [go_sem,seval]
  repeat refine sd0 ?_
  refine hK _ (hN3 (i + 1) _ (by omega) (by omega) (Le.refl _))
 ·refine Aw_exit (hX4 _ _ (hX3 _ _ (hE2 _ (hB1 _ ?_))))
  obtain ⟨t1,t2,t3,t4,t5⟩:=tdiv_szR (n * 37 % 256) i (by omega) (by omega) (by omega) (by omega)
  refine Aw_st hE [2] [2] fun K hK=>?_
  simp only [go_sem,seval,hm2]
  repeat refine sd0 ?_
  refine hK _ (Aw_ret (hQ _ ?_))
  simp only [go_sem,seval]
  exact ⟨_,_,rfl⟩
end Go.Proofs.W
end
