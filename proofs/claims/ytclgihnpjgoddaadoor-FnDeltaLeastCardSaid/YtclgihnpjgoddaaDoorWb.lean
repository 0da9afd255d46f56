/- YtclgihnpjgoddaaDoorWb: part of the proof that laws hold, for every input that the row speaks of (no condition of ours). -/
import Derived.Test.YtclgihnpjgoddaaDoorWa
import Derived.Test.YtclgihnpjgoddaaDoorEc
set_option linter.unusedVariables false
set_option linter.unusedSimpArgs false
section
namespace Go.Proofs.W
open Go Go.Eng Go.RowKit
set_option maxRecDepth 100000
def cK (x r:Rt):Int:=rCmp x.f x.b r.f r.b
def stepP (r:Rt) (s:List Rt × Bool) (x:Rt):List Rt × Bool :=
 ((if !s.2 && decide (0≤cK x r) then s.1++[r] else s.1)++(if cK x r=0 then [] else [x]),s.2 || decide (0≤cK x r))
def foldP (r:Rt) (l:List Rt):List Rt × Bool:=l.foldl (stepP r) ([],false)
def putG (l:List Rt) (r:Rt):List Rt:=(foldP r l).1++(if (foldP r l).2 then [] else [r])
theorem foldP_step {r:Rt} {l:List Rt} {i:Nat} (hi:i < l.length):foldP r (l.take (i + 1))=stepP r (foldP r (l.take i)) l[i]:=by
 unfold foldP
 rw [List.take_succ_eq_append_getElem hi,List.foldl_append];rfl
theorem stepP_len (r:Rt) (s:List Rt × Bool) (x:Rt):(stepP r s x).1.length≤s.1.length + 2:=by
 unfold stepP
 simp only [List.length_append]
 split<;>split<;>simp<;>omega
theorem foldl_len (r:Rt):∀ (l:List Rt) (s:List Rt × Bool),(l.foldl (stepP r) s).1.length≤s.1.length + 2 * l.length
 | [],s=>by simp
 | x::l,s=>by
  rw [List.foldl_cons]
  have h1:=foldl_len r l (stepP r s x)
  have h2:=stepP_len r s x
  rw [List.length_cons];omega
theorem foldP_len (r:Rt) (l:List Rt):(foldP r l).1.length≤2 * l.length:=by
 have:=foldl_len r l ([],false)
 simpa [foldP] using this
theorem cK_neg {x y:Rt}:cK x y < 0↔rlt x y:=rCmp_neg
theorem cK_zero {x y:Rt}:cK x y=0↔key x=key y:=by
 unfold cK;rw [rCmp_z0,key_eq]
theorem foldl_big {r:Rt}:∀ {l o:List Rt},(∀ x ∈ l,rlt r x)→l.foldl (stepP r) (o,true)=(o++l,true)
 | [],o,_=>by simp
 | x::l,o,h=>by
  have hx:=h x (by simp)
  have hn:¬ cK x r=0:=fun e=>rlt_ne hx (cK_zero.1 e).symm
  have e:stepP r (o,true) x=(o++[x],true):=by simp [stepP,hn]
  rw [List.foldl_cons,e,foldl_big fun y hy=>h y (List.mem_cons_of_mem _ hy),List.append_assoc];rfl
theorem foldl_put {r:Rt}:∀ {l o:List Rt},sortR l→(l.foldl (stepP r) (o,false)).1++(if (l.foldl (stepP r) (o,false)).2 then [] else [r])=o++putR l r
 | [],o,_=>by simp [putR]
 | x::l,o,h=>by
  obtain ⟨h1,h2⟩:=List.pairwise_cons.1 h
  rw [List.foldl_cons]
  rcases rlt_or x r with hx | hx | hx
  ·have hc:=cK_neg.2 hx
   have e:stepP r (o,false) x=(o++[x],false):=by
    unfold stepP
    rw [decide_eq_false (show ¬ (0≤cK x r) by omega),if_neg (show ¬ cK x r=0 by omega)]
    simp
   rw [e,foldl_put h2,putR,if_neg (rlt_ne hx),if_pos (rltB.2 hx),List.append_assoc];rfl
  ·have hc:=cK_zero.2 hx
   have e:stepP r (o,false) x=(o++[r],true):=by
    unfold stepP
    rw [hc];simp
   have hb:∀ y ∈ l,rlt r y:=fun y hy=>by
    have:=h1 y hy
    obtain ⟨k1,k2⟩:=key_eq.1 hx
    unfold rlt at this ⊢;rw [← k1,← k2];exact this
   rw [e,foldl_big hb,putR,if_pos hx];simp
  ·have hnl:¬ rlt x r:=fun hl=>by unfold rlt at hx hl;omega
   have hc:¬ cK x r < 0:=fun e=>hnl (cK_neg.1 e)
   have hz:¬ cK x r=0:=fun e=>rlt_ne hx (cK_zero.1 e).symm
   have e:stepP r (o,false) x=(o++[r]++[x],true):=by
    unfold stepP
    rw [decide_eq_true (show 0≤cK x r by omega),if_neg hz];simp
   have hb:∀ y ∈ l,rlt r y:=fun y hy=>rlt_tr hx (h1 y hy)
   have hk:¬ key x=key r:=fun e=>rlt_ne hx e.symm
   rw [e,foldl_big hb,putR,if_neg hk,if_neg (fun h=>hnl (rltB.1 h))];simp
theorem putG_eq {l:List Rt} {r:Rt} (h:sortR l):putG l r=putR l r:=by
 have:=foldl_put (r:=r) (o:=[]) h
 rw [List.nil_append] at this
 exact this
def gPut:List AV→Option (Prop × AV)
 | [.sl _ els,.agg [.v (.int .i64 f),.v (.int .i64 b),.sl _ e1,.v (.int .i64 k),.sl _ e2]]=>(match rtsL els,intsL e1,intsL e2 with
  | some l,some p,some m=>some (smallL l∧p.length≤1000∧m.length≤900,.sl none (rrows (putG l ⟨f,b,p,k,m⟩)))
  | _,_,_=>none)
 | _=>none
def dPut:DFn:={ g:=gPut }
attribute [go_sem] gPut dPut
def putS (l:List Rt) (r:Rt) (k:Nat) (i:Nat) (s:List Rt × Bool):St:=⟨52,[(0,.sl none (rrows l)),(3,.loc 3 0),(5,.sl (some (9,0,36)) (rrows s.1)),(6,bv s.2),(7,iv i)],[(3,[iv r.f,iv r.b,isl r.path,iv r.like,isl r.marks])],k⟩
theorem l23Put_ok:Fine Tryd.prog 37 dPut.con:=by
 refine fine_det (T:=TT) Tryd.func37 rfl Tryd.ntmps37 (by rw [Tryd.results37]) rfl rfl tt (gs_nil) (ds_cons l1Cmp_ok (ds_cons l4Copy_ok ds_nil)) ?_
 intro args c r h hc
 simp only [dPut,gPut] at h
 split at h
 rotate_left
 ·cases h
 split at h
 rotate_left
 ·cases h
 rename_i t els f b t1 e1 kk t2 e2 _ _ _ l p m hrt hl1 hl2
 obtain rfl:=rtsL_eq hrt
 obtain rfl:=intsL_eq hl1
 obtain rfl:=intsL_eq hl2
 obtain ⟨rfl,rfl⟩:=Prod.mk.inj (Option.some.inj h)
 refine ⟨by simp,fun k E hE Q hQ=>?_⟩
 obtain ⟨⟨hll,hsm⟩,hp,hm⟩:=hc
 have hp':p.length≤1000000:=by omega
 have hm':m.length≤1000000:=by omega
 refine Aw_st hE [0,3] [3] fun K hK=>?_
 simp only [go_sem,seval]
 refine hK _ ?_;clear hK K
 refine Aw_st hE [0,3,5] [3] fun K hK=>?_
 simp only [go_sem,seval]
 refine hK _ ?_;clear hK K
 refine Aw_st hE [0,3,5,6] [3] fun K hK=>?_
 simp only [go_sem,seval]
 refine hK _ ?_;clear hK K
 refine Aw_sq fun B1 hB1 hR1 hX1=>?_
 refine Aw_st hE [0,3,5,6,7] [3] fun K hK=>?_
 simp only [go_sem,seval]
 refine hK _ ?_;clear hK K
 refine Aw_bk fun B2 hN2 hE2 hR2 hX2=>?_
 refine Aw_lp (fun i:Nat=>putS l ⟨f,b,p,kk,m⟩ k i (foldP ⟨f,b,p,kk,m⟩ (l.take i))) (fun i=>i≤l.length) (fun i=>l.length - i) 0 (Le_wk (by first | omega | (dsimp only;omega) | (simp only;omega) | (simp;omega)) (by simp only [go_sem,seval];exact ⟨rfl,rfl⟩) (by simp only [go_sem,seval])) (by omega) fun i hi B3 hN3 hR3 hX3=>?_
 have hfl:=foldP_len ⟨f,b,p,kk,m⟩ (l.take i)
 have htl:(l.take i).length≤i:=by rw [List.length_take];omega
 have hst:=foldP_step (r:=⟨f,b,p,kk,m⟩) (l:=l) (i:=i)
 have hend:i=l.length→foldP ⟨f,b,p,kk,m⟩ (l.take i)=foldP ⟨f,b,p,kk,m⟩ l:=fun e=>by rw [e,List.take_length]
 generalize foldP ⟨f,b,p,kk,m⟩ (l.take i)=s at hfl hst hend ⊢
 obtain ⟨out,put⟩:=s
 simp only at hfl
 simp only [putS]
 refine Aw_sq fun B4 hB4 hR4 hX4=>?_
 refine Aw_st hE [0,3,5,6,7,13] [3] fun K hK=>?_
 simp only [go_sem,seval]
 refine hK _ (Aw_cond rfl (fun hc5=>?_) (fun hc5=>?_))
 ·simp only [dte] at hc5
  have hil:i < l.length:=by omega
  have hg:=rrows_at l i hil
  have hst:=hst hil
  generalize l[i]=x at hg hst
  obtain ⟨xf,xb,xp,xk,xm⟩:=x
  refine Aw_skip (hB4 _ ?_)
  refine Aw_sq fun B6 hB6 hR6 hX6=>?_
  refine Aw_bk fun B7 hN7 hE7 hR7 hX7=>?_
  refine Aw_sd hE [0,3,5,6,7,8] [3] 6 (by kernel_rfl) fun K hK=>?_
  simp only [go_sem,seval,hg]
  repeat refine sd0 ?_
  refine hK _ ?_;clear hK K
  refine Aw_sq fun B8 hB8 hR8 hX8=>?_
  cases put with
  | true =>
   have hcs:True:=trivial
   refine Aw_st hE [0,3,5,6,7,8,29] [3] fun K hK=>?_
   simp only [go_sem,seval]
   repeat refine sd0 ?_
   refine hK _ (Aw_no rfl (Aw_skip (hB8 _ ?_)))
   refine Aw_st hE [0,3,5,6,7,36] [3] fun K hK=>?_
   simp only [go_sem,seval]
   refine hK _ (Aw_cond rfl (fun hc12=>?_) (fun hc12=>?_))
   ·have hz:¬ rCmp xf xb f b=0:=by simpa using hc12
    refine Aw_tx hE [0,3,5,6,7] [3] fun K hK=>?_
    simp only [go_sem,seval,hg,rrows_one]
    refine ⟨by omega,⟨rrows_row _,by (try simp only [List.length_append,List.length_singleton]);omega⟩,?_⟩
    refine hK _ (hN7 _ (hB6 _ ?_))
    refine Aw_tx hE [0,3,5,6,7] [3] fun K hK=>?_
    simp only [go_sem,seval]
    repeat refine sd0 ?_
    refine hK _ (hN3 (i + 1) _ (by omega) (by omega) ?_)
    have hs':stepP ⟨f,b,p,kk,m⟩ (out,true) ⟨xf,xb,xp,xk,xm⟩=(out++[⟨xf,xb,xp,xk,xm⟩],true):=by simp [stepP,cK,hz,hcs]
    rw [hst.trans hs']
    exact Le_tk 43 9 rfl
   ·have hz:rCmp xf xb f b=0:=by simpa using hc12
    refine Aw_skip (hN7 _ (hB6 _ ?_))
    refine Aw_tx hE [0,3,5,6,7] [3] fun K hK=>?_
    simp only [go_sem,seval]
    repeat refine sd0 ?_
    refine hK _ (hN3 (i + 1) _ (by omega) (by omega) ?_)
    have hs':stepP ⟨f,b,p,kk,m⟩ (out,true) ⟨xf,xb,xp,xk,xm⟩=(out,true):=by simp [stepP,cK,hz,hcs]
    rw [hst.trans hs']
    exact Le.refl _
  | false =>
   by_cases hcs:0≤rCmp xf xb f b
   ·have d1:decide (0≤rCmp xf xb f b)=true:=decide_eq_true hcs
    refine Aw_st hE [0,3,5,6,7,8,29] [3] fun K hK=>?_
    simp only [go_sem,seval,d1]
    repeat refine sd0 ?_
    refine hK _ (Aw_yes rfl ?_)
    refine Aw_st hE [0,3,5,7,8] [3] fun K hK=>?_
    simp only [go_sem,seval,rrows_one]
    refine ⟨⟨hp',hm'⟩,⟨rrows_row _,by omega⟩,?_⟩
    refine hK _ ?_;clear hK K
    refine Aw_tx hE [0,3,5,6,7,8] [3] fun K hK=>?_
    simp only [go_sem,seval]
    refine hK _ (hB8 _ ?_)
    refine Aw_st hE [0,3,5,6,7,36] [3] fun K hK=>?_
    simp only [go_sem,seval]
    refine hK _ (Aw_cond rfl (fun hc12=>?_) (fun hc12=>?_))
    ·have hz:¬ rCmp xf xb f b=0:=by simpa using hc12
     refine Aw_tx hE [0,3,5,6,7] [3] fun K hK=>?_
     simp only [go_sem,seval,hg,rrows_one]
     refine ⟨by omega,⟨rrows_row _,by (try simp only [List.length_append,List.length_singleton]);omega⟩,?_⟩
     refine hK _ (hN7 _ (hB6 _ ?_))
     refine Aw_tx hE [0,3,5,6,7] [3] fun K hK=>?_
     simp only [go_sem,seval]
     repeat refine sd0 ?_
     refine hK _ (hN3 (i + 1) _ (by omega) (by omega) ?_)
     have hs':stepP ⟨f,b,p,kk,m⟩ (out,false) ⟨xf,xb,xp,xk,xm⟩=(out++[⟨f,b,p,kk,m⟩]++[⟨xf,xb,xp,xk,xm⟩],true):=by simp [stepP,cK,hz,hcs]
     rw [hst.trans hs']
     exact Le_tk 43 9 rfl
    ·have hz:rCmp xf xb f b=0:=by simpa using hc12
     refine Aw_skip (hN7 _ (hB6 _ ?_))
     refine Aw_tx hE [0,3,5,6,7] [3] fun K hK=>?_
     simp only [go_sem,seval]
     repeat refine sd0 ?_
     refine hK _ (hN3 (i + 1) _ (by omega) (by omega) ?_)
     have hs':stepP ⟨f,b,p,kk,m⟩ (out,false) ⟨xf,xb,xp,xk,xm⟩=(out++[⟨f,b,p,kk,m⟩],true):=by simp [stepP,cK,hz,hcs]
     rw [hst.trans hs']
     exact Le_tk 34 9 rfl
   ·have d1:decide (0≤rCmp xf xb f b)=false:=decide_eq_false hcs
    refine Aw_st hE [0,3,5,6,7,8,29] [3] fun K hK=>?_
    simp only [go_sem,seval,d1]
    repeat refine sd0 ?_
    refine hK _ (Aw_no rfl (Aw_skip (hB8 _ ?_)))
    refine Aw_st hE [0,3,5,6,7,36] [3] fun K hK=>?_
    simp only [go_sem,seval]
    refine hK _ (Aw_cond rfl (fun hc12=>?_) (fun hc12=>?_))
    ·have hz:¬ rCmp xf xb f b=0:=by simpa using hc12
     refine Aw_tx hE [0,3,5,6,7] [3] fun K hK=>?_
     simp only [go_sem,seval,hg,rrows_one]
     refine ⟨by omega,⟨rrows_row _,by (try simp only [List.length_append,List.length_singleton]);omega⟩,?_⟩
     refine hK _ (hN7 _ (hB6 _ ?_))
     refine Aw_tx hE [0,3,5,6,7] [3] fun K hK=>?_
     simp only [go_sem,seval]
     repeat refine sd0 ?_
     refine hK _ (hN3 (i + 1) _ (by omega) (by omega) ?_)
     have hs':stepP ⟨f,b,p,kk,m⟩ (out,false) ⟨xf,xb,xp,xk,xm⟩=(out++[⟨xf,xb,xp,xk,xm⟩],false):=by simp [stepP,cK,hz,hcs]
     rw [hst.trans hs']
     exact Le_tk 43 9 rfl
    ·have hz:rCmp xf xb f b=0:=by simpa using hc12
     omega
 ·simp only [dfn] at hc5
  have hst:=hend (by omega)
  refine Aw_exit (hX4 _ _ (hX3 _ _ (hE2 _ (hB1 _ ?_))))
  refine Aw_sq fun B15 hB15 hR15 hX15=>?_
  cases put with
  | true =>
   refine Aw_st hE [3,5,45] [3] fun K hK=>?_
   simp only [go_sem,seval]
   refine hK _ (Aw_no rfl (Aw_skip (hB15 _ ?_)))
   refine Aw_st hE [4] [] fun K hK=>?_
   simp only [go_sem,seval]
   refine hK _ (Aw_ret (hQ _ ?_))
   simp only [go_sem,seval,putG,← hst,List.append_nil]
  | false =>
   refine Aw_st hE [3,5,45] [3] fun K hK=>?_
   simp only [go_sem,seval]
   refine hK _ (Aw_yes rfl ?_)
   refine Aw_tx hE [5] [] fun K hK=>?_
   simp only [go_sem,seval,rrows_one]
   refine ⟨⟨hp',hm'⟩,⟨rrows_row _,by omega⟩,?_⟩
   refine hK _ (hB15 _ ?_)
   refine Aw_st hE [4] [] fun K hK=>?_
   simp only [go_sem,seval]
   refine hK _ (Aw_ret (hQ _ ?_))
   simp only [go_sem,seval,putG,← hst]
theorem atR_neg {l:List Rt} {f b:Int}:(look l (f,b)).isNone=decide (atR l f b < 0):=by
 rcases atR_look l f b with ⟨h1,h2⟩ | ⟨i,h,h1,h2⟩
 ·rw [h1,h2];rfl
 ·rw [h1,h2,decide_eq_false (by omega)];rfl
theorem tellsU_yes {a b:List Rt} {i:Nat} (hi:i < b.length) (h:look a (key b[i])=some b[i]):tellsU a b (i + 1)=tellsU a b i:=by
 rw [tellsU_step hi,if_pos h,List.append_nil]
theorem tellsU_no {a b:List Rt} {i:Nat} (hi:i < b.length) (h:¬ look a (key b[i])=some b[i]):tellsU a b (i + 1)=tellsU a b i++[b[i]]:=by
 rw [tellsU_step hi,if_neg h]
def dS (a b:List Rt) (k i:Nat) (j:Option Nat):St:=⟨83,(0,.sl none (rrows a))::(1,.sl none (rrows b))::(4,.loc 4 0)::(5,.loc 5 0)::(match j with | none=>[(6,iv i)] | some j=>[(7,iv j)]),[(4,[.nl,.nl]),(5,[.sl (some (9,0,33)) (krows (dropsU a b i)),.sl (some (10,0,36)) (rrows (tellsU a b (j.getD 0)))])],k⟩
set_option maxHeartbeats 4000000 in
theorem sDeltaOf_ok:Fine Tryd.prog 12 dDelta.con:=by
 refine fine_det (T:=TT) Tryd.func12 rfl Tryd.ntmps12 (by rw [Tryd.results12]) rfl rfl tt (gs_nil) (ds_cons sRoutesOk_ok (ds_cons l23At_ok (ds_cons l4Cmp_ok (ds_cons l4Copy_ok ds_nil)))) ?_
 intro args c r h hc
 simp only [dDelta,gDelta] at h
 split at h
 rotate_left
 ·cases h
 split at h
 rotate_left
 ·cases h
 rename_i ta e1 tb e2 _ _ a b hrt1 hrt2
 obtain rfl:=rtsL_eq hrt1
 obtain rfl:=rtsL_eq hrt2
 obtain ⟨rfl,rfl⟩:=Prod.mk.inj (Option.some.inj h)
 refine ⟨by simp,fun k E hE Q hQ=>?_⟩
 obtain ⟨hca,hcb⟩:=hc
 have hal:=hca.1
 have hbl:=hcb.1
 refine Aw_st hE [0,1,4] [4,5] fun K hK=>?_
 simp only [go_sem,seval]
 refine hK _ ?_;clear hK K
 refine Aw_st hE [0,1,4,5] [4,5] fun K hK=>?_
 simp only [go_sem,seval]
 refine hK _ ?_;clear hK K
 refine Aw_sq fun B1 hB1 hR1 hX1=>?_
 cases hoa:routesOk a with
 | false =>
  have hd:dropsB a b=[]:=by unfold dropsB;rw [hoa];rfl
  have ht:tellsB a b=[]:=by unfold tellsB;rw [hoa];rfl
  refine Aw_st hE [0,1,4,5,19] [4,5] fun K hK=>?_
  simp only [go_sem,seval,hoa]
  refine ⟨hca,?_⟩
  refine hK _ (Aw_yes rfl ?_)
  refine Aw_st hE [4] [4,5] fun K hK=>?_
  simp only [go_sem,seval]
  refine hK _ (Aw_ret (hR1 _ (hQ _ ?_)))
  simp only [go_sem,seval,hd,ht]
 | true =>
 cases hob:routesOk b with
 | false =>
  have hd:dropsB a b=[]:=by unfold dropsB;rw [hoa,hob];rfl
  have ht:tellsB a b=[]:=by unfold tellsB;rw [hoa,hob];rfl
  refine Aw_st hE [0,1,4,5,19] [4,5] fun K hK=>?_
  simp only [go_sem,seval,hoa,hob]
  refine ⟨hca,hcb,?_⟩
  refine hK _ (Aw_yes rfl ?_)
  refine Aw_st hE [4] [4,5] fun K hK=>?_
  simp only [go_sem,seval]
  refine hK _ (Aw_ret (hR1 _ (hQ _ ?_)))
  simp only [go_sem,seval,hd,ht]
 | true =>
 have hd:dropsB a b=dropsF a b:=by unfold dropsB;rw [hoa,hob];rfl
 have ht:tellsB a b=tellsF a b:=by unfold tellsB;rw [hoa,hob];rfl
 refine Aw_st hE [0,1,4,5,19] [4,5] fun K hK=>?_
 simp only [go_sem,seval,hoa,hob]
 refine ⟨hca,hcb,?_⟩
 refine hK _ (Aw_no rfl (Aw_skip (hB1 _ ?_)))
 refine Aw_sq fun B5 hB5 hR5 hX5=>?_
 refine Aw_st hE [0,1,4,5,6] [4,5] fun K hK=>?_
 simp only [go_sem,seval]
 refine hK _ ?_;clear hK K
 refine Aw_bk fun B6 hN6 hE6 hR6 hX6=>?_
 refine Aw_lp (fun i:Nat=>dS a b k i none) (fun i=>i≤a.length) (fun i=>a.length - i) 0 (Le_wk (by first | omega | (dsimp only;omega) | (simp only;omega) | (simp;omega)) (by simp only [go_sem,seval]) (by simp only [go_sem,seval];exact ⟨rfl,rfl⟩)) (by omega) fun i hi B7 hN7 hR7 hX7=>?_
 have hDl:=dropsU_len a b i
 simp only [dS]
 refine Aw_sq fun B8 hB8 hR8 hX8=>?_
 refine Aw_st hE [0,1,4,5,6,24] [4,5] fun K hK=>?_
 simp only [go_sem,seval]
 refine hK _ (Aw_cond rfl (fun hc9=>?_) (fun hc9=>?_))
 ·simp only [dte] at hc9
  have hil:i < a.length:=by omega
  have hg:=rrows_at a i hil
  have hst:=dropsU_step (b:=b) hil
  generalize a[i]=x at hg hst
  obtain ⟨xf,xb,xp,xk,xm⟩:=x
  simp only [key,atR_neg] at hst
  refine Aw_skip (hB8 _ ?_)
  refine Aw_sq fun B10 hB10 hR10 hX10=>?_
  refine Aw_bk fun B11 hN11 hE11 hR11 hX11=>?_
  refine Aw_st hE [0,1,4,5,6,34] [4,5] fun K hK=>?_
  simp only [go_sem,seval,hg]
  repeat refine sd0 ?_
  refine hK _ (Aw_cond rfl (fun hc12=>?_) (fun hc12=>?_))
  ·rw [hc12,if_pos rfl] at hst
   refine Aw_td hE [0,1,4,5,6] [4,5] 6 (by kernel_rfl) fun K hK=>?_
   simp only [go_sem,seval,hg,krows_one]
   refine ⟨by omega,⟨krows_row _,by omega⟩,?_⟩
   refine hK _ (hN11 _ (hB10 _ ?_))
   refine Aw_tx hE [0,1,4,5,6] [4,5] fun K hK=>?_
   simp only [go_sem,seval]
   repeat refine sd0 ?_
   refine hK _ (hN7 (i + 1) _ (by omega) (by omega) ?_)
   simp only [dS]
   rw [hst]
   exact Le_tk 43 9 rfl
  ·rw [hc12,if_neg (by simp),List.append_nil] at hst
   refine Aw_skip (hN11 _ (hB10 _ ?_))
   refine Aw_tx hE [0,1,4,5,6] [4,5] fun K hK=>?_
   simp only [go_sem,seval]
   repeat refine sd0 ?_
   refine hK _ (hN7 (i + 1) _ (by omega) (by omega) ?_)
   simp only [dS]
   rw [hst]
   exact Le.refl _
 ·simp only [dfn] at hc9
  obtain rfl:i=a.length:=by omega
  refine Aw_exit (hX8 _ _ (hX7 _ _ (hE6 _ (hB5 _ ?_))))
  refine Aw_sq fun B13 hB13 hR13 hX13=>?_
  refine Aw_st hE [0,1,4,5,7] [4,5] fun K hK=>?_
  simp only [go_sem,seval]
  refine hK _ ?_;clear hK K
  refine Aw_bk fun B14 hN14 hE14 hR14 hX14=>?_
  refine Aw_lp (fun i:Nat=>dS a b k a.length (some i)) (fun i=>i≤b.length) (fun i=>b.length - i) 0 (Le.refl _) (by omega) fun i hi B15 hN15 hR15 hX15=>?_
  have hTl:=tellsU_len a b i
  simp only [dS,Option.getD_some]
  refine Aw_sq fun B16 hB16 hR16 hX16=>?_
  refine Aw_st hE [0,1,4,5,7,48] [4,5] fun K hK=>?_
  simp only [go_sem,seval]
  refine hK _ (Aw_cond rfl (fun hc17=>?_) (fun hc17=>?_))
  ·simp only [dte] at hc17
   have hil:i < b.length:=by omega
   have hg:=rrows_at b i hil
   obtain ⟨hxp,hxm⟩:=smallR_at hcb i hil
   have hsty:=fun h=>tellsU_yes (a:=a) hil h
   have hstn:=fun h=>tellsU_no (a:=a) hil h
   generalize b[i]=x at hg hsty hstn hxp hxm
   obtain ⟨xf,xb,xp,xk,xm⟩:=x
   simp only at hxp hxm
   have hxp':xp.length≤1000000:=by omega
   have hxm':xm.length≤1000000:=by omega
   refine Aw_skip (hB16 _ ?_)
   refine Aw_sq fun B18 hB18 hR18 hX18=>?_
   refine Aw_bk fun B19 hN19 hE19 hR19 hX19=>?_
   refine Aw_st hE [0,1,4,5,7,8] [4,5] fun K hK=>?_
   simp only [go_sem,seval,hg]
   repeat refine sd0 ?_
   refine hK _ ?_;clear hK K
   rcases atR_look a xf xb with ⟨h1,h2⟩ | ⟨j,hj,h1,h2⟩
   ·have hst:=hstn (show ¬ look a (xf,xb)=some _ by rw [h2];simp)
    rw [h1]
    refine Aw_sd hE [0,1,4,5,7,71] [4,5] 6 (by kernel_rfl) fun K hK=>?_
    simp only [go_sem,seval]
    refine ⟨fun _=>?_,fun h=>absurd h (by simp)⟩
    refine hK _ (Aw_yes rfl ?_)
    refine Aw_td hE [0,1,4,5,7] [4,5] 6 (by kernel_rfl) fun K hK=>?_
    simp only [go_sem,seval,hg,rrows_one]
    refine ⟨by omega,⟨hxp',hxm'⟩,⟨rrows_row _,by omega⟩,?_⟩
    refine hK _ (hN19 _ (hB18 _ ?_))
    refine Aw_tx hE [0,1,4,5,7] [4,5] fun K hK=>?_
    simp only [go_sem,seval]
    repeat refine sd0 ?_
    refine hK _ (hN15 (i + 1) _ (by omega) (by omega) ?_)
    simp only [dS,Option.getD_some]
    rw [hst]
    exact Le_tk 80 10 rfl
   ·rw [h1]
    have hgj:=rrows_at a j hj
    obtain ⟨hyp,hym⟩:=smallR_at hca j hj
    have h2:look a (xf,xb)=some a[j]:=h2
    generalize a[j]=y at hgj h2 hyp hym
    have hsame:=rtCmp_same (x:=y) (y:=⟨xf,xb,xp,xk,xm⟩)
    obtain ⟨yf,yb,yp,yk,ym⟩:=y
    simp only at hyp hym hsame
    have dj:decide ((j:Int) < 0)=false:=decide_eq_false (by omega)
    have hln:(yp.length≤4294967296∧xp.length≤4294967296)∧ym.length≤4294967296∧xm.length≤4294967296:=by omega
    by_cases he:rtCmp yf yb yp yk ym xf xb xp xk xm=0
    ·have hst:=hsty (show look a (xf,xb)=some _ by rw [h2,hsame.1 he])
     have d1:decide (rtCmp yf yb yp yk ym xf xb xp xk xm=0)=true:=decide_eq_true he
     refine Aw_sd hE [0,1,4,5,7,71] [4,5] 6 (by kernel_rfl) fun K hK=>?_
     simp only [go_sem,seval,hg,hgj,dj,d1,he]
     repeat refine sd0 ?_
     refine hK _ (Aw_no rfl (Aw_skip (hN19 _ (hB18 _ ?_))))
     refine Aw_tx hE [0,1,4,5,7] [4,5] fun K hK=>?_
     simp only [go_sem,seval]
     repeat refine sd0 ?_
     refine hK _ (hN15 (i + 1) _ (by omega) (by omega) ?_)
     simp only [dS,Option.getD_some]
     rw [hst]
     exact Le.refl _
    ·have hst:=hstn (show ¬ look a (xf,xb)=some _ by rw [h2];exact fun e=>he (hsame.2 (Option.some.inj e)))
     have d1:decide (rtCmp yf yb yp yk ym xf xb xp xk xm=0)=false:=decide_eq_false he
     refine Aw_sd hE [0,1,4,5,7,71] [4,5] 6 (by kernel_rfl) fun K hK=>?_
     simp only [go_sem,seval,hg,hgj,dj,d1,he]
     repeat refine sd0 ?_
     refine hK _ (Aw_yes rfl ?_)
     refine Aw_td hE [0,1,4,5,7] [4,5] 6 (by kernel_rfl) fun K hK=>?_
     simp only [go_sem,seval,hg,rrows_one]
     refine ⟨by omega,⟨hxp',hxm'⟩,⟨rrows_row _,by omega⟩,?_⟩
     refine hK _ (hN19 _ (hB18 _ ?_))
     refine Aw_tx hE [0,1,4,5,7] [4,5] fun K hK=>?_
     simp only [go_sem,seval]
     repeat refine sd0 ?_
     refine hK _ (hN15 (i + 1) _ (by omega) (by omega) ?_)
     simp only [dS,Option.getD_some]
     rw [hst]
     exact Le_tk 80 10 rfl
  ·simp only [dfn] at hc17
   obtain rfl:i=b.length:=by omega
   have e1:dropsU a b a.length=dropsF a b:=by unfold dropsU;rw [List.take_length]
   have e2:tellsU a b b.length=tellsF a b:=by unfold tellsU;rw [List.take_length]
   rw [e1,e2]
   refine Aw_exit (hX16 _ _ (hX15 _ _ (hE14 _ (hB13 _ ?_))))
   refine Aw_st hE [4] [4,5] fun K hK=>?_
   simp only [go_sem,seval]
   refine hK _ (Aw_ret (hQ _ ?_))
   simp only [go_sem,seval,hd,ht]
def gPAll:List AV→Option (Prop × AV)
 | [.sl _ e1,.sl _ e2]=>(match clsL e1,rtsL e2 with
  | some l,some rs=>some ((l.length≤1000000∧rs.length≤1000000)∧∀ r ∈ rs,r.path.length≤1000000∧r.marks.length≤1000,.sl none (rrows (polAll l rs)))
  | _,_=>none)
 | _=>none
def dPAll:DFn:={ g:=gPAll }
attribute [go_sem] gPAll dPAll
structure Gt where
 r:Rt
 old:Bool
def Gt.row (g:Gt):List DV:=[.v (.int .i64 g.r.f),.v (.int .i64 g.r.b),.sl (rows g.r.path),.v (.int .i64 g.r.like),.sl (rows g.r.marks),.v (.bool g.old)]
def grows (l:List Gt):List (List DV):=l.map Gt.row
structure Rb where
 h:Int
 up:Bool
 all:List Gt
abbrev Rb.av (b:Rb):AV:=.agg [iv b.h,bv b.up,.sl none (grows b.all)]
def gotsL:List (List DV)→Option (List Gt)
 | []=>some []
 | [.v (.int .i64 f),.v (.int .i64 b),.sl e1,.v (.int .i64 like),.sl e2,.v (.bool old)]::l=>match intsL e1,intsL e2,gotsL l with
  | some p,some m,some r=>some (⟨⟨f,b,p,like,m⟩,old⟩::r)
  | _,_,_=>none
 | _=>none
theorem grows_nil:grows []=[]:=rfl
theorem grows_cons (c:Gt) (l:List Gt):grows (c::l)=c.row::grows l:=rfl
theorem gotsL_rows (l:List Gt):gotsL (grows l)=some l:=by
 induction l with
 | nil=>rfl
 | cons n l ih=>simp only [grows_cons,Gt.row,gotsL,ih,intsL_rows]
theorem grows_len (l:List Gt):(grows l).length=l.length:=by simp [grows]
theorem grows_app (a b:List Gt):grows a++grows b=grows (a++b):=by simp [grows]
attribute [go_sem] gotsL_rows grows_len grows_nil grows_app Gt.row
def gotOk (h:Int) (up:Bool):Option Gt→Gt→Bool
 | q,g=>okR g.r && (decide (g.r.path.head? = some h) && ((up || g.old) && (match q with | none=>true | some q=>decide (rCmp q.r.f q.r.b g.r.f g.r.b < 0))))
def allG (h:Int) (up:Bool):Option Gt→List Gt→Bool
 | _,[]=>true
 | q,g::l=>gotOk h up q g && allG h up (some g) l
def ribOk (b:Rb):Bool:=isH b.h && (decide (b.all.length≤6) && allG b.h b.up none b.all)
def sameRg (f b:Int) (g:Gt):Bool:=decide (g.r.f=f) && decide (g.r.b=b)
def atG (l:List Gt) (f b:Int):Int:=idxB (sameRg f b) l 0
def lensG (l:List Gt):Prop:=∀ g ∈ l,g.r.path.length≤1000∧g.r.marks.length≤900
def gRibOk:List AV→Option (Prop × AV) | [.agg [.v (.int .i64 h),.v (.bool up),.sl _ els]]=>(match gotsL els with | some l=>some (l.length≤1000000∧lensG l,bv (ribOk ⟨h,up,l⟩)) | none=>none) | _=>none
def dRibOk:DFn:={ g:=gRibOk }
def gAt:List AV→Option (Prop × AV) | [.agg [.v (.int .i64 _),.v (.bool _),.sl _ els],.agg [.v (.int .i64 f),.v (.int .i64 b)]]=>(match gotsL els with | some l=>some (l.length≤1000000,iv (atG l f b)) | none=>none) | _=>none
def dAt:DFn:={ g:=gAt }
attribute [go_sem] gRibOk dRibOk gAt dAt

def gcs (g:Gt):List AV:=[iv g.r.f,iv g.r.b,isl g.r.path,iv g.r.like,isl g.r.marks,bv g.old]
def cGs:List Gt→List AV
 | []=>[]
 | g::l=>gcs g++cGs l
theorem setL_app:∀ (xs a b:List AV),xs.length≤b.length→setL (a++b) a.length xs=a++(xs++b.drop xs.length)
 | [],a,b,_=>rfl
 | x::xs,a,[],h=>by simp at h
 | x::xs,a,y::b,h=>by
  have e:(a++y::b).set a.length x=(a++[x])++b:=by simp
  have ih:=setL_app xs (a++[x]) b (by simpa using h)
  rw [List.length_append,List.length_singleton] at ih
  rw [setL,e,ih]
  simp
def copyGs (h:Int) (up:Bool) (l:List Gt) (K:AV→List (Nat × List AV)→Prop):Prop :=
 (l=[]→K (.agg [iv h,bv up,.xs 9 0 0 0 6]) [(2,[iv h,bv up,.xs 9 0 0 0 6]),(9,[])])∧
 (l≠[]→∀ cap,l.length≤cap→K (.agg [iv h,bv up,.xs 35 0 l.length cap 6]) [(2,[iv h,bv up,.xs 35 0 l.length cap 6]),(9,[]),(35,cGs l++jk ((cap - l.length) * 6))])
def cL21:ConM:={
 pre:=fun args m1=>∃ (h:Int) (up:Bool) (l:List Gt),args=[.agg [iv h,bv up,.sl none (grows l)]]∧m1=[]∧l.length≤1000∧lensG l
 post:=fun args _ r m2=>∀ (h:Int) (up:Bool) (l:List Gt),args=[.agg [iv h,bv up,.sl none (grows l)]]→∀ K:AV→List (Nat × List AV)→Prop,copyGs h up l K→K r m2 }
theorem rbav_inj {h h':Int} {up up':Bool} {l l':List Gt} (e:[AV.agg [iv h,bv up,.sl none (grows l)]]=[AV.agg [iv h',bv up',.sl none (grows l')]]):h=h'∧up=up'∧l=l':=by
 simp only [List.cons.injEq,AV.agg.injEq,AV.v.injEq,Value.int.injEq,Value.bool.injEq,AV.sl.injEq,true_and,and_true] at e
 refine ⟨e.1,e.2.1,?_⟩
 have:=congrArg gotsL e.2.2
 rw [gotsL_rows,gotsL_rows] at this
 exact Option.some.inj this
theorem l21_pre (h:Int) (up:Bool) (l:List Gt):cL21.pre [.agg [iv h,bv up,.sl none (grows l)]] []=(l.length≤1000∧lensG l):=by
 apply propext
 constructor
 ·rintro ⟨h',up',l',e,_,h2⟩
  obtain ⟨rfl,rfl,rfl⟩:=rbav_inj e
  exact h2
 ·exact fun hh=>⟨h,up,l,rfl,rfl,hh⟩
theorem l21_post (h:Int) (up:Bool) (l:List Gt) (m1:List (Nat × List AV)) (K:AV→List (Nat × List AV)→Prop):(∀ r m2,cL21.post [.agg [iv h,bv up,.sl none (grows l)]] m1 r m2→K r m2)=copyGs h up l K:=by
 apply propext
 constructor
 ·intro hh
  refine ⟨fun hl=>hh _ _ ?_,fun hl cap hc=>hh _ _ ?_⟩
  all_goals
   intro h' up' l' e K' hK'
   obtain ⟨rfl,rfl,rfl⟩:=rbav_inj e
   first | exact hK'.1 hl | exact hK'.2 hl cap hc
 ·exact fun hh r m2 hp=>hp h up l rfl K hh
attribute [go_sem] l21_pre l21_post copyGs
def gRibUp:List AV→Option (Prop × AV)
 | [.agg [.v (.int .i64 h),.v (.bool up),.sl _ els]]=>(match gotsL els with
  | some l=>some (l.length≤1000∧lensG l,if ribOk ⟨h,up,l⟩ then .agg [iv h,bv true,.sl none (grows l)] else .agg [iv 0,bv false,.sl none (grows [])])
  | none=>none)
 | _=>none
def dRibUp:DFn:={ g:=gRibUp }
attribute [go_sem] gRibUp dRibUp
def oldG (g:Gt):Gt:=⟨g.r,true⟩
def gRibDown:List AV→Option (Prop × AV)
 | [.agg [.v (.int .i64 h),.v (.bool up),.sl _ els],.v (.bool g)]=>(match gotsL els with
  | some l=>some (l.length≤1000∧lensG l,if ribOk ⟨h,up,l⟩ then .agg [iv h,bv false,.sl none (grows (if g then l.map oldG else []))] else .agg [iv 0,bv false,.sl none (grows [])])
  | none=>none)
 | _=>none
def dRibDown:DFn:={ g:=gRibDown }
attribute [go_sem] gRibDown dRibDown
def newG (g:Gt):Gt:=⟨g.r,false⟩
def endL:List Gt→List Gt
 | []=>[]
 | g::l=>(if g.old then [] else [newG g])++endL l
def gRibEnd:List AV→Option (Prop × AV)
 | [.agg [.v (.int .i64 h),.v (.bool up),.sl _ els]]=>(match gotsL els with
  | some l=>some (l.length≤1000∧lensG l,if ribOk ⟨h,up,l⟩ then .agg [iv h,bv up,.sl none (grows (endL l))] else .agg [iv 0,bv false,.sl none (grows [])])
  | none=>none)
 | _=>none
def dRibEnd:DFn:={ g:=gRibEnd }
attribute [go_sem] gRibEnd dRibEnd
def telStep (x:Rt) (s:List Gt × Bool) (g:Gt):List Gt × Bool :=
 if !s.2 && decide (0 < rCmp g.r.f g.r.b x.f x.b) then (s.1++[⟨x,false⟩]++[g],true) else (s.1++[g],s.2)
def telG (x:Rt) (l:List Gt):List Gt × Bool:=l.foldl (telStep x) ([],false)
def telL (x:Rt) (l:List Gt):List Gt:=if (telG x l).2 then (telG x l).1 else (telG x l).1++[⟨x,false⟩]
def telR (b : Rb) (x : Rt) : AV :=
  if ribOk b && (okR x && decide (x.path.head? = some b.h)) then
    (if !b.up || (decide (atG b.all x.f x.b < 0) && decide (6 ≤ b.all.length)) then .tup [b.av, bv false]
     else if decide (0 ≤ atG b.all x.f x.b) then .tup [(⟨b.h, b.up, b.all.set (atG b.all x.f x.b).toNat ⟨x, false⟩⟩ : Rb).av, bv true]
     else .tup [(⟨b.h, b.up, telL x b.all⟩ : Rb).av, bv true])
  else .tup [.agg [iv 0, bv false, .sl none (grows [])], bv false]
def gRibTell:List AV→Option (Prop × AV)
 | [.agg [.v (.int .i64 h),.v (.bool up),.sl _ els],.agg [.v (.int .i64 f),.v (.int .i64 b),.sl _ e1,.v (.int .i64 k),.sl _ e2]]=>(match gotsL els,intsL e1,intsL e2 with
  | some l,some p,some m=>some ((l.length≤1000∧lensG l)∧p.length≤1000∧m.length≤900,telR ⟨h,up,l⟩ ⟨f,b,p,k,m⟩)
  | _,_,_=>none)
 | _=>none
def dRibTell:DFn:={ g:=gRibTell }
attribute [go_sem] gRibTell dRibTell
theorem Le_ks {st:St} (Ls Lm:List Nat):Le st (st.keep Ls Lm) :=
 Le_of (fun x=>by rw [lk_kps];split;exact .inl rfl;exact .inr rfl) (fun k ls hk=>lkm_kpm k _ Lm ls hk)
theorem swbAll_app (d d':Nat) (a b:List AV):AV.swbAll d d' (a++b)=AV.swbAll d d' a++AV.swbAll d d' b:=by simp only [AV.swbAll_eq,List.map_append]
theorem swbAll_jk (d d' n:Nat):AV.swbAll d d' (List.replicate n .junk)=List.replicate n .junk:=by simp only [AV.swbAll_eq,List.map_replicate,AV.swb]
theorem Le_kb {st st':St} (L:List Nat) (h:({ st with m:=kpm L st.m }:St)=st'):Le st st':=by
 subst h
 exact Le_of (fun x=>.inl rfl) (fun k ls hk=>lkm_kpm k _ L ls hk)
theorem Le_E {E:En} {a b:St} (h:Le a b):LeE E a b:=fun x w r=>h E x w r
def rcs (g:Rt):List AV:=[iv g.f,iv g.b,isl g.path,iv g.like,isl g.marks]
def cRs:List Rt→List AV
 | []=>[]
 | g::l=>rcs g++cRs l
theorem cRs_len:∀ l:List Rt,(cRs l).length=l.length * 5
 | []=>rfl
 | g::l=>by
  rw [cRs,List.length_append,cRs_len l,List.length_cons]
  simp [rcs]
  omega
theorem cRs_app:∀ a b:List Rt,cRs (a++b)=cRs a++cRs b
 | [],_=>rfl
 | g::a,b=>by rw [List.cons_append,cRs,cRs_app a b,cRs,List.append_assoc]
theorem rcs_flat (f b:Int) (p:List Int) (k:Int) (m:List Int):List.take 5 (flatA [[DV.v (.int .i64 f),.v (.int .i64 b),.sl (rows p),.v (.int .i64 k),.sl (rows m)]])=rcs ⟨f,b,p,k,m⟩:=rfl
theorem rcs_leaf (g:Rt):allLeaf (rcs g)=true:=rfl
theorem rcs_strip (d:Nat) (g:Rt):AV.stripLAll d (rcs g)=rcs g:=rfl
theorem cRs_strip (d:Nat):∀ l:List Rt,AV.stripLAll d (cRs l)=cRs l
 | []=>rfl
 | g::l=>by
  rw [AV.stripLAll_eq,cRs,List.map_append,← AV.stripLAll_eq,← AV.stripLAll_eq,rcs_strip,cRs_strip d l]
theorem cRs_nt:∀ l:List Rt,AV.ntAll (cRs l)=cRs l
 | []=>rfl
 | g::l=>by
  rw [ntAll_eq,cRs,List.map_append,← ntAll_eq,← ntAll_eq,cRs_nt l]
  rfl
theorem cRs_take (l:List Rt) (r:List AV):List.take (l.length * 5) (cRs l++r)=cRs l:=by
 rw [List.take_left' (cRs_len l)]
theorem cRs_in (l:List Rt) (g:Rt) (n:Nat) (h:1≤n):setL (cRs l++jk (n * 5)) (l.length * 5) (rcs g)=cRs (l++[g])++jk ((n - 1) * 5):=by
 rw [← cRs_len l,setL_app _ _ _ (by simp [rcs];omega),cRs_app]
 simp only [cRs,List.append_nil,List.append_assoc]
 congr 2
 have:(rcs g).length=5:=rfl
 rw [this,List.drop_replicate]
 congr 1
 omega
def rD:List Rt→List DV
 | []=>[]
 | g::l=>g.row++rD l
theorem rD_len:∀ l:List Rt,(rD l).length=l.length * 5
 | []=>rfl
 | g::l=>by
  rw [rD,List.length_append,rD_len l,List.length_cons]
  simp [Rt.row]
  omega
theorem ofAll_cRs:∀ l:List Rt,DV.ofAll (cRs l)=some (rD l)
 | []=>rfl
 | g::l=>by
  have ih:=ofAll_cRs l
  simp only [cRs,rcs,List.cons_append,List.nil_append,DV.ofAll,DV.ofAV,ih,rD,Rt.row]
theorem chunks_rD:∀ l:List Rt,chunks 5 l.length (rD l)=rrows l
 | []=>rfl
 | g::l=>by
  have h5:g.row.length=5:=rfl
  rw [List.length_cons,chunks,rD,rrows_cons,List.take_left' h5,List.drop_left' h5,chunks_rD l]
theorem frz_rrows (l:List Rt):chunks 5 l.length (List.take (l.length * 5) (rD l))=rrows l:=by
 rw [List.take_of_length_le (Nat.le_of_eq (rD_len l)),chunks_rD]
theorem cRs_mvn (f:Nat→Option Nat):∀ l:List Rt,AV.mvnAll f (cRs l)=cRs l
 | []=>rfl
 | g::l=>by
  have ih:=cRs_mvn f l
  simp only [cRs,rcs,List.cons_append,List.nil_append,AV.mvnAll,AV.mvn,ih]
theorem cRs_stripF (F:Nat→Bool):∀ l:List Rt,AV.stripFAll F (cRs l)=cRs l
 | []=>rfl
 | g::l=>by
  have ih:=cRs_stripF F l
  simp only [cRs,rcs,List.cons_append,List.nil_append,AV.stripFAll,AV.stripF,ih]
theorem Aw_fR {E:En} {tb:Tb} (hE:TbOk E tb) (ht:tb.lent=false) {c:Code} {st:St} {Q:Exit→St→Prop} (d:Nat) (L:List Rt) {rest:List AV} (hl:lkm d st.m=some (cRs L++rest)) (h:Aw E c (st.frz d (rD L)) Q) (hk0:bk d=0:=by decide):Aw E c st Q :=
 Aw_frz hE ht d (L.length * 5) hl (by rw [List.take_left' (cRs_len L)];exact ofAll_cRs L) h hk0
theorem rcs_swb (d d':Nat) (g:Rt):AV.swbAll d d' (rcs g)=rcs g:=rfl
theorem cRs_swb (d d':Nat):∀ l:List Rt,AV.swbAll d d' (cRs l)=cRs l
 | []=>rfl
 | g::l=>by rw [cRs,swbAll_app,rcs_swb,cRs_swb d d' l]
theorem cRs_stk (d:Nat):∀ l:List Rt,AV.stripAll d (cRs l)=cRs l
 | []=>rfl
 | g::l=>by
  rw [AV.stripAll_eq,cRs,List.map_append,← AV.stripAll_eq,← AV.stripAll_eq,cRs_stk d l]
  rfl
theorem cRj_stk (d n:Nat) (l:List Rt):AV.stripAll d (cRs l++jk n)=cRs l++jk n:=by
 rw [AV.stripAll_eq,List.map_append,← AV.stripAll_eq,cRs_stk]
 simp [jk,AV.strip]
theorem cRj_str (d n:Nat) (l:List Rt):AV.stripLAll d (cRs l++jk n)=cRs l++jk n:=by
 rw [AV.stripLAll_eq,List.map_append,← AV.stripLAll_eq,cRs_strip]
 simp [jk,AV.stripL]
def putC (l:List Rt) (r:Rt) (K:AV→List (Nat × List AV)→Prop):Prop :=
 ∀ cap,(putG l r).length≤cap→K (.xs 900 0 (putG l r).length cap 5) [(900,cRs (putG l r)++jk ((cap - (putG l r).length) * 5))]
def cPutM:ConM:={
 pre:=fun args m1=>∃ (l:List Rt) (r:Rt),args=[.sl none (rrows l),r.av]∧m1=[]∧l.length≤1000∧r.path.length≤1000∧r.marks.length≤900
 post:=fun args _ z m2=>∀ (l:List Rt) (r:Rt),args=[.sl none (rrows l),r.av]→∀ K:AV→List (Nat × List AV)→Prop,putC l r K→K z m2 }
theorem rrav_inj {l l':List Rt} {r r':Rt} (e:[AV.sl none (rrows l),r.av]=[AV.sl none (rrows l'),r'.av]):l=l'∧r=r':=by
 obtain ⟨f,b,p,k,m⟩:=r
 obtain ⟨f',b',p',k',m'⟩:=r'
 simp only [List.cons.injEq,AV.agg.injEq,AV.v.injEq,Value.int.injEq,AV.sl.injEq,true_and,and_true] at e
 obtain ⟨e1,e2,e3,e4,e5,e6⟩:=e
 have h1:=congrArg rtsL e1
 have h4:=congrArg intsL e4
 have h6:=congrArg intsL e6
 rw [rtsL_rows,rtsL_rows] at h1
 rw [intsL_rows,intsL_rows] at h4 h6
 rw [Option.some.inj h1,e2,e3,Option.some.inj h4,e5,Option.some.inj h6]
 exact ⟨rfl,rfl⟩
def putT (l:List Rt) (r:Rt) (i:Nat) (q:List Rt × Bool × Nat):St:=⟨52,[(0,.sl none (rrows l)),(3,.loc 3 0),(5,.xs 43 0 q.1.length q.2.2 5),(6,bv q.2.1),(7,iv i)],[(3,[iv r.f,iv r.b,isl r.path,iv r.like,isl r.marks]),(43,cRs q.1++jk ((q.2.2 - q.1.length) * 5))],0⟩
def putJ (l:List Rt) (r:Rt) (i:Nat) (c:Int) (q:List Rt × Bool × Nat):St:=⟨52,[(0,.sl none (rrows l)),(3,.loc 3 0),(5,.xs 43 0 q.1.length q.2.2 5),(6,bv q.2.1),(7,iv i),(8,iv c)],[(3,[iv r.f,iv r.b,isl r.path,iv r.like,isl r.marks]),(43,cRs q.1++jk ((q.2.2 - q.1.length) * 5))],0⟩
theorem l23PutM_ok:FineM Tryd.prog 37 cPutM:=by
 refine fineM_of [] ms_nil [] mm_nil [9,34,43,50] [] ex_nil (T:=TT) Tryd.func37 rfl Tryd.ntmps37 (by rw [Tryd.results37]) rfl rfl tt gs_nil (ds_cons l1Cmp_ok (ds_cons l4Copy_ok ds_nil)) ?_
 rintro args m1 ⟨l,⟨f,b,p,kk,m⟩,rfl,rfl,hll,hp,hm⟩
 refine ⟨by simp,fun E hE Q hQ=>?_⟩
 simp only at hp hm
 have hp':p.length≤1000000:=by omega
 have hm':m.length≤1000000:=by omega
 refine Aw_st hE [0,3] [3,9,34,43,50] fun K hK=>?_
 simp only [go_sem,seval]
 refine hK _ ?_;clear hK K
 refine Aw_st hE [0,3,5] [3,9,34,43,50] fun K hK=>?_
 simp only [go_sem,seval]
 refine hK _ ?_;clear hK K
 refine Aw_st hE [0,3,5,6] [3,9,34,43,50] fun K hK=>?_
 simp only [go_sem,seval]
 refine hK _ ?_;clear hK K
 refine Aw_sq fun B1 hB1 hR1 hX1=>?_
 refine Aw_st hE [0,3,5,6,7] [3,9,34,43,50] fun K hK=>?_
 simp only [go_sem,seval]
 refine hK _ ?_;clear hK K
 refine Aw_bk fun B2 hN2 hE2 hR2 hX2=>?_
 refine Aw_lp (fun i:Nat × Nat=>putT l ⟨f,b,p,kk,m⟩ i.1 ((foldP ⟨f,b,p,kk,m⟩ (l.take i.1)).1,(foldP ⟨f,b,p,kk,m⟩ (l.take i.1)).2,i.2)) (fun i=>i.1≤l.length∧(foldP ⟨f,b,p,kk,m⟩ (l.take i.1)).1.length≤i.2) (fun i=>l.length - i.1) (0,0) (Le_bx 9 43 (by decide) (by decide) rfl) ⟨by simp,by simp [foldP]⟩ fun i hi B3 hN3 hR3 hX3=>?_
 obtain ⟨i,c⟩:=i
 obtain ⟨hi,hcap⟩:=hi
 simp only at hi hcap
 have hfl:=foldP_len ⟨f,b,p,kk,m⟩ (l.take i)
 have htl:(l.take i).length≤i:=by rw [List.length_take];omega
 have hst:=foldP_step (r:=⟨f,b,p,kk,m⟩) (l:=l) (i:=i)
 have hend:i=l.length→foldP ⟨f,b,p,kk,m⟩ (l.take i)=foldP ⟨f,b,p,kk,m⟩ l:=fun e=>by rw [e,List.take_length]
 generalize foldP ⟨f,b,p,kk,m⟩ (l.take i)=s at hfl hst hend hcap ⊢
 obtain ⟨out,put⟩:=s
 simp only at hfl hcap
 simp only [putT]
 refine Aw_sq fun B4 hB4 hR4 hX4=>?_
 refine Aw_st hE [0,3,5,6,7,13] [3,9,34,43,50] fun K hK=>?_
 simp only [go_sem,seval,cRs_nt,cRs_stripF]
 refine hK _ (Aw_cond rfl (fun hc5=>?_) (fun hc5=>?_))
 ·simp only [dte] at hc5
  have hil:i < l.length:=by omega
  have hg:=rrows_at l i hil
  have hst:=hst hil
  generalize l[i]=x at hg hst
  obtain ⟨xf,xb,xp,xk,xm⟩:=x
  refine Aw_skip (hB4 _ ?_)
  refine Aw_sq fun B6 hB6 hR6 hX6=>?_
  refine Aw_bk fun B7 hN7 hE7 hR7 hX7=>?_
  refine Aw_sd hE [0,3,5,6,7,8] [3,9,34,43,50] 6 (by kernel_rfl) fun K hK=>?_
  simp only [go_sem,seval,hg,cRs_nt,cRs_stripF]
  repeat refine sd0 ?_
  refine hK _ ?_;clear hK K
  refine Aw_sqJ (fun q:List Rt × Bool × Nat=>putJ l ⟨f,b,p,kk,m⟩ i (rCmp xf xb f b) q) (fun q=>q.1.length≤q.2.2∧q.1.length≤2001∧stepP ⟨f,b,p,kk,m⟩ (out,put) ⟨xf,xb,xp,xk,xm⟩=(q.1++(if rCmp xf xb f b=0 then [] else [⟨xf,xb,xp,xk,xm⟩]),q.2.1)) (fun q hq=>?_) fun B8 hB8 hR8 hX8=>?_
  ·obtain ⟨o,u,c2⟩:=q
   obtain ⟨hq1,hq2,hq3⟩:=hq
   simp only at hq1 hq2 hq3
   simp only [putJ]
   refine Aw_st hE [0,3,5,6,7,36] [3,9,34,43,50] fun K hK=>?_
   simp only [go_sem,seval,cRs_nt,cRs_stripF]
   refine hK _ (Aw_cond rfl (fun hc12=>?_) (fun hc12=>?_))
   ·have hz:¬ rCmp xf xb f b=0:=by simpa using hc12
    rw [if_neg hz] at hq3
    have hin:=cRs_in o ⟨xf,xb,xp,xk,xm⟩ (c2 - o.length)
    have htk2:=cRs_take o (jk ((c2 - o.length) * 5))
    refine Aw_tx hE [0,3,5,6,7] [3,9,34,43,50] fun K hK=>?_
    simp only [go_sem,seval,hg,rcs_flat,rcs_leaf,rcs_strip,htk2,cRs_strip,cRs_nt,cRs_stripF,cRj_stk,cRj_str]
    refine ⟨by omega,⟨by simp,by omega,by rw [List.length_append,cRs_len,List.length_replicate];omega⟩,fun hle=>?_,fun hgt cap hcap=>?_⟩
    ·rw [hin (by omega)]
     refine hK _ (hN7 _ (hB6 _ ?_))
     refine Aw_tx hE [0,3,5,6,7] [3,9,34,43,50] fun K hK=>?_
     simp only [go_sem,seval,cRs_nt,cRs_stripF]
     repeat refine sd0 ?_
     refine hK _ (hN3 (i + 1,c2) _ ⟨by simp only;omega,by simp only [hst.trans hq3,List.length_append,List.length_singleton];omega⟩ (by simp only;omega) ?_)
     simp only [hst.trans hq3,putT]
     rw [List.length_append,List.length_singleton,show c2 - o.length - 1=c2 - (o.length + 1) by omega]
     exact Le.refl _
    ·refine hK _ (hN7 _ (hB6 _ ?_))
     refine Aw_tx hE [0,3,5,6,7] [3,9,34,43,50] fun K hK=>?_
     simp only [go_sem,seval,cRs_nt,cRs_stripF]
     repeat refine sd0 ?_
     refine hK _ (hN3 (i + 1,cap) _ ⟨by simp only;omega,by simp only [hst.trans hq3,List.length_append,List.length_singleton];omega⟩ (by simp only;omega) ?_)
     simp only [hst.trans hq3,putT]
     rw [List.length_append,List.length_singleton,cRs_app]
     simp only [cRs,List.append_nil]
     exact Le.refl _
   ·have hz:rCmp xf xb f b=0:=by simpa using hc12
    rw [if_pos hz,List.append_nil] at hq3
    refine Aw_skip (hN7 _ (hB6 _ ?_))
    refine Aw_tx hE [0,3,5,6,7] [3,9,34,43,50] fun K hK=>?_
    simp only [go_sem,seval,cRs_nt,cRs_stripF]
    repeat refine sd0 ?_
    refine hK _ (hN3 (i + 1,c2) _ ⟨by simp only;omega,by simp only [hst.trans hq3];exact hq1⟩ (by simp only;omega) ?_)
    simp only [hst.trans hq3,putT]
    exact Le.refl _
  ·cases put with
   | true =>
    refine Aw_st hE [0,3,5,6,7,8,29] [3,9,34,43,50] fun K hK=>?_
    simp only [go_sem,seval,cRs_nt,cRs_stripF]
    repeat refine sd0 ?_
    refine hK _ (Aw_no rfl (Aw_skip (hB8 (out,true,c) _ ⟨hcap,by simp only;omega,by simp [stepP,cK];rfl⟩ (Le_E (Le_ks [0,3,5,6,7,8] [3,43])))))
   | false =>
    by_cases hcs:0≤rCmp xf xb f b
    ·have d1:decide (0≤rCmp xf xb f b)=true:=decide_eq_true hcs
     refine Aw_st hE [0,3,5,6,7,8,29] [3,9,34,43,50] fun K hK=>?_
     simp only [go_sem,seval,d1,cRs_nt,cRs_stripF]
     repeat refine sd0 ?_
     refine hK _ (Aw_yes rfl ?_)
     have hin:=cRs_in out ⟨f,b,p,kk,m⟩ (c - out.length)
     have htk2:=cRs_take out (jk ((c - out.length) * 5))
     refine Aw_st hE [0,3,5,7,8] [3,9,34,43,50] fun K hK=>?_
     simp only [go_sem,seval,rcs_flat,rcs_leaf,rcs_strip,htk2,cRs_strip,cRs_nt,cRs_stripF,cRj_stk,cRj_str]
     refine ⟨⟨hp',hm'⟩,⟨by simp,by omega,by rw [List.length_append,cRs_len,List.length_replicate];omega⟩,fun hle=>?_,fun hgt cap hcap=>?_⟩
     ·rw [hin (by omega)]
      refine hK _ ?_;clear hK K
      refine Aw_tx hE [0,3,5,6,7,8] [3,9,34,43,50] fun K hK=>?_
      simp only [go_sem,seval,cRs_nt,cRs_stripF]
      refine hK _ (hB8 (out++[⟨f,b,p,kk,m⟩],true,c) _ ⟨by simp;omega,by simp;omega,by simp [stepP,cK,hcs];rfl⟩ (Le_E ?_))
      simp only [putJ]
      rw [List.length_append,List.length_singleton,show c - out.length - 1=c - (out.length + 1) by omega]
      exact Le_ks [0,3,5,6,7,8] [3,43]
     ·refine hK _ ?_;clear hK K
      refine Aw_tx hE [0,3,5,6,7,8] [3,9,34,43,50] fun K hK=>?_
      simp only [go_sem,seval,cRs_nt,cRs_stripF]
      refine hK _ (hB8 (out++[⟨f,b,p,kk,m⟩],true,cap) _ ⟨by simp;omega,by simp;omega,by simp [stepP,cK,hcs];rfl⟩ (Le_E ?_))
      refine (Le_swb _ 34 43 (by decide) (by decide)).trans ?_
      simp only [St.swb,swbσ,swbm,AV.swb,AV.swbAll,swp,swbAll_app,swbAll_jk,rcs_swb,cRs_swb,Nat.reduceEqDiff,if_true,if_false,reduceIte,putJ]
      rw [List.length_append,List.length_singleton,cRs_app]
      simp only [cRs,List.append_nil]
      exact Le_ks [0,3,5,6,7,8] [3,43]
    ·have d1:decide (0≤rCmp xf xb f b)=false:=decide_eq_false hcs
     refine Aw_st hE [0,3,5,6,7,8,29] [3,9,34,43,50] fun K hK=>?_
     simp only [go_sem,seval,d1,cRs_nt,cRs_stripF]
     repeat refine sd0 ?_
     refine hK _ (Aw_no rfl (Aw_skip (hB8 (out,false,c) _ ⟨hcap,by simp only;omega,by simp [stepP,cK,hcs];rfl⟩ (Le_E (Le_ks [0,3,5,6,7,8] [3,43])))))
 ·simp only [dfn] at hc5
  have hst:=hend (by omega)
  refine Aw_exit (hX4 _ _ (hX3 _ _ (hE2 _ (hB1 _ ?_))))
  refine Aw_sq fun B15 hB15 hR15 hX15=>?_
  cases put with
  | true =>
   have hpg:putG l ⟨f,b,p,kk,m⟩=out:=by rw [putG,← hst];simp
   refine Aw_st hE [3,5,45] [3,9,34,43,50] fun K hK=>?_
   simp only [go_sem,seval,cRs_nt,cRs_stripF]
   refine hK _ (Aw_no rfl (Aw_skip (hB15 _ ?_)))
   refine Aw_st hE [4] [3,9,34,43,50] fun K hK=>?_
   simp only [go_sem,seval,cRs_nt,cRs_stripF]
   refine hK _ ?_
   refine Aw.leE (Le_E (Le_swb _ 43 900 (by decide) (by decide))) ?_
   simp only [St.swb,swbσ,swbm,AV.swb,AV.swbAll,swp,swbAll_app,swbAll_jk,rcs_swb,cRs_swb,Nat.reduceEqDiff,if_true,if_false,reduceIte]
   refine Aw.leE (Le_E (Le_ks [4] [900])) ?_
   refine Aw_ret (hQ _ ?_)
   simp only [go_sem,seval,cRs_nt,cRs_stripF]
   intro l' r' he K' hK'
   obtain ⟨rfl,rfl⟩:=rrav_inj (r:=⟨f,b,p,kk,m⟩) he
   have:=hK' c
   rw [hpg] at this
   exact this hcap
  | false =>
   have hpg:putG l ⟨f,b,p,kk,m⟩=out++[⟨f,b,p,kk,m⟩]:=by rw [putG,← hst];simp
   refine Aw_st hE [3,5,45] [3,9,34,43,50] fun K hK=>?_
   simp only [go_sem,seval,cRs_nt,cRs_stripF]
   refine hK _ (Aw_yes rfl ?_)
   have hin:=cRs_in out ⟨f,b,p,kk,m⟩ (c - out.length)
   have htk2:=cRs_take out (jk ((c - out.length) * 5))
   refine Aw_tx hE [5] [3,9,34,43,50] fun K hK=>?_
   simp only [go_sem,seval,rcs_flat,rcs_leaf,rcs_strip,htk2,cRs_strip,cRs_nt,cRs_stripF,cRj_stk,cRj_str]
   refine ⟨⟨hp',hm'⟩,⟨by simp,by omega,by rw [List.length_append,cRs_len,List.length_replicate];omega⟩,fun hle=>?_,fun hgt cap hcap=>?_⟩
   ·rw [hin (by omega)]
    refine hK _ (hB15 _ ?_)
    refine Aw_st hE [4] [3,9,34,43,50] fun K hK=>?_
    simp only [go_sem,seval,cRs_nt,cRs_stripF]
    refine hK _ ?_
    refine Aw.leE (Le_E (Le_swb _ 43 900 (by decide) (by decide))) ?_
    simp only [St.swb,swbσ,swbm,AV.swb,AV.swbAll,swp,swbAll_app,swbAll_jk,rcs_swb,cRs_swb,Nat.reduceEqDiff,if_true,if_false,reduceIte]
    refine Aw.leE (Le_E (Le_ks [4] [900])) ?_
    refine Aw_ret (hQ _ ?_)
    simp only [go_sem,seval,cRs_nt,cRs_stripF]
    intro l' r' he K' hK'
    obtain ⟨rfl,rfl⟩:=rrav_inj (r:=⟨f,b,p,kk,m⟩) he
    have:=hK' c
    rw [hpg,List.length_append,List.length_singleton] at this
    exact this (by omega)
   ·refine hK _ (hB15 _ ?_)
    refine Aw_st hE [4] [3,9,34,43,50] fun K hK=>?_
    simp only [go_sem,seval,cRs_nt,cRs_stripF]
    refine hK _ ?_
    refine Aw.leE (Le_E (Le_swb _ 50 900 (by decide) (by decide))) ?_
    simp only [St.swb,swbσ,swbm,AV.swb,AV.swbAll,swp,swbAll_app,swbAll_jk,rcs_swb,cRs_swb,Nat.reduceEqDiff,if_true,if_false,reduceIte]
    refine Aw.leE (Le_E (Le_ks [4] [900])) ?_
    refine Aw_ret (hQ _ ?_)
    simp only [go_sem,seval,cRs_nt,cRs_stripF]
    intro l' r' he K' hK'
    obtain ⟨rfl,rfl⟩:=rrav_inj (r:=⟨f,b,p,kk,m⟩) he
    have:=hK' cap
    rw [hpg,List.length_append,List.length_singleton,cRs_app] at this
    simp only [cRs,List.append_nil] at this
    exact this hcap
def cFromD:Con:={ pre:=fun args=>∃ h:Int,args=[.rd,iv h],post:=fun _ r=>∃ x:Rt,(x.path.length≤3∧x.marks.length≤9)∧r=x.av,cost:=30,draws:=true }
theorem cFromD_own:cFromD.own=false:=rfl
theorem cFromD_draws:cFromD.draws=true:=rfl
theorem cFromD_cost:cFromD.cost=30:=rfl
attribute [go_sem] cFromD_own cFromD_draws cFromD_cost
theorem l92From_ok:Fine Tryd.prog 46 cFromD:=by
 refine fine_of (T:=TT) Tryd.func46 rfl Tryd.ntmps46 (by rw [Tryd.results46]) rfl rfl tt (gs_cons l91Range_ok (gs_cons pick_ok (gs_cons l91Marks_ok gs_nil))) (ds_cons sRangeOk_ok (ds_cons has3_ok ds_nil)) ?_
 rintro args ⟨h0,rfl⟩
 refine ⟨by simp,fun k hk E hE Q hQ=>?_⟩
 have hk:=hk rfl
 simp only [go_sem] at hk
 refine Aw_st hE [0,1,4] [4] fun K hK=>?_
 simp only [go_sem,seval]
 repeat refine sd0 ?_
 refine hK _ ?_;clear hK K
 refine Aw_st hE [0,4,5] [4,5] fun K hK=>?_
 simp only [go_sem,seval,rows_one]
 repeat refine sd0 ?_
 repeat' (first | (refine And.intro (by first | omega | decide) ?_) | intro)
 rename_i f b hfb like hl1 hl2 ms hms
 refine hK _ ?_;clear hK K
 refine Aw_sqJ (fun q:Int × Int=>⟨52,[(0,.rd),(4,.loc 4 0),(5,.loc 5 0)],[(4,[iv 0,iv 0,.nl,iv 0,.nl]),(5,[iv q.1,iv q.2,.sl (some (11,0,3)) (rows [h0]),iv like,.sl (some (15,0,3)) (rows ms)])],k + 18⟩) (fun q:Int × Int=>True) (fun i hi=>?_) fun B1 hB1 hR1 hX1=>?_
 ·refine Aw_sqJ (fun q:Int × Int=>⟨52,[(0,.rd),(4,.loc 4 0),(5,.loc 5 0)],[(4,[iv 0,iv 0,.nl,iv 0,.nl]),(5,[iv q.1,iv q.2,.sl (some (11,0,3)) (rows [h0]),iv like,.sl (some (15,0,3)) (rows ms)])],k + 20⟩) (fun q:Int × Int=>True) (fun i hi=>?_) fun B2 hB2 hR2 hX2=>?_
  ·refine Aw_sq fun B3 hB3 hR3 hX3=>?_
   obtain ⟨rf,rb⟩:=i
   refine Aw_st hE [0,4,5,6] [4,5] fun K hK=>?_
   simp only [go_sem,seval]
   repeat refine sd0 ?_
   repeat' (first | (refine And.intro (by first | omega | decide) ?_) | intro)
   rename_i n0 hn1 hn2
   refine hK _ ?_;clear hK K
   refine Aw_bk fun B4 hN4 hE4 hR4 hX4=>?_
   refine Aw_lp (fun (i:List Int × Int)=>⟨52,[(0,.rd),(4,.loc 4 0),(5,.loc 5 0),(6,iv i.2)],[(4,[iv 0,iv 0,.nl,iv 0,.nl]),(5,[iv rf,iv rb,.sl (some (11,0,3)) (rows i.1),iv like,.sl (some (15,0,3)) (rows ms)])],k + 25 - i.2.toNat⟩) (fun (i:List Int × Int)=>i.1.length + i.2≤3∧0≤i.2) (fun (i:List Int × Int)=>i.2.toNat) (([h0],n0)) (Le_rn (by first | omega | (dsimp only;omega) | (simp only;omega) | (simp;omega))) (⟨by simp;omega,by simp;omega⟩) fun i hi B5 hN5 hR5 hX5=>?_
   refine Aw_sq fun B6 hB6 hR6 hX6=>?_
   refine Aw_st hE [0,4,5,6,34] [4,5] fun K hK=>?_
   simp only [go_sem,seval]
   repeat refine sd0 ?_
   refine hK _ (Aw_cond rfl (fun hc7=>?_) (fun hc7=>?_))
   ·simp only [dte] at hc7
    refine Aw_skip (hB6 _ ?_)
    refine Aw_sq fun B8 hB8 hR8 hX8=>?_
    refine Aw_bk fun B9 hN9 hE9 hR9 hX9=>?_
    refine Aw_st hE [0,4,5,6,7] [4,5] fun K hK=>?_
    simp only [go_sem,seval]
    repeat refine sd0 ?_
    repeat' (first | (refine And.intro (by first | omega | decide) ?_) | intro)
    rename_i x hx1 hx2
    refine hK _ ?_;clear hK K
    refine Aw_st hE [0,4,5,6,7,44] [4,5] fun K hK=>?_
    simp only [go_sem,seval]
    repeat refine sd0 ?_
    refine hK _ (Aw_cond rfl (fun hc10=>?_) (fun hc10=>?_))
    ·refine Aw_tx hE [0,4,5,6] [4,5] fun K hK=>?_
     simp only [go_sem,seval,rows_one]
     repeat refine sd0 ?_
     refine hK _ (hN9 _ (hB8 _ ?_))
     refine Aw_tx hE [0,4,5,6] [4,5] fun K hK=>?_
     simp only [go_sem,seval]
     repeat refine sd0 ?_
     refine hK _ (hN5 ((i.1++[1 + x],i.2 - 1)) _ (⟨by simp;omega,by first | omega | (dsimp only;omega) | (simp only;omega) | (simp;omega)⟩) (by first | omega | (dsimp only;omega) | (simp only;omega) | (simp;omega)) ((Le_tk 49 11 rfl).trans (Le_rn (by first | omega | (dsimp only;omega) | (simp only;omega) | (simp;omega)))))
    ·refine Aw_skip (hN9 _ (hB8 _ ?_))
     refine Aw_tx hE [0,4,5,6] [4,5] fun K hK=>?_
     simp only [go_sem,seval]
     repeat refine sd0 ?_
     refine hK _ (hN5 ((i.1,i.2 - 1)) _ (⟨by first | omega | (dsimp only;omega) | (simp only;omega) | (simp;omega),by first | omega | (dsimp only;omega) | (simp only;omega) | (simp;omega)⟩) (by first | omega | (dsimp only;omega) | (simp only;omega) | (simp;omega)) (Le_rn (by first | omega | (dsimp only;omega) | (simp only;omega) | (simp;omega))))
   ·simp only [dfn] at hc7
    refine Aw_exit (hX6 _ _ (hX5 _ _ (hE4 _ (hB3 _ ?_))))
    refine Aw_st hE [4] [4] fun K hK=>?_
    simp only [go_sem,seval]
    repeat refine sd0 ?_
    refine hK _ (Aw_ret (hQ _ ?_))
    simp only [go_sem,seval]
    exact ⟨by omega,⟨rf,rb,i.1,like,ms⟩,⟨by first | omega | (dsimp only;omega) | (simp only;omega) | (simp;omega),by first | omega | (dsimp only;omega) | (simp only;omega) | (simp;omega)⟩,rfl⟩
  refine Aw_st hE [0,4,5,25] [4,5] fun K hK=>?_
  simp only [go_sem,seval]
  repeat refine sd0 ?_
  repeat' (first | (refine And.intro (by first | omega | decide) ?_) | intro)
  rename_i u hu1 hu2
  refine hK _ (Aw_cond rfl (fun hc11=>?_) (fun hc11=>?_))
  ·refine Aw_tx hE [0,4,5] [4,5] fun K hK=>?_
   simp only [go_sem,seval]
   repeat refine sd0 ?_
   repeat' (first | (refine And.intro (by first | omega | decide) ?_) | intro)
   rename_i v hv1 hv2
   refine hK _ (hB2 ((32 * v,3)) _ (trivial) ((Le_wa) E))
  ·refine Aw_skip (hB2 (i) _ (trivial) ((Le_wa) E))
 refine Aw_st hE [0,4,5,20] [4,5] fun K hK=>?_
 simp only [go_sem,seval]
 repeat refine sd0 ?_
 refine hK _ (Aw_cond rfl (fun hc12=>?_) (fun hc12=>?_))
 ·refine Aw_tx hE [0,4,5] [4,5] fun K hK=>?_
  simp only [go_sem,seval]
  repeat refine sd0 ?_
  refine hK _ (hB1 ((0,1)) _ (trivial) ((Le_wa) E))
 ·refine Aw_skip (hB1 ((f,b)) _ (trivial) ((Le_wa) E))
theorem putR_len (r:Rt):∀ l:List Rt,(putR l r).length≤l.length + 1
 | []=>by simp [putR]
 | x::l=>by
  have:=putR_len r l
  unfold putR
  split
  ·simp
  ·split
   ·simp only [List.length_cons];omega
   ·simp
theorem fromR_pre (h:Int):cFromD.pre [.rd,iv h]=True:=by simp [cFromD]
theorem fromR_post (args:List AV) (K:AV→Prop):(∀ r,cFromD.post args r→K r)=(∀ x:Rt,(x.path.length≤3∧x.marks.length≤9)→K x.av):=by
 apply propext
 exact ⟨fun h p hp=>h _ ⟨p,hp,rfl⟩,fun h r ⟨p,hp,e⟩=>e ▸ h p hp⟩
theorem fromR_ex (args:List AV):(∃ r,cFromD.post args r)=True:=eq_true ⟨_,⟨0,0,[],0,[]⟩,by simp,rfl⟩
theorem putM_pre (l:List Rt) (f b:Int) (p:List Int) (k:Int) (m:List Int):cPutM.pre [.sl none (rrows l),.agg [iv f,iv b,isl p,iv k,isl m]] []=(l.length≤1000∧p.length≤1000∧m.length≤900):=by
 apply propext
 constructor
 ·rintro ⟨l',r',e,_,h⟩
  obtain ⟨rfl,rfl⟩:=rrav_inj (r:=⟨f,b,p,k,m⟩) e
  exact h
 ·exact fun h=>⟨l,⟨f,b,p,k,m⟩,rfl,rfl,h⟩
theorem putM_post (l:List Rt) (f b:Int) (p:List Int) (k:Int) (m:List Int) (m1:List (Nat × List AV)) (K:AV→List (Nat × List AV)→Prop):(∀ r m2,cPutM.post [.sl none (rrows l),.agg [iv f,iv b,isl p,iv k,isl m]] m1 r m2→K r m2)=putC l ⟨f,b,p,k,m⟩ K:=by
 apply propext
 constructor
 ·intro hh cap hcap
  refine hh _ _ fun l' r' e K' hK'=>?_
  obtain ⟨rfl,rfl⟩:=rrav_inj (r:=⟨f,b,p,k,m⟩) e
  exact hK' cap hcap
 ·exact fun hh r m2 hp=>hp l ⟨f,b,p,k,m⟩ rfl K hh
attribute [go_sem] fromR_pre fromR_post fromR_ex putM_pre putM_post putC
def smallD (l:List Rt):Prop:=∀ r ∈ l,r.path.length≤20∧r.marks.length≤20
theorem smallD_small {l:List Rt} (h:smallD l) (hl:l.length≤1000):smallL l:=⟨hl,fun r hr=>by have:=h r hr;unfold smallR;omega⟩
theorem smallD_put {l:List Rt} {r:Rt} (h:smallD l) (hr:r.path.length≤20∧r.marks.length≤20):smallD (putR l r):=fun x hx=>by
 rcases mem_put hx with rfl | hx
 ·exact hr
 ·exact h x hx
def cRts:Con:={ pre:=fun args=>args=[.rd],post:=fun _ r=>∃ l:List Rt,(l.length≤7∧smallD l)∧r = .sl none (rrows l),cost:=240,draws:=true }
theorem cRts_own:cRts.own=false:=rfl
theorem cRts_draws:cRts.draws=true:=rfl
theorem cRts_cost:cRts.cost=240:=rfl
attribute [go_sem] cRts_own cRts_draws cRts_cost
theorem rts_pre:cRts.pre [.rd]=True:=by simp [cRts]
theorem rts_post (args:List AV) (K:AV→Prop):(∀ r,cRts.post args r→K r)=(∀ l:List Rt,(l.length≤7∧smallD l)→K (.sl none (rrows l))):=by
 apply propext
 exact ⟨fun h p hp=>h _ ⟨p,hp,rfl⟩,fun h r ⟨p,hp,e⟩=>e ▸ h p hp⟩
theorem rts_ex (args:List AV):(∃ r,cRts.post args r)=True:=eq_true ⟨_,[],by simp [smallD],rfl⟩
attribute [go_sem] rts_pre rts_post rts_ex
def rtS (l:List Rt) (cap:Nat) (n:Int) (rn:Nat):St:=⟨28,[(0,.rd),(3,.xs 60 0 l.length cap 5),(4,iv n)],[(60,cRs l++jk ((cap - l.length) * 5))],rn⟩
set_option maxHeartbeats 4000000 in
theorem l92Routes_ok:Fine Tryd.prog 45 cRts:=by
 refine fine_ofX [] gl_nil [] ms_nil [(37,(cPutM,[],[(900,200)]))] (mm_cons l23PutM_ok (by decide) mm_nil) [5,26] [] ex_nil (T:=TT) Tryd.func45 rfl Tryd.ntmps45 (by rw [Tryd.results45]) rfl rfl tt (gs_cons pick_ok (gs_cons l92From_ok (gs_cons l91Route_ok gs_nil))) ds_nil ?_
 rintro args rfl
 refine ⟨by simp,fun k hk E hE Q hQ=>?_⟩
 have hk:=hk rfl
 simp only [go_sem] at hk
 refine Aw_st hE [0] [5,26,60,218] fun K hK=>?_
 simp only [go_sem,seval]
 refine hK _ ?_;clear hK K
 refine Aw_st hE [0,3] [5,26,60,218] fun K hK=>?_
 simp only [go_sem,seval]
 refine hK _ ?_;clear hK K
 refine Aw_sq fun B1 hB1 hR1 hX1=>?_
 refine Aw_st hE [0,3,4] [5,26,60,218] fun K hK=>?_
 simp only [go_sem,seval]
 repeat' (first | (refine And.intro (by first | omega | decide) ?_) | intro)
 rename_i n0 hn1 hn2
 refine hK _ ?_;clear hK K
 refine Aw_bk fun B2 hN2 hE2 hR2 hX2=>?_
 refine Aw_lp (fun i:(List Rt × Nat) × Int=>rtS i.1.1 i.1.2 i.2 (k + 190 - 31 * i.2.toNat)) (fun i=>sortR i.1.1∧smallD i.1.1∧i.1.1.length≤i.1.2∧0≤i.2∧i.1.1.length + i.2≤6) (fun i=>i.2.toNat) (([],0),n0) ((Le_bx 5 60 (by decide) (by decide) rfl).trans (Le_rn (by simp only;omega))) ⟨List.Pairwise.nil,(by intro g hg;cases hg),by simp,by omega,by simp;omega⟩ fun i hi B3 hN3 hR3 hX3=>?_
 obtain ⟨⟨l,cap⟩,n⟩:=i
 obtain ⟨hs,hsm,hcap,hn1,hn2⟩:=hi
 simp only at hs hsm hcap hn1 hn2
 simp only [rtS]
 refine Aw_sq fun B4 hB4 hR4 hX4=>?_
 refine Aw_st hE [0,3,4,9] [5,26,60,218] fun K hK=>?_
 simp only [go_sem,seval,cRs_nt,cRs_stripF]
 refine hK _ (Aw_cond rfl (fun hc5=>?_) (fun hc5=>?_))
 ·simp only [dte] at hc5
  refine Aw_skip (hB4 _ ?_)
  refine Aw_sq fun B6 hB6 hR6 hX6=>?_
  refine Aw_bk fun B7 hN7 hE7 hR7 hX7=>?_
  refine Aw_fR hE rfl 60 l rfl ?_
  simp only [go_sem,seval,rD_len,frz_rrows]
  refine Aw_tx hE [0,3,4] [5,26,60,218] fun K hK=>?_
  simp only [go_sem,seval,cRs_nt,cRs_stripF,cRs_strip,cRs_mvn]
  repeat' (first | (refine And.intro (by first | omega | decide) ?_) | intro)
  rename_i x hx cap' hcap'
  obtain ⟨hx1,hx2⟩:=hx
  obtain ⟨xf,xb,xp,xk,xm⟩:=x
  simp only at hx1 hx2 hcap'
  have h1:=sort_put hs ⟨xf,xb,xp,xk,xm⟩
  have h2:=smallD_put (r:=⟨xf,xb,xp,xk,xm⟩) hsm ⟨by simp only;omega,by simp only;omega⟩
  have h3:=putR_len ⟨xf,xb,xp,xk,xm⟩ l
  rw [putG_eq hs] at hcap' ⊢
  generalize putR l ⟨xf,xb,xp,xk,xm⟩=L at h1 h2 h3 hcap' ⊢
  refine hK _ (hN7 _ (hB6 _ ?_))
  refine Aw_tx hE [0,3,4] [5,26,60,218] fun K hK=>?_
  simp only [go_sem,seval,cRs_nt,cRs_stripF]
  repeat refine sd0 ?_
  refine hK _ (hN3 ((L,cap'),n - 1) _ ⟨h1,h2,hcap',by simp only;omega,by simp only;omega⟩ (by simp only;omega) ?_)
  refine (Le_swb _ 218 60 (by decide) (by decide)).trans ?_
  simp only [St.swb,swbσ,swbm,AV.swb,AV.swbAll,swp,swbAll_app,swbAll_jk,rcs_swb,cRs_swb,Nat.reduceEqDiff,if_true,if_false,reduceIte]
  exact (Le_ks [0,3,4] [60]).trans (Le_rn (by simp only;omega))
 ·simp only [dfn] at hc5
  refine Aw_exit (hX4 _ _ (hX3 _ _ (hE2 _ (hB1 _ ?_))))
  refine Aw_sq fun B8 hB8 hR8 hX8=>?_
  refine Aw_st hE [0,3,21] [5,26,60,218] fun K hK=>?_
  simp only [go_sem,seval,cRs_nt,cRs_stripF]
  repeat' (first | (refine And.intro (by first | omega | decide) ?_) | intro)
  refine hK _ (Aw_cond rfl (fun hc9=>?_) (fun hc9=>?_))
  ·have hta:=cRs_take l (jk ((cap - l.length) * 5))
   refine Aw_st hE [2] [5,26,60,218] fun K hK=>?_
   simp only [go_sem,seval,cRs_nt,cRs_stripF,cRs_strip,cRs_mvn,rcs_flat,rcs_leaf,rcs_strip,hta,cRj_stk,cRj_str]
   refine ⟨by omega,fun x hx=>⟨⟨by simp,by omega,by rw [List.length_append,cRs_len,List.length_replicate];omega⟩,fun hle=>?_,fun hgt cap' hcap'=>?_⟩⟩
   all_goals
    have hxs:smallD (l++[x]):=fun y hy=>by
     rcases List.mem_append.1 hy with hy | hy
     ·exact hsm y hy
     ·obtain rfl:=List.mem_singleton.1 hy
      obtain ⟨_,q1,_,_,_,q2⟩:=hx
      exact ⟨by omega,by omega⟩
    have hon:(l++[x]).length=l.length + 1:=by simp
    have hfg:=frz_rrows (l++[x])
    rw [hon] at hfg
    have hca:=cRs_app l [x]
    simp only [cRs,List.append_nil] at hca
    have hx0:(⟨x.f,x.b,x.path,x.like,x.marks⟩:Rt)=x:=rfl
    rw [hx0]
   ·rw [cRs_in l x (cap - l.length) (by omega)]
    refine hK _ ?_
    refine Aw_fR hE rfl 60 (l++[x]) rfl ?_
    simp only [go_sem,seval,rD_len,hon,hfg]
    refine Aw_ret (hR8 _ (hQ _ ?_))
    simp only [go_sem,seval]
    exact ⟨by omega,l++[x],⟨by rw [hon];omega,hxs⟩,congrArg (AV.sl none) hfg⟩
   ·rw [← hca]
    refine hK _ ?_
    refine Aw_fR hE rfl 26 (l++[x]) rfl ?_
    simp only [go_sem,seval,rD_len,hon,hfg]
    refine Aw_ret (hR8 _ (hQ _ ?_))
    simp only [go_sem,seval]
    exact ⟨by omega,l++[x],⟨by rw [hon];omega,hxs⟩,congrArg (AV.sl none) hfg⟩
  ·refine Aw_skip (hB8 _ ?_)
   refine Aw_fR hE rfl 60 l rfl ?_
   simp only [go_sem,seval,rD_len,frz_rrows]
   refine Aw_st hE [2] [5,26,60,218] fun K hK=>?_
   simp only [go_sem,seval]
   refine hK _ (Aw_ret (hQ _ ?_))
   simp only [go_sem,seval]
   exact ⟨by omega,l,⟨by omega,hsm⟩,rfl⟩
def cChg:Con:={ pre:=fun args=>args=[.rd],post:=fun _ r=>∃ a b:List Rt,((a.length≤7∧smallD a)∧b.length≤10∧smallD b)∧r = .tup [.sl none (rrows a),.sl none (rrows b)],cost:=500,draws:=true }
theorem cChg_own:cChg.own=false:=rfl
theorem cChg_draws:cChg.draws=true:=rfl
theorem cChg_cost:cChg.cost=500:=rfl
attribute [go_sem] cChg_own cChg_draws cChg_cost
theorem chg_pre:cChg.pre [.rd]=True:=by simp [cChg]
theorem chg_post (args:List AV) (K:AV→Prop):(∀ r,cChg.post args r→K r)=(∀ a b:List Rt,((a.length≤7∧smallD a)∧b.length≤10∧smallD b)→K (.tup [.sl none (rrows a),.sl none (rrows b)])):=by
 apply propext
 exact ⟨fun h a b hp=>h _ ⟨a,b,hp,rfl⟩,fun h r ⟨a,b,hp,e⟩=>e ▸ h a b hp⟩
theorem chg_ex (args:List AV):(∃ r,cChg.post args r)=True:=eq_true ⟨_,[],[],by simp [smallD],rfl⟩
attribute [go_sem] chg_pre chg_post chg_ex
theorem smallD_app {l:List Rt} {x:Rt} (h:smallD l) (hx:x.path.length≤20∧x.marks.length≤20):smallD (l++[x]):=fun y hy=>by
 rcases List.mem_append.1 hy with hy | hy
 ·exact h y hy
 ·rw [List.mem_singleton.1 hy];exact hx
def chS (a b:List Rt) (i:Nat) (rn:Nat):St:=⟨53,[(0,.rd),(4,.sl none (rrows a)),(5,.sl (some (16,0,36)) (rrows b)),(6,iv i)],[],rn⟩
def chT (a b:List Rt) (n:Int) (rn:Nat):St:=⟨53,[(0,.rd),(4,.sl none (rrows a)),(5,.sl none (rrows b)),(7,iv n)],[],rn⟩
set_option maxHeartbeats 4000000 in
theorem l92Change_ok:Fine Tryd.prog 23 cChg:=by
 refine fine_of (T:=TT) Tryd.func23 rfl Tryd.ntmps23 (by rw [Tryd.results23]) rfl rfl tt (gs_cons pick_ok (gs_cons l92From_ok (gs_cons l92Routes_ok gs_nil))) (ds_cons l4Copy_ok (ds_cons sRoutesOk_ok (ds_cons l23Put_ok ds_nil))) ?_
 rintro args rfl
 refine ⟨by simp,fun k hk E hE Q hQ=>?_⟩
 have hk:=hk rfl
 simp only [go_sem] at hk
 refine Aw_st hE [0] [] fun K hK=>?_
 simp only [go_sem,seval]
 refine hK _ ?_;clear hK K
 refine Aw_st hE [0,4] [] fun K hK=>?_
 simp only [go_sem,seval]
 repeat' (first | (refine And.intro (by first | omega | decide) ?_) | intro)
 rename_i a ha
 obtain ⟨ha1,ha2⟩:=ha
 have hsa:=smallD_small ha2 (by omega)
 refine hK _ ?_;clear hK K
 refine Aw_sq fun B1 hB1 hR1 hX1=>?_
 refine Aw_st hE [0,4,12] [] fun K hK=>?_
 simp only [go_sem,seval]
 repeat' (first | (refine And.intro (by first | omega | decide) ?_) | intro)
 refine hK _ (Aw_cond rfl (fun hc2=>?_) (fun hc2=>?_))
 ·refine Aw_st hE [2,3] [] fun K hK=>?_
  simp only [go_sem,seval]
  repeat' (first | (refine And.intro (by first | omega | decide) ?_) | intro)
  rename_i b hb
  obtain ⟨hb1,hb2⟩:=hb
  refine hK _ (Aw_ret (hR1 _ (hQ _ ?_)))
  simp only [go_sem,seval]
  exact ⟨by omega,a,b,⟨⟨ha1,ha2⟩,by omega,hb2⟩,rfl⟩
 ·refine Aw_skip (hB1 _ ?_)
  refine Aw_st hE [0,4,5] [] fun K hK=>?_
  simp only [go_sem,seval]
  refine hK _ ?_;clear hK K
  refine Aw_sq fun B3 hB3 hR3 hX3=>?_
  refine Aw_st hE [0,4,5,6] [] fun K hK=>?_
  simp only [go_sem,seval]
  refine hK _ ?_;clear hK K
  refine Aw_bk fun B4 hN4 hE4 hR4 hX4=>?_
  refine Aw_lp (fun i:List Rt × Nat=>chS a i.1 i.2 (k + 241 + i.2)) (fun i=>i.2≤a.length∧i.1.length≤i.2∧smallD i.1) (fun i=>a.length - i.2) ([],0) (Le.refl _) ⟨by simp,by simp,by simp [smallD]⟩ fun i hi B5 hN5 hR5 hX5=>?_
  obtain ⟨b,i⟩:=i
  obtain ⟨hi1,hi2,hi3⟩:=hi
  simp only at hi1 hi2 hi3
  simp only [chS]
  refine Aw_sq fun B6 hB6 hR6 hX6=>?_
  refine Aw_st hE [0,4,5,6,20] [] fun K hK=>?_
  simp only [go_sem,seval]
  refine hK _ (Aw_cond rfl (fun hc7=>?_) (fun hc7=>?_))
  ·simp only [dte] at hc7
   have hil:i < a.length:=by omega
   have hg:=rrows_at a i hil
   have hxs:=ha2 _ (List.getElem_mem hil)
   generalize a[i]=x at hg hxs
   obtain ⟨xf,xb,xp,xk,xm⟩:=x
   simp only at hxs
   have hxl:xp.length≤1000000∧xm.length≤1000000:=by omega
   refine Aw_skip (hB6 _ ?_)
   refine Aw_sq fun B8 hB8 hR8 hX8=>?_
   refine Aw_bk fun B9 hN9 hE9 hR9 hX9=>?_
   refine Aw_st hE [0,4,5,6,25] [] fun K hK=>?_
   simp only [go_sem,seval]
   repeat' (first | (refine And.intro (by first | omega | decide) ?_) | intro)
   refine hK _ (Aw_cond rfl (fun hc10=>?_) (fun hc10=>?_))
   ·refine Aw_tx hE [0,4,5,6] [] fun K hK=>?_
    simp only [go_sem,seval,hg,rrows_one]
    refine ⟨by omega,hxl,⟨rrows_row _,by omega⟩,?_⟩
    refine hK _ (hN9 _ (hB8 _ ?_))
    refine Aw_tx hE [0,4,5,6] [] fun K hK=>?_
    simp only [go_sem,seval]
    repeat refine sd0 ?_
    refine hK _ (hN5 (b++[⟨xf,xb,xp,xk,xm⟩],i + 1) _ ⟨by simp only;omega,by simp only [List.length_append,List.length_singleton];omega,smallD_app hi3 hxs⟩ (by simp only;omega) (Le_tk 33 16 rfl))
   ·refine Aw_skip (hN9 _ (hB8 _ ?_))
    refine Aw_tx hE [0,4,5,6] [] fun K hK=>?_
    simp only [go_sem,seval]
    repeat refine sd0 ?_
    refine hK _ (hN5 (b,i + 1) _ ⟨by simp only;omega,by simp only;omega,hi3⟩ (by simp only;omega) (Le.refl _))
  ·simp only [dfn] at hc7
   refine Aw_exit (hX6 _ _ (hX5 _ _ (hE4 _ (hB3 _ ?_))))
   refine Aw_sq fun B11 hB11 hR11 hX11=>?_
   refine Aw_st hE [0,4,5,7] [] fun K hK=>?_
   simp only [go_sem,seval]
   repeat' (first | (refine And.intro (by first | omega | decide) ?_) | intro)
   rename_i n0 hn1 hn2
   refine hK _ ?_;clear hK K
   refine Aw_bk fun B12 hN12 hE12 hR12 hX12=>?_
   refine Aw_lp (fun i:List Rt × Int=>chT a i.1 i.2 (k + 350 - 31 * i.2.toNat)) (fun i=>0≤i.2∧i.2≤3∧i.1.length + i.2≤10∧smallD i.1) (fun i=>i.2.toNat) (b,n0) (Le_wk (by first | omega | (simp only;omega)) (by simp only [go_sem,seval]) (by simp only [go_sem,seval])) ⟨by simp only;omega,by simp only;omega,by simp only;omega,hi3⟩ fun i hi B13 hN13 hR13 hX13=>?_
   obtain ⟨b,n⟩:=i
   obtain ⟨hj1,hj2,hj3,hj4⟩:=hi
   simp only at hj1 hj2 hj3 hj4
   simp only [chT]
   have hsb:=smallD_small hj4 (by omega)
   refine Aw_sq fun B14 hB14 hR14 hX14=>?_
   by_cases hn0:0 < n
   ·have d0:decide (0 < n)=true:=decide_eq_true hn0
    cases hrb:routesOk b with
    | true =>
     have hso:=(routesOk_iff.1 hrb).2.2
     refine Aw_st hE [0,4,5,7,41] [] fun K hK=>?_
     simp only [go_sem,seval,d0,hrb]
     refine ⟨hsb,hK _ (Aw_yes rfl (Aw_skip (hB14 _ ?_)))⟩
     refine Aw_sq fun B18 hB18 hR18 hX18=>?_
     refine Aw_bk fun B19 hN19 hE19 hR19 hX19=>?_
     refine Aw_tx hE [0,4,5,7] [] fun K hK=>?_
     simp only [go_sem,seval]
     repeat' (first | (refine And.intro (by first | omega | decide) ?_) | intro)
     rename_i x hx
     obtain ⟨hx1,hx2⟩:=hx
     refine ⟨⟨hsb,by omega,by omega⟩,?_⟩
     obtain ⟨xf,xb,xp,xk,xm⟩:=x
     simp only at hx1 hx2 ⊢
     have h2:=smallD_put (r:=⟨xf,xb,xp,xk,xm⟩) hj4 ⟨by simp only;omega,by simp only;omega⟩
     have h3:=putR_len ⟨xf,xb,xp,xk,xm⟩ b
     rw [putG_eq hso]
     generalize putR b ⟨xf,xb,xp,xk,xm⟩=L at h2 h3 ⊢
     refine hK _ (hN19 _ (hB18 _ ?_))
     refine Aw_tx hE [0,4,5,7] [] fun K hK=>?_
     simp only [go_sem,seval]
     repeat refine sd0 ?_
     refine hK _ (hN13 (L,n - 1) _ ⟨by simp only;omega,by simp only;omega,by simp only;omega,h2⟩ (by simp only;omega) (Le_rn (by simp only;omega)))
    | false =>
     refine Aw_st hE [0,4,5,7,41] [] fun K hK=>?_
     simp only [go_sem,seval,d0,hrb]
     refine ⟨hsb,hK _ (Aw_no rfl (Aw_exit (hX14 _ _ (hX13 _ _ (hE12 _ (hB11 _ ?_))))))⟩
     refine Aw_st hE [2,3] [] fun K hK=>?_
     simp only [go_sem,seval]
     refine hK _ (Aw_ret (hQ _ ?_))
     simp only [go_sem,seval]
     exact ⟨by omega,a,b,⟨⟨ha1,ha2⟩,by omega,hj4⟩,rfl⟩
   ·have d0:decide (0 < n)=false:=decide_eq_false hn0
    refine Aw_st hE [0,4,5,7,41] [] fun K hK=>?_
    simp only [go_sem,seval,d0]
    refine hK _ (Aw_no rfl (Aw_exit (hX14 _ _ (hX13 _ _ (hE12 _ (hB11 _ ?_))))))
    refine Aw_st hE [2,3] [] fun K hK=>?_
    simp only [go_sem,seval]
    refine hK _ (Aw_ret (hQ _ ?_))
    simp only [go_sem,seval]
    exact ⟨by omega,a,b,⟨⟨ha1,ha2⟩,by omega,hj4⟩,rfl⟩
def spotN:List Rt→Int→Int→Nat
 | [],_,_=>0
 | x::l,f,b=>if rCmp x.f x.b f b < 0 then spotN l f b + 1 else 0
theorem spotN_le (f b:Int):∀ l:List Rt,spotN l f b≤l.length
 | []=>Nat.le_refl _
 | x::l=>by
  have:=spotN_le f b l
  unfold spotN
  split
  ·rw [List.length_cons];omega
  ·omega
theorem rCmp_tr {x y:Rt} {f b:Int} (h:rlt x y) (k:rCmp y.f y.b f b < 0):rCmp x.f x.b f b < 0 :=
 rCmp_neg (y:=⟨f,b,[],0,[]⟩).2 (rlt_tr h (rCmp_neg (y:=⟨f,b,[],0,[]⟩).1 k))
theorem spotN_lt {f b:Int}:∀ {l:List Rt},sortR l→∀ i (hi:i < l.length),i < spotN l f b↔rCmp l[i].f l[i].b f b < 0
 | [],_,i,hi=>by simp at hi
 | x::l,hs,i,hi=>by
  obtain ⟨h1,h2⟩:=List.pairwise_cons.1 hs
  unfold spotN
  by_cases hx:rCmp x.f x.b f b < 0
  ·rw [if_pos hx]
   cases i with
   | zero=>exact ⟨fun _=>hx,fun _=>by omega⟩
   | succ i =>
    have:=spotN_lt (f:=f) (b:=b) h2 i (by simpa using hi)
    rw [List.getElem_cons_succ]
    rw [← this];omega
  ·rw [if_neg hx]
   cases i with
   | zero=>exact ⟨fun h=>by omega,fun h=>absurd h hx⟩
   | succ i =>
    refine ⟨fun h=>by omega,fun h=>?_⟩
    rw [List.getElem_cons_succ] at h
    exact absurd (rCmp_tr (h1 _ (List.getElem_mem _)) h) hx
theorem spot_look {l:List Rt} {f b:Int} (hs:sortR l):(look l (f,b)=none∧∀ h:spotN l f b < l.length,¬ rCmp l[spotN l f b].f l[spotN l f b].b f b=0)∨∃ h:spotN l f b < l.length,look l (f,b)=some l[spotN l f b]∧rCmp l[spotN l f b].f l[spotN l f b].b f b=0:=by
 cases e:look l (f,b) with
 | none =>
  refine .inl ⟨rfl,fun h hc=>?_⟩
  have:=look_none.1 e _ (List.getElem_mem h)
  obtain ⟨h1,h2⟩:=rCmp_z0.1 hc
  exact this (by rw [key,h1,h2])
 | some x =>
  obtain ⟨h1,h2⟩:=look_some e
  obtain ⟨j,hj,rfl⟩:=List.getElem_of_mem h1
  have hz:rCmp l[j].f l[j].b f b=0:=by
   simp only [key,Prod.mk.injEq] at h2
   exact rCmp_z0.2 h2
  have hn:=(spotN_lt (f:=f) (b:=b) hs j hj)
  have hle:spotN l f b≤j:=by
   rcases Nat.lt_or_ge j (spotN l f b) with h | h
   ·have:=hn.1 h;omega
   ·exact h
  have hej:spotN l f b=j:=by
   rcases Nat.lt_or_ge (spotN l f b) j with h | h
   ·have hr:=List.pairwise_iff_getElem.1 hs _ _ (by omega) hj h
    have hq:rCmp l[spotN l f b].f l[spotN l f b].b f b < 0:=by
     refine rCmp_neg (y:=⟨f,b,[],0,[]⟩).2 ?_
     unfold rlt at hr ⊢
     obtain ⟨k1,k2⟩:=rCmp_z0.1 hz
     rw [k1,k2] at hr
     exact hr
    have:=(spotN_lt (f:=f) (b:=b) hs _ (by omega)).2 hq
    omega
   ·omega
  refine .inr ⟨by omega,?_,?_⟩
  ·congr 1;simp only [hej]
  ·simp only [hej];exact hz
set_option maxHeartbeats 4000000 in
theorem iRoutesOk_ok (pb:Addr):Fine Tryd.prog 20 (dROkI pb).con:=by
 refine fine_det (T:=TT) Tryd.func20 rfl Tryd.ntmps20 (by rw [Tryd.results20]) rfl rfl tt (gs_nil) (ds_cons (iRtOk_ok pb) (ds_cons iRgCmp_ok ds_nil) (wp_inh pb)) ?_
 intro args c r h hc
 simp only [dROkI,gROk] at h
 split at h
 rotate_left
 ·cases h
 split at h
 rotate_left
 ·cases h
 rename_i t els _ l hrt
 obtain rfl:=rtsL_eq hrt
 obtain ⟨rfl,rfl⟩:=Prod.mk.inj (Option.some.inj h)
 refine ⟨by simp,fun k E hE Q hQ=>?_⟩
 have hll:=hc.1
 refine Aw_st hE [0] [] fun K hK=>?_
 simp only [go_sem,seval]
 refine hK _ ?_;clear hK K
 refine Aw_sq fun B1 hB1 hR1 hX1=>?_
 refine Aw_st hE [0,7] [] fun K hK=>?_
 simp only [go_sem,seval]
 refine hK _ (Aw_cond rfl (fun hc2=>?_) (fun hc2=>?_))
 ·simp only [dte] at hc2
  have hno:routesOk l=false:=by
   cases e:routesOk l with
   | false=>rfl
   | true=>have:=(routesOk_iff.1 e).1;omega
  refine Aw_st hE [2] [] fun K hK=>?_
  simp only [go_sem,seval]
  refine hK _ (Aw_ret (hR1 _ (hQ _ ?_)))
  simp only [go_sem,seval,hno]
 ·simp only [dfn] at hc2
  refine Aw_skip (hB1 _ ?_)
  refine Aw_sq fun B3 hB3 hR3 hX3=>?_
  refine Aw_st hE [0,8,9,10] [] fun K hK=>?_
  simp only [go_sem,seval]
  refine hK _ ?_;clear hK K
  refine Aw_bk fun B4 hN4 hE4 hR4 hX4=>?_
  refine Aw_lp (fun i:Nat=>⟨35,[(0,.sl none (rrows l)),(8,.sl none (rrows l)),(9,iv l.length),(10,iv i)],[],k⟩) (fun i=>i≤l.length∧okUp l i) (fun i=>l.length - i) 0 (Le_wa) ⟨by omega,okUp_z l⟩ fun i hi B5 hN5 hR5 hX5=>?_
  obtain ⟨hi,hok⟩:=hi
  refine Aw_st hE [0,8,9,10,11] [] fun K hK=>?_
  simp only [go_sem,seval]
  refine hK _ ?_;clear hK K
  refine Aw_sq fun B6 hB6 hR6 hX6=>?_
  refine Aw_cond rfl (fun hc7=>?_) (fun hc7=>?_)
  ·simp only [dte] at hc7
   have hil:i < l.length:=by omega
   have hg:=rrows_at l i hil
   obtain ⟨hp,hm⟩:=smallR_at hc i hil
   have hp':l[i].path.length≤4294967296:=by omega
   have hm':l[i].marks.length≤4294967296:=by omega
   have hst:=okUp_step hil hok
   refine Aw_skip (hB6 _ ?_)
   refine Aw_sq fun B8 hB8 hR8 hX8=>?_
   refine Aw_bk fun B9 hN9 hE9 hR9 hX9=>?_
   refine Aw_st hE [0,3,4,8,9,10] [4] fun K hK=>?_
   simp only [go_sem,seval,hg]
   repeat refine sd0 ?_
   refine hK _ ?_;clear hK K
   cases hro:okR l[i] with
   | false =>
    have hro':rtOk l[i].f l[i].b l[i].path l[i].like l[i].marks=false:=hro
    have hno:=okUp_no hil (fun h=>by have:=(hst.1 h).1;rw [hro] at this;cases this)
    refine Aw_se hE [0,1,2,3,4,5,6,7,8,9,10,11,12,13,14,15,16,17,18] [0,1,3,7,15,31,63,127,127,383,1023,2047,4095,127,8319,32767,65535,131071,262143] [0,8,9,10,33] [] (by kernel_rfl) fun K hK=>?_
    refine daopsE_cut 6 fun K1 hK1=>?_
    simp only [go_sem,seval,hg,hp',hm',hro',Bool.not_false]
    repeat refine sd0 ?_
    refine hK1 _ ?_
    clear hK1
    refine daopsE_cut 6 fun K1 hK1=>?_
    simp only [go_sem,seval,hg,hp',hm',hro',Bool.not_false]
    repeat refine sd0 ?_
    refine hK1 _ ?_
    clear hK1
    refine daopsE_cut 6 fun K1 hK1=>?_
    simp only [go_sem,seval,hg,hp',hm',hro',Bool.not_false]
    repeat refine sd0 ?_
    refine hK1 _ ?_
    clear hK1
    simp only [go_sem,seval,hg,hp',hm',hro',Bool.not_false]
    repeat refine sd0 ?_
    refine hK _ (Aw_yes rfl ?_)
    refine Aw_st hE [2] [] fun K hK=>?_
    simp only [go_sem,seval]
    refine hK _ (Aw_ret (hR9 _ (hR8 _ (hR5 _ (hR4 _ (hR3 _ (hQ _ ?_)))))))
    simp only [go_sem,seval,hno]
   | true =>
    have hro':rtOk l[i].f l[i].b l[i].path l[i].like l[i].marks=true:=hro
    have hrr:=rtOk_r hro'
    by_cases h0:i=0
    ·have d0:decide ((0:Int) < (i:Int))=false:=decide_eq_false (by omega)
     refine Aw_se hE [0,1,2,3,4,5,6,7,8,9,10,11,12,13,14,15,16,17,18] [0,1,3,7,15,31,63,127,127,383,1023,2047,4095,127,8319,32767,65535,131071,262143] [0,8,9,10,33] [] (by kernel_rfl) fun K hK=>?_
     refine daopsE_cut 6 fun K1 hK1=>?_
     simp only [go_sem,seval,hg,hp',hm',hro',d0,Bool.not_true]
     repeat refine sd0 ?_
     refine hK1 _ ?_
     clear hK1
     refine daopsE_cut 6 fun K1 hK1=>?_
     simp only [go_sem,seval,hg,hp',hm',hro',d0,Bool.not_true]
     repeat refine sd0 ?_
     refine hK1 _ ?_
     clear hK1
     refine daopsE_cut 6 fun K1 hK1=>?_
     simp only [go_sem,seval,hg,hp',hm',hro',d0,Bool.not_true]
     repeat refine sd0 ?_
     refine hK1 _ ?_
     clear hK1
     simp only [go_sem,seval,hg,hp',hm',hro',d0,Bool.not_true]
     repeat refine sd0 ?_
     refine hK _ (Aw_no rfl ?_)
     refine Aw_skip (hN9 _ (hB8 _ ?_))
     refine Aw_tx hE [0,8,9,10] [] fun K hK=>?_
     simp only [go_sem,seval]
     repeat refine sd0 ?_
     refine hK _ (hN5 (i + 1) _ ⟨by omega,hst.2 ⟨hro,.inl h0⟩⟩ (by omega) (Le_wb (by simp only [go_sem,seval,Int.natCast_add,Int.natCast_one])))
    ·have d0:decide ((0:Int) < (i:Int))=true:=decide_eq_true (by omega)
     have hi1:((i:Int) - 1).toNat=i - 1:=by omega
     have hil1:i - 1 < l.length:=by omega
     have hg1:=rrows_at l (i - 1) hil1
     have hr1:rngOk l[i - 1].f l[i - 1].b=true:=rtOk_r (show rtOk l[i - 1].f l[i - 1].b l[i - 1].path l[i - 1].like l[i - 1].marks=true from hok.1 _ (by rw [List.mem_take_iff_getElem];exact ⟨i - 1,by omega,rfl⟩))
     by_cases hlt:rlt l[i - 1] l[i]
     ·have d1:decide (0≤rCmp l[i - 1].f l[i - 1].b l[i].f l[i].b)=false:=decide_eq_false (by have:=rCmp_neg.2 hlt;omega)
      refine Aw_se hE [0,1,2,3,4,5,6,7,8,9,10,11,12,13,14,15,16,17,18] [0,1,3,7,15,31,63,127,127,383,1023,2047,4095,127,8319,32767,65535,131071,262143] [0,8,9,10,33] [] (by kernel_rfl) fun K hK=>?_
      refine daopsE_cut 6 fun K1 hK1=>?_
      simp only [go_sem,seval,hg,hp',hm',hro',d0,hi1,hg1,d1,hrr,hr1,Bool.not_true,Bool.and_self,if_true]
      repeat refine sd0 ?_
      refine hK1 _ ?_
      clear hK1
      refine daopsE_cut 6 fun K1 hK1=>?_
      simp only [go_sem,seval,hg,hp',hm',hro',d0,hi1,hg1,d1,hrr,hr1,Bool.not_true,Bool.and_self,if_true]
      repeat refine sd0 ?_
      refine hK1 _ ?_
      clear hK1
      refine daopsE_cut 6 fun K1 hK1=>?_
      simp only [go_sem,seval,hg,hp',hm',hro',d0,hi1,hg1,d1,hrr,hr1,Bool.not_true,Bool.and_self,if_true]
      repeat refine sd0 ?_
      refine hK1 _ ?_
      clear hK1
      simp only [go_sem,seval,hg,hp',hm',hro',d0,hi1,hg1,d1,hrr,hr1,Bool.not_true,Bool.and_self,if_true]
      repeat refine sd0 ?_
      refine hK _ (Aw_no rfl ?_)
      refine Aw_skip (hN9 _ (hB8 _ ?_))
      refine Aw_tx hE [0,8,9,10] [] fun K hK=>?_
      simp only [go_sem,seval]
      repeat refine sd0 ?_
      refine hK _ (hN5 (i + 1) _ ⟨by omega,hst.2 ⟨hro,.inr ⟨hil1,hlt⟩⟩⟩ (by omega) (Le_wb (by simp only [go_sem,seval,Int.natCast_add,Int.natCast_one])))
     ·have d1:decide (0≤rCmp l[i - 1].f l[i - 1].b l[i].f l[i].b)=true:=decide_eq_true (by
       have:¬ rCmp l[i - 1].f l[i - 1].b l[i].f l[i].b < 0:=fun h=>hlt (rCmp_neg.1 h)
       omega)
      have hno:=okUp_no hil (fun h=>by
       rcases (hst.1 h).2 with h | ⟨_,h⟩
       ·exact h0 h
       ·exact hlt h)
      refine Aw_se hE [0,1,2,3,4,5,6,7,8,9,10,11,12,13,14,15,16,17,18] [0,1,3,7,15,31,63,127,127,383,1023,2047,4095,127,8319,32767,65535,131071,262143] [0,8,9,10,33] [] (by kernel_rfl) fun K hK=>?_
      refine daopsE_cut 6 fun K1 hK1=>?_
      simp only [go_sem,seval,hg,hp',hm',hro',d0,hi1,hg1,d1,hrr,hr1,Bool.not_true,Bool.and_self,if_true]
      repeat refine sd0 ?_
      refine hK1 _ ?_
      clear hK1
      refine daopsE_cut 6 fun K1 hK1=>?_
      simp only [go_sem,seval,hg,hp',hm',hro',d0,hi1,hg1,d1,hrr,hr1,Bool.not_true,Bool.and_self,if_true]
      repeat refine sd0 ?_
      refine hK1 _ ?_
      clear hK1
      refine daopsE_cut 6 fun K1 hK1=>?_
      simp only [go_sem,seval,hg,hp',hm',hro',d0,hi1,hg1,d1,hrr,hr1,Bool.not_true,Bool.and_self,if_true]
      repeat refine sd0 ?_
      refine hK1 _ ?_
      clear hK1
      simp only [go_sem,seval,hg,hp',hm',hro',d0,hi1,hg1,d1,hrr,hr1,Bool.not_true,Bool.and_self,if_true]
      repeat refine sd0 ?_
      refine hK _ (Aw_yes rfl ?_)
      refine Aw_st hE [2] [] fun K hK=>?_
      simp only [go_sem,seval]
      refine hK _ (Aw_ret (hR9 _ (hR8 _ (hR5 _ (hR4 _ (hR3 _ (hQ _ ?_)))))))
      simp only [go_sem,seval,hno]
  ·simp only [dfn] at hc7
   obtain rfl:i=l.length:=by omega
   have he:routesOk l=true:=okUp_all.2 ⟨by omega,hok⟩
   refine Aw_exit (hX6 _ _ (hX5 _ _ (hE4 _ (hB3 _ ?_))))
   refine Aw_st hE [2] [] fun K hK=>?_
   simp only [go_sem,seval]
   refine hK _ (Aw_ret (hQ _ ?_))
   simp only [go_sem,seval,he]
def gEqL:List AV→Option (Prop × AV)
 | [.sl _ e1,.sl _ e2]=>(match intsL e1,intsL e2 with
  | some a,some b=>some (a.length≤4294967296∧b.length≤4294967296,bv (decide (a=b)))
  | _,_=>none)
 | _=>none
def dEqL:DFn:={ g:=gEqL }
attribute [go_sem] gEqL dEqL
theorem eqL_getD {a b:List Int} (hl:a.length=b.length):a=b↔∀ j,j < a.length→a.getD j 0=b.getD j 0:=by
 constructor
 ·rintro rfl _ _;rfl
 ·intro h
  refine List.ext_getElem hl fun j h1 h2=>?_
  have:=h j h1
  rwa [List.getD_eq_getElem?_getD,List.getD_eq_getElem?_getD,List.getElem?_eq_getElem h1,List.getElem?_eq_getElem h2] at this
theorem eqL_ok:Fine Tryd.prog 49 dEqL.con:=by
 refine fine_det (T:=TT) Tryd.func49 rfl Tryd.ntmps49 (by rw [Tryd.results49]) rfl rfl tt (gs_nil) (ds_nil) ?_
 intro args c r h hc
 simp only [dEqL,gEqL] at h
 split at h
 rotate_left
 ·cases h
 split at h
 rotate_left
 ·cases h
 rename_i t e1 t2 e2 _ _ l1 l2 hl1 hl2
 obtain rfl:=intsL_eq hl1
 obtain rfl:=intsL_eq hl2
 obtain ⟨rfl,rfl⟩:=Prod.mk.inj (Option.some.inj h)
 refine ⟨by simp,fun k E hE Q hQ=>?_⟩
 obtain ⟨ha,hb⟩:=hc
 refine Aw_st hE [0,1] [] fun K hK=>?_
 simp only [go_sem,seval]
 repeat refine sd0 ?_
 refine hK _ ?_;clear hK K
 refine Aw_sq fun B1 hB1 hR1 hX1=>?_
 refine Aw_st hE [0,1,10] [] fun K hK=>?_
 simp only [go_sem,seval,ha,hb]
 repeat refine sd0 ?_
 refine hK _ (Aw_cond rfl (fun hc2=>?_) (fun hc2=>?_))
 ·simp only [Bool.not_eq_true',dfn] at hc2
  refine Aw_st hE [4] [] fun K hK=>?_
  simp only [go_sem,seval]
  repeat refine sd0 ?_
  refine hK _ (Aw_ret (hR1 _ (hQ _ ?_)))
  simp only [go_sem,seval,decide_eq_false (show ¬ l1=l2 from fun e=>hc2 (by rw [e]))]
 ·simp only [Bool.not_eq_false',dte] at hc2
  have hll:l1.length=l2.length:=by omega
  refine Aw_skip (hB1 _ ?_)
  refine Aw_sq fun B3 hB3 hR3 hX3=>?_
  refine Aw_st hE [0,1,12,13] [] fun K hK=>?_
  simp only [go_sem,seval]
  repeat refine sd0 ?_
  refine hK _ ?_;clear hK K
  refine Aw_bk fun B4 hN4 hE4 hR4 hX4=>?_
  refine Aw_lp (fun i:Nat=>⟨26,[(0,isl l1),(1,isl l2),(12,iv (l1.length:Int)),(13,iv (i:Int))],[],k⟩) (fun i:Nat=>i≤l1.length∧∀ j,j < i→l1.getD j 0=l2.getD j 0) (fun i:Nat=>l1.length - i) (0) (Le_wa) (⟨by omega,fun j h=>absurd h (by omega)⟩) fun i hi B5 hN5 hR5 hX5=>?_
  refine Aw_st hE [0,1,12,13,14] [] fun K hK=>?_
  simp only [go_sem,seval]
  repeat refine sd0 ?_
  refine hK _ ?_;clear hK K
  refine Aw_sq fun B6 hB6 hR6 hX6=>?_
  refine Aw_cond rfl (fun hc7=>?_) (fun hc7=>?_)
  ·simp only [dte] at hc7
   have h1:=rows_get l1 i (by omega)
   have h2:=rows_get l2 i (by omega)
   refine Aw_skip (hB6 _ ?_)
   refine Aw_sq fun B8 hB8 hR8 hX8=>?_
   refine Aw_bk fun B9 hN9 hE9 hR9 hX9=>?_
   refine Aw_st hE [0,1,5,12,13] [] fun K hK=>?_
   simp only [go_sem,seval]
   repeat refine sd0 ?_
   refine hK _ ?_;clear hK K
   refine Aw_sd hE [0,1,12,13,24] [] 6 (by kernel_rfl) fun K hK=>?_
   simp only [go_sem,seval,h1,h2]
   repeat refine sd0 ?_
   refine hK _ (Aw_cond rfl (fun hc10=>?_) (fun hc10=>?_))
   ·simp only [Bool.not_eq_true',dfn] at hc10
    refine Aw_st hE [4] [] fun K hK=>?_
    simp only [go_sem,seval]
    repeat refine sd0 ?_
    refine hK _ (Aw_ret (hR9 _ (hR8 _ (hR5 _ (hR4 _ (hR3 _ (hQ _ ?_)))))))
    simp only [go_sem,seval,decide_eq_false (show ¬ l1=l2 from fun e=>hc10 (by rw [e]))]
   ·simp only [Bool.not_eq_false',dte] at hc10
    refine Aw_skip (hN9 _ (hB8 _ ?_))
    refine Aw_tx hE [0,1,12,13] [] fun K hK=>?_
    simp only [go_sem,seval]
    repeat refine sd0 ?_
    refine hK _ (hN5 (i + 1) _ (⟨by omega,fun j hj=>if e:j < i then hi.2 j e else (by obtain rfl:j=i:=(by omega);exact hc10)⟩) (by omega) (Le.refl _))
  ·simp only [dfn] at hc7
   refine Aw_exit (hX6 _ _ (hX5 _ _ (hE4 _ (hB3 _ ?_))))
   refine Aw_st hE [4] [] fun K hK=>?_
   simp only [go_sem,seval]
   repeat refine sd0 ?_
   refine hK _ (Aw_ret (hQ _ ?_))
   simp only [go_sem,seval,decide_eq_true (show l1=l2 from (eqL_getD hll).2 fun j hj=>hi.2 j (by omega))]
def gSpC:List AV→Option (Prop × AV)
 | [.agg [.v (.int .i64 f),.v (.int .i64 b),.sl _ _,.v (.int .i64 _),.sl _ _],.agg [.v (.int .i64 f'),.v (.int .i64 b')]]=>some (True,iv (if rngOk f b && rngOk f' b' then rCmp f b f' b' else 0))
 | _=>none
def dSpC:DFn:={ g:=gSpC }
attribute [go_sem] gSpC dSpC
theorem spC_ok:Fine Tryd.prog 48 dSpC.con:=by
 refine fine_det (T:=TT) Tryd.func48 rfl Tryd.ntmps48 (by rw [Tryd.results48]) rfl rfl tt (gs_nil) (ds_cons iRgCmp_ok ds_nil) ?_
 intro args c r h hc
 simp only [dSpC,gSpC] at h
 split at h
 rotate_left
 ·cases h
 obtain ⟨rfl,rfl⟩:=Prod.mk.inj (Option.some.inj h)
 refine ⟨by simp,fun k E hE Q hQ=>?_⟩
 refine Aw_st hE [2,3] [2,3] fun K hK=>?_
 simp only [go_sem,seval]
 repeat refine sd0 ?_
 refine hK _ ?_;clear hK K
 refine Aw_st hE [4] [] fun K hK=>?_
 simp only [go_sem,seval]
 repeat refine sd0 ?_
 refine hK _ (Aw_ret (hQ _ ?_))
 simp only [go_sem,seval]
def rngsOk (l:List Rt):Prop:=∀ r ∈ l,rngOk r.f r.b=true
def gBsF:List AV→Option (Prop × AV)
 | [.sl _ els,.agg [.v (.int .i64 f),.v (.int .i64 b)],x]=>(match fnOf x,rtsL els with
  | some 48,some l=>some ((l.length≤1000∧sortR l)∧rngsOk l∧rngOk f b=true,.tup [iv (spotN l f b),bv (look l (f,b)).isSome])
  | _,_=>none)
 | _=>none
def dBsF:DFn:={ g:=gBsF }
attribute [go_sem] gBsF dBsF
set_option maxHeartbeats 2000000 in
theorem bsF_ok:Fine Tryd.prog 47 dBsF.con:=by
 refine fine_det (T:=TT) Tryd.func47 rfl Tryd.ntmps47 (by rw [Tryd.results47]) rfl rfl tt (gs_nil) (ds_cons spC_ok ds_nil) ?_
 intro args c r h hc
 simp only [dBsF,gBsF] at h
 split at h
 rotate_left
 ·cases h
 split at h
 rotate_left
 ·cases h
 rename_i t els f b x _ _ l hfn hrt
 obtain rfl:=rtsL_eq hrt
 obtain ⟨rfl,rfl⟩:=Prod.mk.inj (Option.some.inj h)
 refine ⟨by simp,fun k E hE Q hQ=>?_⟩
 obtain rfl:=fnOf_ok hfn
 obtain ⟨⟨hll,hsrt⟩,hrs,hrb⟩:=hc
 have hle:=spotN_le f b l
 refine Aw_st hE [0,2,4] [4] fun K hK=>?_
 simp only [go_sem,seval]
 refine hK _ ?_;clear hK K
 refine Aw_st hE [0,2,4,8] [4] fun K hK=>?_
 simp only [go_sem,seval]
 refine hK _ ?_;clear hK K
 refine Aw_st hE [0,2,4,8,9,10] [4] fun K hK=>?_
 simp only [go_sem,seval]
 refine hK _ ?_;clear hK K
 refine Aw_sq fun B1 hB1 hR1 hX1=>?_
 refine Aw_bk fun B2 hN2 hE2 hR2 hX2=>?_
 refine Aw_lp (fun i:Nat × Nat=>⟨49,[(0,.sl none (rrows l)),(2,.v (.func (.func 48) #[] #[])),(4,.loc 4 0),(8,iv l.length),(9,iv i.1),(10,iv i.2)],[(4,[iv f,iv b])],k⟩) (fun i=>i.1≤spotN l f b∧spotN l f b≤i.2∧i.2≤l.length) (fun i=>i.2 - i.1) (0,l.length) (Le_wa) ⟨by simp,by simp only;omega,by simp only;omega⟩ fun i hi B3 hN3 hR3 hX3=>?_
 obtain ⟨i,j⟩:=i
 obtain ⟨hi1,hi2,hi3⟩:=hi
 simp only at hi1 hi2 hi3
 refine Aw_sq fun B4 hB4 hR4 hX4=>?_
 refine Aw_st hE [0,2,4,8,9,10,17] [4] fun K hK=>?_
 simp only [go_sem,seval]
 refine hK _ (Aw_cond rfl (fun hc5=>?_) (fun hc5=>?_))
 ·simp only [dte] at hc5
  obtain ⟨h,hh⟩:∃ h,h=(i + j) / 2:=⟨_,rfl⟩
  have hij:i < j:=by omega
  have hhn:h < l.length:=by omega
  have e:IntKind.i64.wrap ((IntKind.u64.wrap ((i:Int) + (j:Int))).fdiv (2 ^ min 1 64))=(h:Int):=by
   rw [IntKind.wrap_i64,IntKind.wrap_u64,show min 1 64=1 from rfl,Int.fdiv_eq_ediv_of_nonneg _ (by decide)]
   omega
  have hg:=rrows_at l h hhn
  have hr:=hrs _ (List.getElem_mem hhn)
  have hlt:=spotN_lt (f:=f) (b:=b) hsrt h hhn
  generalize l[h]=x at hg hr hlt
  obtain ⟨xf,xb,xp,xk,xm⟩:=x
  simp only at hr hlt
  refine Aw_skip (hB4 _ ?_)
  refine Aw_bk fun B6 hN6 hE6 hR6 hX6=>?_
  refine Aw_st hE [0,2,4,8,9,10,11] [4] fun K hK=>?_
  simp only [go_sem,seval]
  repeat refine sd0 ?_
  rw [e]
  refine hK _ ?_;clear hK K
  refine Aw_sd hE [0,2,4,8,9,10,11,31] [4] 6 (by kernel_rfl) fun K hK=>?_
  simp only [go_sem,seval,hg,Int.toNat_natCast,hr,hrb,Bool.and_self,if_true]
  repeat refine sd0 ?_
  refine hK _ (Aw_cond rfl (fun hc7=>?_) (fun hc7=>?_))
  ·simp only [dte] at hc7
   refine Aw_tx hE [0,2,4,8,9,10] [4] fun K hK=>?_
   simp only [go_sem,seval]
   repeat refine sd0 ?_
   refine hK _ (hN6 _ (hN3 (h + 1,j) _ ⟨by simp only;have:=hlt.2 hc7;omega,hi2,hi3⟩ (by simp only;omega) (Le.refl _)))
  ·simp only [dfn] at hc7
   have hnl:¬ h < spotN l f b:=fun q=>hc7 (hlt.1 q)
   refine Aw_tx hE [0,2,4,8,9,10] [4] fun K hK=>?_
   simp only [go_sem,seval]
   repeat refine sd0 ?_
   refine hK _ (hN6 _ (hN3 (i,h) _ ⟨hi1,by simp only;omega,by simp only;omega⟩ (by simp only;omega) (Le.refl _)))
 ·simp only [dfn] at hc5
  obtain rfl:i=spotN l f b:=by omega
  refine Aw_exit (hX4 _ _ (hX3 _ _ (hE2 _ (hB1 _ ?_))))
  rcases spot_look (f:=f) (b:=b) hsrt with ⟨h1,h2⟩ | ⟨hj,h1,h2⟩
  ·rw [h1] at hQ
   by_cases hj:spotN l f b < l.length
   ·have hg:=rrows_at l _ hj
    have hr:=hrs _ (List.getElem_mem hj)
    have h2:=h2 hj
    have d0:decide ((spotN l f b:Int) < (l.length:Int))=true:=by simp;omega
    have d1:decide (rCmp l[spotN l f b].f l[spotN l f b].b f b=0)=false:=decide_eq_false h2
    refine Aw_sd hE [6,7] [4] 6 (by kernel_rfl) fun K hK=>?_
    simp only [go_sem,seval,d0,hg,hr,hrb,Int.toNat_natCast,Bool.and_self,if_true,d1]
    refine ⟨by omega,hK _ (Aw_ret (hQ _ ?_))⟩
    simp only [go_sem,seval]
    all_goals rfl
   ·have d0:decide ((spotN l f b:Int) < (l.length:Int))=false:=by simp;omega
    refine Aw_sd hE [6,7] [4] 6 (by kernel_rfl) fun K hK=>?_
    simp only [go_sem,seval,d0]
    refine hK _ (Aw_ret (hQ _ ?_))
    simp only [go_sem,seval]
    all_goals rfl
  ·rw [h1] at hQ
   have hg:=rrows_at l _ hj
   have hr:=hrs _ (List.getElem_mem hj)
   have d0:decide ((spotN l f b:Int) < (l.length:Int))=true:=by simp;omega
   have d1:decide (rCmp l[spotN l f b].f l[spotN l f b].b f b=0)=true:=decide_eq_true h2
   refine Aw_sd hE [6,7] [4] 6 (by kernel_rfl) fun K hK=>?_
   simp only [go_sem,seval,d0,hg,hr,hrb,Int.toNat_natCast,Bool.and_self,if_true,d1,h2]
   refine ⟨by omega,hK _ (Aw_ret (hQ _ ?_))⟩
   simp only [go_sem,seval]
   all_goals simp
def gSpot:List AV→Option (Prop × AV)
 | [.sl _ els,.agg [.v (.int .i64 f),.v (.int .i64 b)]]=>(match rtsL els with
  | some l=>some ((l.length≤1000∧sortR l)∧rngsOk l∧rngOk f b=true,.tup [iv (spotN l f b),bv (look l (f,b)).isSome])
  | none=>none)
 | _=>none
def dSpot:DFn:={ g:=gSpot }
attribute [go_sem] gSpot dSpot
theorem spot_ok:Fine Tryd.prog 25 dSpot.con:=by
 refine fine_det (T:=TT) Tryd.func25 rfl Tryd.ntmps25 (by rw [Tryd.results25]) rfl rfl tt (gs_nil) (ds_cons bsF_ok ds_nil) ?_
 intro args c r h hc
 simp only [dSpot,gSpot] at h
 split at h
 rotate_left
 ·cases h
 split at h
 rotate_left
 ·cases h
 rename_i t els f b _ l hrt
 obtain rfl:=rtsL_eq hrt
 obtain ⟨rfl,rfl⟩:=Prod.mk.inj (Option.some.inj h)
 refine ⟨by simp,fun k E hE Q hQ=>?_⟩
 obtain ⟨⟨hll,hsrt⟩,hrs,hrb⟩:=hc
 refine Aw_st hE [0,3] [3] fun K hK=>?_
 simp only [go_sem,seval]
 repeat refine sd0 ?_
 refine hK _ ?_;clear hK K
 refine Aw_st hE [4,5] [] fun K hK=>?_
 simp only [go_sem,seval]
 repeat refine sd0 ?_
 refine hK _ (Aw_ret (hQ _ ?_))
 simp only [go_sem,seval]
def gSame:List AV→Option (Prop × AV)
 | [.agg [.v (.int .i64 f),.v (.int .i64 b),.sl _ e1,.v (.int .i64 k),.sl _ e2],.agg [.v (.int .i64 f'),.v (.int .i64 b'),.sl _ e3,.v (.int .i64 k'),.sl _ e4]]=>(match intsL e1,intsL e2,intsL e3,intsL e4 with
  | some p,some m,some p',some m'=>some ((p.length≤1000∧p'.length≤1000)∧m.length≤1000∧m'.length≤1000,bv (decide ((⟨f,b,p,k,m⟩:Rt)=⟨f',b',p',k',m'⟩)))
  | _,_,_,_=>none)
 | _=>none
def dSame:DFn:={ g:=gSame }
attribute [go_sem] gSame dSame
theorem same_ok:Fine Tryd.prog 26 dSame.con:=by
 refine fine_det (T:=TT) Tryd.func26 rfl Tryd.ntmps26 (by rw [Tryd.results26]) rfl rfl tt (gs_nil) (ds_cons eqL_ok ds_nil) ?_
 intro args c r h hc
 simp only [dSame,gSame] at h
 split at h
 rotate_left
 ·cases h
 split at h
 rotate_left
 ·cases h
 rename_i f b t1 e1 kk t2 e2 f' b' t3 e3 kk' t4 e4 _ _ _ _ p m p' m' hl1 hl2 hl3 hl4
 obtain rfl:=intsL_eq hl1
 obtain rfl:=intsL_eq hl2
 obtain rfl:=intsL_eq hl3
 obtain rfl:=intsL_eq hl4
 obtain ⟨rfl,rfl⟩:=Prod.mk.inj (Option.some.inj h)
 refine ⟨by simp,fun k E hE Q hQ=>?_⟩
 obtain ⟨⟨hp,hp'⟩,hm,hm'⟩:=hc
 have q1:p.length≤4294967296∧p'.length≤4294967296:=by omega
 have q2:m.length≤4294967296∧m'.length≤4294967296:=by omega
 refine Aw_st hE [2,3] [2,3] fun K hK=>?_
 simp only [go_sem,seval]
 refine hK _ ?_;clear hK K
 have hd:decide ((⟨f,b,p,kk,m⟩:Rt)=⟨f',b',p',kk',m'⟩)=(((f == f' && b == b') && decide (kk=kk')) && decide (p=p') && decide (m=m')):=by
  rw [Bool.eq_iff_iff]
  simp only [dte,Bool.and_eq_true,Rt.mk.injEq,beq_iff_eq]
  constructor
  ·rintro ⟨a1,a2,a3,a4,a5⟩;exact ⟨⟨⟨⟨a1,a2⟩,a4⟩,a3⟩,a5⟩
  ·rintro ⟨⟨⟨⟨a1,a2⟩,a4⟩,a3⟩,a5⟩;exact ⟨a1,a2,a3,a4,a5⟩
 rw [hd] at hQ
 cases c1:(f == f' && b == b') with
 | false =>
  refine Aw_st hE [4] [2,3] fun K hK=>?_
  simp only [go_sem,seval,c1,q1,q2]
  refine hK _ (Aw_ret (hQ _ ?_))
  simp only [go_sem,seval,c1]
 | true =>
 cases c2:decide (kk=kk') with
 | false =>
  refine Aw_st hE [4] [2,3] fun K hK=>?_
  simp only [go_sem,seval,c1,c2,q1,q2]
  refine hK _ (Aw_ret (hQ _ ?_))
  simp only [go_sem,seval,c1,c2]
 | true =>
 cases c3:decide (p=p') with
 | false =>
  refine Aw_st hE [4] [2,3] fun K hK=>?_
  simp only [go_sem,seval,c1,c2,c3,q1,q2]
  refine hK _ (Aw_ret (hQ _ ?_))
  simp only [go_sem,seval,c1,c2,c3]
 | true =>
  refine Aw_st hE [4] [2,3] fun K hK=>?_
  simp only [go_sem,seval,c1,c2,c3,q1,q2]
  refine hK _ (Aw_ret (hQ _ ?_))
  simp only [go_sem,seval,c1,c2,c3]
def cDl:List (Int × Int)→AV
 | []=>.nl
 | k::D=>.sl (some (9,0,33)) (krows (k::D))
def cTl:List Rt→AV
 | []=>.nl
 | r::T=>.sl (some (10,0,36)) (rrows (r::T))
theorem rngs_ok {l:List Rt} (h:routesOk l=true):rngsOk l:=fun r hr=>rtOk_r (show rtOk r.f r.b r.path r.like r.marks=true from (routesOk_iff.1 h).2.1 r hr)
theorem dropsU_yes {a b:List Rt} {i:Nat} {y:Rt} (hi:i < a.length) (h:look b (key a[i])=some y):dropsU a b (i + 1)=dropsU a b i:=by
 rw [dropsU_step hi,h];exact List.append_nil _
theorem dropsU_no {a b:List Rt} {i:Nat} (hi:i < a.length) (h:look b (key a[i])=none):dropsU a b (i + 1)=dropsU a b i++[key a[i]]:=by
 rw [dropsU_step hi,h];rfl
def iS1 (a b:List Rt) (k i:Nat):St:=⟨79,[(0,.sl none (rrows a)),(1,.sl none (rrows b)),(4,.loc 4 0),(5,.loc 5 0),(23,.sl none (rrows a)),(24,iv a.length),(25,iv i)],[(4,[.nl,.nl]),(5,[cDl (dropsU a b i),.nl])],k⟩
def iS2 (a b:List Rt) (k i:Nat):St:=⟨79,[(0,.sl none (rrows a)),(4,.loc 4 0),(5,.loc 5 0),(46,.sl none (rrows b)),(47,iv b.length),(48,iv i)],[(4,[.nl,.nl]),(5,[.sl none (krows (dropsF a b)),cTl (tellsU a b i)])],k⟩
set_option maxHeartbeats 8000000 in
theorem iDeltaOf_ok (pb:Addr):Fine Tryd.prog 10 (dDeltaI pb).con:=by
 refine fine_det (T:=TT) Tryd.func10 rfl Tryd.ntmps10 (by rw [Tryd.results10]) rfl rfl tt (gs_nil) (ds_cons (iRoutesOk_ok pb) (ds_cons spot_ok (ds_cons same_ok (ds_cons copyD_ok ds_nil))) (wp_inh pb)) ?_
 intro args c r h hc
 simp only [dDeltaI,gDelta] at h
 split at h
 rotate_left
 ·cases h
 split at h
 rotate_left
 ·cases h
 rename_i ta e1 tb e2 _ _ a b hrt1 hrt2
 obtain rfl:=rtsL_eq hrt1
 obtain rfl:=rtsL_eq hrt2
 obtain ⟨rfl,rfl⟩:=Prod.mk.inj (Option.some.inj h)
 refine ⟨by simp,fun k E hE Q hQ=>?_⟩
 obtain ⟨hca,hcb⟩:=hc
 have hal:=hca.1
 have hbl:=hcb.1
 refine Aw_st hE [0,1,4] [4,5,7,11] fun K hK=>?_
 simp only [go_sem,seval]
 refine hK _ ?_;clear hK K
 refine Aw_sq fun B1 hB1 hR1 hX1=>?_
 cases hoa:routesOk a with
 | false =>
  have hd:dropsB a b=[]:=by unfold dropsB;rw [hoa];rfl
  have ht:tellsB a b=[]:=by unfold tellsB;rw [hoa];rfl
  refine Aw_st hE [0,1,4,21] [4,5,7,11] fun K hK=>?_
  simp only [go_sem,seval,hoa]
  refine ⟨hca,?_⟩
  refine hK _ (Aw_yes rfl ?_)
  refine Aw_st hE [4] [4,5,7,11] fun K hK=>?_
  simp only [go_sem,seval]
  refine hK _ (Aw_ret (hR1 _ (hQ _ ?_)))
  simp only [go_sem,seval,hd,ht]
 | true =>
 cases hob:routesOk b with
 | false =>
  have hd:dropsB a b=[]:=by unfold dropsB;rw [hoa,hob];rfl
  have ht:tellsB a b=[]:=by unfold tellsB;rw [hoa,hob];rfl
  refine Aw_st hE [0,1,4,21] [4,5,7,11] fun K hK=>?_
  simp only [go_sem,seval,hoa,hob]
  refine ⟨hca,hcb,?_⟩
  refine hK _ (Aw_yes rfl ?_)
  refine Aw_st hE [4] [4,5,7,11] fun K hK=>?_
  simp only [go_sem,seval]
  refine hK _ (Aw_ret (hR1 _ (hQ _ ?_)))
  simp only [go_sem,seval,hd,ht]
 | true =>
 have hd:dropsB a b=dropsF a b:=by unfold dropsB;rw [hoa,hob];rfl
 have ht:tellsB a b=tellsF a b:=by unfold tellsB;rw [hoa,hob];rfl
 have hra:=rngs_ok hoa
 have hrb:=rngs_ok hob
 have hsa:=(routesOk_iff.1 hoa).2.2
 have hsb:=(routesOk_iff.1 hob).2.2
 refine Aw_st hE [0,1,4,21] [4,5,7,11] fun K hK=>?_
 simp only [go_sem,seval,hoa,hob]
 refine ⟨hca,hcb,?_⟩
 refine hK _ (Aw_no rfl (Aw_skip (hB1 _ ?_)))
 refine Aw_st hE [0,1,4,5] [4,5,7,11] fun K hK=>?_
 simp only [go_sem,seval]
 refine hK _ ?_;clear hK K
 refine Aw_sqJ (fun _:Unit=>⟨79,[(0,.sl none (rrows a)),(1,.sl none (rrows b)),(4,.loc 4 0),(5,.loc 5 0)],[(4,[.nl,.nl]),(5,[.sl none (krows (dropsF a b)),.nl])],k⟩) (fun _=>True) (fun _ _=>?_) fun B5 hB5 hR5 hX5=>?_
 ·refine Aw_sq fun B13 hB13 hR13 hX13=>?_
  refine Aw_st hE [0,4,5,46,47,48] [4,5,7,11] fun K hK=>?_
  simp only [go_sem,seval]
  refine hK _ ?_;clear hK K
  refine Aw_bk fun B14 hN14 hE14 hR14 hX14=>?_
  refine Aw_lp (fun i:Nat=>iS2 a b k i) (fun i=>i≤b.length) (fun i=>b.length - i) 0 (Le.refl _) (by omega) fun i hi B15 hN15 hR15 hX15=>?_
  have hTl:=tellsU_len a b i
  simp only [iS2]
  rcases hT:tellsU a b i with _ | ⟨r0,T0⟩
  all_goals simp only [cTl]
  ·refine Aw_st hE [0,4,5,46,47,48,49] [4,5,7,11] fun K hK=>?_
   simp only [go_sem,seval]
   refine hK _ ?_;clear hK K
   refine Aw_sq fun B16 hB16 hR16 hX16=>?_
   refine Aw_cond rfl (fun hc17=>?_) (fun hc17=>?_)
   ·simp only [dte] at hc17
    have hil:i < b.length:=by omega
    have hg:=rrows_at b i hil
    have hrx:=hrb _ (List.getElem_mem hil)
    obtain ⟨hxp,hxm⟩:=smallR_at hcb i hil
    have hsty:=fun h=>tellsU_yes (a:=a) hil h
    have hstn:=fun h=>tellsU_no (a:=a) hil h
    generalize b[i]=x at hg hsty hstn hxp hxm hrx
    obtain ⟨xf,xb,xp,xk,xm⟩:=x
    simp only at hxp hxm hrx
    have hxl:xp.length≤2000000∧xm.length≤2000000:=by omega
    refine Aw_skip (hB16 _ ?_)
    refine Aw_sq fun B18 hB18 hR18 hX18=>?_
    refine Aw_bk fun B19 hN19 hE19 hR19 hX19=>?_
    refine Aw_st hE [0,4,5,11,46,47,48] [4,5,7,11] fun K hK=>?_
    simp only [go_sem,seval,hg]
    repeat refine sd0 ?_
    refine hK _ ?_;clear hK K
    refine Aw_st hE [0,4,5,11,12,13,46,47,48] [4,5,7,11] fun K hK=>?_
    simp only [go_sem,seval]
    refine ⟨⟨⟨hal,hsa⟩,hra,hrx⟩,?_⟩
    refine hK _ ?_;clear hK K
    rcases spot_look (f:=xf) (b:=xb) hsa with ⟨h1,_⟩ | ⟨hj,h1,_⟩
    ·have hst:=hstn (show ¬ look a (xf,xb)=some _ by rw [h1];simp)
     rw [h1]
     refine Aw_sd hE [0,4,5,11,46,47,48,69] [4,5,7,11] 6 (by kernel_rfl) fun K hK=>?_
     simp only [go_sem,seval,Option.isSome_none,Bool.not_false]
     refine hK _ (Aw_yes rfl ?_)
     refine Aw_td hE [0,4,5,46,47,48] [4,5,7,11] 6 (by kernel_rfl) fun K hK=>?_
     simp only [go_sem,seval,rrows_one,List.nil_append]
     refine ⟨hxl,rrows_row _,?_⟩
     refine hK _ (hN19 _ (hB18 _ ?_))
     refine Aw_tx hE [0,4,5,46,47,48] [4,5,7,11] fun K hK=>?_
     simp only [go_sem,seval]
     repeat refine sd0 ?_
     refine hK _ (hN15 (i + 1) _ (by omega) (by omega) ?_)
     simp only [iS2]
     rw [hst,hT]
     exact (Le_kb [4,5] rfl).trans (Le_tk 75 10 rfl)
    ·have hgj:=rrows_at a _ hj
     obtain ⟨hyp,hym⟩:=smallR_at hca _ hj
     have hln:(a[spotN a xf xb].path.length≤1000∧xp.length≤1000)∧a[spotN a xf xb].marks.length≤1000∧xm.length≤1000:=by omega
     by_cases he:a[spotN a xf xb]=(⟨xf,xb,xp,xk,xm⟩:Rt)
     ·have hst:=hsty (show look a (xf,xb)=some _ by rw [h1,he])
      have d1:decide ((⟨a[spotN a xf xb].f,a[spotN a xf xb].b,a[spotN a xf xb].path,a[spotN a xf xb].like,a[spotN a xf xb].marks⟩:Rt)=⟨xf,xb,xp,xk,xm⟩)=true:=decide_eq_true he
      rw [h1]
      refine Aw_sd hE [0,4,5,11,46,47,48,69] [4,5,7,11] 6 (by kernel_rfl) fun K hK=>?_
      simp only [go_sem,seval,Option.isSome_some,Bool.not_true,hgj,Int.toNat_natCast,d1]
      refine ⟨by omega,hln,?_⟩
      refine hK _ (Aw_no rfl ?_)
      refine Aw_skip (hN19 _ (hB18 _ ?_))
      refine Aw_tx hE [0,4,5,46,47,48] [4,5,7,11] fun K hK=>?_
      simp only [go_sem,seval]
      repeat refine sd0 ?_
      refine hK _ (hN15 (i + 1) _ (by omega) (by omega) ?_)
      simp only [iS2]
      rw [hst,hT]
      exact Le_ks [0,4,5,46,47,48] [4,5]
     ·have hst:=hstn (show ¬ look a (xf,xb)=some _ by rw [h1];exact fun e=>he (Option.some.inj e))
      have d1:decide ((⟨a[spotN a xf xb].f,a[spotN a xf xb].b,a[spotN a xf xb].path,a[spotN a xf xb].like,a[spotN a xf xb].marks⟩:Rt)=⟨xf,xb,xp,xk,xm⟩)=false:=decide_eq_false he
      rw [h1]
      refine Aw_sd hE [0,4,5,11,46,47,48,69] [4,5,7,11] 6 (by kernel_rfl) fun K hK=>?_
      simp only [go_sem,seval,Option.isSome_some,Bool.not_true,hgj,Int.toNat_natCast,d1]
      refine ⟨by omega,hln,?_⟩
      refine hK _ (Aw_yes rfl ?_)
      refine Aw_td hE [0,4,5,46,47,48] [4,5,7,11] 6 (by kernel_rfl) fun K hK=>?_
      simp only [go_sem,seval,rrows_one,List.nil_append]
      refine ⟨hxl,rrows_row _,?_⟩
      refine hK _ (hN19 _ (hB18 _ ?_))
      refine Aw_tx hE [0,4,5,46,47,48] [4,5,7,11] fun K hK=>?_
      simp only [go_sem,seval]
      repeat refine sd0 ?_
      refine hK _ (hN15 (i + 1) _ (by omega) (by omega) ?_)
      simp only [iS2]
      rw [hst,hT]
      exact (Le_kb [4,5] rfl).trans (Le_tk 75 10 rfl)
   ·simp only [dfn] at hc17
    obtain rfl:i=b.length:=by omega
    have e2:tellsF a b=[]:=by rw [← hT];unfold tellsU;rw [List.take_length]
    refine Aw_exit (hX16 _ _ (hX15 _ _ (hE14 _ (hB13 _ ?_))))
    refine Aw_st hE [4] [4,5,7,11] fun K hK=>?_
    simp only [go_sem,seval]
    refine hK _ (Aw_ret (hQ _ ?_))
    simp only [go_sem,seval,hd,ht,e2]
    all_goals rfl
  ·refine Aw_st hE [0,4,5,46,47,48,49] [4,5,7,11] fun K hK=>?_
   simp only [go_sem,seval]
   refine hK _ ?_;clear hK K
   refine Aw_sq fun B16 hB16 hR16 hX16=>?_
   refine Aw_cond rfl (fun hc17=>?_) (fun hc17=>?_)
   ·simp only [dte] at hc17
    have hil:i < b.length:=by omega
    have hg:=rrows_at b i hil
    have hrx:=hrb _ (List.getElem_mem hil)
    obtain ⟨hxp,hxm⟩:=smallR_at hcb i hil
    have hsty:=fun h=>tellsU_yes (a:=a) hil h
    have hstn:=fun h=>tellsU_no (a:=a) hil h
    generalize b[i]=x at hg hsty hstn hxp hxm hrx
    obtain ⟨xf,xb,xp,xk,xm⟩:=x
    simp only at hxp hxm hrx
    have hxl:xp.length≤2000000∧xm.length≤2000000:=by omega
    refine Aw_skip (hB16 _ ?_)
    refine Aw_sq fun B18 hB18 hR18 hX18=>?_
    refine Aw_bk fun B19 hN19 hE19 hR19 hX19=>?_
    refine Aw_st hE [0,4,5,11,46,47,48] [4,5,7,11] fun K hK=>?_
    simp only [go_sem,seval,hg]
    repeat refine sd0 ?_
    refine hK _ ?_;clear hK K
    refine Aw_st hE [0,4,5,11,12,13,46,47,48] [4,5,7,11] fun K hK=>?_
    simp only [go_sem,seval]
    refine ⟨⟨⟨hal,hsa⟩,hra,hrx⟩,?_⟩
    refine hK _ ?_;clear hK K
    rcases spot_look (f:=xf) (b:=xb) hsa with ⟨h1,_⟩ | ⟨hj,h1,_⟩
    ·have hst:=hstn (show ¬ look a (xf,xb)=some _ by rw [h1];simp)
     rw [h1]
     refine Aw_sd hE [0,4,5,11,46,47,48,69] [4,5,7,11] 6 (by kernel_rfl) fun K hK=>?_
     simp only [go_sem,seval,Option.isSome_none,Bool.not_false]
     refine hK _ (Aw_yes rfl ?_)
     refine Aw_td hE [0,4,5,46,47,48] [4,5,7,11] 6 (by kernel_rfl) fun K hK=>?_
     simp only [go_sem,seval,rrows_one,List.nil_append]
     refine ⟨hxl,⟨rrows_row _,by rw [hT,List.length_cons] at hTl;omega⟩,?_⟩
     refine hK _ (hN19 _ (hB18 _ ?_))
     refine Aw_tx hE [0,4,5,46,47,48] [4,5,7,11] fun K hK=>?_
     simp only [go_sem,seval]
     repeat refine sd0 ?_
     refine hK _ (hN15 (i + 1) _ (by omega) (by omega) ?_)
     simp only [iS2]
     rw [hst,hT]
     exact (Le_kb [4,5] rfl).trans (Le_tk 75 10 rfl)
    ·have hgj:=rrows_at a _ hj
     obtain ⟨hyp,hym⟩:=smallR_at hca _ hj
     have hln:(a[spotN a xf xb].path.length≤1000∧xp.length≤1000)∧a[spotN a xf xb].marks.length≤1000∧xm.length≤1000:=by omega
     by_cases he:a[spotN a xf xb]=(⟨xf,xb,xp,xk,xm⟩:Rt)
     ·have hst:=hsty (show look a (xf,xb)=some _ by rw [h1,he])
      have d1:decide ((⟨a[spotN a xf xb].f,a[spotN a xf xb].b,a[spotN a xf xb].path,a[spotN a xf xb].like,a[spotN a xf xb].marks⟩:Rt)=⟨xf,xb,xp,xk,xm⟩)=true:=decide_eq_true he
      rw [h1]
      refine Aw_sd hE [0,4,5,11,46,47,48,69] [4,5,7,11] 6 (by kernel_rfl) fun K hK=>?_
      simp only [go_sem,seval,Option.isSome_some,Bool.not_true,hgj,Int.toNat_natCast,d1]
      refine ⟨by omega,hln,?_⟩
      refine hK _ (Aw_no rfl ?_)
      refine Aw_skip (hN19 _ (hB18 _ ?_))
      refine Aw_tx hE [0,4,5,46,47,48] [4,5,7,11] fun K hK=>?_
      simp only [go_sem,seval]
      repeat refine sd0 ?_
      refine hK _ (hN15 (i + 1) _ (by omega) (by omega) ?_)
      simp only [iS2]
      rw [hst,hT]
      exact Le_ks [0,4,5,46,47,48] [4,5]
     ·have hst:=hstn (show ¬ look a (xf,xb)=some _ by rw [h1];exact fun e=>he (Option.some.inj e))
      have d1:decide ((⟨a[spotN a xf xb].f,a[spotN a xf xb].b,a[spotN a xf xb].path,a[spotN a xf xb].like,a[spotN a xf xb].marks⟩:Rt)=⟨xf,xb,xp,xk,xm⟩)=false:=decide_eq_false he
      rw [h1]
      refine Aw_sd hE [0,4,5,11,46,47,48,69] [4,5,7,11] 6 (by kernel_rfl) fun K hK=>?_
      simp only [go_sem,seval,Option.isSome_some,Bool.not_true,hgj,Int.toNat_natCast,d1]
      refine ⟨by omega,hln,?_⟩
      refine hK _ (Aw_yes rfl ?_)
      refine Aw_td hE [0,4,5,46,47,48] [4,5,7,11] 6 (by kernel_rfl) fun K hK=>?_
      simp only [go_sem,seval,rrows_one,List.nil_append]
      refine ⟨hxl,⟨rrows_row _,by rw [hT,List.length_cons] at hTl;omega⟩,?_⟩
      refine hK _ (hN19 _ (hB18 _ ?_))
      refine Aw_tx hE [0,4,5,46,47,48] [4,5,7,11] fun K hK=>?_
      simp only [go_sem,seval]
      repeat refine sd0 ?_
      refine hK _ (hN15 (i + 1) _ (by omega) (by omega) ?_)
      simp only [iS2]
      rw [hst,hT]
      exact (Le_kb [4,5] rfl).trans (Le_tk 75 10 rfl)
   ·simp only [dfn] at hc17
    obtain rfl:i=b.length:=by omega
    have e2:tellsF a b=r0::T0:=by rw [← hT];unfold tellsU;rw [List.take_length]
    refine Aw_exit (hX16 _ _ (hX15 _ _ (hE14 _ (hB13 _ ?_))))
    refine Aw_st hE [4] [4,5,7,11] fun K hK=>?_
    simp only [go_sem,seval]
    refine hK _ (Aw_ret (hQ _ ?_))
    simp only [go_sem,seval,hd,ht,e2]
    all_goals rfl
 ·refine Aw_st hE [0,1,4,5,23,24,25] [4,5,7,11] fun K hK=>?_
  simp only [go_sem,seval]
  refine hK _ ?_;clear hK K
  refine Aw_bk fun B6 hN6 hE6 hR6 hX6=>?_
  refine Aw_lp (fun i:Nat=>iS1 a b k i) (fun i=>i≤a.length) (fun i=>a.length - i) 0 (Le_wk (by first | omega | (dsimp only;omega) | (simp only;omega) | (simp;omega)) (by simp only [go_sem,seval]) (by simp only [go_sem,seval];rfl)) (by omega) fun i hi B7 hN7 hR7 hX7=>?_
  have hDl:=dropsU_len a b i
  simp only [iS1]
  rcases hD:dropsU a b i with _ | ⟨k0,D0⟩
  all_goals simp only [cDl]
  ·refine Aw_st hE [0,1,4,5,23,24,25,26] [4,5,7,11] fun K hK=>?_
   simp only [go_sem,seval]
   refine hK _ ?_;clear hK K
   refine Aw_sq fun B8 hB8 hR8 hX8=>?_
   refine Aw_cond rfl (fun hc9=>?_) (fun hc9=>?_)
   ·simp only [dte] at hc9
    have hil:i < a.length:=by omega
    have hg:=rrows_at a i hil
    have hrx:=hra _ (List.getElem_mem hil)
    have hsty:=fun y h=>dropsU_yes (b:=b) (y:=y) hil h
    have hstn:=fun h=>dropsU_no (b:=b) hil h
    generalize a[i]=x at hg hsty hstn hrx
    obtain ⟨xf,xb,xp,xk,xm⟩:=x
    simp only at hrx
    refine Aw_skip (hB8 _ ?_)
    refine Aw_sq fun B10 hB10 hR10 hX10=>?_
    refine Aw_bk fun B11 hN11 hE11 hR11 hX11=>?_
    refine Aw_st hE [0,1,4,5,7,23,24,25] [4,5,7,11] fun K hK=>?_
    simp only [go_sem,seval,hg]
    repeat refine sd0 ?_
    refine hK _ ?_;clear hK K
    refine Aw_st hE [0,1,4,5,7,9,23,24,25] [4,5,7,11] fun K hK=>?_
    simp only [go_sem,seval]
    refine ⟨⟨⟨hbl,hsb⟩,hrb,hrx⟩,?_⟩
    refine hK _ ?_;clear hK K
    cases hlk:look b (xf,xb) with
    | none =>
     have hst:dropsU a b (i + 1)=dropsU a b i++[(xf,xb)]:=hstn hlk
     refine Aw_st hE [0,1,4,5,7,23,24,25,37] [4,5,7,11] fun K hK=>?_
     simp only [go_sem,seval]
     refine hK _ (Aw_yes rfl ?_)
     refine Aw_tx hE [0,1,4,5,23,24,25] [4,5,7,11] fun K hK=>?_
     simp only [go_sem,seval,krows_one,List.nil_append]
     refine ⟨krows_row _,?_⟩
     refine hK _ (hN11 _ (hB10 _ ?_))
     refine Aw_tx hE [0,1,4,5,23,24,25] [4,5,7,11] fun K hK=>?_
     simp only [go_sem,seval]
     repeat refine sd0 ?_
     refine hK _ (hN7 (i + 1) _ (by omega) (by omega) ?_)
     simp only [iS1]
     rw [hst,hD]
     exact (Le_kb [4,5] rfl).trans (Le_tk 43 9 rfl)
    | some y =>
     have hst:dropsU a b (i + 1)=dropsU a b i:=hsty y hlk
     refine Aw_st hE [0,1,4,5,7,23,24,25,37] [4,5,7,11] fun K hK=>?_
     simp only [go_sem,seval]
     refine hK _ (Aw_no rfl ?_)
     refine Aw_skip (hN11 _ (hB10 _ ?_))
     refine Aw_tx hE [0,1,4,5,23,24,25] [4,5,7,11] fun K hK=>?_
     simp only [go_sem,seval]
     repeat refine sd0 ?_
     refine hK _ (hN7 (i + 1) _ (by omega) (by omega) ?_)
     simp only [iS1]
     rw [hst,hD]
     exact Le_ks [0,1,4,5,23,24,25] [4,5]
   ·simp only [dfn] at hc9
    obtain rfl:i=a.length:=by omega
    have e1:dropsF a b=[]:=by
     rw [← hD];unfold dropsU;rw [List.take_length]
    refine Aw_exit (hX8 _ _ (hX7 _ _ (hE6 _ (hB5 () _ trivial (Le_E ?_)))))
    rw [e1]
    exact Le_wk (Nat.le_refl _) (by simp only [go_sem,seval]) (by simp only [go_sem,seval];all_goals rfl)
  ·refine Aw_st hE [0,1,4,5,23,24,25,26] [4,5,7,11] fun K hK=>?_
   simp only [go_sem,seval]
   refine hK _ ?_;clear hK K
   refine Aw_sq fun B8 hB8 hR8 hX8=>?_
   refine Aw_cond rfl (fun hc9=>?_) (fun hc9=>?_)
   ·simp only [dte] at hc9
    have hil:i < a.length:=by omega
    have hg:=rrows_at a i hil
    have hrx:=hra _ (List.getElem_mem hil)
    have hsty:=fun y h=>dropsU_yes (b:=b) (y:=y) hil h
    have hstn:=fun h=>dropsU_no (b:=b) hil h
    generalize a[i]=x at hg hsty hstn hrx
    obtain ⟨xf,xb,xp,xk,xm⟩:=x
    simp only at hrx
    refine Aw_skip (hB8 _ ?_)
    refine Aw_sq fun B10 hB10 hR10 hX10=>?_
    refine Aw_bk fun B11 hN11 hE11 hR11 hX11=>?_
    refine Aw_st hE [0,1,4,5,7,23,24,25] [4,5,7,11] fun K hK=>?_
    simp only [go_sem,seval,hg]
    repeat refine sd0 ?_
    refine hK _ ?_;clear hK K
    refine Aw_st hE [0,1,4,5,7,9,23,24,25] [4,5,7,11] fun K hK=>?_
    simp only [go_sem,seval]
    refine ⟨⟨⟨hbl,hsb⟩,hrb,hrx⟩,?_⟩
    refine hK _ ?_;clear hK K
    cases hlk:look b (xf,xb) with
    | none =>
     have hst:dropsU a b (i + 1)=dropsU a b i++[(xf,xb)]:=hstn hlk
     refine Aw_st hE [0,1,4,5,7,23,24,25,37] [4,5,7,11] fun K hK=>?_
     simp only [go_sem,seval]
     refine hK _ (Aw_yes rfl ?_)
     refine Aw_tx hE [0,1,4,5,23,24,25] [4,5,7,11] fun K hK=>?_
     simp only [go_sem,seval,krows_one,List.nil_append]
     refine ⟨⟨krows_row _,by rw [hD,List.length_cons] at hDl;omega⟩,?_⟩
     refine hK _ (hN11 _ (hB10 _ ?_))
     refine Aw_tx hE [0,1,4,5,23,24,25] [4,5,7,11] fun K hK=>?_
     simp only [go_sem,seval]
     repeat refine sd0 ?_
     refine hK _ (hN7 (i + 1) _ (by omega) (by omega) ?_)
     simp only [iS1]
     rw [hst,hD]
     exact (Le_kb [4,5] rfl).trans (Le_tk 43 9 rfl)
    | some y =>
     have hst:dropsU a b (i + 1)=dropsU a b i:=hsty y hlk
     refine Aw_st hE [0,1,4,5,7,23,24,25,37] [4,5,7,11] fun K hK=>?_
     simp only [go_sem,seval]
     refine hK _ (Aw_no rfl ?_)
     refine Aw_skip (hN11 _ (hB10 _ ?_))
     refine Aw_tx hE [0,1,4,5,23,24,25] [4,5,7,11] fun K hK=>?_
     simp only [go_sem,seval]
     repeat refine sd0 ?_
     refine hK _ (hN7 (i + 1) _ (by omega) (by omega) ?_)
     simp only [iS1]
     rw [hst,hD]
     exact Le_ks [0,1,4,5,23,24,25] [4,5]
   ·simp only [dfn] at hc9
    obtain rfl:i=a.length:=by omega
    have e1:dropsF a b=k0::D0:=by
     rw [← hD];unfold dropsU;rw [List.take_length]
    refine Aw_exit (hX8 _ _ (hX7 _ _ (hE6 _ (hB5 () _ trivial (Le_E ?_)))))
    rw [e1]
    exact Le_wk (Nat.le_refl _) (by simp only [go_sem,seval]) (by simp only [go_sem,seval];all_goals rfl)
def gLyRx:List AV→Option (Prop × AV)
 | [.sl _ e1,.sl _ e2]=>(match rtsL e1,rtsL e2 with
  | some a,some b=>some ((a=b∧a.length≤1000000)∧∀ r ∈ a,r.path.length≤1000000∧r.marks.length≤1000000,bv true)
  | _,_=>none)
 | _=>none
def dLyRx:DFn:={ g:=gLyRx }
attribute [go_sem] gLyRx dLyRx
theorem lyRts_ok:Fine Tryd.prog 19 dLyRx.con:=by
 refine fine_det (T:=TT) Tryd.func19 rfl Tryd.ntmps19 (by rw [Tryd.results19]) rfl rfl tt gs_nil (ds_cons lyRoute_ok ds_nil) ?_
 intro args c r h hc
 simp only [dLyRx,gLyRx] at h
 split at h
 rotate_left
 ·cases h
 split at h
 rotate_left
 ·cases h
 rename_i t1 e1 t2 e2 _ _ l l2 hrt1 hrt2
 obtain rfl:=rtsL_eq hrt1
 obtain rfl:=rtsL_eq hrt2
 obtain ⟨rfl,rfl⟩:=Prod.mk.inj (Option.some.inj h)
 refine ⟨by simp,fun k E hE Q hQ=>?_⟩
 obtain ⟨⟨rfl,hll⟩,hlen⟩:=hc
 refine Aw_st hE [0,1] [] fun K hK=>?_
 simp only [go_sem,seval]
 repeat refine sd0 ?_
 refine hK _ ?_;clear hK K
 refine Aw_sq fun B1 hB1 hR1 hX1=>?_
 refine Aw_st hE [0,1,10] [] fun K hK=>?_
 simp only [go_sem,seval,decide_true,Bool.not_true]
 repeat refine sd0 ?_
 skip
 refine hK _ (Aw_no rfl ?_)
 refine Aw_skip (hB1 _ ?_)
 refine Aw_sq fun B3 hB3 hR3 hX3=>?_
 refine Aw_st hE [0,1,5] [] fun K hK=>?_
 simp only [go_sem,seval]
 repeat refine sd0 ?_
 refine hK _ ?_;clear hK K
 refine Aw_bk fun B4 hN4 hE4 hR4 hX4=>?_
 refine Aw_lp (fun i:Nat=>⟨27,[(0,.sl t1 (rrows l)),(1,.sl t2 (rrows l)),(5,iv i)],[],k⟩) (fun i:Nat=>i≤l.length) (fun i:Nat=>l.length - i) (0) (Le.refl _) (by omega) fun i hi B5 hN5 hR5 hX5=>?_
 refine Aw_sq fun B6 hB6 hR6 hX6=>?_
 refine Aw_st hE [0,1,5,14] [] fun K hK=>?_
 simp only [go_sem,seval]
 repeat refine sd0 ?_
 refine hK _ (Aw_cond rfl (fun hc7=>?_) (fun hc7=>?_))
 ·simp only [dte] at hc7
  have hil:i < l.length:=by omega
  have hget:=rrows_get l i hil
  have hln:=hlen _ (List.getElem_mem hil)
  generalize l[i]=x at hget hln
  obtain ⟨rf,rb,p,rk,m⟩:=x
  simp only at hln
  refine Aw_skip (hB6 _ ?_)
  refine Aw_sq fun B8 hB8 hR8 hX8=>?_
  refine Aw_bk fun B9 hN9 hE9 hR9 hX9=>?_
  refine Aw_sd hE [0,1,5,26] [] 6 (by kernel_rfl) fun K hK=>?_
  simp only [go_sem,seval,hget,and_self,decide_true]
  repeat refine sd0 ?_
  skip
  refine hK _ (Aw_no rfl ?_)
  refine Aw_skip (hN9 _ (hB8 _ ?_))
  refine Aw_tx hE [0,1,5] [] fun K hK=>?_
  simp only [go_sem,seval]
  repeat refine sd0 ?_
  refine hK _ (hN5 (i + 1) _ (by omega) (by omega) (Le.refl _))
 ·refine Aw_exit (hX6 _ _ (hX5 _ _ (hE4 _ (hB3 _ ?_))))
  refine Aw_st hE [4] [] fun K hK=>?_
  simp only [go_sem,seval]
  repeat refine sd0 ?_
  refine hK _ (Aw_ret (hQ _ ?_))
  simp only [go_sem,seval]
def gDMany:List AV→Option (Prop × AV)
 | [.agg [.sl _ e1,.sl _ e2]]=>(match krL e1,rtsL e2 with
  | some D,some T=>some (D.length≤1000∧T.length≤1000,iv (D.length + T.length))
  | _,_=>none)
 | _=>none
def dDMany:DFn:={ g:=gDMany }
attribute [go_sem] gDMany dDMany
theorem many2_ok:Fine Tryd.prog 15 dDMany.con:=by
 refine fine_det (T:=TT) Tryd.func15 rfl Tryd.ntmps15 (by rw [Tryd.results15]) rfl rfl tt (gs_nil) (ds_nil) ?_
 intro args c r h hc
 simp only [dDMany,gDMany] at h
 split at h
 rotate_left
 ·cases h
 split at h
 rotate_left
 ·cases h
 rename_i t1 e1 t2 e2 _ _ D T hkr hrt
 obtain rfl:=krL_eq hkr
 obtain rfl:=rtsL_eq hrt
 obtain ⟨rfl,rfl⟩:=Prod.mk.inj (Option.some.inj h)
 refine ⟨by simp,fun k E hE Q hQ=>?_⟩
 refine Aw_st hE [1] [1] fun K hK=>?_
 simp only [go_sem,seval]
 repeat refine sd0 ?_
 refine hK _ ?_;clear hK K
 refine Aw_st hE [2] [] fun K hK=>?_
 simp only [go_sem,seval]
 repeat refine sd0 ?_
 refine hK _ (Aw_ret (hQ _ ?_))
 simp only [go_sem,seval]
def gLyDelta:List AV→Option (Prop × AV)
 | [.agg [.sl _ e1,.sl _ e2],.agg [.sl _ e3,.sl _ e4]]=>(match krL e1,rtsL e2,krL e3,rtsL e4 with
  | some D,some T,some D',some T'=>some ((D=D'∧T=T')∧(D.length≤1000∧T.length≤1000)∧∀ r ∈ T,r.path.length≤1000000∧r.marks.length≤1000000,bv true)
  | _,_,_,_=>none)
 | _=>none
def dLyDelta:DFn:={ g:=gLyDelta }
attribute [go_sem] gLyDelta dLyDelta
theorem lyDelta_ok:Fine Tryd.prog 11 dLyDelta.con:=by
 refine fine_det (T:=TT) Tryd.func11 rfl Tryd.ntmps11 (by rw [Tryd.results11]) rfl rfl tt (gs_nil) (ds_cons lyRts_ok ds_nil) ?_
 intro args c r h hc
 simp only [dLyDelta,gLyDelta] at h
 split at h
 rotate_left
 ·cases h
 split at h
 rotate_left
 ·cases h
 rename_i t1 e1 t2 e2 t3 e3 t4 e4 _ _ _ _ D T D' T' hkr1 hrt1 hkr2 hrt2
 obtain rfl:=krL_eq hkr1
 obtain rfl:=rtsL_eq hrt1
 obtain rfl:=krL_eq hkr2
 obtain rfl:=rtsL_eq hrt2
 obtain ⟨rfl,rfl⟩:=Prod.mk.inj (Option.some.inj h)
 refine ⟨by simp,fun k E hE Q hQ=>?_⟩
 obtain ⟨⟨rfl,rfl⟩,⟨hDl,hTl⟩,hsm⟩:=hc
 refine Aw_st hE [2,3] [2,3] fun K hK=>?_
 simp only [go_sem,seval]
 refine hK _ ?_;clear hK K
 refine Aw_sq fun B1 hB1 hR1 hX1=>?_
 refine Aw_st hE [2,3,12] [2,3] fun K hK=>?_
 simp only [go_sem,seval,decide_true,Bool.not_true]
 refine hK _ (Aw_no rfl ?_)
 refine Aw_skip (hB1 _ ?_)
 refine Aw_sq fun B3 hB3 hR3 hX3=>?_
 refine Aw_st hE [2,3,5] [2,3] fun K hK=>?_
 simp only [go_sem,seval]
 refine hK _ ?_;clear hK K
 refine Aw_bk fun B4 hN4 hE4 hR4 hX4=>?_
 refine Aw_lp (fun i:Nat=>⟨36,[(2,.loc 2 0),(3,.loc 3 0),(5,iv i)],[(2,[.sl none (krows D),.sl none (rrows T)]),(3,[.sl none (krows D),.sl none (rrows T)])],k⟩) (fun i=>i≤D.length) (fun i=>D.length - i) 0 (Le_wk (by first | omega | (dsimp only;omega) | (simp only;omega) | (simp;omega)) (by simp only [go_sem,seval]) (by simp only [go_sem,seval];all_goals rfl)) (by omega) fun i hi B5 hN5 hR5 hX5=>?_
 refine Aw_sq fun B6 hB6 hR6 hX6=>?_
 refine Aw_st hE [2,3,5,17] [2,3] fun K hK=>?_
 simp only [go_sem,seval]
 refine hK _ (Aw_cond rfl (fun hc7=>?_) (fun hc7=>?_))
 ·simp only [dte] at hc7
  have hil:i < D.length:=by omega
  have hg:=krows_get D i hil
  generalize D[i]=x at hg
  obtain ⟨xf,xb⟩:=x
  simp only [kR] at hg
  refine Aw_skip (hB6 _ ?_)
  refine Aw_sq fun B8 hB8 hR8 hX8=>?_
  refine Aw_bk fun B9 hN9 hE9 hR9 hX9=>?_
  refine Aw_sd hE [2,3,5,30] [2,3] 6 (by kernel_rfl) fun K hK=>?_
  simp only [go_sem,seval,hg,decide_true,Bool.not_true,Bool.and_self,beq_self_eq_true]
  repeat refine sd0 ?_
  refine hK _ (Aw_no rfl ?_)
  refine Aw_skip (hN9 _ (hB8 _ ?_))
  refine Aw_tx hE [2,3,5] [2,3] fun K hK=>?_
  simp only [go_sem,seval]
  repeat refine sd0 ?_
  refine hK _ (hN5 (i + 1) _ (by omega) (by omega) (Le.refl _))
 ·refine Aw_exit (hX6 _ _ (hX5 _ _ (hE4 _ (hB3 _ ?_))))
  refine Aw_st hE [4] [2,3] fun K hK=>?_
  simp only [go_sem,seval]
  refine ⟨⟨by omega,hsm⟩,?_⟩
  refine hK _ (Aw_ret (hQ _ ?_))
  simp only [go_sem,seval]
def cDDO:Con:={ pre:=codeArg,post:=fun _ r=>∃ (a b:List Rt),((a.length≤7∧smallD a)∧b.length≤10∧smallD b)∧r = .tup [.sl none (rrows a),.sl none (rrows b)] }
theorem cDDO_own:cDDO.own=false:=rfl
theorem cDDO_draws:cDDO.draws=false:=rfl
theorem cDDO_cost:cDDO.cost=0:=rfl
attribute [go_sem] cDDO_own cDDO_draws cDDO_cost
theorem ddo_pre (bs:List Nat) (h:∀ b ∈ bs,b < 256):cDDO.pre [.sl none (byteRows bs)]:=⟨bs,h,rfl⟩
theorem ddo_post (args:List AV) (K:AV→Prop):(∀ r,cDDO.post args r→K r)=(∀ (a b:List Rt),((a.length≤7∧smallD a)∧b.length≤10∧smallD b)→K (.tup [.sl none (rrows a),.sl none (rrows b)])):=by
 apply propext
 exact ⟨fun h x n h1=>h _ ⟨x,n,h1,rfl⟩,fun h r ⟨x,n,h1,e⟩=>e ▸ h x n h1⟩
attribute [go_sem] ddo_post
theorem drawDeltaOf_ok:Fine Tryd.prog 9 cDDO:=by
 refine fine_draw (T:=TT) (C:=cDDO) Tryd.func9 rfl Tryd.ntmps9 (by rw [Tryd.results9]) rfl rfl tt rfl rfl (G:=[(23,cChg)]) (D:=[]) (gs_cons l92Change_ok gs_nil) ds_nil (l1:=[_]) (l2:=[_,_,_,_,_]) rfl rfl rfl rfl (by decide) open_calls ⟨_,Tryd.func24,rfl,rfl⟩ ?_ ?_
 ·rintro args r ⟨x,n,_,rfl⟩;rfl
 rintro args ⟨bs,hbs,rfl⟩
 refine ⟨by simp,bs,hbs,fun n E hE J hJ=>?_⟩
 refine Aw_tx hE [0] [] fun K hK=>?_
 simp only [go_sem,seval]
 refine hK _ ?_
 simp only [thenA]
 simp only [go_sem,seval]
 refine hJ _ rfl rfl fun E hE Q hQ=>?_
 simp only [go_sem,seval]
 intro a b h
 refine Aw_ret (hQ _ ?_)
 simp only [go_sem,seval]
 exact ⟨a,b,h,rfl⟩
theorem any_step {p:Rt→Bool} {l:List Rt} {i:Nat} (hi:i < l.length):(l.take (i + 1)).any p=((l.take i).any p || p l[i]):=by
 rw [List.take_succ_eq_append_getElem hi,List.any_append];simp
theorem any_look {l:List Rt} {f b:Int}:l.any (keyB f b)=(look l (f,b)).isSome:=by
 cases e:look l (f,b) with
 | none =>
  have:=look_none.1 e
  rw [Option.isSome_none,List.any_eq_false]
  intro x hx hk
  exact this x hx (keyB_iff.1 hk)
 | some x =>
  obtain ⟨h1,h2⟩:=look_some e
  rw [Option.isSome_some,List.any_eq_true]
  exact ⟨x,h1,keyB_iff.2 h2⟩
def eqB (y x:Rt):Bool:=decide (x.f=y.f∧x.b=y.b∧x.path=y.path∧x.like=y.like∧x.marks=y.marks)
theorem eqB_iff {y x:Rt}:eqB y x=true↔x=y:=by
 rw [rt_ext];simp only [eqB,dte,and_assoc]
theorem any_same {l:List Rt} (hs:sortR l) (y:Rt):l.any (eqB y)=decide (look l (key y)=some y):=by
 rw [Bool.eq_iff_iff,List.any_eq_true,dte]
 constructor
 ·rintro ⟨x,hx,h⟩
  rw [eqB_iff.1 h] at hx
  exact look_mem hs hx
 ·intro h
  exact ⟨y,(look_some h).1,eqB_iff.2 rfl⟩
theorem tells_mem {a b:List Rt} {r:Rt} (h:r ∈ tellsB a b):r ∈ b:=by
 unfold tellsB at h
 split at h
 ·exact (List.mem_filter.1 h).1
 ·cases h
theorem tellsB_len (a b:List Rt):(tellsB a b).length≤b.length:=by
 unfold tellsB
 split
 ·exact List.length_filter_le _ _
 ·simp
theorem dropsB_len (a b:List Rt):(dropsB a b).length≤a.length:=by
 unfold dropsB
 split
 ·unfold dropsF;rw [List.length_map];exact List.length_filter_le _ _
 ·simp
def lwA (a b:List Rt) (k i:Nat):St:=⟨123,[(3,.sl none (rrows a)),(4,.sl none (rrows b)),(5,.loc 5 0),(6,iv (dropsU a b i).length),(7,iv i)],[(5,[.sl none (krows (dropsF a b)),.sl none (rrows (tellsF a b))])],k⟩
def lwB (a b:List Rt) (k i:Nat) (x:Rt) (j:Nat):St:=⟨123,[(3,.sl none (rrows a)),(4,.sl none (rrows b)),(5,.loc 5 0),(6,iv (dropsU a b i).length),(7,iv i),(8,bv ((b.take j).any (keyB x.f x.b))),(9,iv j)],[(5,[.sl none (krows (dropsF a b)),.sl none (rrows (tellsF a b))])],k⟩
def lwC (a b:List Rt) (k i:Nat):St:=⟨123,[(3,.sl none (rrows a)),(4,.sl none (rrows b)),(5,.loc 5 0),(6,iv (dropsF a b).length),(10,iv (tellsU a b i).length),(11,iv i)],[(5,[.sl none (krows (dropsF a b)),.sl none (rrows (tellsF a b))])],k⟩
def lwD (a b:List Rt) (k i:Nat) (y:Rt) (j:Nat):St:=⟨123,[(3,.sl none (rrows a)),(4,.sl none (rrows b)),(5,.loc 5 0),(6,iv (dropsF a b).length),(10,iv (tellsU a b i).length),(11,iv i),(12,bv ((a.take j).any (eqB y))),(13,iv j)],[(5,[.sl none (krows (dropsF a b)),.sl none (rrows (tellsF a b))])],k⟩
set_option maxHeartbeats 8000000 in
theorem fnDeltaLeast_ok (pb:Addr):Fine Tryd.prog 3 (cLawP pb):=by
 refine fine_of (T:=TT) Tryd.func3 rfl Tryd.ntmps3 (by rw [Tryd.results3]) rfl rfl tt (gs_cons drawDeltaOf_ok gs_nil) (ds_cons (iDeltaOf_ok pb) (ds_cons sDeltaOf_ok (ds_cons lyDelta_ok (ds_cons sRoutesOk_ok (ds_cons lyRoute_ok (ds_cons many2_ok ds_nil))))) (wp_inh pb)) ?_
 rintro args ⟨bs,hbs,rfl⟩
 refine ⟨by simp,fun k hk E hE Q hQ=>?_⟩
 refine Aw_st hE [0] [5] fun K hK=>?_
 simp only [go_sem,seval]
 refine hK _ ?_;clear hK K
 refine Aw_sq fun B1 hB1 hR1 hX1=>?_
 refine Aw_st hE [0,16] [5] fun K hK=>?_
 simp only [go_sem,seval]
 refine hK _ (Aw_cond rfl (fun hc2=>?_) (fun hc2=>?_))
 ·refine Aw_st hE [2] [5] fun K hK=>?_
  simp only [go_sem,seval]
  refine hK _ (Aw_ret (hR1 _ (hQ _ ?_)))
  simp only [go_sem,seval]
 ·refine Aw_skip (hB1 _ ?_)
  refine Aw_st hE [3,4] [5] fun K hK=>?_
  simp only [go_sem,seval]
  refine ⟨ddo_pre bs hbs,fun a b hab=>?_⟩
  obtain ⟨⟨hal,hsa⟩,hbl,hsb⟩:=hab
  have hca:=smallD_small hsa (by omega)
  have hcb:=smallD_small hsb (by omega)
  have hdl:(dropsB a b).length≤1000:=by have:=dropsB_len a b;omega
  have htl:(tellsB a b).length≤1000:=by have:=tellsB_len a b;omega
  have hts:∀ r ∈ tellsB a b,r.path.length≤1000000∧r.marks.length≤1000000:=fun r hr=>by
   have:=hsb r (tells_mem hr);omega
  refine hK _ ?_;clear hK K
  refine Aw_st hE [3,4,5] [5] fun K hK=>?_
  simp only [go_sem,seval]
  refine ⟨⟨hca,hcb⟩,?_⟩
  refine hK _ ?_;clear hK K
  refine Aw_sq fun B3 hB3 hR3 hX3=>?_
  cases hoab:(routesOk a && routesOk b) with
  | false =>
   cases hoa:routesOk a with
   | false =>
    refine Aw_sd hE [3,4,5,40] [5] 6 (by kernel_rfl) fun K hK=>?_
    simp only [go_sem,seval,hoa,decide_true,and_self]
    refine ⟨⟨hca,hcb⟩,⟨⟨hdl,htl⟩,hts⟩,hca,?_⟩
    refine hK _ (Aw_yes rfl ?_)
    refine Aw_sd hE [2] [5] 6 (by kernel_rfl) fun K hK=>?_
    simp only [go_sem,seval,decide_true,and_self]
    refine ⟨⟨hca,hcb⟩,⟨⟨hdl,htl⟩,hts⟩,?_⟩
    refine hK _ (Aw_ret (hR3 _ (hQ _ ?_)))
    simp only [go_sem,seval]
   | true =>
    have hob:routesOk b=false:=by rw [hoa] at hoab;simpa using hoab
    refine Aw_sd hE [3,4,5,40] [5] 6 (by kernel_rfl) fun K hK=>?_
    simp only [go_sem,seval,hoa,hob,decide_true,and_self]
    refine ⟨⟨hca,hcb⟩,⟨⟨hdl,htl⟩,hts⟩,hca,hcb,?_⟩
    refine hK _ (Aw_yes rfl ?_)
    refine Aw_sd hE [2] [5] 6 (by kernel_rfl) fun K hK=>?_
    simp only [go_sem,seval,decide_true,and_self]
    refine ⟨⟨hca,hcb⟩,⟨⟨hdl,htl⟩,hts⟩,?_⟩
    refine hK _ (Aw_ret (hR3 _ (hQ _ ?_)))
    simp only [go_sem,seval]
  | true =>
   simp only [Bool.and_eq_true] at hoab
   obtain ⟨hoa,hob⟩:=hoab
   have hd:dropsB a b=dropsF a b:=by unfold dropsB;rw [hoa,hob];rfl
   have ht:tellsB a b=tellsF a b:=by unfold tellsB;rw [hoa,hob];rfl
   have hs1:=(routesOk_iff.1 hoa).2.2
   refine Aw_sd hE [3,4,5,40] [5] 6 (by kernel_rfl) fun K hK=>?_
   simp only [go_sem,seval,hoa,hob,decide_true,and_self]
   refine ⟨⟨hca,hcb⟩,⟨⟨hdl,htl⟩,hts⟩,hca,hcb,?_⟩
   refine hK _ (Aw_no rfl (Aw_skip (hB3 _ ?_)))
   rw [hd,ht]
   refine Aw_st hE [3,4,5,6] [5] fun K hK=>?_
   simp only [go_sem,seval]
   refine hK _ ?_;clear hK K
   refine Aw_sqJ (fun _:Unit=>⟨123,[(3,.sl none (rrows a)),(4,.sl none (rrows b)),(5,.loc 5 0),(6,iv (dropsF a b).length)],[(5,[.sl none (krows (dropsF a b)),.sl none (rrows (tellsF a b))])],k⟩) (fun _=>True) (fun _ _=>?_) fun B8 hB8 hR8 hX8=>?_
   ·refine Aw_st hE [3,4,5,6,10] [5] fun K hK=>?_
    simp only [go_sem,seval]
    refine hK _ ?_;clear hK K
    refine Aw_sqJ (fun _:Unit=>⟨123,[(3,.sl none (rrows a)),(5,.loc 5 0),(6,iv (dropsF a b).length),(10,iv (tellsF a b).length)],[(5,[.sl none (krows (dropsF a b)),.sl none (rrows (tellsF a b))])],k⟩) (fun _=>True) (fun _ _=>?_) fun B23 hB23 hR23 hX23=>?_
    ·obtain ⟨z1,z2⟩:=delta_self hs1
     have e1:dropsB a a=[]:=by unfold dropsB;rw [hoa,z1];rfl
     have e2:tellsB a a=[]:=by unfold tellsB;rw [hoa,z2];rfl
     have hk0:krL []=some []:=rfl
     have hr0:rtsL []=some []:=rfl
     refine Aw_st hE [2] [5] fun K hK=>?_
     simp only [go_sem,seval,decide_true,e1,e2,hk0,hr0,List.length_nil]
     refine ⟨⟨hca,hca⟩,?_⟩
     refine hK _ (Aw_ret (hQ _ ?_))
     simp only [go_sem,seval]
    ·refine Aw_st hE [3,4,5,6,10,11] [5] fun K hK=>?_
     simp only [go_sem,seval]
     refine hK _ ?_;clear hK K
     refine Aw_bk fun B24 hN24 hE24 hR24 hX24=>?_
     refine Aw_lp (fun i:Nat=>lwC a b k i) (fun i=>i≤b.length) (fun i=>b.length - i) 0 (Le.refl _) (by omega) fun i hi B25 hN25 hR25 hX25=>?_
     have hTl:=tellsU_len a b i
     simp only [lwC]
     refine Aw_sq fun B26 hB26 hR26 hX26=>?_
     refine Aw_st hE [3,4,5,6,10,11,79] [5] fun K hK=>?_
     simp only [go_sem,seval]
     refine hK _ (Aw_cond rfl (fun hc27=>?_) (fun hc27=>?_))
     ·simp only [dte] at hc27
      have hil:i < b.length:=by omega
      have hg:=rrows_at b i hil
      obtain ⟨hxp,hxm⟩:=smallR_at hcb i hil
      have hsty:=fun h=>tellsU_yes (a:=a) hil h
      have hstn:=fun h=>tellsU_no (a:=a) hil h
      generalize b[i]=y at hg hsty hstn hxp hxm
      refine Aw_skip (hB26 _ ?_)
      refine Aw_sq fun B28 hB28 hR28 hX28=>?_
      refine Aw_bk fun B29 hN29 hE29 hR29 hX29=>?_
      refine Aw_st hE [3,4,5,6,10,11,12] [5] fun K hK=>?_
      simp only [go_sem,seval]
      refine hK _ ?_;clear hK K
      refine Aw_sq fun B30 hB30 hR30 hX30=>?_
      refine Aw_st hE [3,4,5,6,10,11,12,13] [5] fun K hK=>?_
      simp only [go_sem,seval]
      refine hK _ ?_;clear hK K
      refine Aw_bk fun B31 hN31 hE31 hR31 hX31=>?_
      refine Aw_lp (fun j:Nat=>lwD a b k i y j) (fun j=>j≤a.length) (fun j=>a.length - j) 0 (Le.refl _) (by omega) fun j hj B32 hN32 hR32 hX32=>?_
      simp only [lwD]
      refine Aw_sq fun B33 hB33 hR33 hX33=>?_
      refine Aw_st hE [3,4,5,6,10,11,12,13,85] [5] fun K hK=>?_
      simp only [go_sem,seval]
      refine hK _ (Aw_cond rfl (fun hc34=>?_) (fun hc34=>?_))
      ·simp only [dte] at hc34
       have hjl:j < a.length:=by omega
       have hgj:=rrows_at a j hjl
       obtain ⟨hzp,hzm⟩:=smallR_at hca j hjl
       have hst:=any_step (p:=eqB y) hjl
       generalize a[j]=z at hgj hst hzp hzm
       have hln:(z.path.length≤4294967296∧y.path.length≤4294967296)∧z.marks.length≤4294967296∧y.marks.length≤4294967296:=by omega
       have hez:eqB y z=decide (z.f=y.f∧z.b=y.b∧z.path=y.path∧z.like=y.like∧z.marks=y.marks):=rfl
       refine Aw_skip (hB33 _ ?_)
       refine Aw_sq fun B35 hB35 hR35 hX35=>?_
       refine Aw_bk fun B36 hN36 hE36 hR36 hX36=>?_
       cases hin:(a.take j).any (eqB y) with
       | true =>
        rw [hin,Bool.true_or] at hst
        refine Aw_td hE [3,4,5,6,10,11,12,13] [5] 6 (by kernel_rfl) fun K hK=>?_
        simp only [go_sem,seval]
        refine hK _ (hN36 _ (hB35 _ ?_))
        refine Aw_tx hE [3,4,5,6,10,11,12,13] [5] fun K hK=>?_
        simp only [go_sem,seval]
        repeat refine sd0 ?_
        refine hK _ (hN32 (j + 1) _ (by omega) (by omega) ?_)
        simp only [lwD]
        rw [hst]
        exact Le_ks [3,4,5,6,10,11,12,13] [5]
       | false =>
        rw [hin,Bool.false_or] at hst
        refine Aw_td hE [3,4,5,6,10,11,12,13] [5] 6 (by kernel_rfl) fun K hK=>?_
        simp only [go_sem,seval,hg,hgj]
        refine ⟨by omega,by omega,hln,?_⟩
        refine hK _ (hN36 _ (hB35 _ ?_))
        refine Aw_tx hE [3,4,5,6,10,11,12,13] [5] fun K hK=>?_
        simp only [go_sem,seval]
        repeat refine sd0 ?_
        refine hK _ (hN32 (j + 1) _ (by omega) (by omega) ?_)
        simp only [lwD]
        rw [hst,hez]
        exact Le_ks [3,4,5,6,10,11,12,13] [5]
      ·simp only [dfn] at hc34
       obtain rfl:j=a.length:=by omega
       rw [List.take_length,any_same hs1]
       refine Aw_exit (hX33 _ _ (hX32 _ _ (hE31 _ (hB30 _ ?_))))
       by_cases hlk:look a (key y)=some y
       ·have hst:=hsty hlk
        rw [decide_eq_true hlk]
        refine Aw_st hE [3,4,5,6,10,11,101] [5] fun K hK=>?_
        simp only [go_sem,seval]
        refine hK _ (Aw_no rfl ?_)
        refine Aw_skip (hN29 _ (hB28 _ ?_))
        refine Aw_tx hE [3,4,5,6,10,11] [5] fun K hK=>?_
        simp only [go_sem,seval]
        repeat refine sd0 ?_
        refine hK _ (hN25 (i + 1) _ (by omega) (by omega) ?_)
        simp only [lwC]
        rw [hst]
        exact Le_ks [3,4,5,6,10,11] [5]
       ·have hst:=hstn hlk
        rw [decide_eq_false hlk]
        refine Aw_st hE [3,4,5,6,10,11,101] [5] fun K hK=>?_
        simp only [go_sem,seval]
        refine hK _ (Aw_yes rfl ?_)
        refine Aw_tx hE [3,4,5,6,10,11] [5] fun K hK=>?_
        simp only [go_sem,seval]
        repeat refine sd0 ?_
        refine hK _ (hN29 _ (hB28 _ ?_))
        refine Aw_tx hE [3,4,5,6,10,11] [5] fun K hK=>?_
        simp only [go_sem,seval]
        repeat refine sd0 ?_
        refine hK _ (hN25 (i + 1) _ (by omega) (by omega) ?_)
        simp only [lwC]
        rw [hst,List.length_append,List.length_singleton]
        exact Le_ks [3,4,5,6,10,11] [5]
     ·simp only [dfn] at hc27
      obtain rfl:i=b.length:=by omega
      have e2:tellsU a b b.length=tellsF a b:=by unfold tellsU;rw [List.take_length]
      rw [e2]
      refine Aw_exit (hX26 _ _ (hX25 _ _ (hE24 _ (hB23 () _ trivial (Le_E (Le_ks [3,5,6,10] [5]))))))
   ·refine Aw_st hE [3,4,5,6,7] [5] fun K hK=>?_
    simp only [go_sem,seval]
    refine hK _ ?_;clear hK K
    refine Aw_bk fun B9 hN9 hE9 hR9 hX9=>?_
    refine Aw_lp (fun i:Nat=>lwA a b k i) (fun i=>i≤a.length) (fun i=>a.length - i) 0 (Le.refl _) (by omega) fun i hi B10 hN10 hR10 hX10=>?_
    have hDl:=dropsU_len a b i
    simp only [lwA]
    refine Aw_sq fun B11 hB11 hR11 hX11=>?_
    refine Aw_st hE [3,4,5,6,7,49] [5] fun K hK=>?_
    simp only [go_sem,seval]
    refine hK _ (Aw_cond rfl (fun hc12=>?_) (fun hc12=>?_))
    ·simp only [dte] at hc12
     have hil:i < a.length:=by omega
     have hg:=rrows_at a i hil
     have hsty:=fun y h=>dropsU_yes (b:=b) (y:=y) hil h
     have hstn:=fun h=>dropsU_no (b:=b) hil h
     generalize a[i]=x at hg hsty hstn
     refine Aw_skip (hB11 _ ?_)
     refine Aw_sq fun B13 hB13 hR13 hX13=>?_
     refine Aw_bk fun B14 hN14 hE14 hR14 hX14=>?_
     refine Aw_st hE [3,4,5,6,7,8] [5] fun K hK=>?_
     simp only [go_sem,seval]
     refine hK _ ?_;clear hK K
     refine Aw_sq fun B15 hB15 hR15 hX15=>?_
     refine Aw_st hE [3,4,5,6,7,8,9] [5] fun K hK=>?_
     simp only [go_sem,seval]
     refine hK _ ?_;clear hK K
     refine Aw_bk fun B16 hN16 hE16 hR16 hX16=>?_
     refine Aw_lp (fun j:Nat=>lwB a b k i x j) (fun j=>j≤b.length) (fun j=>b.length - j) 0 (Le.refl _) (by omega) fun j hj B17 hN17 hR17 hX17=>?_
     simp only [lwB]
     refine Aw_sq fun B18 hB18 hR18 hX18=>?_
     refine Aw_st hE [3,4,5,6,7,8,9,55] [5] fun K hK=>?_
     simp only [go_sem,seval]
     refine hK _ (Aw_cond rfl (fun hc19=>?_) (fun hc19=>?_))
     ·simp only [dte] at hc19
      have hjl:j < b.length:=by omega
      have hgj:=rrows_at b j hjl
      have hst:=any_step (p:=keyB x.f x.b) hjl
      generalize b[j]=z at hgj hst
      have hez:keyB x.f x.b z=(x.f == z.f && x.b == z.b):=by
       rw [Bool.eq_iff_iff];simp only [keyB,Bool.and_eq_true,dte,beq_iff_eq]
       exact ⟨fun ⟨h1,h2⟩=>⟨h1.symm,h2.symm⟩,fun ⟨h1,h2⟩=>⟨h1.symm,h2.symm⟩⟩
      refine Aw_skip (hB18 _ ?_)
      refine Aw_sq fun B20 hB20 hR20 hX20=>?_
      refine Aw_bk fun B21 hN21 hE21 hR21 hX21=>?_
      cases hin:(b.take j).any (keyB x.f x.b) with
      | true =>
       rw [hin,Bool.true_or] at hst
       refine Aw_td hE [3,4,5,6,7,8,9] [5] 6 (by kernel_rfl) fun K hK=>?_
       simp only [go_sem,seval]
       refine hK _ (hN21 _ (hB20 _ ?_))
       refine Aw_tx hE [3,4,5,6,7,8,9] [5] fun K hK=>?_
       simp only [go_sem,seval]
       repeat refine sd0 ?_
       refine hK _ (hN17 (j + 1) _ (by omega) (by omega) ?_)
       simp only [lwB]
       rw [hst]
       exact Le_ks [3,4,5,6,7,8,9] [5]
      | false =>
       rw [hin,Bool.false_or] at hst
       refine Aw_td hE [3,4,5,6,7,8,9] [5] 6 (by kernel_rfl) fun K hK=>?_
       simp only [go_sem,seval,hg,hgj]
       refine ⟨by omega,by omega,?_⟩
       refine hK _ (hN21 _ (hB20 _ ?_))
       refine Aw_tx hE [3,4,5,6,7,8,9] [5] fun K hK=>?_
       simp only [go_sem,seval]
       repeat refine sd0 ?_
       refine hK _ (hN17 (j + 1) _ (by omega) (by omega) ?_)
       simp only [lwB]
       rw [hst,hez]
       exact Le_ks [3,4,5,6,7,8,9] [5]
     ·simp only [dfn] at hc19
      obtain rfl:j=b.length:=by omega
      rw [List.take_length,any_look]
      refine Aw_exit (hX18 _ _ (hX17 _ _ (hE16 _ (hB15 _ ?_))))
      cases hlk:look b (x.f,x.b) with
      | some y =>
       have hst:dropsU a b (i + 1)=dropsU a b i:=hsty y hlk
       refine Aw_st hE [3,4,5,6,7,73] [5] fun K hK=>?_
       simp only [go_sem,seval,Option.isSome_some]
       refine hK _ (Aw_no rfl ?_)
       refine Aw_skip (hN14 _ (hB13 _ ?_))
       refine Aw_tx hE [3,4,5,6,7] [5] fun K hK=>?_
       simp only [go_sem,seval]
       repeat refine sd0 ?_
       refine hK _ (hN10 (i + 1) _ (by omega) (by omega) ?_)
       simp only [lwA]
       rw [hst]
       exact Le_ks [3,4,5,6,7] [5]
      | none =>
       have hst:dropsU a b (i + 1)=dropsU a b i++[(x.f,x.b)]:=hstn hlk
       refine Aw_st hE [3,4,5,6,7,73] [5] fun K hK=>?_
       simp only [go_sem,seval,Option.isSome_none]
       refine hK _ (Aw_yes rfl ?_)
       refine Aw_tx hE [3,4,5,6,7] [5] fun K hK=>?_
       simp only [go_sem,seval]
       repeat refine sd0 ?_
       refine hK _ (hN14 _ (hB13 _ ?_))
       refine Aw_tx hE [3,4,5,6,7] [5] fun K hK=>?_
       simp only [go_sem,seval]
       repeat refine sd0 ?_
       refine hK _ (hN10 (i + 1) _ (by omega) (by omega) ?_)
       simp only [lwA]
       rw [hst,List.length_append,List.length_singleton]
       exact Le_ks [3,4,5,6,7] [5]
    ·simp only [dfn] at hc12
     obtain rfl:i=a.length:=by omega
     have e1:dropsU a b a.length=dropsF a b:=by unfold dropsU;rw [List.take_length]
     rw [e1]
     refine Aw_exit (hX11 _ _ (hX10 _ _ (hE9 _ (hB8 () _ trivial (Le_E (Le_ks [3,4,5,6] [5]))))))
end Go.Proofs.W
end
