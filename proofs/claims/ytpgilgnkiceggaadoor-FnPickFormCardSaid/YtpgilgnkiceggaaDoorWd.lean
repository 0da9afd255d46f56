/- YtpgilgnkiceggaaDoorWd: part of the proof that what a house picks from is of one form, for every input that the row speaks of (no condition of ours). -/
import Derived.Test.YtpgilgnkiceggaaDoorWc
import Derived.Test.YtpgilgnkiceggaaDoorWa
import Derived.Test.YtpgilgnkiceggaaDoorWb
set_option linter.unusedVariables false
set_option linter.unusedSimpArgs false
section
namespace Go.Proofs.W
open Go Go.Eng Go.RowKit
set_option linter.unusedSimpArgs false
set_option maxRecDepth 100000
/-! what a house told,and a range,are drawn -/
theorem ribD_post (args:List AV) (K:AV→Prop):(∀ r,cRibD.post args r→K r)=(∀ b:Rb,(b.all.length≤7∧lensG b.all)→K b.av):=by
 apply propext
 exact ⟨fun h p hp=>h _ ⟨p,hp,rfl⟩,fun h r ⟨p,hp,e⟩=>e ▸ h p hp⟩
theorem ribD_ex (args:List AV):(∃ r,cRibD.post args r)=True:=eq_true ⟨_,⟨0,false,[]⟩,⟨by simp,by intro g hg;cases hg⟩,rfl⟩
theorem ribD_pre' (h:Int):cRibD.pre [.rd,iv h]=(isH h=true):=by
 apply propext
 refine ⟨fun ⟨h',e,hh⟩=>?_,fun hh=>⟨h,rfl,hh⟩⟩
 simp only [List.cons.injEq,AV.v.injEq,Value.int.injEq,true_and,and_true] at e
 rw [e];exact hh
attribute [go_sem] ribD_post ribD_ex ribD_pre'
theorem isH_pick {x:Int} (h1:0≤x) (h2:x < 5∨x=0):isH (1 + x)=true:=by simp [isH];omega
/-- what a house told,and whatever range -/
def cDRD:Con:={ pre:=codeArg,post:=fun _ r=>∃ (b:Rb) (f c:Int),(b.all.length≤7∧lensG b.all)∧r = .tup [b.av,.agg [iv f,iv c]] }
theorem cDRD_own:cDRD.own=false:=rfl
theorem cDRD_draws:cDRD.draws=false:=rfl
theorem cDRD_cost:cDRD.cost=0:=rfl
attribute [go_sem] cDRD_own cDRD_draws cDRD_cost
theorem drd_post (args:List AV) (K:AV→Prop):(∀ r,cDRD.post args r→K r)=(∀ (b:Rb) (f c:Int),(b.all.length≤7∧lensG b.all)→K (.tup [b.av,.agg [iv f,iv c]])):=by
 apply propext
 exact ⟨fun h b f c h1=>h _ ⟨b,f,c,h1,rfl⟩,fun h r ⟨b,f,c,h1,e⟩=>e ▸ h b f c h1⟩
attribute [go_sem] drd_post
end Go.Proofs.W
end
section
namespace Go.Proofs.W
open Go Go.Eng Go.RowKit
set_option linter.unusedSimpArgs false
set_option maxRecDepth 100000
/-! what a house picks from,drawn -/
def cPickD:Con:={ pre:=fun args=>args=[.rd],post:=fun _ r=>∃ (own:Int) (rs:List Rb) (ps:List (List Cl)),((rs.length≤6∧ps.length≤6)∧lensR rs∧lensP ps)∧r = .tup [iv own,.sl none (brows rs),.sl none (prows ps)],cost:=1600,draws:=true }
theorem cPickD_own:cPickD.own=false:=rfl
theorem cPickD_draws:cPickD.draws=true:=rfl
theorem cPickD_cost:cPickD.cost=1600:=rfl
attribute [go_sem] cPickD_own cPickD_draws cPickD_cost
theorem pickD_pre:cPickD.pre [.rd]=True:=by simp [cPickD]
theorem pickD_post (args:List AV) (K:AV→Prop):(∀ r,cPickD.post args r→K r)=(∀ (own:Int) (rs:List Rb) (ps:List (List Cl)),((rs.length≤6∧ps.length≤6)∧lensR rs∧lensP ps)→K (.tup [iv own,.sl none (brows rs),.sl none (prows ps)])):=by
 apply propext
 exact ⟨fun h a b c hp=>h _ ⟨a,b,c,hp,rfl⟩,fun h r ⟨a,b,c,hp,e⟩=>e ▸ h a b c hp⟩
theorem lensR_nil:lensR []:=by intro r hr;cases hr
theorem lensP_nil:lensP []:=by intro r hr;cases hr
theorem lensR_app {a:List Rb} {b:Rb} (h:lensR a) (h2:b.all.length≤7∧lensG b.all):lensR (a++[b]):=by
 intro r hr
 rcases List.mem_append.1 hr with h1 | h1
 ·exact h r h1
 ·obtain rfl:=List.mem_singleton.1 h1
  exact ⟨by omega,h2.2⟩
theorem lensP_app {a:List (List Cl)} {b:List Cl} (h:lensP a) (h2:b.length≤4):lensP (a++[b]):=by
 intro r hr
 rcases List.mem_append.1 hr with h1 | h1
 ·exact h r h1
 ·obtain rfl:=List.mem_singleton.1 h1
  omega
theorem pickD_ex (args:List AV):(∃ r,cPickD.post args r)=True:=eq_true ⟨_,0,[],[],⟨⟨by simp,by simp⟩,lensR_nil,lensP_nil⟩,rfl⟩
attribute [go_sem] pickD_pre pickD_post pickD_ex
set_option maxHeartbeats 4000000 in
theorem l92Pick_ok:Fine Tryd.prog 34 cPickD:=by
 refine fine_of (T:=TT) Tryd.func34 rfl Tryd.ntmps34 (by rw [Tryd.results34]) rfl rfl tt (gs_cons pick_ok (gs_cons l92Rib_ok (gs_cons l91Policy_ok gs_nil))) (ds_nil) ?_
 rintro args rfl
 refine ⟨by simp,fun k hk E hE Q hQ=>?_⟩
 have hk:=hk rfl
 simp only [go_sem] at hk
 refine Aw_st hE [0] [] fun K hK=>?_
 simp only [go_sem,seval]
 refine hK _ ?_;clear hK K
 refine Aw_st hE [0,5] [] fun K hK=>?_
 simp only [go_sem,seval]
 repeat' (first | (refine And.intro (by first | omega | decide) ?_) | intro)
 rename_i x hx1 hx2
 refine hK _ ?_;clear hK K
 refine Aw_st hE [0,5,6] [] fun K hK=>?_
 simp only [go_sem,seval]
 refine hK _ ?_;clear hK K
 refine Aw_st hE [0,5,6,7] [] fun K hK=>?_
 simp only [go_sem,seval]
 refine hK _ ?_;clear hK K
 refine Aw_sq fun B1 hB1 hR1 hX1=>?_
 refine Aw_st hE [0,5,6,7,8] [] fun K hK=>?_
 simp only [go_sem,seval]
 refine hK _ ?_;clear hK K
 refine Aw_bk fun B2 hN2 hE2 hR2 hX2=>?_
 refine Aw_lp (fun i:List Rb × List (List Cl) × Nat=>⟨52,[(0,.rd),(5,iv (1 + x)),(6,.sl (some (12,0,25)) (brows i.1)),(7,.sl (some (13,0,64)) (prows i.2.1)),(8,iv ((i.2.2:Int) + 1))],[],k + 1 + 301 * i.2.2⟩) (fun i=>(i.2.2≤5∧i.1.length≤i.2.2∧i.2.1.length≤i.2.2)∧lensR i.1∧lensP i.2.1) (fun i=>5 - i.2.2) ([],[],0) (Le.refl _) ⟨⟨by simp,by simp,by simp⟩,lensR_nil,lensP_nil⟩ fun i hi B3 hN3 hR3 hX3=>?_
 obtain ⟨rs,ps,j⟩:=i
 obtain ⟨⟨hj,hl1,hl2⟩,hlr,hlp⟩:=hi
 simp only at hj hl1 hl2 hlr hlp
 refine Aw_sq fun B4 hB4 hR4 hX4=>?_
 refine Aw_st hE [0,5,6,7,8,15] [] fun K hK=>?_
 simp only [go_sem,seval]
 refine hK _ (Aw_cond rfl (fun hc5=>?_) (fun hc5=>?_))
 ·simp only [decide_eq_true_eq] at hc5
  refine Aw_skip (hB4 _ ?_)
  refine Aw_sq fun B6 hB6 hR6 hX6=>?_
  refine Aw_bk fun B7 hN7 hE7 hR7 hX7=>?_
  have hih:isH ((j:Int) + 1)=true:=by rw [Int.add_comm];exact isH_pick (by omega) (.inl (by omega))
  refine Aw_st hE [0,5,6,7,8,25] [] fun K hK=>?_
  simp only [go_sem,seval]
  refine ⟨fun hg=>⟨by omega,fun y hy1 hy2=>?_⟩,fun hg=>?_⟩
  ·refine hK _ (Aw_cond rfl (fun hc10=>?_) (fun hc10=>?_))
   ·refine Aw_st hE [0,5,6,7,8] [] fun K hK=>?_
    simp only [go_sem,seval,brows_one]
    refine ⟨by omega,hih,fun b hb=>?_⟩
    refine ⟨⟨brows_row _,by omega⟩,?_⟩
    refine hK _ ?_;clear hK K
    refine Aw_tx hE [0,5,6,7,8] [] fun K hK=>?_
    simp only [go_sem,seval,prows_one]
    refine ⟨by omega,fun c hc=>?_⟩
    refine ⟨⟨prows_row _,by omega⟩,?_⟩
    refine hK _ (hN7 _ (hB6 _ ?_))
    refine Aw_tx hE [0,5,6,7,8] [] fun K hK=>?_
    simp only [go_sem,seval]
    repeat (refine And.intro (by first | omega | assumption | (and_intros<;>first | omega | assumption | decide) | fail) ?_)
    refine hK _ (hN3 (rs++[b],ps++[c],j + 1) _ ⟨⟨by simp only;omega,by simp;omega,by simp;omega⟩,lensR_app hlr hb,lensP_app hlp hc⟩ (by simp only;omega) ((Le_rn (rn':=k + 1 + 301 * (j + 1)) (by omega)).trans ((Le_tk 31 12 rfl).trans (Le_tk 36 13 rfl))))
   ·refine Aw_skip (hN7 _ (hB6 _ ?_))
    refine Aw_tx hE [0,5,6,7,8] [] fun K hK=>?_
    simp only [go_sem,seval]
    repeat (refine And.intro (by first | omega | assumption | (and_intros<;>first | omega | assumption | decide) | fail) ?_)
    refine hK _ (hN3 (rs,ps,j + 1) _ ⟨⟨by simp only;omega,by simp only;omega,by simp only;omega⟩,hlr,hlp⟩ (by simp only;omega) (Le_rn (by first | omega | (dsimp only;omega) | (simp only;omega) | (simp;omega))))
  ·refine hK _ (Aw_no rfl (Aw_skip (hN7 _ (hB6 _ ?_))))
   refine Aw_tx hE [0,5,6,7,8] [] fun K hK=>?_
   simp only [go_sem,seval]
   repeat (refine And.intro (by first | omega | assumption | (and_intros<;>first | omega | assumption | decide) | fail) ?_)
   refine hK _ (hN3 (rs,ps,j + 1) _ ⟨⟨by simp only;omega,by simp only;omega,by simp only;omega⟩,hlr,hlp⟩ (by simp only;omega) (Le_rn (by first | omega | (dsimp only;omega) | (simp only;omega) | (simp;omega))))
 ·simp only [decide_eq_false_iff_not] at hc5
  refine Aw_exit (hX4 _ _ (hX3 _ _ (hE2 _ (hB1 _ ?_))))
  refine Aw_sq fun B11 hB11 hR11 hX11=>?_
  refine Aw_st hE [0,5,6,7,38] [] fun K hK=>?_
  simp only [go_sem,seval]
  refine ⟨by omega,fun y hy1 hy2=>?_⟩
  refine hK _ ?_;clear hK K
  refine Aw_bk fun B12 hN12 hE12 hR12 hX12=>?_
  refine Aw_st hE [0,5,6,7,38,39] [] fun K hK=>?_
  simp only [go_sem,seval]
  refine hK _ (Aw_cond rfl (fun hc13=>?_) (fun hc13=>?_))
  ·refine Aw_tx hE [5,6,7] [] fun K hK=>?_
   simp only [go_sem,seval]
   refine ⟨by omega,fun z hz1 hz2=>?_⟩
   refine hK _ (hN12 _ (hB11 _ ?_))
   refine Aw_st hE [2,3,4] [] fun K hK=>?_
   simp only [go_sem,seval]
   refine hK _ (Aw_ret (hQ _ ?_))
   simp only [go_sem,seval]
   exact ⟨by omega,_,_,_,⟨⟨by omega,by omega⟩,hlr,hlp⟩,rfl⟩
  ·refine Aw_st hE [5,6,7,43] [] fun K hK=>?_
   simp only [go_sem,seval]
   refine hK _ (Aw_cond rfl (fun hc14=>?_) (fun hc14=>?_))
   ·refine Aw_tx hE [5,6,7] [] fun K hK=>?_
    simp only [go_sem,seval]
    have hpn:[[DV.sl []]]=prows [[]]:=rfl
    simp only [go_sem,seval,hpn]
    refine ⟨⟨prows_row _,by omega⟩,?_⟩
    refine hK _ (hN12 _ (hB11 _ ?_))
    refine Aw_st hE [2,3,4] [] fun K hK=>?_
    simp only [go_sem,seval]
    refine hK _ (Aw_ret (hQ _ ?_))
    simp only [go_sem,seval]
    exact ⟨by omega,_,_,_,⟨⟨by omega,by simp;omega⟩,hlr,lensP_app hlp (by simp)⟩,rfl⟩
   ·refine Aw_skip (hN12 _ (hB11 _ ?_))
    refine Aw_st hE [2,3,4] [] fun K hK=>?_
    simp only [go_sem,seval]
    refine hK _ (Aw_ret (hQ _ ?_))
    simp only [go_sem,seval]
    exact ⟨by omega,_,_,_,⟨⟨by omega,by omega⟩,hlr,hlp⟩,rfl⟩
end Go.Proofs.W
end
section
namespace Go.Proofs.W
open Go Go.Eng Go.RowKit
set_option linter.unusedSimpArgs false
set_option maxRecDepth 100000
def dRibOkI (pb:Addr):DFn:={ g:=gRibOk,inv:=WP pb }
attribute [go_sem] dRibOkI
set_option maxHeartbeats 4000000 in
theorem iRibOk_ok (pb:Addr):Fine Tryd.prog 19 (dRibOkI pb).con:=by
 refine fine_det (T:=TT) Tryd.func19 rfl Tryd.ntmps19 (by rw [Tryd.results19]) rfl rfl tt (gs_nil) (ds_cons iIsH_ok (ds_cons (iRtOk_ok pb) (ds_cons iRgCmp_ok ds_nil) (wp_inh pb))) ?_
 intro args c r h hc
 simp only [dRibOkI,gRibOk] at h
 split at h
 rotate_left
 ·cases h
 split at h
 rotate_left
 ·cases h
 rename_i h0 up t els _ l hgo
 obtain rfl:=gotsL_eq hgo
 obtain ⟨rfl,rfl⟩:=Prod.mk.inj (Option.some.inj h)
 refine ⟨by simp,fun k E hE Q hQ=>?_⟩
 obtain ⟨hll,hlen⟩:=hc
 refine Aw_st hE [1] [1] fun K hK=>?_
 simp only [go_sem,seval]
 refine hK _ ?_;clear hK K
 refine Aw_sq fun B1 hB1 hR1 hX1=>?_
 refine Aw_st hE [1,14] [1] fun K hK=>?_
 simp only [go_sem,seval]
 refine ⟨fun hg3=>?_,fun hg3=>?_⟩
 ·have hg3:isH h0=false:=by simpa using hg3
  refine hK _ (Aw_yes rfl ?_)
  refine Aw_st hE [2] [] fun K hK=>?_
  simp only [go_sem,seval]
  refine hK _ (Aw_ret (hR1 _ (hQ _ ?_)))
  simp only [go_sem,seval,ribOk,hg3,Bool.false_and]
 have hg3:isH h0=true:=by simpa using hg3
 refine hK _ (Aw_cond rfl (fun hc4=>?_) (fun hc4=>?_))
 ·refine Aw_st hE [2] [] fun K hK=>?_
  simp only [go_sem,seval]
  refine hK _ (Aw_ret (hR1 _ (hQ _ ?_)))
  simp only [decide_eq_true_eq] at hc4
  simp only [go_sem,seval,ribOk,hg3,Bool.true_and,show decide (l.length≤6)=false from decide_eq_false (by omega),Bool.false_and]
 simp only [decide_eq_false_iff_not] at hc4
 refine Aw_skip (hB1 _ ?_)
 refine Aw_sq fun B5 hB5 hR5 hX5=>?_
 refine Aw_st hE [1,16,17,18] [1] fun K hK=>?_
 simp only [go_sem,seval]
 refine hK _ ?_;clear hK K
 refine Aw_bk fun B6 hN6 hE6 hR6 hX6=>?_
 refine Aw_lp (fun i:Nat=>⟨65,[(1,.loc 1 0),(16,.sl t (grows l)),(17,iv l.length),(18,iv i)],[(1,[iv h0,bv up,.sl t (grows l)])],k⟩) (fun i=>i≤l.length∧allG h0 up none l=allG h0 up (prevG l i) (l.drop i)∧∀ j,j < i→∀ g,l[j]? = some g→rngOk g.r.f g.r.b=true) (fun i=>l.length - i) 0 (Le.refl _) ⟨by omega,rfl,fun j hj=>by omega⟩ fun i hi B7 hN7 hR7 hX7=>?_
 obtain ⟨hi1,hi2,hi3⟩:=hi
 refine Aw_st hE [1,16,17,18,19] [1] fun K hK=>?_
 simp only [go_sem,seval]
 refine hK _ ?_;clear hK K
 refine Aw_sq fun B8 hB8 hR8 hX8=>?_
 refine Aw_cond rfl (fun hc9=>?_) (fun hc9=>?_)
 rotate_left
 ·refine Aw_exit (hX8 _ _ (hX7 _ _ (hE6 _ (hB5 _ ?_))))
  simp only [decide_eq_false_iff_not] at hc9
  have hal:allG h0 up none l=true:=by rw [hi2,List.drop_eq_nil_of_le (by omega)];rfl
  refine Aw_st hE [2] [] fun K hK=>?_
  simp only [go_sem,seval]
  refine hK _ (Aw_ret (hQ _ ?_))
  simp only [go_sem,seval,ribOk,hal,hg3,show decide (l.length≤6)=true from decide_eq_true (by omega),Bool.and_self]
 simp only [decide_eq_true_eq] at hc9
 have hil:i < l.length:=by omega
 have hget:=grows_get l i hil
 have hln:=hlen _ (List.getElem_mem hil)
 have hstop:=fun h=>ribOk_stop hil hi2 h
 have hst:=hi2.trans (allG_drop hil)
 have hnx:∀ (hr:rngOk l[i].r.f l[i].r.b=true),∀ j,j < i + 1→∀ g,l[j]? = some g→rngOk g.r.f g.r.b=true:=fun hr j hj g hg=>by
  by_cases hji:j=i
  ·subst hji
   rw [List.getElem?_eq_getElem hil] at hg
   obtain rfl:=Option.some.inj hg
   exact hr
  ·exact hi3 j (by omega) g hg
 generalize l[i]=x at hget hln hstop hst hnx
 obtain ⟨⟨rf,rb,p,rk,m⟩,old⟩:=x
 simp only at hln hnx
 refine Aw_skip (hB8 _ ?_)
 refine Aw_sq fun B10 hB10 hR10 hX10=>?_
 refine Aw_bk fun B11 hN11 hE11 hR11 hX11=>?_
 refine Aw_st hE [1,3,4,16,17,18] [1,4] fun K hK=>?_
 simp only [go_sem,seval,hget]
 repeat refine ⟨by first|omega|(and_intros<;>first|omega|exact rows_row _|decide|(simp<;>omega))|fail,?_⟩
 refine hK _ ?_;clear hK K
 refine Aw_sq fun B12 hB12 hR12 hX12=>?_
 have hokR:okR ⟨rf,rb,p,rk,m⟩=rtOk rf rb p rk m:=rfl
 cases h1:rtOk rf rb p rk m with
 | false =>
  have hf:=hstop (by simp only [gotOk,hokR,h1,Bool.false_and])
  refine Aw_se hE [0,1,2,3,4,5,6,7,8,9,10,11,12,13,14,15,16,17,18,19,20,21,22,23] [0,1,3,7,15,31,63,127,255,511,31,1055,4095,8191,16383,32767,65535,131071,262143,524287,1048575,2097151,4194303,8388607] [1,3,4,16,17,18,46] [1,4] (by kernel_rfl) fun K hK=>?_
  refine daopsE_cut 6 fun K1 hK1=>?_
  simp only [go_sem,seval,h1]
  repeat refine ⟨by first|omega|(and_intros<;>first|omega|exact rows_row _|decide|(simp<;>omega))|fail,?_⟩
  refine hK1 _ ?_
  clear hK1
  refine daopsE_cut 6 fun K1 hK1=>?_
  simp only [go_sem,seval,h1]
  repeat refine ⟨by first|omega|(and_intros<;>first|omega|exact rows_row _|decide|(simp<;>omega))|fail,?_⟩
  refine hK1 _ ?_
  clear hK1
  refine daopsE_cut 6 fun K1 hK1=>?_
  simp only [go_sem,seval,h1]
  repeat refine ⟨by first|omega|(and_intros<;>first|omega|exact rows_row _|decide|(simp<;>omega))|fail,?_⟩
  refine hK1 _ ?_
  clear hK1
  simp only [go_sem,seval,h1]
  repeat refine ⟨by first|omega|(and_intros<;>first|omega|exact rows_row _|decide|(simp<;>omega))|fail,?_⟩
  refine hK _ (Aw_yes rfl ?_)
  refine Aw_st hE [2] [] fun K hK=>?_
  simp only [go_sem,seval]
  refine hK _ (Aw_ret (hR12 _ (hR11 _ (hR10 _ (hR7 _ (hR6 _ (hR5 _ (hQ _ ?_))))))))
  simp only [go_sem,seval,hf]
 | true =>
 have hrr:=rtOk_r h1
 have hnx:=hnx hrr
 obtain ⟨p0,p',rfl⟩:∃ p0 p',p=p0::p':=by
  have:=(okR_parts (hokR.trans h1)).2.1
  cases p with
  | nil=>simp at this
  | cons a b=>exact ⟨a,b,rfl⟩
 obtain ⟨hln1,hln2⟩:=hln
 have hpl:p'.length≤1000:=by simp at hln1;omega
 have hp0:(rows (p0::p'))[0]? = some [.v (.int .i64 p0)]:=rfl
 by_cases h2:p0=h0
 rotate_left
 ·have hf:=hstop (by simp [gotOk,h2])
  have h2d:decide (p0=h0)=false:=decide_eq_false h2
  refine Aw_se hE [0,1,2,3,4,5,6,7,8,9,10,11,12,13,14,15,16,17,18,19,20,21,22,23] [0,1,3,7,15,31,63,127,255,511,31,1055,4095,8191,16383,32767,65535,131071,262143,524287,1048575,2097151,4194303,8388607] [1,3,4,16,17,18,46] [1,4] (by kernel_rfl) fun K hK=>?_
  refine daopsE_cut 6 fun K1 hK1=>?_
  simp only [go_sem,seval,h1,hp0,h2d]
  repeat refine ⟨by first|omega|(and_intros<;>first|omega|exact rows_row _|decide|(simp<;>omega))|fail,?_⟩
  refine hK1 _ ?_
  clear hK1
  refine daopsE_cut 6 fun K1 hK1=>?_
  simp only [go_sem,seval,h1,hp0,h2d]
  repeat refine ⟨by first|omega|(and_intros<;>first|omega|exact rows_row _|decide|(simp<;>omega))|fail,?_⟩
  refine hK1 _ ?_
  clear hK1
  refine daopsE_cut 6 fun K1 hK1=>?_
  simp only [go_sem,seval,h1,hp0,h2d]
  repeat refine ⟨by first|omega|(and_intros<;>first|omega|exact rows_row _|decide|(simp<;>omega))|fail,?_⟩
  refine hK1 _ ?_
  clear hK1
  simp only [go_sem,seval,h1,hp0,h2d]
  repeat refine ⟨by first|omega|(and_intros<;>first|omega|exact rows_row _|decide|(simp<;>omega))|fail,?_⟩
  refine hK _ (Aw_yes rfl ?_)
  refine Aw_st hE [2] [] fun K hK=>?_
  simp only [go_sem,seval]
  refine hK _ (Aw_ret (hR12 _ (hR11 _ (hR10 _ (hR7 _ (hR6 _ (hR5 _ (hQ _ ?_))))))))
  simp only [go_sem,seval,hf]
 have h2d:decide (p0=h0)=true:=decide_eq_true h2
 cases h3:(up || old) with
 | false =>
  have hf:=hstop (by simp only [gotOk,h3,Bool.false_and,Bool.and_false])
  simp only [Bool.or_eq_false_iff] at h3
  refine Aw_se hE [0,1,2,3,4,5,6,7,8,9,10,11,12,13,14,15,16,17,18,19,20,21,22,23] [0,1,3,7,15,31,63,127,255,511,31,1055,4095,8191,16383,32767,65535,131071,262143,524287,1048575,2097151,4194303,8388607] [1,3,4,16,17,18,46] [1,4] (by kernel_rfl) fun K hK=>?_
  refine daopsE_cut 6 fun K1 hK1=>?_
  simp only [go_sem,seval,h1,hp0,h2d,h3.1,h3.2]
  repeat refine ⟨by first|omega|(and_intros<;>first|omega|exact rows_row _|decide|(simp<;>omega))|fail,?_⟩
  refine hK1 _ ?_
  clear hK1
  refine daopsE_cut 6 fun K1 hK1=>?_
  simp only [go_sem,seval,h1,hp0,h2d,h3.1,h3.2]
  repeat refine ⟨by first|omega|(and_intros<;>first|omega|exact rows_row _|decide|(simp<;>omega))|fail,?_⟩
  refine hK1 _ ?_
  clear hK1
  refine daopsE_cut 6 fun K1 hK1=>?_
  simp only [go_sem,seval,h1,hp0,h2d,h3.1,h3.2]
  repeat refine ⟨by first|omega|(and_intros<;>first|omega|exact rows_row _|decide|(simp<;>omega))|fail,?_⟩
  refine hK1 _ ?_
  clear hK1
  simp only [go_sem,seval,h1,hp0,h2d,h3.1,h3.2]
  repeat refine ⟨by first|omega|(and_intros<;>first|omega|exact rows_row _|decide|(simp<;>omega))|fail,?_⟩
  refine hK _ (Aw_yes rfl ?_)
  refine Aw_st hE [2] [] fun K hK=>?_
  simp only [go_sem,seval]
  refine hK _ (Aw_ret (hR12 _ (hR11 _ (hR10 _ (hR7 _ (hR6 _ (hR5 _ (hQ _ ?_))))))))
  simp only [go_sem,seval,hf]
 | true =>
 have e1:okR ⟨rf,rb,h0::p',rk,m⟩=true:=by rw [← h2];exact hokR.trans h1
 have hgo2:gotOk h0 up (prevG l i) ⟨⟨rf,rb,p0::p',rk,m⟩,old⟩=(match prevG l i with | none=>true | some q=>decide (rCmp q.r.f q.r.b rf rb < 0)):=by
  simp only [gotOk,e1,h3,h2,List.head?_cons,Bool.true_and,decide_true]
  all_goals (cases prevG l i<;>rfl)
 rw [hgo2] at hst hstop
 have hupo:up=true∨(up=false∧old=true):=by
  cases up<;>simp_all
 rcases hupo with hu | ⟨hu,ho⟩
 ·subst hu
  refine Aw_se hE [0,1,2,3,4,5,6,7,8,9,10,11,12,13,14,15,16,17,18,19,20,21,22,23] [0,1,3,7,15,31,63,127,255,511,31,1055,4095,8191,16383,32767,65535,131071,262143,524287,1048575,2097151,4194303,8388607] [1,3,4,16,17,18,46] [1,4] (by kernel_rfl) fun K hK=>?_
  refine daopsE_cut 6 fun K1 hK1=>?_
  simp only [go_sem,seval,h1,hp0,h2d]
  repeat refine ⟨by first|omega|(and_intros<;>first|omega|exact rows_row _|decide|(simp<;>omega))|fail,?_⟩
  refine hK1 _ ?_
  clear hK1
  refine daopsE_cut 6 fun K1 hK1=>?_
  simp only [go_sem,seval,h1,hp0,h2d]
  repeat refine ⟨by first|omega|(and_intros<;>first|omega|exact rows_row _|decide|(simp<;>omega))|fail,?_⟩
  refine hK1 _ ?_
  clear hK1
  refine daopsE_cut 6 fun K1 hK1=>?_
  simp only [go_sem,seval,h1,hp0,h2d]
  repeat refine ⟨by first|omega|(and_intros<;>first|omega|exact rows_row _|decide|(simp<;>omega))|fail,?_⟩
  refine hK1 _ ?_
  clear hK1
  simp only [go_sem,seval,h1,hp0,h2d]
  repeat refine ⟨by first|omega|(and_intros<;>first|omega|exact rows_row _|decide|(simp<;>omega))|fail,?_⟩
  refine hK _ (Aw_no rfl (Aw_skip (hB12 _ ?_)))
  by_cases hi0:i=0
  ·have hz:decide ((0:Int) < (i:Int))=false:=decide_eq_false (by omega)
   have hpv:prevG l i=none:=by rw [hi0];rfl
   rw [hpv] at hst
   simp only [Bool.true_and] at hst
   have hst:allG h0 true none l=allG h0 true (prevG l (i + 1)) (l.drop (i + 1)):=hst
   refine Aw_se hE [0,1,2,3,4,5,6,7,8,9,10,11,12,13,14,15,16] [0,1,3,7,15,7,39,127,255,511,1023,7,2055,6151,16383,32767,65535] [1,16,17,18,63] [1] (by kernel_rfl) fun K hK=>?_
   refine daopsE_cut 6 fun K1 hK1=>?_
   simp only [go_sem,seval,hz]
   repeat refine ⟨by first|omega|(and_intros<;>first|omega|exact rows_row _|decide|(simp<;>omega))|fail,?_⟩
   refine hK1 _ ?_
   clear hK1
   refine daopsE_cut 6 fun K1 hK1=>?_
   simp only [go_sem,seval,hz]
   repeat refine ⟨by first|omega|(and_intros<;>first|omega|exact rows_row _|decide|(simp<;>omega))|fail,?_⟩
   refine hK1 _ ?_
   clear hK1
   simp only [go_sem,seval,hz]
   repeat refine ⟨by first|omega|(and_intros<;>first|omega|exact rows_row _|decide|(simp<;>omega))|fail,?_⟩
   refine hK _ (Aw_no rfl (Aw_skip (hN11 _ (hB10 _ ?_))))
   refine Aw_tx hE [1,16,17,18] [1] fun K hK=>?_
   simp only [go_sem,seval]
   repeat refine ⟨by first|omega|(and_intros<;>first|omega|exact rows_row _|decide|(simp<;>omega))|fail,?_⟩
   refine hK _ (hN7 (i + 1) _ ⟨by omega,hst,hnx⟩ (by omega) (Le.refl _))
  ·have hz:decide ((0:Int) < (i:Int))=true:=decide_eq_true (by omega)
   have et:((i:Int) - 1).toNat=i - 1:=by omega
   have hget2:=grows_get l (i - 1) (by omega)
   have hrq:=hi3 (i - 1) (by omega) _ (List.getElem?_eq_getElem (by omega))
   have hpv:prevG l i=some l[i - 1]:=by
    cases i with
    | zero=>exact absurd rfl hi0
    | succ j=>exact List.getElem?_eq_getElem (by omega)
   rw [hpv] at hst hstop
   generalize l[i - 1]=y at hget2 hst hstop hrq
   obtain ⟨⟨qf,qb,qp,qk,qm⟩,qo⟩:=y
   simp only at hst hstop hrq
   cases hq:decide (rCmp qf qb rf rb < 0) with
   | true =>
    rw [hq,Bool.true_and] at hst
    have hq2:decide (0≤rCmp qf qb rf rb)=false:=by
     simp only [decide_eq_true_eq] at hq
     exact decide_eq_false (by omega)
    refine Aw_se hE [0,1,2,3,4,5,6,7,8,9,10,11,12,13,14,15,16] [0,1,3,7,15,7,39,127,255,511,1023,7,2055,6151,16383,32767,65535] [1,16,17,18,63] [1] (by kernel_rfl) fun K hK=>?_
    refine daopsE_cut 6 fun K1 hK1=>?_
    simp only [go_sem,seval,hz,et,hget2,hrq,hrr,hq2,Bool.and_self,if_true]
    repeat refine ⟨by first|omega|(and_intros<;>first|omega|exact rows_row _|decide|(simp<;>omega))|fail,?_⟩
    refine hK1 _ ?_
    clear hK1
    refine daopsE_cut 6 fun K1 hK1=>?_
    simp only [go_sem,seval,hz,et,hget2,hrq,hrr,hq2,Bool.and_self,if_true]
    repeat refine ⟨by first|omega|(and_intros<;>first|omega|exact rows_row _|decide|(simp<;>omega))|fail,?_⟩
    refine hK1 _ ?_
    clear hK1
    simp only [go_sem,seval,hz,et,hget2,hrq,hrr,hq2,Bool.and_self,if_true]
    repeat refine ⟨by first|omega|(and_intros<;>first|omega|exact rows_row _|decide|(simp<;>omega))|fail,?_⟩
    refine hK _ (Aw_no rfl (Aw_skip (hN11 _ (hB10 _ ?_))))
    refine Aw_tx hE [1,16,17,18] [1] fun K hK=>?_
    simp only [go_sem,seval]
    repeat refine ⟨by first|omega|(and_intros<;>first|omega|exact rows_row _|decide|(simp<;>omega))|fail,?_⟩
    refine hK _ (hN7 (i + 1) _ ⟨by omega,hst,hnx⟩ (by omega) (Le.refl _))
   | false =>
    have hf:=hstop hq
    have hq2:decide (0≤rCmp qf qb rf rb)=true:=by
     simp only [decide_eq_false_iff_not] at hq
     exact decide_eq_true (by omega)
    refine Aw_se hE [0,1,2,3,4,5,6,7,8,9,10,11,12,13,14,15,16] [0,1,3,7,15,7,39,127,255,511,1023,7,2055,6151,16383,32767,65535] [1,16,17,18,63] [1] (by kernel_rfl) fun K hK=>?_
    refine daopsE_cut 6 fun K1 hK1=>?_
    simp only [go_sem,seval,hz,et,hget2,hrq,hrr,hq2,Bool.and_self,if_true]
    repeat refine ⟨by first|omega|(and_intros<;>first|omega|exact rows_row _|decide|(simp<;>omega))|fail,?_⟩
    refine hK1 _ ?_
    clear hK1
    refine daopsE_cut 6 fun K1 hK1=>?_
    simp only [go_sem,seval,hz,et,hget2,hrq,hrr,hq2,Bool.and_self,if_true]
    repeat refine ⟨by first|omega|(and_intros<;>first|omega|exact rows_row _|decide|(simp<;>omega))|fail,?_⟩
    refine hK1 _ ?_
    clear hK1
    simp only [go_sem,seval,hz,et,hget2,hrq,hrr,hq2,Bool.and_self,if_true]
    repeat refine ⟨by first|omega|(and_intros<;>first|omega|exact rows_row _|decide|(simp<;>omega))|fail,?_⟩
    refine hK _ (Aw_yes rfl ?_)
    refine Aw_st hE [2] [] fun K hK=>?_
    simp only [go_sem,seval]
    refine hK _ (Aw_ret (hR11 _ (hR10 _ (hR7 _ (hR6 _ (hR5 _ (hQ _ ?_)))))))
    simp only [go_sem,seval,hf]
 ·subst hu ho
  refine Aw_se hE [0,1,2,3,4,5,6,7,8,9,10,11,12,13,14,15,16,17,18,19,20,21,22,23] [0,1,3,7,15,31,63,127,255,511,31,1055,4095,8191,16383,32767,65535,131071,262143,524287,1048575,2097151,4194303,8388607] [1,3,4,16,17,18,46] [1,4] (by kernel_rfl) fun K hK=>?_
  refine daopsE_cut 6 fun K1 hK1=>?_
  simp only [go_sem,seval,h1,hp0,h2d]
  repeat refine ⟨by first|omega|(and_intros<;>first|omega|exact rows_row _|decide|(simp<;>omega))|fail,?_⟩
  refine hK1 _ ?_
  clear hK1
  refine daopsE_cut 6 fun K1 hK1=>?_
  simp only [go_sem,seval,h1,hp0,h2d]
  repeat refine ⟨by first|omega|(and_intros<;>first|omega|exact rows_row _|decide|(simp<;>omega))|fail,?_⟩
  refine hK1 _ ?_
  clear hK1
  refine daopsE_cut 6 fun K1 hK1=>?_
  simp only [go_sem,seval,h1,hp0,h2d]
  repeat refine ⟨by first|omega|(and_intros<;>first|omega|exact rows_row _|decide|(simp<;>omega))|fail,?_⟩
  refine hK1 _ ?_
  clear hK1
  simp only [go_sem,seval,h1,hp0,h2d]
  repeat refine ⟨by first|omega|(and_intros<;>first|omega|exact rows_row _|decide|(simp<;>omega))|fail,?_⟩
  refine hK _ (Aw_no rfl (Aw_skip (hB12 _ ?_)))
  by_cases hi0:i=0
  ·have hz:decide ((0:Int) < (i:Int))=false:=decide_eq_false (by omega)
   have hpv:prevG l i=none:=by rw [hi0];rfl
   rw [hpv] at hst
   simp only [Bool.true_and] at hst
   have hst:allG h0 false none l=allG h0 false (prevG l (i + 1)) (l.drop (i + 1)):=hst
   refine Aw_se hE [0,1,2,3,4,5,6,7,8,9,10,11,12,13,14,15,16] [0,1,3,7,15,7,39,127,255,511,1023,7,2055,6151,16383,32767,65535] [1,16,17,18,63] [1] (by kernel_rfl) fun K hK=>?_
   refine daopsE_cut 6 fun K1 hK1=>?_
   simp only [go_sem,seval,hz]
   repeat refine ⟨by first|omega|(and_intros<;>first|omega|exact rows_row _|decide|(simp<;>omega))|fail,?_⟩
   refine hK1 _ ?_
   clear hK1
   refine daopsE_cut 6 fun K1 hK1=>?_
   simp only [go_sem,seval,hz]
   repeat refine ⟨by first|omega|(and_intros<;>first|omega|exact rows_row _|decide|(simp<;>omega))|fail,?_⟩
   refine hK1 _ ?_
   clear hK1
   simp only [go_sem,seval,hz]
   repeat refine ⟨by first|omega|(and_intros<;>first|omega|exact rows_row _|decide|(simp<;>omega))|fail,?_⟩
   refine hK _ (Aw_no rfl (Aw_skip (hN11 _ (hB10 _ ?_))))
   refine Aw_tx hE [1,16,17,18] [1] fun K hK=>?_
   simp only [go_sem,seval]
   repeat refine ⟨by first|omega|(and_intros<;>first|omega|exact rows_row _|decide|(simp<;>omega))|fail,?_⟩
   refine hK _ (hN7 (i + 1) _ ⟨by omega,hst,hnx⟩ (by omega) (Le.refl _))
  ·have hz:decide ((0:Int) < (i:Int))=true:=decide_eq_true (by omega)
   have et:((i:Int) - 1).toNat=i - 1:=by omega
   have hget2:=grows_get l (i - 1) (by omega)
   have hrq:=hi3 (i - 1) (by omega) _ (List.getElem?_eq_getElem (by omega))
   have hpv:prevG l i=some l[i - 1]:=by
    cases i with
    | zero=>exact absurd rfl hi0
    | succ j=>exact List.getElem?_eq_getElem (by omega)
   rw [hpv] at hst hstop
   generalize l[i - 1]=y at hget2 hst hstop hrq
   obtain ⟨⟨qf,qb,qp,qk,qm⟩,qo⟩:=y
   simp only at hst hstop hrq
   cases hq:decide (rCmp qf qb rf rb < 0) with
   | true =>
    rw [hq,Bool.true_and] at hst
    have hq2:decide (0≤rCmp qf qb rf rb)=false:=by
     simp only [decide_eq_true_eq] at hq
     exact decide_eq_false (by omega)
    refine Aw_se hE [0,1,2,3,4,5,6,7,8,9,10,11,12,13,14,15,16] [0,1,3,7,15,7,39,127,255,511,1023,7,2055,6151,16383,32767,65535] [1,16,17,18,63] [1] (by kernel_rfl) fun K hK=>?_
    refine daopsE_cut 6 fun K1 hK1=>?_
    simp only [go_sem,seval,hz,et,hget2,hrq,hrr,hq2,Bool.and_self,if_true]
    repeat refine ⟨by first|omega|(and_intros<;>first|omega|exact rows_row _|decide|(simp<;>omega))|fail,?_⟩
    refine hK1 _ ?_
    clear hK1
    refine daopsE_cut 6 fun K1 hK1=>?_
    simp only [go_sem,seval,hz,et,hget2,hrq,hrr,hq2,Bool.and_self,if_true]
    repeat refine ⟨by first|omega|(and_intros<;>first|omega|exact rows_row _|decide|(simp<;>omega))|fail,?_⟩
    refine hK1 _ ?_
    clear hK1
    simp only [go_sem,seval,hz,et,hget2,hrq,hrr,hq2,Bool.and_self,if_true]
    repeat refine ⟨by first|omega|(and_intros<;>first|omega|exact rows_row _|decide|(simp<;>omega))|fail,?_⟩
    refine hK _ (Aw_no rfl (Aw_skip (hN11 _ (hB10 _ ?_))))
    refine Aw_tx hE [1,16,17,18] [1] fun K hK=>?_
    simp only [go_sem,seval]
    repeat refine ⟨by first|omega|(and_intros<;>first|omega|exact rows_row _|decide|(simp<;>omega))|fail,?_⟩
    refine hK _ (hN7 (i + 1) _ ⟨by omega,hst,hnx⟩ (by omega) (Le.refl _))
   | false =>
    have hf:=hstop hq
    have hq2:decide (0≤rCmp qf qb rf rb)=true:=by
     simp only [decide_eq_false_iff_not] at hq
     exact decide_eq_true (by omega)
    refine Aw_se hE [0,1,2,3,4,5,6,7,8,9,10,11,12,13,14,15,16] [0,1,3,7,15,7,39,127,255,511,1023,7,2055,6151,16383,32767,65535] [1,16,17,18,63] [1] (by kernel_rfl) fun K hK=>?_
    refine daopsE_cut 6 fun K1 hK1=>?_
    simp only [go_sem,seval,hz,et,hget2,hrq,hrr,hq2,Bool.and_self,if_true]
    repeat refine ⟨by first|omega|(and_intros<;>first|omega|exact rows_row _|decide|(simp<;>omega))|fail,?_⟩
    refine hK1 _ ?_
    clear hK1
    refine daopsE_cut 6 fun K1 hK1=>?_
    simp only [go_sem,seval,hz,et,hget2,hrq,hrr,hq2,Bool.and_self,if_true]
    repeat refine ⟨by first|omega|(and_intros<;>first|omega|exact rows_row _|decide|(simp<;>omega))|fail,?_⟩
    refine hK1 _ ?_
    clear hK1
    simp only [go_sem,seval,hz,et,hget2,hrq,hrr,hq2,Bool.and_self,if_true]
    repeat refine ⟨by first|omega|(and_intros<;>first|omega|exact rows_row _|decide|(simp<;>omega))|fail,?_⟩
    refine hK _ (Aw_yes rfl ?_)
    refine Aw_st hE [2] [] fun K hK=>?_
    simp only [go_sem,seval]
    refine hK _ (Aw_ret (hR11 _ (hR10 _ (hR7 _ (hR6 _ (hR5 _ (hQ _ ?_)))))))
    simp only [go_sem,seval,hf]
end Go.Proofs.W
end
section
namespace Go.Proofs.W
open Go Go.Eng Go.RowKit
set_option linter.unusedSimpArgs false
set_option maxRecDepth 100000
/-! what a clause's test says -/
def gFA:List AV→Option (Prop × AV) | [.agg [],.agg [.v (.int .i64 rf),.v (.int .i64 rb),.sl _ e1,.v (.int .i64 rk),.sl _ e2]]=>(match intsL e1,intsL e2 with | some _,some _=>some (True,bv true) | _,_=>none) | _=>none
def dFA:DFn:={ g:=gFA }
def gFR:List AV→Option (Prop × AV) | [.agg [.v (.int .i64 f),.v (.int .i64 b)],.agg [.v (.int .i64 rf),.v (.int .i64 rb),.sl _ e1,.v (.int .i64 rk),.sl _ e2]]=>(match intsL e1,intsL e2 with | some _,some _=>some (True,bv (rngOk rf rb && (rngOk f b && rIn rf rb f b))) | _,_=>none) | _=>none
def dFR:DFn:={ g:=gFR }
def gFM:List AV→Option (Prop × AV) | [.v (.int .i64 n),.agg [.v (.int .i64 rf),.v (.int .i64 rb),.sl _ e1,.v (.int .i64 rk),.sl _ e2]]=>(match intsL e1,intsL e2 with | some _,some m=>some (m.length≤4294967296,bv (m.contains n)) | _,_=>none) | _=>none
def dFM:DFn:={ g:=gFM }
def gFH:List AV→Option (Prop × AV) | [.v (.int .i64 n),.agg [.v (.int .i64 rf),.v (.int .i64 rb),.sl _ e1,.v (.int .i64 rk),.sl _ e2]]=>(match intsL e1,intsL e2 with | some p,some _=>some (p.length≤4294967296,bv (pathOk p && (isH n && p.contains n))) | _,_=>none) | _=>none
def dFH (pb:Addr):DFn:={ g:=gFH,inv:=WP pb }
def gFS:List AV→Option (Prop × AV) | [.v (.int .i64 n),.agg [.v (.int .i64 rf),.v (.int .i64 rb),.sl _ e1,.v (.int .i64 rk),.sl _ e2]]=>(match intsL e1,intsL e2 with | some p,some _=>some (p.length≤4294967296,bv (decide ((p.length:Int)≤n))) | _,_=>none) | _=>none
def dFS:DFn:={ g:=gFS }
attribute [go_sem] gFA dFA gFR dFR gFM dFM gFH dFH gFS dFS
/-- the test itself,as an interface value -/
def tstV (ci n f b:Int):Value :=
 if ci=1 then .iface 110 (.agg #[])
 else if ci=2 then .iface 111 (.agg #[.int .i64 f,.int .i64 b])
 else if ci=3 then .iface 112 (.int .i64 n)
 else if ci=4 then .iface 113 (.int .i64 n)
 else if ci=5 then .iface 114 (.int .i64 n) else .nilIface
def gTst:List AV→Option (Prop × AV) | [.agg [.v (.int .i64 ci),.v (.int .i64 n),.v (.int .i64 f),.v (.int .i64 b),.v (.bool ref),.v (.int .i64 like),.v (.int .i64 mark),.v (.int .i64 clear)]]=>some (True,.v (tstV ci n f b)) | _=>none
def dTst:DFn:={ g:=gTst }
def gSub:List AV→Option (Prop × AV) | [.agg [.v (.int .i64 ci),.v (.int .i64 n),.v (.int .i64 f),.v (.int .i64 b),.v (.bool ref),.v (.int .i64 like),.v (.int .i64 mark),.v (.int .i64 clear)]]=>some (True,bv (subOk ci n f b)) | _=>none
def dSub:DFn:={ g:=gSub }
attribute [go_sem] gTst dTst gSub dSub
theorem tst1 (n f b:Int):tstV 1 n f b = .iface 110 (.agg #[]):=rfl
theorem tst2 (n f b:Int):tstV 2 n f b = .iface 111 (.agg #[.int .i64 f,.int .i64 b]):=rfl
theorem tst3 (n f b:Int):tstV 3 n f b = .iface 112 (.int .i64 n):=rfl
theorem tst4 (n f b:Int):tstV 4 n f b = .iface 113 (.int .i64 n):=rfl
theorem tst5 (n f b:Int):tstV 5 n f b = .iface 114 (.int .i64 n):=rfl
theorem tst0 {ci:Int} (h1:¬ ci=1) (h2:¬ ci=2) (h3:¬ ci=3) (h4:¬ ci=4) (h5:¬ ci=5) (n f b:Int):tstV ci n f b = .nilIface:=by
 unfold tstV
 rw [if_neg h1,if_neg h2,if_neg h3,if_neg h4,if_neg h5]
theorem testOf_ok:Fine Tryd.prog 79 dTst.con:=by
 refine fine_det (T:=TT) Tryd.func79 rfl Tryd.ntmps79 (by rw [Tryd.results79]) rfl rfl tt (gs_nil) (ds_nil) ?_
 intro args c r h hc
 simp only [dTst,gTst] at h
 split at h
 rotate_left
 ·cases h
 obtain ⟨rfl,rfl⟩:=Prod.mk.inj (Option.some.inj h)
 refine ⟨by simp,fun k E hE Q hQ=>?_⟩
 rename_i ci n f b ref like mark clear
 refine Aw_st hE [1] [1] fun K hK=>?_
 simp only [go_sem,reduceIte,Nat.reduceLT,Nat.reduceLeDiff,Nat.reduceEqDiff,Nat.reduceAdd,Nat.reduceMul,Nat.reduceSub,Nat.reduceBEq,Int.reduceToNat,List.reduceReplicate,reduceCtorEq]
 repeat refine ⟨by first|omega|(and_intros<;>first|omega|exact rows_row _|decide|(simp<;>omega))|fail,?_⟩
 refine hK _ ?_;clear hK K
 refine Aw_sq fun B1 hB1 hR1 hX1=>?_
 refine Aw_st hE [1,4] [1] fun K hK=>?_
 simp only [go_sem,reduceIte,Nat.reduceLT,Nat.reduceLeDiff,Nat.reduceEqDiff,Nat.reduceAdd,Nat.reduceMul,Nat.reduceSub,Nat.reduceBEq,Int.reduceToNat,List.reduceReplicate,reduceCtorEq]
 repeat refine ⟨by first|omega|(and_intros<;>first|omega|exact rows_row _|decide|(simp<;>omega))|fail,?_⟩
 refine hK _ ?_;clear hK K
 refine Aw_bk fun B2 hN2 hE2 hR2 hX2=>?_
 refine Aw_st hE [1,4,5] [1] fun K hK=>?_
 simp only [go_sem,reduceIte,Nat.reduceLT,Nat.reduceLeDiff,Nat.reduceEqDiff,Nat.reduceAdd,Nat.reduceMul,Nat.reduceSub,Nat.reduceBEq,Int.reduceToNat,List.reduceReplicate,reduceCtorEq]
 repeat refine ⟨by first|omega|(and_intros<;>first|omega|exact rows_row _|decide|(simp<;>omega))|fail,?_⟩
 refine hK _ (Aw_cond rfl (fun hc3=>?_) (fun hc3=>?_))
 ·simp only [decide_eq_true_eq] at hc3
  refine Aw_st hE [2] [] fun K hK=>?_
  simp only [go_sem,reduceIte,Nat.reduceLT,Nat.reduceLeDiff,Nat.reduceEqDiff,Nat.reduceAdd,Nat.reduceMul,Nat.reduceSub,Nat.reduceBEq,Int.reduceToNat,List.reduceReplicate,reduceCtorEq]
  repeat refine ⟨by first|omega|(and_intros<;>first|omega|exact rows_row _|decide|(simp<;>omega))|fail,?_⟩
  refine hK _ (Aw_ret (hR2 _ (hR1 _ (hQ _ ?_))))
  simp only [go_sem,reduceIte,Nat.reduceLT,Nat.reduceLeDiff,Nat.reduceEqDiff,Nat.reduceAdd,Nat.reduceMul,Nat.reduceSub,Nat.reduceBEq,Int.reduceToNat,List.reduceReplicate,reduceCtorEq,hc3]
  rfl
 ·simp only [decide_eq_false_iff_not] at hc3
  refine Aw_st hE [1,4,9] [1] fun K hK=>?_
  simp only [go_sem,reduceIte,Nat.reduceLT,Nat.reduceLeDiff,Nat.reduceEqDiff,Nat.reduceAdd,Nat.reduceMul,Nat.reduceSub,Nat.reduceBEq,Int.reduceToNat,List.reduceReplicate,reduceCtorEq]
  repeat refine ⟨by first|omega|(and_intros<;>first|omega|exact rows_row _|decide|(simp<;>omega))|fail,?_⟩
  refine hK _ (Aw_cond rfl (fun hc4=>?_) (fun hc4=>?_))
  ·simp only [decide_eq_true_eq] at hc4
   refine Aw_st hE [2] [] fun K hK=>?_
   simp only [go_sem,reduceIte,Nat.reduceLT,Nat.reduceLeDiff,Nat.reduceEqDiff,Nat.reduceAdd,Nat.reduceMul,Nat.reduceSub,Nat.reduceBEq,Int.reduceToNat,List.reduceReplicate,reduceCtorEq]
   repeat refine ⟨by first|omega|(and_intros<;>first|omega|exact rows_row _|decide|(simp<;>omega))|fail,?_⟩
   refine hK _ (Aw_ret (hR2 _ (hR1 _ (hQ _ ?_))))
   simp only [go_sem,reduceIte,Nat.reduceLT,Nat.reduceLeDiff,Nat.reduceEqDiff,Nat.reduceAdd,Nat.reduceMul,Nat.reduceSub,Nat.reduceBEq,Int.reduceToNat,List.reduceReplicate,reduceCtorEq,hc4]
   rfl
  ·simp only [decide_eq_false_iff_not] at hc4
   refine Aw_st hE [1,4,14] [1] fun K hK=>?_
   simp only [go_sem,reduceIte,Nat.reduceLT,Nat.reduceLeDiff,Nat.reduceEqDiff,Nat.reduceAdd,Nat.reduceMul,Nat.reduceSub,Nat.reduceBEq,Int.reduceToNat,List.reduceReplicate,reduceCtorEq]
   repeat refine ⟨by first|omega|(and_intros<;>first|omega|exact rows_row _|decide|(simp<;>omega))|fail,?_⟩
   refine hK _ (Aw_cond rfl (fun hc5=>?_) (fun hc5=>?_))
   ·simp only [decide_eq_true_eq] at hc5
    refine Aw_st hE [2] [] fun K hK=>?_
    simp only [go_sem,reduceIte,Nat.reduceLT,Nat.reduceLeDiff,Nat.reduceEqDiff,Nat.reduceAdd,Nat.reduceMul,Nat.reduceSub,Nat.reduceBEq,Int.reduceToNat,List.reduceReplicate,reduceCtorEq]
    repeat refine ⟨by first|omega|(and_intros<;>first|omega|exact rows_row _|decide|(simp<;>omega))|fail,?_⟩
    refine hK _ (Aw_ret (hR2 _ (hR1 _ (hQ _ ?_))))
    simp only [go_sem,reduceIte,Nat.reduceLT,Nat.reduceLeDiff,Nat.reduceEqDiff,Nat.reduceAdd,Nat.reduceMul,Nat.reduceSub,Nat.reduceBEq,Int.reduceToNat,List.reduceReplicate,reduceCtorEq,hc5]
    rfl
   ·simp only [decide_eq_false_iff_not] at hc5
    refine Aw_st hE [1,4,19] [1] fun K hK=>?_
    simp only [go_sem,reduceIte,Nat.reduceLT,Nat.reduceLeDiff,Nat.reduceEqDiff,Nat.reduceAdd,Nat.reduceMul,Nat.reduceSub,Nat.reduceBEq,Int.reduceToNat,List.reduceReplicate,reduceCtorEq]
    repeat refine ⟨by first|omega|(and_intros<;>first|omega|exact rows_row _|decide|(simp<;>omega))|fail,?_⟩
    refine hK _ (Aw_cond rfl (fun hc6=>?_) (fun hc6=>?_))
    ·simp only [decide_eq_true_eq] at hc6
     refine Aw_st hE [2] [] fun K hK=>?_
     simp only [go_sem,reduceIte,Nat.reduceLT,Nat.reduceLeDiff,Nat.reduceEqDiff,Nat.reduceAdd,Nat.reduceMul,Nat.reduceSub,Nat.reduceBEq,Int.reduceToNat,List.reduceReplicate,reduceCtorEq]
     repeat refine ⟨by first|omega|(and_intros<;>first|omega|exact rows_row _|decide|(simp<;>omega))|fail,?_⟩
     refine hK _ (Aw_ret (hR2 _ (hR1 _ (hQ _ ?_))))
     simp only [go_sem,reduceIte,Nat.reduceLT,Nat.reduceLeDiff,Nat.reduceEqDiff,Nat.reduceAdd,Nat.reduceMul,Nat.reduceSub,Nat.reduceBEq,Int.reduceToNat,List.reduceReplicate,reduceCtorEq,hc6]
     rfl
    ·simp only [decide_eq_false_iff_not] at hc6
     refine Aw_st hE [1,24] [1] fun K hK=>?_
     simp only [go_sem,reduceIte,Nat.reduceLT,Nat.reduceLeDiff,Nat.reduceEqDiff,Nat.reduceAdd,Nat.reduceMul,Nat.reduceSub,Nat.reduceBEq,Int.reduceToNat,List.reduceReplicate,reduceCtorEq]
     repeat refine ⟨by first|omega|(and_intros<;>first|omega|exact rows_row _|decide|(simp<;>omega))|fail,?_⟩
     refine hK _ (Aw_cond rfl (fun hc7=>?_) (fun hc7=>?_))
     ·simp only [decide_eq_true_eq] at hc7
      refine Aw_st hE [2] [] fun K hK=>?_
      simp only [go_sem,reduceIte,Nat.reduceLT,Nat.reduceLeDiff,Nat.reduceEqDiff,Nat.reduceAdd,Nat.reduceMul,Nat.reduceSub,Nat.reduceBEq,Int.reduceToNat,List.reduceReplicate,reduceCtorEq]
      repeat refine ⟨by first|omega|(and_intros<;>first|omega|exact rows_row _|decide|(simp<;>omega))|fail,?_⟩
      refine hK _ (Aw_ret (hR2 _ (hR1 _ (hQ _ ?_))))
      simp only [go_sem,reduceIte,Nat.reduceLT,Nat.reduceLeDiff,Nat.reduceEqDiff,Nat.reduceAdd,Nat.reduceMul,Nat.reduceSub,Nat.reduceBEq,Int.reduceToNat,List.reduceReplicate,reduceCtorEq,hc7]
      rfl
     ·simp only [decide_eq_false_iff_not] at hc7
      refine Aw_skip (hN2 _ (hB1 _ ?_))
      refine Aw_st hE [2] [] fun K hK=>?_
      simp only [go_sem,reduceIte,Nat.reduceLT,Nat.reduceLeDiff,Nat.reduceEqDiff,Nat.reduceAdd,Nat.reduceMul,Nat.reduceSub,Nat.reduceBEq,Int.reduceToNat,List.reduceReplicate,reduceCtorEq]
      repeat refine ⟨by first|omega|(and_intros<;>first|omega|exact rows_row _|decide|(simp<;>omega))|fail,?_⟩
      refine hK _ (Aw_ret (hQ _ ?_))
      simp only [go_sem,reduceIte,Nat.reduceLT,Nat.reduceLeDiff,Nat.reduceEqDiff,Nat.reduceAdd,Nat.reduceMul,Nat.reduceSub,Nat.reduceBEq,Int.reduceToNat,List.reduceReplicate,reduceCtorEq,tst0 hc3 hc4 hc5 hc6 hc7]
theorem subjectOk_ok:Fine Tryd.prog 70 dSub.con:=by
 refine fine_det (T:=TT) Tryd.func70 rfl Tryd.ntmps70 (by rw [Tryd.results70]) rfl rfl tt (gs_nil) (ds_cons testOf_ok (ds_cons rangeOk_ok (ds_cons iIsM_ok (ds_cons iIsH_ok ds_nil)))) ?_
 intro args c r h hc
 simp only [dSub,gSub] at h
 split at h
 rotate_left
 ·cases h
 obtain ⟨rfl,rfl⟩:=Prod.mk.inj (Option.some.inj h)
 refine ⟨by simp,fun k E hE Q hQ=>?_⟩
 rename_i ci n f b ref like mark clear
 by_cases h101:ci=1
 ·subst h101
  refine Aw_st hE [1] [1] fun K hK=>?_
  simp only [go_sem,reduceIte,Nat.reduceLT,Nat.reduceLeDiff,Nat.reduceEqDiff,Nat.reduceAdd,Nat.reduceMul,Nat.reduceSub,Nat.reduceBEq,Int.reduceToNat,List.reduceReplicate,reduceCtorEq]
  repeat refine ⟨by first|omega|(and_intros<;>first|omega|exact rows_row _|decide|(simp<;>omega))|fail,?_⟩
  refine hK _ ?_;clear hK K
  refine Aw_st hE [1,3,4] [1,4] fun K hK=>?_
  simp only [go_sem,reduceIte,Nat.reduceLT,Nat.reduceLeDiff,Nat.reduceEqDiff,Nat.reduceAdd,Nat.reduceMul,Nat.reduceSub,Nat.reduceBEq,Int.reduceToNat,List.reduceReplicate,reduceCtorEq]
  repeat refine ⟨by first|omega|(and_intros<;>first|omega|exact rows_row _|decide|(simp<;>omega))|fail,?_⟩
  refine hK _ ?_;clear hK K
  refine Aw_sq fun B1 hB1 hR1 hX1=>?_
  refine Aw_st hE [1,3,4,13] [1,4] fun K hK=>?_
  simp only [go_sem,reduceIte,Nat.reduceLT,Nat.reduceLeDiff,Nat.reduceEqDiff,Nat.reduceAdd,Nat.reduceMul,Nat.reduceSub,Nat.reduceBEq,Int.reduceToNat,List.reduceReplicate,reduceCtorEq,tst1]
  repeat refine ⟨by first|omega|(and_intros<;>first|omega|exact rows_row _|decide|(simp<;>omega))|fail,?_⟩
  skip
  refine hK _ ?_;clear hK K
  refine Aw_bk fun B2 hN2 hE2 hR2 hX2=>?_
  refine Aw_st hE [1,3,4,13,14] [1,4] fun K hK=>?_
  simp only [go_sem,reduceIte,Nat.reduceLT,Nat.reduceLeDiff,Nat.reduceEqDiff,Nat.reduceAdd,Nat.reduceMul,Nat.reduceSub,Nat.reduceBEq,Int.reduceToNat,List.reduceReplicate,reduceCtorEq]
  repeat refine ⟨by first|omega|(and_intros<;>first|omega|exact rows_row _|decide|(simp<;>omega))|fail,?_⟩
  refine hK _ (Aw_no rfl ?_)
  refine Aw_st hE [1,3,4,13,16,17] [1,4] fun K hK=>?_
  simp only [go_sem,reduceIte,Nat.reduceLT,Nat.reduceLeDiff,Nat.reduceEqDiff,Nat.reduceAdd,Nat.reduceMul,Nat.reduceSub,Nat.reduceBEq,Int.reduceToNat,List.reduceReplicate,reduceCtorEq]
  repeat refine ⟨by first|omega|(and_intros<;>first|omega|exact rows_row _|decide|(simp<;>omega))|fail,?_⟩
  refine hK _ (Aw_yes rfl ?_)
  refine Aw_tx hE [1,3,4] [1,4] fun K hK=>?_
  simp only [go_sem,reduceIte,Nat.reduceLT,Nat.reduceLeDiff,Nat.reduceEqDiff,Nat.reduceAdd,Nat.reduceMul,Nat.reduceSub,Nat.reduceBEq,Int.reduceToNat,List.reduceReplicate,reduceCtorEq]
  repeat refine ⟨by first|omega|(and_intros<;>first|omega|exact rows_row _|decide|(simp<;>omega))|fail,?_⟩
  refine hK _ (hN2 _ (hB1 _ ?_))
  refine Aw_st hE [2] [] fun K hK=>?_
  simp only [go_sem,reduceIte,Nat.reduceLT,Nat.reduceLeDiff,Nat.reduceEqDiff,Nat.reduceAdd,Nat.reduceMul,Nat.reduceSub,Nat.reduceBEq,Int.reduceToNat,List.reduceReplicate,reduceCtorEq]
  repeat refine ⟨by first|omega|(and_intros<;>first|omega|exact rows_row _|decide|(simp<;>omega))|fail,?_⟩
  refine ⟨fun h1=>?_,fun h1=>?_⟩
  all_goals
   refine hK _ (Aw_ret (hQ _ ?_))
   simp only [go_sem,reduceIte,Nat.reduceLT,Nat.reduceLeDiff,Nat.reduceEqDiff,Nat.reduceAdd,Nat.reduceMul,Nat.reduceSub,Nat.reduceBEq,Int.reduceToNat,List.reduceReplicate,reduceCtorEq]
   first | (simp [subOk,beqI,h1];done) | fail
 by_cases h102:ci=2
 ·subst h102
  refine Aw_st hE [1] [1] fun K hK=>?_
  simp only [go_sem,reduceIte,Nat.reduceLT,Nat.reduceLeDiff,Nat.reduceEqDiff,Nat.reduceAdd,Nat.reduceMul,Nat.reduceSub,Nat.reduceBEq,Int.reduceToNat,List.reduceReplicate,reduceCtorEq]
  repeat refine ⟨by first|omega|(and_intros<;>first|omega|exact rows_row _|decide|(simp<;>omega))|fail,?_⟩
  refine hK _ ?_;clear hK K
  refine Aw_st hE [1,3,4] [1,4] fun K hK=>?_
  simp only [go_sem,reduceIte,Nat.reduceLT,Nat.reduceLeDiff,Nat.reduceEqDiff,Nat.reduceAdd,Nat.reduceMul,Nat.reduceSub,Nat.reduceBEq,Int.reduceToNat,List.reduceReplicate,reduceCtorEq]
  repeat refine ⟨by first|omega|(and_intros<;>first|omega|exact rows_row _|decide|(simp<;>omega))|fail,?_⟩
  refine hK _ ?_;clear hK K
  refine Aw_sq fun B1 hB1 hR1 hX1=>?_
  refine Aw_st hE [1,3,4,13] [1,4] fun K hK=>?_
  simp only [go_sem,reduceIte,Nat.reduceLT,Nat.reduceLeDiff,Nat.reduceEqDiff,Nat.reduceAdd,Nat.reduceMul,Nat.reduceSub,Nat.reduceBEq,Int.reduceToNat,List.reduceReplicate,reduceCtorEq,tst2]
  repeat refine ⟨by first|omega|(and_intros<;>first|omega|exact rows_row _|decide|(simp<;>omega))|fail,?_⟩
  skip
  refine hK _ ?_;clear hK K
  refine Aw_bk fun B2 hN2 hE2 hR2 hX2=>?_
  refine Aw_st hE [1,3,4,13,14] [1,4] fun K hK=>?_
  simp only [go_sem,reduceIte,Nat.reduceLT,Nat.reduceLeDiff,Nat.reduceEqDiff,Nat.reduceAdd,Nat.reduceMul,Nat.reduceSub,Nat.reduceBEq,Int.reduceToNat,List.reduceReplicate,reduceCtorEq]
  repeat refine ⟨by first|omega|(and_intros<;>first|omega|exact rows_row _|decide|(simp<;>omega))|fail,?_⟩
  refine hK _ (Aw_no rfl ?_)
  refine Aw_st hE [1,3,4,13,16,17] [1,4] fun K hK=>?_
  simp only [go_sem,reduceIte,Nat.reduceLT,Nat.reduceLeDiff,Nat.reduceEqDiff,Nat.reduceAdd,Nat.reduceMul,Nat.reduceSub,Nat.reduceBEq,Int.reduceToNat,List.reduceReplicate,reduceCtorEq]
  repeat refine ⟨by first|omega|(and_intros<;>first|omega|exact rows_row _|decide|(simp<;>omega))|fail,?_⟩
  refine hK _ (Aw_no rfl ?_)
  refine Aw_st hE [1,3,4,13,19,20] [1,4] fun K hK=>?_
  simp only [go_sem,reduceIte,Nat.reduceLT,Nat.reduceLeDiff,Nat.reduceEqDiff,Nat.reduceAdd,Nat.reduceMul,Nat.reduceSub,Nat.reduceBEq,Int.reduceToNat,List.reduceReplicate,reduceCtorEq]
  repeat refine ⟨by first|omega|(and_intros<;>first|omega|exact rows_row _|decide|(simp<;>omega))|fail,?_⟩
  refine hK _ (Aw_yes rfl ?_)
  refine Aw_st hE [1,3,4,7] [1,4,7] fun K hK=>?_
  simp only [go_sem,reduceIte,Nat.reduceLT,Nat.reduceLeDiff,Nat.reduceEqDiff,Nat.reduceAdd,Nat.reduceMul,Nat.reduceSub,Nat.reduceBEq,Int.reduceToNat,List.reduceReplicate,reduceCtorEq]
  repeat refine ⟨by first|omega|(and_intros<;>first|omega|exact rows_row _|decide|(simp<;>omega))|fail,?_⟩
  refine hK _ ?_;clear hK K
  refine Aw_sq fun B6 hB6 hR6 hX6=>?_
  refine Aw_st hE [1,3,4,7,23] [1,4,7] fun K hK=>?_
  simp only [go_sem,reduceIte,Nat.reduceLT,Nat.reduceLeDiff,Nat.reduceEqDiff,Nat.reduceAdd,Nat.reduceMul,Nat.reduceSub,Nat.reduceBEq,Int.reduceToNat,List.reduceReplicate,reduceCtorEq]
  repeat refine ⟨by first|omega|(and_intros<;>first|omega|exact rows_row _|decide|(simp<;>omega))|fail,?_⟩
  refine hK _ (Aw_cond rfl (fun hc7=>?_) (fun hc7=>?_))
  ·have hx:=hc7
   simp only [Bool.not_eq_true'] at hx
   refine Aw_st hE [2] [] fun K hK=>?_
   simp only [go_sem,reduceIte,Nat.reduceLT,Nat.reduceLeDiff,Nat.reduceEqDiff,Nat.reduceAdd,Nat.reduceMul,Nat.reduceSub,Nat.reduceBEq,Int.reduceToNat,List.reduceReplicate,reduceCtorEq]
   repeat refine ⟨by first|omega|(and_intros<;>first|omega|exact rows_row _|decide|(simp<;>omega))|fail,?_⟩
   refine hK _ (Aw_ret (hR6 _ (hR2 _ (hR1 _ (hQ _ ?_)))))
   simp only [go_sem,reduceIte,Nat.reduceLT,Nat.reduceLeDiff,Nat.reduceEqDiff,Nat.reduceAdd,Nat.reduceMul,Nat.reduceSub,Nat.reduceBEq,Int.reduceToNat,List.reduceReplicate,reduceCtorEq]
   simp [subOk,hx]
  ·have hx:=hc7
   simp only [Bool.not_eq_false'] at hx
   refine Aw_skip (hB6 _ ?_)
   refine Aw_tx hE [1,3,4] [1,4] fun K hK=>?_
   simp only [go_sem,reduceIte,Nat.reduceLT,Nat.reduceLeDiff,Nat.reduceEqDiff,Nat.reduceAdd,Nat.reduceMul,Nat.reduceSub,Nat.reduceBEq,Int.reduceToNat,List.reduceReplicate,reduceCtorEq]
   repeat refine ⟨by first|omega|(and_intros<;>first|omega|exact rows_row _|decide|(simp<;>omega))|fail,?_⟩
   refine hK _ (hN2 _ (hB1 _ ?_))
   refine Aw_st hE [2] [] fun K hK=>?_
   simp only [go_sem,reduceIte,Nat.reduceLT,Nat.reduceLeDiff,Nat.reduceEqDiff,Nat.reduceAdd,Nat.reduceMul,Nat.reduceSub,Nat.reduceBEq,Int.reduceToNat,List.reduceReplicate,reduceCtorEq]
   repeat refine ⟨by first|omega|(and_intros<;>first|omega|exact rows_row _|decide|(simp<;>omega))|fail,?_⟩
   refine ⟨fun h1=>?_,fun h1=>?_⟩
   all_goals
    refine hK _ (Aw_ret (hQ _ ?_))
    simp only [go_sem,reduceIte,Nat.reduceLT,Nat.reduceLeDiff,Nat.reduceEqDiff,Nat.reduceAdd,Nat.reduceMul,Nat.reduceSub,Nat.reduceBEq,Int.reduceToNat,List.reduceReplicate,reduceCtorEq]
    first | (simp [subOk,beqI,h1,hx];done) | (simp at h1;done) | fail
 by_cases h103:ci=3
 ·subst h103
  refine Aw_st hE [1] [1] fun K hK=>?_
  simp only [go_sem,reduceIte,Nat.reduceLT,Nat.reduceLeDiff,Nat.reduceEqDiff,Nat.reduceAdd,Nat.reduceMul,Nat.reduceSub,Nat.reduceBEq,Int.reduceToNat,List.reduceReplicate,reduceCtorEq]
  repeat refine ⟨by first|omega|(and_intros<;>first|omega|exact rows_row _|decide|(simp<;>omega))|fail,?_⟩
  refine hK _ ?_;clear hK K
  refine Aw_st hE [1,3,4] [1,4] fun K hK=>?_
  simp only [go_sem,reduceIte,Nat.reduceLT,Nat.reduceLeDiff,Nat.reduceEqDiff,Nat.reduceAdd,Nat.reduceMul,Nat.reduceSub,Nat.reduceBEq,Int.reduceToNat,List.reduceReplicate,reduceCtorEq]
  repeat refine ⟨by first|omega|(and_intros<;>first|omega|exact rows_row _|decide|(simp<;>omega))|fail,?_⟩
  refine hK _ ?_;clear hK K
  refine Aw_sq fun B1 hB1 hR1 hX1=>?_
  refine Aw_st hE [1,3,4,13] [1,4] fun K hK=>?_
  simp only [go_sem,reduceIte,Nat.reduceLT,Nat.reduceLeDiff,Nat.reduceEqDiff,Nat.reduceAdd,Nat.reduceMul,Nat.reduceSub,Nat.reduceBEq,Int.reduceToNat,List.reduceReplicate,reduceCtorEq,tst3]
  repeat refine ⟨by first|omega|(and_intros<;>first|omega|exact rows_row _|decide|(simp<;>omega))|fail,?_⟩
  skip
  refine hK _ ?_;clear hK K
  refine Aw_bk fun B2 hN2 hE2 hR2 hX2=>?_
  refine Aw_st hE [1,3,4,13,14] [1,4] fun K hK=>?_
  simp only [go_sem,reduceIte,Nat.reduceLT,Nat.reduceLeDiff,Nat.reduceEqDiff,Nat.reduceAdd,Nat.reduceMul,Nat.reduceSub,Nat.reduceBEq,Int.reduceToNat,List.reduceReplicate,reduceCtorEq]
  repeat refine ⟨by first|omega|(and_intros<;>first|omega|exact rows_row _|decide|(simp<;>omega))|fail,?_⟩
  refine hK _ (Aw_no rfl ?_)
  refine Aw_st hE [1,3,4,13,16,17] [1,4] fun K hK=>?_
  simp only [go_sem,reduceIte,Nat.reduceLT,Nat.reduceLeDiff,Nat.reduceEqDiff,Nat.reduceAdd,Nat.reduceMul,Nat.reduceSub,Nat.reduceBEq,Int.reduceToNat,List.reduceReplicate,reduceCtorEq]
  repeat refine ⟨by first|omega|(and_intros<;>first|omega|exact rows_row _|decide|(simp<;>omega))|fail,?_⟩
  refine hK _ (Aw_no rfl ?_)
  refine Aw_st hE [1,3,4,13,19,20] [1,4] fun K hK=>?_
  simp only [go_sem,reduceIte,Nat.reduceLT,Nat.reduceLeDiff,Nat.reduceEqDiff,Nat.reduceAdd,Nat.reduceMul,Nat.reduceSub,Nat.reduceBEq,Int.reduceToNat,List.reduceReplicate,reduceCtorEq]
  repeat refine ⟨by first|omega|(and_intros<;>first|omega|exact rows_row _|decide|(simp<;>omega))|fail,?_⟩
  refine hK _ (Aw_no rfl ?_)
  refine Aw_st hE [1,3,4,13,26,27] [1,4] fun K hK=>?_
  simp only [go_sem,reduceIte,Nat.reduceLT,Nat.reduceLeDiff,Nat.reduceEqDiff,Nat.reduceAdd,Nat.reduceMul,Nat.reduceSub,Nat.reduceBEq,Int.reduceToNat,List.reduceReplicate,reduceCtorEq]
  repeat refine ⟨by first|omega|(and_intros<;>first|omega|exact rows_row _|decide|(simp<;>omega))|fail,?_⟩
  refine hK _ (Aw_yes rfl ?_)
  refine Aw_st hE [1,4,8] [1,4] fun K hK=>?_
  simp only [go_sem,reduceIte,Nat.reduceLT,Nat.reduceLeDiff,Nat.reduceEqDiff,Nat.reduceAdd,Nat.reduceMul,Nat.reduceSub,Nat.reduceBEq,Int.reduceToNat,List.reduceReplicate,reduceCtorEq]
  repeat refine ⟨by first|omega|(and_intros<;>first|omega|exact rows_row _|decide|(simp<;>omega))|fail,?_⟩
  refine hK _ ?_;clear hK K
  refine Aw_sq fun B7 hB7 hR7 hX7=>?_
  refine Aw_st hE [1,4,8,30] [1,4] fun K hK=>?_
  simp only [go_sem,reduceIte,Nat.reduceLT,Nat.reduceLeDiff,Nat.reduceEqDiff,Nat.reduceAdd,Nat.reduceMul,Nat.reduceSub,Nat.reduceBEq,Int.reduceToNat,List.reduceReplicate,reduceCtorEq]
  repeat refine ⟨by first|omega|(and_intros<;>first|omega|exact rows_row _|decide|(simp<;>omega))|fail,?_⟩
  refine hK _ (Aw_cond rfl (fun hc8=>?_) (fun hc8=>?_))
  ·have hx:=hc8
   simp only [Bool.not_eq_true'] at hx
   refine Aw_st hE [2] [] fun K hK=>?_
   simp only [go_sem,reduceIte,Nat.reduceLT,Nat.reduceLeDiff,Nat.reduceEqDiff,Nat.reduceAdd,Nat.reduceMul,Nat.reduceSub,Nat.reduceBEq,Int.reduceToNat,List.reduceReplicate,reduceCtorEq]
   repeat refine ⟨by first|omega|(and_intros<;>first|omega|exact rows_row _|decide|(simp<;>omega))|fail,?_⟩
   refine hK _ (Aw_ret (hR7 _ (hR2 _ (hR1 _ (hQ _ ?_)))))
   simp only [go_sem,reduceIte,Nat.reduceLT,Nat.reduceLeDiff,Nat.reduceEqDiff,Nat.reduceAdd,Nat.reduceMul,Nat.reduceSub,Nat.reduceBEq,Int.reduceToNat,List.reduceReplicate,reduceCtorEq]
   simp [subOk,hx]
  ·have hx:=hc8
   simp only [Bool.not_eq_false'] at hx
   refine Aw_skip (hB7 _ ?_)
   refine Aw_tx hE [1,3,4] [1,4] fun K hK=>?_
   simp only [go_sem,reduceIte,Nat.reduceLT,Nat.reduceLeDiff,Nat.reduceEqDiff,Nat.reduceAdd,Nat.reduceMul,Nat.reduceSub,Nat.reduceBEq,Int.reduceToNat,List.reduceReplicate,reduceCtorEq]
   repeat refine ⟨by first|omega|(and_intros<;>first|omega|exact rows_row _|decide|(simp<;>omega))|fail,?_⟩
   refine hK _ (hN2 _ (hB1 _ ?_))
   refine Aw_st hE [2] [] fun K hK=>?_
   simp only [go_sem,reduceIte,Nat.reduceLT,Nat.reduceLeDiff,Nat.reduceEqDiff,Nat.reduceAdd,Nat.reduceMul,Nat.reduceSub,Nat.reduceBEq,Int.reduceToNat,List.reduceReplicate,reduceCtorEq]
   repeat refine ⟨by first|omega|(and_intros<;>first|omega|exact rows_row _|decide|(simp<;>omega))|fail,?_⟩
   refine ⟨fun h1=>?_,fun h1=>?_⟩
   all_goals
    refine hK _ (Aw_ret (hQ _ ?_))
    simp only [go_sem,reduceIte,Nat.reduceLT,Nat.reduceLeDiff,Nat.reduceEqDiff,Nat.reduceAdd,Nat.reduceMul,Nat.reduceSub,Nat.reduceBEq,Int.reduceToNat,List.reduceReplicate,reduceCtorEq]
    first | (simp [subOk,beqI,h1,hx];done) | (simp at h1;done) | fail
 by_cases h104:ci=4
 ·subst h104
  refine Aw_st hE [1] [1] fun K hK=>?_
  simp only [go_sem,reduceIte,Nat.reduceLT,Nat.reduceLeDiff,Nat.reduceEqDiff,Nat.reduceAdd,Nat.reduceMul,Nat.reduceSub,Nat.reduceBEq,Int.reduceToNat,List.reduceReplicate,reduceCtorEq]
  repeat refine ⟨by first|omega|(and_intros<;>first|omega|exact rows_row _|decide|(simp<;>omega))|fail,?_⟩
  refine hK _ ?_;clear hK K
  refine Aw_st hE [1,3,4] [1,4] fun K hK=>?_
  simp only [go_sem,reduceIte,Nat.reduceLT,Nat.reduceLeDiff,Nat.reduceEqDiff,Nat.reduceAdd,Nat.reduceMul,Nat.reduceSub,Nat.reduceBEq,Int.reduceToNat,List.reduceReplicate,reduceCtorEq]
  repeat refine ⟨by first|omega|(and_intros<;>first|omega|exact rows_row _|decide|(simp<;>omega))|fail,?_⟩
  refine hK _ ?_;clear hK K
  refine Aw_sq fun B1 hB1 hR1 hX1=>?_
  refine Aw_st hE [1,3,4,13] [1,4] fun K hK=>?_
  simp only [go_sem,reduceIte,Nat.reduceLT,Nat.reduceLeDiff,Nat.reduceEqDiff,Nat.reduceAdd,Nat.reduceMul,Nat.reduceSub,Nat.reduceBEq,Int.reduceToNat,List.reduceReplicate,reduceCtorEq,tst4]
  repeat refine ⟨by first|omega|(and_intros<;>first|omega|exact rows_row _|decide|(simp<;>omega))|fail,?_⟩
  skip
  refine hK _ ?_;clear hK K
  refine Aw_bk fun B2 hN2 hE2 hR2 hX2=>?_
  refine Aw_st hE [1,3,4,13,14] [1,4] fun K hK=>?_
  simp only [go_sem,reduceIte,Nat.reduceLT,Nat.reduceLeDiff,Nat.reduceEqDiff,Nat.reduceAdd,Nat.reduceMul,Nat.reduceSub,Nat.reduceBEq,Int.reduceToNat,List.reduceReplicate,reduceCtorEq]
  repeat refine ⟨by first|omega|(and_intros<;>first|omega|exact rows_row _|decide|(simp<;>omega))|fail,?_⟩
  refine hK _ (Aw_no rfl ?_)
  refine Aw_st hE [1,3,4,13,16,17] [1,4] fun K hK=>?_
  simp only [go_sem,reduceIte,Nat.reduceLT,Nat.reduceLeDiff,Nat.reduceEqDiff,Nat.reduceAdd,Nat.reduceMul,Nat.reduceSub,Nat.reduceBEq,Int.reduceToNat,List.reduceReplicate,reduceCtorEq]
  repeat refine ⟨by first|omega|(and_intros<;>first|omega|exact rows_row _|decide|(simp<;>omega))|fail,?_⟩
  refine hK _ (Aw_no rfl ?_)
  refine Aw_st hE [1,3,4,13,19,20] [1,4] fun K hK=>?_
  simp only [go_sem,reduceIte,Nat.reduceLT,Nat.reduceLeDiff,Nat.reduceEqDiff,Nat.reduceAdd,Nat.reduceMul,Nat.reduceSub,Nat.reduceBEq,Int.reduceToNat,List.reduceReplicate,reduceCtorEq]
  repeat refine ⟨by first|omega|(and_intros<;>first|omega|exact rows_row _|decide|(simp<;>omega))|fail,?_⟩
  refine hK _ (Aw_no rfl ?_)
  refine Aw_st hE [1,3,4,13,26,27] [1,4] fun K hK=>?_
  simp only [go_sem,reduceIte,Nat.reduceLT,Nat.reduceLeDiff,Nat.reduceEqDiff,Nat.reduceAdd,Nat.reduceMul,Nat.reduceSub,Nat.reduceBEq,Int.reduceToNat,List.reduceReplicate,reduceCtorEq]
  repeat refine ⟨by first|omega|(and_intros<;>first|omega|exact rows_row _|decide|(simp<;>omega))|fail,?_⟩
  refine hK _ (Aw_no rfl ?_)
  refine Aw_st hE [1,3,4,13,33,34] [1,4] fun K hK=>?_
  simp only [go_sem,reduceIte,Nat.reduceLT,Nat.reduceLeDiff,Nat.reduceEqDiff,Nat.reduceAdd,Nat.reduceMul,Nat.reduceSub,Nat.reduceBEq,Int.reduceToNat,List.reduceReplicate,reduceCtorEq]
  repeat refine ⟨by first|omega|(and_intros<;>first|omega|exact rows_row _|decide|(simp<;>omega))|fail,?_⟩
  refine hK _ (Aw_yes rfl ?_)
  refine Aw_st hE [1,4,9] [1,4] fun K hK=>?_
  simp only [go_sem,reduceIte,Nat.reduceLT,Nat.reduceLeDiff,Nat.reduceEqDiff,Nat.reduceAdd,Nat.reduceMul,Nat.reduceSub,Nat.reduceBEq,Int.reduceToNat,List.reduceReplicate,reduceCtorEq]
  repeat refine ⟨by first|omega|(and_intros<;>first|omega|exact rows_row _|decide|(simp<;>omega))|fail,?_⟩
  refine hK _ ?_;clear hK K
  refine Aw_sq fun B8 hB8 hR8 hX8=>?_
  refine Aw_st hE [1,4,9,37] [1,4] fun K hK=>?_
  simp only [go_sem,reduceIte,Nat.reduceLT,Nat.reduceLeDiff,Nat.reduceEqDiff,Nat.reduceAdd,Nat.reduceMul,Nat.reduceSub,Nat.reduceBEq,Int.reduceToNat,List.reduceReplicate,reduceCtorEq]
  repeat refine ⟨by first|omega|(and_intros<;>first|omega|exact rows_row _|decide|(simp<;>omega))|fail,?_⟩
  refine hK _ (Aw_cond rfl (fun hc9=>?_) (fun hc9=>?_))
  ·have hx:=hc9
   simp only [Bool.not_eq_true'] at hx
   refine Aw_st hE [2] [] fun K hK=>?_
   simp only [go_sem,reduceIte,Nat.reduceLT,Nat.reduceLeDiff,Nat.reduceEqDiff,Nat.reduceAdd,Nat.reduceMul,Nat.reduceSub,Nat.reduceBEq,Int.reduceToNat,List.reduceReplicate,reduceCtorEq]
   repeat refine ⟨by first|omega|(and_intros<;>first|omega|exact rows_row _|decide|(simp<;>omega))|fail,?_⟩
   refine hK _ (Aw_ret (hR8 _ (hR2 _ (hR1 _ (hQ _ ?_)))))
   simp only [go_sem,reduceIte,Nat.reduceLT,Nat.reduceLeDiff,Nat.reduceEqDiff,Nat.reduceAdd,Nat.reduceMul,Nat.reduceSub,Nat.reduceBEq,Int.reduceToNat,List.reduceReplicate,reduceCtorEq]
   simp [subOk,hx]
  ·have hx:=hc9
   simp only [Bool.not_eq_false'] at hx
   refine Aw_skip (hB8 _ ?_)
   refine Aw_tx hE [1,3,4] [1,4] fun K hK=>?_
   simp only [go_sem,reduceIte,Nat.reduceLT,Nat.reduceLeDiff,Nat.reduceEqDiff,Nat.reduceAdd,Nat.reduceMul,Nat.reduceSub,Nat.reduceBEq,Int.reduceToNat,List.reduceReplicate,reduceCtorEq]
   repeat refine ⟨by first|omega|(and_intros<;>first|omega|exact rows_row _|decide|(simp<;>omega))|fail,?_⟩
   refine hK _ (hN2 _ (hB1 _ ?_))
   refine Aw_st hE [2] [] fun K hK=>?_
   simp only [go_sem,reduceIte,Nat.reduceLT,Nat.reduceLeDiff,Nat.reduceEqDiff,Nat.reduceAdd,Nat.reduceMul,Nat.reduceSub,Nat.reduceBEq,Int.reduceToNat,List.reduceReplicate,reduceCtorEq]
   repeat refine ⟨by first|omega|(and_intros<;>first|omega|exact rows_row _|decide|(simp<;>omega))|fail,?_⟩
   refine ⟨fun h1=>?_,fun h1=>?_⟩
   all_goals
    refine hK _ (Aw_ret (hQ _ ?_))
    simp only [go_sem,reduceIte,Nat.reduceLT,Nat.reduceLeDiff,Nat.reduceEqDiff,Nat.reduceAdd,Nat.reduceMul,Nat.reduceSub,Nat.reduceBEq,Int.reduceToNat,List.reduceReplicate,reduceCtorEq]
    first | (simp [subOk,beqI,h1,hx];done) | (simp at h1;done) | fail
 by_cases h105:ci=5
 ·subst h105
  refine Aw_st hE [1] [1] fun K hK=>?_
  simp only [go_sem,reduceIte,Nat.reduceLT,Nat.reduceLeDiff,Nat.reduceEqDiff,Nat.reduceAdd,Nat.reduceMul,Nat.reduceSub,Nat.reduceBEq,Int.reduceToNat,List.reduceReplicate,reduceCtorEq]
  repeat refine ⟨by first|omega|(and_intros<;>first|omega|exact rows_row _|decide|(simp<;>omega))|fail,?_⟩
  refine hK _ ?_;clear hK K
  refine Aw_st hE [1,3,4] [1,4] fun K hK=>?_
  simp only [go_sem,reduceIte,Nat.reduceLT,Nat.reduceLeDiff,Nat.reduceEqDiff,Nat.reduceAdd,Nat.reduceMul,Nat.reduceSub,Nat.reduceBEq,Int.reduceToNat,List.reduceReplicate,reduceCtorEq]
  repeat refine ⟨by first|omega|(and_intros<;>first|omega|exact rows_row _|decide|(simp<;>omega))|fail,?_⟩
  refine hK _ ?_;clear hK K
  refine Aw_sq fun B1 hB1 hR1 hX1=>?_
  refine Aw_st hE [1,3,4,13] [1,4] fun K hK=>?_
  simp only [go_sem,reduceIte,Nat.reduceLT,Nat.reduceLeDiff,Nat.reduceEqDiff,Nat.reduceAdd,Nat.reduceMul,Nat.reduceSub,Nat.reduceBEq,Int.reduceToNat,List.reduceReplicate,reduceCtorEq,tst5]
  repeat refine ⟨by first|omega|(and_intros<;>first|omega|exact rows_row _|decide|(simp<;>omega))|fail,?_⟩
  skip
  refine hK _ ?_;clear hK K
  refine Aw_bk fun B2 hN2 hE2 hR2 hX2=>?_
  refine Aw_st hE [1,3,4,13,14] [1,4] fun K hK=>?_
  simp only [go_sem,reduceIte,Nat.reduceLT,Nat.reduceLeDiff,Nat.reduceEqDiff,Nat.reduceAdd,Nat.reduceMul,Nat.reduceSub,Nat.reduceBEq,Int.reduceToNat,List.reduceReplicate,reduceCtorEq]
  repeat refine ⟨by first|omega|(and_intros<;>first|omega|exact rows_row _|decide|(simp<;>omega))|fail,?_⟩
  refine hK _ (Aw_no rfl ?_)
  refine Aw_st hE [1,3,4,13,16,17] [1,4] fun K hK=>?_
  simp only [go_sem,reduceIte,Nat.reduceLT,Nat.reduceLeDiff,Nat.reduceEqDiff,Nat.reduceAdd,Nat.reduceMul,Nat.reduceSub,Nat.reduceBEq,Int.reduceToNat,List.reduceReplicate,reduceCtorEq]
  repeat refine ⟨by first|omega|(and_intros<;>first|omega|exact rows_row _|decide|(simp<;>omega))|fail,?_⟩
  refine hK _ (Aw_no rfl ?_)
  refine Aw_st hE [1,3,4,13,19,20] [1,4] fun K hK=>?_
  simp only [go_sem,reduceIte,Nat.reduceLT,Nat.reduceLeDiff,Nat.reduceEqDiff,Nat.reduceAdd,Nat.reduceMul,Nat.reduceSub,Nat.reduceBEq,Int.reduceToNat,List.reduceReplicate,reduceCtorEq]
  repeat refine ⟨by first|omega|(and_intros<;>first|omega|exact rows_row _|decide|(simp<;>omega))|fail,?_⟩
  refine hK _ (Aw_no rfl ?_)
  refine Aw_st hE [1,3,4,13,26,27] [1,4] fun K hK=>?_
  simp only [go_sem,reduceIte,Nat.reduceLT,Nat.reduceLeDiff,Nat.reduceEqDiff,Nat.reduceAdd,Nat.reduceMul,Nat.reduceSub,Nat.reduceBEq,Int.reduceToNat,List.reduceReplicate,reduceCtorEq]
  repeat refine ⟨by first|omega|(and_intros<;>first|omega|exact rows_row _|decide|(simp<;>omega))|fail,?_⟩
  refine hK _ (Aw_no rfl ?_)
  refine Aw_st hE [1,3,4,13,33,34] [1,4] fun K hK=>?_
  simp only [go_sem,reduceIte,Nat.reduceLT,Nat.reduceLeDiff,Nat.reduceEqDiff,Nat.reduceAdd,Nat.reduceMul,Nat.reduceSub,Nat.reduceBEq,Int.reduceToNat,List.reduceReplicate,reduceCtorEq]
  repeat refine ⟨by first|omega|(and_intros<;>first|omega|exact rows_row _|decide|(simp<;>omega))|fail,?_⟩
  refine hK _ (Aw_no rfl ?_)
  refine Aw_st hE [1,3,4,40,41] [1,4] fun K hK=>?_
  simp only [go_sem,reduceIte,Nat.reduceLT,Nat.reduceLeDiff,Nat.reduceEqDiff,Nat.reduceAdd,Nat.reduceMul,Nat.reduceSub,Nat.reduceBEq,Int.reduceToNat,List.reduceReplicate,reduceCtorEq]
  repeat refine ⟨by first|omega|(and_intros<;>first|omega|exact rows_row _|decide|(simp<;>omega))|fail,?_⟩
  refine hK _ (Aw_yes rfl ?_)
  refine Aw_st hE [1,4,10] [1,4] fun K hK=>?_
  simp only [go_sem,reduceIte,Nat.reduceLT,Nat.reduceLeDiff,Nat.reduceEqDiff,Nat.reduceAdd,Nat.reduceMul,Nat.reduceSub,Nat.reduceBEq,Int.reduceToNat,List.reduceReplicate,reduceCtorEq]
  repeat refine ⟨by first|omega|(and_intros<;>first|omega|exact rows_row _|decide|(simp<;>omega))|fail,?_⟩
  refine hK _ ?_;clear hK K
  refine Aw_sq fun B9 hB9 hR9 hX9=>?_
  refine Aw_st hE [1,4,10,44] [1,4] fun K hK=>?_
  simp only [go_sem,reduceIte,Nat.reduceLT,Nat.reduceLeDiff,Nat.reduceEqDiff,Nat.reduceAdd,Nat.reduceMul,Nat.reduceSub,Nat.reduceBEq,Int.reduceToNat,List.reduceReplicate,reduceCtorEq]
  repeat refine ⟨by first|omega|(and_intros<;>first|omega|exact rows_row _|decide|(simp<;>omega))|fail,?_⟩
  refine hK _ (Aw_cond rfl (fun hc10=>?_) (fun hc10=>?_))
  ·have hx:=hc10
   simp only [Bool.not_eq_true'] at hx
   refine Aw_st hE [2] [] fun K hK=>?_
   simp only [go_sem,reduceIte,Nat.reduceLT,Nat.reduceLeDiff,Nat.reduceEqDiff,Nat.reduceAdd,Nat.reduceMul,Nat.reduceSub,Nat.reduceBEq,Int.reduceToNat,List.reduceReplicate,reduceCtorEq]
   repeat refine ⟨by first|omega|(and_intros<;>first|omega|exact rows_row _|decide|(simp<;>omega))|fail,?_⟩
   refine hK _ (Aw_ret (hR9 _ (hR2 _ (hR1 _ (hQ _ ?_)))))
   simp only [go_sem,reduceIte,Nat.reduceLT,Nat.reduceLeDiff,Nat.reduceEqDiff,Nat.reduceAdd,Nat.reduceMul,Nat.reduceSub,Nat.reduceBEq,Int.reduceToNat,List.reduceReplicate,reduceCtorEq]
   simp [subOk,hx]
  ·have hx:=hc10
   simp only [Bool.not_eq_false'] at hx
   refine Aw_skip (hB9 _ ?_)
   refine Aw_tx hE [1,3,4] [1,4] fun K hK=>?_
   simp only [go_sem,reduceIte,Nat.reduceLT,Nat.reduceLeDiff,Nat.reduceEqDiff,Nat.reduceAdd,Nat.reduceMul,Nat.reduceSub,Nat.reduceBEq,Int.reduceToNat,List.reduceReplicate,reduceCtorEq]
   repeat refine ⟨by first|omega|(and_intros<;>first|omega|exact rows_row _|decide|(simp<;>omega))|fail,?_⟩
   refine hK _ (hN2 _ (hB1 _ ?_))
   refine Aw_st hE [2] [] fun K hK=>?_
   simp only [go_sem,reduceIte,Nat.reduceLT,Nat.reduceLeDiff,Nat.reduceEqDiff,Nat.reduceAdd,Nat.reduceMul,Nat.reduceSub,Nat.reduceBEq,Int.reduceToNat,List.reduceReplicate,reduceCtorEq]
   repeat refine ⟨by first|omega|(and_intros<;>first|omega|exact rows_row _|decide|(simp<;>omega))|fail,?_⟩
   refine ⟨fun h1=>?_,fun h1=>?_⟩
   all_goals
    refine hK _ (Aw_ret (hQ _ ?_))
    simp only [go_sem,reduceIte,Nat.reduceLT,Nat.reduceLeDiff,Nat.reduceEqDiff,Nat.reduceAdd,Nat.reduceMul,Nat.reduceSub,Nat.reduceBEq,Int.reduceToNat,List.reduceReplicate,reduceCtorEq]
    first | (simp [subOk,beqI,h1,hx];done) | (simp at h1;done) | fail
 refine Aw_st hE [1] [1] fun K hK=>?_
 simp only [go_sem,reduceIte,Nat.reduceLT,Nat.reduceLeDiff,Nat.reduceEqDiff,Nat.reduceAdd,Nat.reduceMul,Nat.reduceSub,Nat.reduceBEq,Int.reduceToNat,List.reduceReplicate,reduceCtorEq]
 repeat refine ⟨by first|omega|(and_intros<;>first|omega|exact rows_row _|decide|(simp<;>omega))|fail,?_⟩
 refine hK _ ?_;clear hK K
 refine Aw_st hE [1,3,4] [1,4] fun K hK=>?_
 simp only [go_sem,reduceIte,Nat.reduceLT,Nat.reduceLeDiff,Nat.reduceEqDiff,Nat.reduceAdd,Nat.reduceMul,Nat.reduceSub,Nat.reduceBEq,Int.reduceToNat,List.reduceReplicate,reduceCtorEq]
 repeat refine ⟨by first|omega|(and_intros<;>first|omega|exact rows_row _|decide|(simp<;>omega))|fail,?_⟩
 refine hK _ ?_;clear hK K
 refine Aw_sq fun B1 hB1 hR1 hX1=>?_
 refine Aw_st hE [1,3,4,13] [1,4] fun K hK=>?_
 simp only [go_sem,reduceIte,Nat.reduceLT,Nat.reduceLeDiff,Nat.reduceEqDiff,Nat.reduceAdd,Nat.reduceMul,Nat.reduceSub,Nat.reduceBEq,Int.reduceToNat,List.reduceReplicate,reduceCtorEq,tst0 h101 h102 h103 h104 h105]
 repeat refine ⟨by first|omega|(and_intros<;>first|omega|exact rows_row _|decide|(simp<;>omega))|fail,?_⟩
 skip
 refine hK _ ?_;clear hK K
 refine Aw_bk fun B2 hN2 hE2 hR2 hX2=>?_
 refine Aw_st hE [1,3,4,13,14] [1,4] fun K hK=>?_
 simp only [go_sem,reduceIte,Nat.reduceLT,Nat.reduceLeDiff,Nat.reduceEqDiff,Nat.reduceAdd,Nat.reduceMul,Nat.reduceSub,Nat.reduceBEq,Int.reduceToNat,List.reduceReplicate,reduceCtorEq]
 repeat refine ⟨by first|omega|(and_intros<;>first|omega|exact rows_row _|decide|(simp<;>omega))|fail,?_⟩
 refine hK _ (Aw_yes rfl ?_)
 refine Aw_st hE [] [] fun K hK=>?_
 simp only [go_sem,reduceIte,Nat.reduceLT,Nat.reduceLeDiff,Nat.reduceEqDiff,Nat.reduceAdd,Nat.reduceMul,Nat.reduceSub,Nat.reduceBEq,Int.reduceToNat,List.reduceReplicate,reduceCtorEq]
 repeat refine ⟨by first|omega|(and_intros<;>first|omega|exact rows_row _|decide|(simp<;>omega))|fail,?_⟩
 refine hK _ ?_;clear hK K
 refine Aw_st hE [2] [] fun K hK=>?_
 simp only [go_sem,reduceIte,Nat.reduceLT,Nat.reduceLeDiff,Nat.reduceEqDiff,Nat.reduceAdd,Nat.reduceMul,Nat.reduceSub,Nat.reduceBEq,Int.reduceToNat,List.reduceReplicate,reduceCtorEq]
 repeat refine ⟨by first|omega|(and_intros<;>first|omega|exact rows_row _|decide|(simp<;>omega))|fail,?_⟩
 refine hK _ (Aw_ret (hR2 _ (hR1 _ (hQ _ ?_))))
 simp only [go_sem,reduceIte,Nat.reduceLT,Nat.reduceLeDiff,Nat.reduceEqDiff,Nat.reduceAdd,Nat.reduceMul,Nat.reduceSub,Nat.reduceBEq,Int.reduceToNat,List.reduceReplicate,reduceCtorEq]
 simp [subOk,h101,h102,h103,h104,h105]
end Go.Proofs.W
end
section
namespace Go.Proofs.W
open Go Go.Eng Go.RowKit
set_option linter.unusedSimpArgs false
set_option maxRecDepth 100000
def fitsT:List ((TypeId × String) × FuncId):=[((110, "loop.example/wayboard/impl.fits"),114),((111, "loop.example/wayboard/impl.fits"),115),((112, "loop.example/wayboard/impl.fits"),116),((113, "loop.example/wayboard/impl.fits"),117),((114, "loop.example/wayboard/impl.fits"),118)]
attribute [go_sem] fitsT
end Go.Proofs.W
end
section
namespace Go.Proofs.W
open Go Go.Eng Go.RowKit
set_option linter.unusedSimpArgs false
set_option maxRecDepth 100000
theorem mkOk9 (x:Int):(decide (0≤x) && decide (x≤9))=(decide (x=0) || isM x):=by
 rw [Bool.eq_iff_iff]
 simp only [isM,Bool.and_eq_true,Bool.or_eq_true,decide_eq_true_eq]
 omega
theorem iClOk_ok:Fine Tryd.prog 54 dClOk.con:=by
 refine fine_det (T:=TT) Tryd.func54 rfl Tryd.ntmps54 (by rw [Tryd.results54]) rfl rfl tt (gs_nil) (ds_cons subjectOk_ok (ds_cons iIsM_ok ds_nil)) ?_
 intro args c r h hc
 simp only [dClOk,gClOk] at h
 split at h
 rotate_left
 ·cases h
 obtain ⟨rfl,rfl⟩:=Prod.mk.inj (Option.some.inj h)
 refine ⟨by simp,fun k E hE Q hQ=>?_⟩
 rename_i ci n f b ref like mark clear
 refine Aw_st hE [1] [1] fun K hK=>?_
 simp only [go_sem,reduceIte,Nat.reduceLT,Nat.reduceLeDiff,Nat.reduceEqDiff,Nat.reduceAdd,Nat.reduceMul,Nat.reduceSub,Nat.reduceBEq,Int.reduceToNat,List.reduceReplicate,reduceCtorEq]
 refine hK _ ?_;clear hK K
 cases hs:subOk ci n f b with
 | false =>
  refine Aw_st hE [2] [] fun K hK=>?_
  refine aops_cut 16 fun K1 hK1=>?_
  simp only [go_sem,reduceIte,Nat.reduceLT,Nat.reduceLeDiff,Nat.reduceEqDiff,Nat.reduceAdd,Nat.reduceMul,Nat.reduceSub,Nat.reduceBEq,Int.reduceToNat,List.reduceReplicate,reduceCtorEq,hs]
  refine hK1 _ ?_
  clear hK1
  simp only [go_sem,reduceIte,Nat.reduceLT,Nat.reduceLeDiff,Nat.reduceEqDiff,Nat.reduceAdd,Nat.reduceMul,Nat.reduceSub,Nat.reduceBEq,Int.reduceToNat,List.reduceReplicate,reduceCtorEq,hs]
  refine hK _ (Aw_ret (hQ _ ?_))
  simp only [go_sem,reduceIte,Nat.reduceLT,Nat.reduceLeDiff,Nat.reduceEqDiff,Nat.reduceAdd,Nat.reduceMul,Nat.reduceSub,Nat.reduceBEq,Int.reduceToNat,List.reduceReplicate,reduceCtorEq]
  simp only [clOk,mkOk9,hs,Bool.and_false,Bool.false_and,Bool.and_true,Bool.true_and,Bool.or_true,Bool.true_or,Bool.false_or,Bool.or_false]
 | true =>
  cases ha:decide (-1≤like) with
  | false =>
   refine Aw_st hE [2] [] fun K hK=>?_
   refine aops_cut 16 fun K1 hK1=>?_
   simp only [go_sem,reduceIte,Nat.reduceLT,Nat.reduceLeDiff,Nat.reduceEqDiff,Nat.reduceAdd,Nat.reduceMul,Nat.reduceSub,Nat.reduceBEq,Int.reduceToNat,List.reduceReplicate,reduceCtorEq,hs,ha]
   refine hK1 _ ?_
   clear hK1
   simp only [go_sem,reduceIte,Nat.reduceLT,Nat.reduceLeDiff,Nat.reduceEqDiff,Nat.reduceAdd,Nat.reduceMul,Nat.reduceSub,Nat.reduceBEq,Int.reduceToNat,List.reduceReplicate,reduceCtorEq,hs,ha]
   refine hK _ (Aw_ret (hQ _ ?_))
   simp only [go_sem,reduceIte,Nat.reduceLT,Nat.reduceLeDiff,Nat.reduceEqDiff,Nat.reduceAdd,Nat.reduceMul,Nat.reduceSub,Nat.reduceBEq,Int.reduceToNat,List.reduceReplicate,reduceCtorEq]
   simp only [clOk,mkOk9,hs,ha,Bool.and_false,Bool.false_and,Bool.and_true,Bool.true_and,Bool.or_true,Bool.true_or,Bool.false_or,Bool.or_false]
  | true =>
   cases hb:decide (like≤9) with
   | false =>
    refine Aw_st hE [2] [] fun K hK=>?_
    refine aops_cut 16 fun K1 hK1=>?_
    simp only [go_sem,reduceIte,Nat.reduceLT,Nat.reduceLeDiff,Nat.reduceEqDiff,Nat.reduceAdd,Nat.reduceMul,Nat.reduceSub,Nat.reduceBEq,Int.reduceToNat,List.reduceReplicate,reduceCtorEq,hs,ha,hb]
    refine hK1 _ ?_
    clear hK1
    simp only [go_sem,reduceIte,Nat.reduceLT,Nat.reduceLeDiff,Nat.reduceEqDiff,Nat.reduceAdd,Nat.reduceMul,Nat.reduceSub,Nat.reduceBEq,Int.reduceToNat,List.reduceReplicate,reduceCtorEq,hs,ha,hb]
    refine hK _ (Aw_ret (hQ _ ?_))
    simp only [go_sem,reduceIte,Nat.reduceLT,Nat.reduceLeDiff,Nat.reduceEqDiff,Nat.reduceAdd,Nat.reduceMul,Nat.reduceSub,Nat.reduceBEq,Int.reduceToNat,List.reduceReplicate,reduceCtorEq]
    simp only [clOk,mkOk9,hs,ha,hb,Bool.and_false,Bool.false_and,Bool.and_true,Bool.true_and,Bool.or_true,Bool.true_or,Bool.false_or,Bool.or_false]
   | true =>
    cases hm0:decide (mark=0) with
    | false =>
     cases hmm:isM mark with
     | false =>
      refine Aw_st hE [2] [] fun K hK=>?_
      refine aops_cut 16 fun K1 hK1=>?_
      simp only [go_sem,reduceIte,Nat.reduceLT,Nat.reduceLeDiff,Nat.reduceEqDiff,Nat.reduceAdd,Nat.reduceMul,Nat.reduceSub,Nat.reduceBEq,Int.reduceToNat,List.reduceReplicate,reduceCtorEq,hs,ha,hb,hm0,hmm]
      refine hK1 _ ?_
      clear hK1
      simp only [go_sem,reduceIte,Nat.reduceLT,Nat.reduceLeDiff,Nat.reduceEqDiff,Nat.reduceAdd,Nat.reduceMul,Nat.reduceSub,Nat.reduceBEq,Int.reduceToNat,List.reduceReplicate,reduceCtorEq,hs,ha,hb,hm0,hmm]
      refine hK _ (Aw_ret (hQ _ ?_))
      simp only [go_sem,reduceIte,Nat.reduceLT,Nat.reduceLeDiff,Nat.reduceEqDiff,Nat.reduceAdd,Nat.reduceMul,Nat.reduceSub,Nat.reduceBEq,Int.reduceToNat,List.reduceReplicate,reduceCtorEq]
      simp only [clOk,mkOk9,hs,ha,hb,hm0,hmm,Bool.and_false,Bool.false_and,Bool.and_true,Bool.true_and,Bool.or_true,Bool.true_or,Bool.false_or,Bool.or_false]
     | true =>
      cases hc0:decide (clear=0) with
      | false =>
       cases hcm:isM clear with
       | false =>
        refine Aw_st hE [2] [] fun K hK=>?_
        refine aops_cut 16 fun K1 hK1=>?_
        simp only [go_sem,reduceIte,Nat.reduceLT,Nat.reduceLeDiff,Nat.reduceEqDiff,Nat.reduceAdd,Nat.reduceMul,Nat.reduceSub,Nat.reduceBEq,Int.reduceToNat,List.reduceReplicate,reduceCtorEq,hs,ha,hb,hm0,hmm,hc0,hcm]
        refine hK1 _ ?_
        clear hK1
        simp only [go_sem,reduceIte,Nat.reduceLT,Nat.reduceLeDiff,Nat.reduceEqDiff,Nat.reduceAdd,Nat.reduceMul,Nat.reduceSub,Nat.reduceBEq,Int.reduceToNat,List.reduceReplicate,reduceCtorEq,hs,ha,hb,hm0,hmm,hc0,hcm]
        refine hK _ (Aw_ret (hQ _ ?_))
        simp only [go_sem,reduceIte,Nat.reduceLT,Nat.reduceLeDiff,Nat.reduceEqDiff,Nat.reduceAdd,Nat.reduceMul,Nat.reduceSub,Nat.reduceBEq,Int.reduceToNat,List.reduceReplicate,reduceCtorEq]
        simp only [clOk,mkOk9,hs,ha,hb,hm0,hmm,hc0,hcm,Bool.and_false,Bool.false_and,Bool.and_true,Bool.true_and,Bool.or_true,Bool.true_or,Bool.false_or,Bool.or_false]
       | true =>
        refine Aw_st hE [2] [] fun K hK=>?_
        refine aops_cut 16 fun K1 hK1=>?_
        simp only [go_sem,reduceIte,Nat.reduceLT,Nat.reduceLeDiff,Nat.reduceEqDiff,Nat.reduceAdd,Nat.reduceMul,Nat.reduceSub,Nat.reduceBEq,Int.reduceToNat,List.reduceReplicate,reduceCtorEq,hs,ha,hb,hm0,hmm,hc0,hcm]
        refine hK1 _ ?_
        clear hK1
        simp only [go_sem,reduceIte,Nat.reduceLT,Nat.reduceLeDiff,Nat.reduceEqDiff,Nat.reduceAdd,Nat.reduceMul,Nat.reduceSub,Nat.reduceBEq,Int.reduceToNat,List.reduceReplicate,reduceCtorEq,hs,ha,hb,hm0,hmm,hc0,hcm]
        refine hK _ (Aw_ret (hQ _ ?_))
        simp only [go_sem,reduceIte,Nat.reduceLT,Nat.reduceLeDiff,Nat.reduceEqDiff,Nat.reduceAdd,Nat.reduceMul,Nat.reduceSub,Nat.reduceBEq,Int.reduceToNat,List.reduceReplicate,reduceCtorEq]
        simp only [clOk,mkOk9,hs,ha,hb,hm0,hmm,hc0,hcm,Bool.and_false,Bool.false_and,Bool.and_true,Bool.true_and,Bool.or_true,Bool.true_or,Bool.false_or,Bool.or_false]
      | true =>
       refine Aw_st hE [2] [] fun K hK=>?_
       refine aops_cut 16 fun K1 hK1=>?_
       simp only [go_sem,reduceIte,Nat.reduceLT,Nat.reduceLeDiff,Nat.reduceEqDiff,Nat.reduceAdd,Nat.reduceMul,Nat.reduceSub,Nat.reduceBEq,Int.reduceToNat,List.reduceReplicate,reduceCtorEq,hs,ha,hb,hm0,hmm,hc0]
       refine hK1 _ ?_
       clear hK1
       simp only [go_sem,reduceIte,Nat.reduceLT,Nat.reduceLeDiff,Nat.reduceEqDiff,Nat.reduceAdd,Nat.reduceMul,Nat.reduceSub,Nat.reduceBEq,Int.reduceToNat,List.reduceReplicate,reduceCtorEq,hs,ha,hb,hm0,hmm,hc0]
       refine hK _ (Aw_ret (hQ _ ?_))
       simp only [go_sem,reduceIte,Nat.reduceLT,Nat.reduceLeDiff,Nat.reduceEqDiff,Nat.reduceAdd,Nat.reduceMul,Nat.reduceSub,Nat.reduceBEq,Int.reduceToNat,List.reduceReplicate,reduceCtorEq]
       simp only [clOk,mkOk9,hs,ha,hb,hm0,hmm,hc0,Bool.and_false,Bool.false_and,Bool.and_true,Bool.true_and,Bool.or_true,Bool.true_or,Bool.false_or,Bool.or_false]
    | true =>
     cases hc0:decide (clear=0) with
     | false =>
      cases hcm:isM clear with
      | false =>
       refine Aw_st hE [2] [] fun K hK=>?_
       refine aops_cut 16 fun K1 hK1=>?_
       simp only [go_sem,reduceIte,Nat.reduceLT,Nat.reduceLeDiff,Nat.reduceEqDiff,Nat.reduceAdd,Nat.reduceMul,Nat.reduceSub,Nat.reduceBEq,Int.reduceToNat,List.reduceReplicate,reduceCtorEq,hs,ha,hb,hm0,hc0,hcm]
       refine hK1 _ ?_
       clear hK1
       simp only [go_sem,reduceIte,Nat.reduceLT,Nat.reduceLeDiff,Nat.reduceEqDiff,Nat.reduceAdd,Nat.reduceMul,Nat.reduceSub,Nat.reduceBEq,Int.reduceToNat,List.reduceReplicate,reduceCtorEq,hs,ha,hb,hm0,hc0,hcm]
       refine hK _ (Aw_ret (hQ _ ?_))
       simp only [go_sem,reduceIte,Nat.reduceLT,Nat.reduceLeDiff,Nat.reduceEqDiff,Nat.reduceAdd,Nat.reduceMul,Nat.reduceSub,Nat.reduceBEq,Int.reduceToNat,List.reduceReplicate,reduceCtorEq]
       simp only [clOk,mkOk9,hs,ha,hb,hm0,hc0,hcm,Bool.and_false,Bool.false_and,Bool.and_true,Bool.true_and,Bool.or_true,Bool.true_or,Bool.false_or,Bool.or_false]
      | true =>
       refine Aw_st hE [2] [] fun K hK=>?_
       refine aops_cut 16 fun K1 hK1=>?_
       simp only [go_sem,reduceIte,Nat.reduceLT,Nat.reduceLeDiff,Nat.reduceEqDiff,Nat.reduceAdd,Nat.reduceMul,Nat.reduceSub,Nat.reduceBEq,Int.reduceToNat,List.reduceReplicate,reduceCtorEq,hs,ha,hb,hm0,hc0,hcm]
       refine hK1 _ ?_
       clear hK1
       simp only [go_sem,reduceIte,Nat.reduceLT,Nat.reduceLeDiff,Nat.reduceEqDiff,Nat.reduceAdd,Nat.reduceMul,Nat.reduceSub,Nat.reduceBEq,Int.reduceToNat,List.reduceReplicate,reduceCtorEq,hs,ha,hb,hm0,hc0,hcm]
       refine hK _ (Aw_ret (hQ _ ?_))
       simp only [go_sem,reduceIte,Nat.reduceLT,Nat.reduceLeDiff,Nat.reduceEqDiff,Nat.reduceAdd,Nat.reduceMul,Nat.reduceSub,Nat.reduceBEq,Int.reduceToNat,List.reduceReplicate,reduceCtorEq]
       simp only [clOk,mkOk9,hs,ha,hb,hm0,hc0,hcm,Bool.and_false,Bool.false_and,Bool.and_true,Bool.true_and,Bool.or_true,Bool.true_or,Bool.false_or,Bool.or_false]
     | true =>
      refine Aw_st hE [2] [] fun K hK=>?_
      refine aops_cut 16 fun K1 hK1=>?_
      simp only [go_sem,reduceIte,Nat.reduceLT,Nat.reduceLeDiff,Nat.reduceEqDiff,Nat.reduceAdd,Nat.reduceMul,Nat.reduceSub,Nat.reduceBEq,Int.reduceToNat,List.reduceReplicate,reduceCtorEq,hs,ha,hb,hm0,hc0]
      refine hK1 _ ?_
      clear hK1
      simp only [go_sem,reduceIte,Nat.reduceLT,Nat.reduceLeDiff,Nat.reduceEqDiff,Nat.reduceAdd,Nat.reduceMul,Nat.reduceSub,Nat.reduceBEq,Int.reduceToNat,List.reduceReplicate,reduceCtorEq,hs,ha,hb,hm0,hc0]
      refine hK _ (Aw_ret (hQ _ ?_))
      simp only [go_sem,reduceIte,Nat.reduceLT,Nat.reduceLeDiff,Nat.reduceEqDiff,Nat.reduceAdd,Nat.reduceMul,Nat.reduceSub,Nat.reduceBEq,Int.reduceToNat,List.reduceReplicate,reduceCtorEq]
      simp only [clOk,mkOk9,hs,ha,hb,hm0,hc0,Bool.and_false,Bool.false_and,Bool.and_true,Bool.true_and,Bool.or_true,Bool.true_or,Bool.false_or,Bool.or_false]
end Go.Proofs.W
end
section
namespace Go.Proofs.W
open Go Go.Eng Go.RowKit
set_option linter.unusedSimpArgs false
set_option maxRecDepth 100000
def gFitsI:List AV→Option (Prop × AV)
 | [.agg [.v (.int .i64 ci),.v (.int .i64 n),.v (.int .i64 f),.v (.int .i64 b),.v (.bool ref),.v (.int .i64 like),.v (.int .i64 mark),.v (.int .i64 clear)],.agg [.v (.int .i64 rf),.v (.int .i64 rb),.sl _ e1,.v (.int .i64 rk),.sl _ e2]]=>(match intsL e1,intsL e2 with
  | some p,some m=>some (p.length≤1000000∧m.length≤1000000,bv (clOk ⟨ci,n,f,b,ref,like,mark,clear⟩ && (okR ⟨rf,rb,p,rk,m⟩ && fitsB ⟨ci,n,f,b,ref,like,mark,clear⟩ ⟨rf,rb,p,rk,m⟩)))
  | _,_=>none)
 | _=>none
def dFitsI (pb:Addr):DFn:={ g:=gFitsI,inv:=WP pb }
attribute [go_sem] gFitsI dFitsI
end Go.Proofs.W
end
section
namespace Go.Proofs.W
open Go Go.Eng Go.RowKit
set_option linter.unusedSimpArgs false
set_option maxRecDepth 100000
/-! the program's policies -/
def gC1:List AV→Option (Prop × AV) | [.agg [.v (.int .i64 ci),.v (.int .i64 n),.v (.int .i64 f),.v (.int .i64 b),.v (.bool ref),.v (.int .i64 like),.v (.int .i64 mark),.v (.int .i64 clear)]]=>some (True,bv (!clOk ⟨ci,n,f,b,ref,like,mark,clear⟩)) | _=>none
def dC1:DFn:={ g:=gC1 }
def gC2:List AV→Option (Prop × AV)
 | [.agg [.v (.int .i64 ci),.v (.int .i64 n),.v (.int .i64 f),.v (.int .i64 b),.v (.bool ref),.v (.int .i64 like),.v (.int .i64 mark),.v (.int .i64 clear)],.el [.v (.int .i64 rf),.v (.int .i64 rb),.sl e1,.v (.int .i64 rk),.sl e2]]=>(match intsL e1,intsL e2 with
  | some p,some m=>some (p.length≤1000000∧m.length≤1000000,bv (clOk ⟨ci,n,f,b,ref,like,mark,clear⟩ && (okR ⟨rf,rb,p,rk,m⟩ && fitsB ⟨ci,n,f,b,ref,like,mark,clear⟩ ⟨rf,rb,p,rk,m⟩)))
  | _,_=>none)
 | _=>none
def dC2 (pb:Addr):DFn:={ g:=gC2,inv:=WP pb }
attribute [go_sem] gC1 dC1 gC2 dC2
theorem polC1_ok:Fine Tryd.prog 53 dC1.con:=by
 refine fine_det (T:=TT) Tryd.func53 rfl Tryd.ntmps53 (by rw [Tryd.results53]) rfl rfl tt (gs_nil) (ds_cons iClOk_ok ds_nil) ?_
 intro args c r h hc
 simp only [dC1,gC1] at h
 split at h
 rotate_left
 ·cases h
 obtain ⟨rfl,rfl⟩:=Prod.mk.inj (Option.some.inj h)
 refine ⟨by simp,fun k E hE Q hQ=>?_⟩
 refine Aw_st hE [1] [1] fun K hK=>?_
 simp only [go_sem,reduceIte,Nat.reduceLT,Nat.reduceLeDiff,Nat.reduceEqDiff,Nat.reduceAdd,Nat.reduceMul,Nat.reduceSub,Nat.reduceBEq,Int.reduceToNat,List.reduceReplicate,reduceCtorEq]
 repeat refine ⟨by first|omega|(and_intros<;>first|omega|exact rows_row _|decide|(simp<;>omega))|fail,?_⟩
 refine hK _ ?_;clear hK K
 refine Aw_st hE [2] [] fun K hK=>?_
 simp only [go_sem,reduceIte,Nat.reduceLT,Nat.reduceLeDiff,Nat.reduceEqDiff,Nat.reduceAdd,Nat.reduceMul,Nat.reduceSub,Nat.reduceBEq,Int.reduceToNat,List.reduceReplicate,reduceCtorEq]
 repeat refine ⟨by first|omega|(and_intros<;>first|omega|exact rows_row _|decide|(simp<;>omega))|fail,?_⟩
 refine hK _ (Aw_ret (hQ _ ?_))
 simp only [go_sem,reduceIte,Nat.reduceLT,Nat.reduceLeDiff,Nat.reduceEqDiff,Nat.reduceAdd,Nat.reduceMul,Nat.reduceSub,Nat.reduceBEq,Int.reduceToNat,List.reduceReplicate,reduceCtorEq]
def gCtC:List AV→Option (Prop × AV)
 | [.sl _ els,y]=>(match fnOf y,clsL els with
  | some g,some l=>if g=53 then some (l.length≤4294967296,bv (l.any fun c=>!clOk c)) else none
  | _,_=>none)
 | _=>none
def dCtC (pb:Addr):DFn:={ g:=gCtC,inv:=WP pb }
attribute [go_sem] gCtC dCtC
def dPolOkI (pb:Addr):DFn:={ g:=gPolOk,inv:=WP pb }
attribute [go_sem] dPolOkI
theorem any_not_all (l:List Cl):(!l.any fun c=>!clOk c)=l.all clOk:=by
 induction l with
 | nil=>rfl
 | cons c l ih=>rw [List.any_cons,List.all_cons,← ih];cases clOk c<;>simp
end Go.Proofs.W
end
section
namespace Go.Proofs.W
open Go Go.Eng Go.RowKit
set_option linter.unusedSimpArgs false
set_option maxRecDepth 100000
/-! PolicyOk where PolicyDo is not there -/
def gIdK:List AV→Option (Prop × AV)
 | [.sl _ els,y]=>(match fnOf y,clsL els with
  | some g,some l=>if g=53 then some (l.length≤4294967296,iv (idxB (fun c=>!clOk c) l 0)) else none
  | _,_=>none)
 | _=>none
def dIdK:DFn:={ g:=gIdK }
attribute [go_sem] gIdK dIdK
theorem idK_ok:Fine Tryd.prog 69 dIdK.con:=by
 refine fine_det (T:=TT) Tryd.func69 rfl Tryd.ntmps69 (by rw [Tryd.results69]) rfl rfl tt gs_nil (ds_cons polC1_ok ds_nil) ?_
 intro args c r h hc
 simp only [dIdK,gIdK] at h
 split at h
 rotate_left
 ·cases h
 split at h
 rotate_left
 ·cases h
 split at h
 rotate_left
 ·cases h
 rename_i t els y _ _ g l hf hcl hg
 obtain rfl:=clsL_eq hcl
 subst hg
 obtain rfl:=fnOf_ok hf
 obtain ⟨rfl,rfl⟩:=Prod.mk.inj (Option.some.inj h)
 refine ⟨by simp,fun k E hE Q hQ=>?_⟩
 refine Aw_st hE [0,1] [] fun K hK=>?_
 simp only [go_sem,seval]
 repeat refine ⟨by first|omega|(and_intros<;>first|omega|exact rows_row _|decide|(simp<;>omega))|fail,?_⟩
 refine hK _ ?_;clear hK K
 refine Aw_sq fun B1 hB1 hR1 hX1=>?_
 refine Aw_st hE [0,1,7,8] [] fun K hK=>?_
 simp only [go_sem,seval]
 repeat refine ⟨by first|omega|(and_intros<;>first|omega|exact rows_row _|decide|(simp<;>omega))|fail,?_⟩
 refine hK _ ?_;clear hK K
 refine Aw_bk fun B2 hN2 hE2 hR2 hX2=>?_
 refine Aw_lp (fun i:Nat=>⟨19,[(0,.sl t (crows l)),(1,.v (.func (.func 53) #[] #[])),(7,iv l.length),(8,iv i)],[],k⟩) (fun i:Nat=>i≤l.length∧idxB (fun c=>!clOk c) l 0=idxB (fun c=>!clOk c) (l.drop i) i) (fun i:Nat=>l.length - i) (0) (Le.refl _) (⟨by omega,rfl⟩) fun i hi B3 hN3 hR3 hX3=>?_
 refine Aw_st hE [0,1,7,8,9] [] fun K hK=>?_
 simp only [go_sem,seval]
 repeat refine ⟨by first|omega|(and_intros<;>first|omega|exact rows_row _|decide|(simp<;>omega))|fail,?_⟩
 refine hK _ ?_;clear hK K
 refine Aw_sq fun B4 hB4 hR4 hX4=>?_
 refine Aw_cond rfl (fun hc5=>?_) (fun hc5=>?_)
 ·simp only [decide_eq_true_eq] at hc5
  have hil:i < l.length:=by omega
  have hs:=hi.2.trans (idxB_drop hil)
  have hget:=crows_get l i hil
  generalize l[i]=x at hget hs
  obtain ⟨ci,n,f,b,ref,like,mark,clear⟩:=x
  refine Aw_skip (hB4 _ ?_)
  refine Aw_sq fun B6 hB6 hR6 hX6=>?_
  refine Aw_bk fun B7 hN7 hE7 hR7 hX7=>?_
  refine Aw_st hE [0,1,5,7,8] [] fun K hK=>?_
  simp only [go_sem,seval]
  repeat refine ⟨by first|omega|(and_intros<;>first|omega|exact rows_row _|decide|(simp<;>omega))|fail,?_⟩
  refine hK _ ?_;clear hK K
  refine Aw_st hE [0,1,5,7,8,16] [] fun K hK=>?_
  simp only [go_sem,seval,hget]
  repeat refine ⟨by first|omega|(and_intros<;>first|omega|exact rows_row _|decide|(simp<;>omega))|fail,?_⟩
  refine hK _ (Aw_cond rfl (fun hc8=>?_) (fun hc8=>?_))
  ·rw [hc8] at hs
   refine Aw_st hE [4] [] fun K hK=>?_
   simp only [go_sem,seval]
   repeat refine ⟨by first|omega|(and_intros<;>first|omega|exact rows_row _|decide|(simp<;>omega))|fail,?_⟩
   refine hK _ (Aw_ret (hR7 _ (hR6 _ (hR3 _ (hR2 _ (hR1 _ (hQ _ ?_)))))))
   simp only [go_sem,seval,hs]
  ·rw [hc8] at hs
   refine Aw_skip (hN7 _ (hB6 _ ?_))
   refine Aw_tx hE [0,1,7,8] [] fun K hK=>?_
   simp only [go_sem,seval]
   repeat refine ⟨by first|omega|(and_intros<;>first|omega|exact rows_row _|decide|(simp<;>omega))|fail,?_⟩
   refine hK _ (hN3 (i + 1) _ (⟨by omega,hs⟩) (by omega) (Le.refl _))
 ·simp only [decide_eq_false_iff_not] at hc5
  refine Aw_exit (hX4 _ _ (hX3 _ _ (hE2 _ (hB1 _ ?_))))
  refine Aw_st hE [4] [] fun K hK=>?_
  simp only [go_sem,seval]
  repeat refine ⟨by first|omega|(and_intros<;>first|omega|exact rows_row _|decide|(simp<;>omega))|fail,?_⟩
  refine hK _ (Aw_ret (hQ _ ?_))
  simp only [go_sem,seval]
  rw [hi.2,List.drop_eq_nil_of_le (by omega)]
  rfl
def gCtK:List AV→Option (Prop × AV)
 | [.sl _ els,y]=>(match fnOf y,clsL els with
  | some g,some l=>if g=53 then some (l.length≤4294967296,bv (l.any fun c=>!clOk c)) else none
  | _,_=>none)
 | _=>none
def dCtK:DFn:={ g:=gCtK }
attribute [go_sem] gCtK dCtK
theorem ctK_ok:Fine Tryd.prog 52 dCtK.con:=by
 refine fine_det (T:=TT) Tryd.func52 rfl Tryd.ntmps52 (by rw [Tryd.results52]) rfl rfl tt gs_nil (ds_cons idK_ok ds_nil) ?_
 intro args c r h hc
 simp only [dCtK,gCtK] at h
 split at h
 rotate_left
 ·cases h
 split at h
 rotate_left
 ·cases h
 split at h
 rotate_left
 ·cases h
 rename_i t els y _ _ g l hf hcl hg
 obtain rfl:=clsL_eq hcl
 subst hg
 obtain rfl:=fnOf_ok hf
 obtain ⟨rfl,rfl⟩:=Prod.mk.inj (Option.some.inj h)
 refine ⟨by simp,fun k E hE Q hQ=>?_⟩
 refine Aw_st hE [0,1] [] fun K hK=>?_
 simp only [go_sem,seval]
 repeat refine ⟨by first|omega|(and_intros<;>first|omega|exact rows_row _|decide|(simp<;>omega))|fail,?_⟩
 refine hK _ ?_;clear hK K
 refine Aw_st hE [4] [] fun K hK=>?_
 simp only [go_sem,seval]
 repeat refine ⟨by first|omega|(and_intros<;>first|omega|exact rows_row _|decide|(simp<;>omega))|fail,?_⟩
 refine hK _ (Aw_ret (hQ _ ?_))
 simp only [go_sem,seval]
 exact idxB_any l 0
theorem polOkK_ok:Fine Tryd.prog 37 dPolOk.con:=by
 refine fine_det (T:=TT) Tryd.func37 rfl Tryd.ntmps37 (by rw [Tryd.results37]) rfl rfl tt gs_nil (ds_cons ctK_ok ds_nil) ?_
 intro args c r h hc
 simp only [dPolOk,gPolOk] at h
 split at h
 rotate_left
 ·cases h
 split at h
 rotate_left
 ·cases h
 rename_i t els _ l hcl
 obtain rfl:=clsL_eq hcl
 obtain ⟨rfl,rfl⟩:=Prod.mk.inj (Option.some.inj h)
 refine ⟨by simp,fun k E hE Q hQ=>?_⟩
 refine Aw_st hE [0] [] fun K hK=>?_
 simp only [go_sem,seval]
 repeat refine ⟨by first|omega|(and_intros<;>first|omega|exact rows_row _|decide|(simp<;>omega))|fail,?_⟩
 refine hK _ ?_;clear hK K
 refine Aw_st hE [2] [] fun K hK=>?_
 simp only [go_sem,seval]
 repeat refine ⟨by first|omega|(and_intros<;>first|omega|exact rows_row _|decide|(simp<;>omega))|fail,?_⟩
 refine ⟨fun h5=>⟨by omega,?_⟩,fun h5=>?_⟩
 all_goals
  refine hK _ (Aw_ret (hQ _ ?_))
  simp only [go_sem,seval]
  simp only [decide_eq_true_eq,decide_eq_false_iff_not] at h5
  first | (rw [polOk,any_not_all,decide_eq_true (show l.length≤5 by omega)];rfl) | (rw [polOk,decide_eq_false (show ¬ l.length≤5 by omega)];rfl) | fail
def dPickOkI (pb:Addr):DFn:={ g:=gPickOk,inv:=WP pb }
attribute [go_sem] dPickOkI
set_option maxHeartbeats 4000000 in
theorem iPickOk_ok (pb:Addr):Fine Tryd.prog 13 (dPickOkI pb).con:=by
 refine fine_det (T:=TT) Tryd.func13 rfl Tryd.ntmps13 (by rw [Tryd.results13]) rfl rfl tt (gs_nil) (ds_cons (iRibOk_ok pb) (ds_cons polOkK_ok (ds_cons iIsH_ok ds_nil)) (wp_inh pb)) ?_
 intro args c r h hc
 simp only [dPickOkI,gPickOk] at h
 split at h
 rotate_left
 ·cases h
 split at h
 rotate_left
 ·cases h
 rename_i own t1 e1 t2 e2 _ _ rs ps hrb1 hpo1
 obtain rfl:=ribsL_eq hrb1
 obtain rfl:=polsL_eq hpo1
 obtain ⟨rfl,rfl⟩:=Prod.mk.inj (Option.some.inj h)
 refine ⟨by simp,fun k E hE Q hQ=>?_⟩
 obtain ⟨⟨hrl,hpl⟩,hlr,hlp⟩:=hc
 refine Aw_st hE [0,1,2] [] fun K hK=>?_
 simp only [go_sem,seval]
 refine hK _ ?_;clear hK K
 refine Aw_sq fun B1 hB1 hR1 hX1=>?_
 cases hh:isH own with
 | false =>
  have e:pkOk own rs ps=false:=by rw [pkOk,hh];simp
  refine Aw_st hE [0,1,2,23] [] fun K hK=>?_
  simp only [go_sem,seval,hh,Bool.not_false]
  repeat (refine And.intro (by first | omega | assumption | (and_intros<;>first | omega | assumption | decide) | fail) ?_)
  refine hK _ (Aw_yes rfl ?_)
  refine Aw_st hE [6] [] fun K hK=>?_
  simp only [go_sem,seval]
  refine hK _ (Aw_ret (hR1 _ (hQ _ ?_)))
  simp only [go_sem,seval,e]
 | true =>
 by_cases h4:rs.length≤4
 rotate_left
 ·have e:pkOk own rs ps=false:=by rw [pkOk,decide_eq_false h4];simp
  refine Aw_st hE [0,1,2,23] [] fun K hK=>?_
  simp only [go_sem,seval,hh,Bool.not_true,decide_eq_true (show (4:Int) < rs.length by omega)]
  repeat (refine And.intro (by first | omega | assumption | (and_intros<;>first | omega | assumption | decide) | fail) ?_)
  refine hK _ (Aw_yes rfl ?_)
  refine Aw_st hE [6] [] fun K hK=>?_
  simp only [go_sem,seval]
  refine hK _ (Aw_ret (hR1 _ (hQ _ ?_)))
  simp only [go_sem,seval,e]
 by_cases h5:rs.length=ps.length
 rotate_left
 ·have e:pkOk own rs ps=false:=by rw [pkOk,decide_eq_false h5];simp
  refine Aw_st hE [0,1,2,23] [] fun K hK=>?_
  simp only [go_sem,seval,hh,Bool.not_true,decide_eq_false (show ¬ (4:Int) < rs.length by omega),decide_eq_false (show ¬ (ps.length:Int)=rs.length by omega),Bool.not_false]
  repeat (refine And.intro (by first | omega | assumption | (and_intros<;>first | omega | assumption | decide) | fail) ?_)
  refine hK _ (Aw_yes rfl ?_)
  refine Aw_st hE [6] [] fun K hK=>?_
  simp only [go_sem,seval]
  refine hK _ (Aw_ret (hR1 _ (hQ _ ?_)))
  simp only [go_sem,seval,e]
 have hpk:pkOk own rs ps=(rsN own rs rs.length && psN ps ps.length):=by
  rw [pkOk,hh,decide_eq_true h5,decide_eq_true h4];simp
 refine Aw_st hE [0,1,2,23] [] fun K hK=>?_
 simp only [go_sem,seval,hh,Bool.not_true,decide_eq_false (show ¬ (4:Int) < rs.length by omega),decide_eq_true (show (ps.length:Int)=rs.length by omega)]
 repeat (refine And.intro (by first | omega | assumption | (and_intros<;>first | omega | assumption | decide) | fail) ?_)
 refine hK _ (Aw_no rfl (Aw_skip (hB1 _ ?_)))
 refine Aw_sq fun B6 hB6 hR6 hX6=>?_
 refine Aw_st hE [0,1,2,24,25,26] [] fun K hK=>?_
 simp only [go_sem,seval]
 refine hK _ ?_;clear hK K
 refine Aw_bk fun B7 hN7 hE7 hR7 hX7=>?_
 refine Aw_lp (fun i:Nat=>⟨64,[(0,iv own),(1,.sl t1 (brows rs)),(2,.sl t2 (prows ps)),(24,.sl t1 (brows rs)),(25,iv rs.length),(26,iv i)],[],k⟩) (fun i=>i≤rs.length∧rsN own rs i=true∧psN ps i=true) (fun i=>rs.length - i) 0 (Le.refl _) ⟨by omega,rfl,rfl⟩ fun i hi B8 hN8 hR8 hX8=>?_
 obtain ⟨hi1,hi2,hi3⟩:=hi
 refine Aw_st hE [0,1,2,24,25,26,27] [] fun K hK=>?_
 simp only [go_sem,seval]
 refine hK _ ?_;clear hK K
 refine Aw_sq fun B9 hB9 hR9 hX9=>?_
 refine Aw_cond rfl (fun hc10=>?_) (fun hc10=>?_)
 rotate_left
 ·simp only [decide_eq_false_iff_not] at hc10
  have hil:i=rs.length:=by omega
  have e:pkOk own rs ps=true:=by rw [hpk,← hil,hi2,h5.symm.trans hil.symm,hi3];rfl
  refine Aw_exit (hX9 _ _ (hX8 _ _ (hE7 _ (hB6 _ ?_))))
  refine Aw_st hE [6] [] fun K hK=>?_
  simp only [go_sem,seval]
  refine hK _ (Aw_ret (hQ _ ?_))
  simp only [go_sem,seval,e]
 simp only [decide_eq_true_eq] at hc10
 have hil:i < rs.length:=by omega
 have hget:=brows_get rs i hil
 have hlen:=hlr _ (List.getElem_mem hil)
 have hat:=List.getElem?_eq_getElem hil
 have hfail:=fun h=>rsN_bad (own:=own) (rs:=rs) (i:=i) h rs.length hil
 have hnx:rsN own rs (i + 1)=(rsN own rs i && stepR own rs i):=rfl
 generalize rs[i]=x at hget hlen hat
 obtain ⟨h0,up,l⟩:=x
 obtain ⟨hll,hlg⟩:=hlen
 simp only at hll hlg
 have hip:i < ps.length:=by omega
 have hgetp:=prows_get ps i hip
 have hlenp:=hlp _ (List.getElem_mem hip)
 have hatp:=List.getElem?_eq_getElem hip
 generalize ps[i]=c at hgetp hlenp hatp
 refine Aw_skip (hB9 _ ?_)
 refine Aw_sq fun B11 hB11 hR11 hX11=>?_
 refine Aw_bk fun B12 hN12 hE12 hR12 hX12=>?_
 refine Aw_st hE [0,1,2,7,8,24,25,26] [8] fun K hK=>?_
 simp only [go_sem,seval,hget]
 repeat (refine And.intro (by first | omega | assumption | (and_intros<;>first | omega | assumption | decide) | fail) ?_)
 refine hK _ ?_;clear hK K
 have hst:=stepR_at (own:=own) hat
 cases h1:ribOk ⟨h0,up,l⟩ with
 | false =>
  have hf:=hfail (by rw [hst,h1,Bool.false_and])
  refine Aw_se hE [0,1,2,3,4,5,6,7,8,9,10,11,12,13,14,15,16,17,18,19,20,21,22,23,24,25,26,27,28,29,30,31] [0,1,3,7,15,31,15,127,255,511,1023,1023,4095,8191,16383,32767,65535,131071,262143,524287,1048575,2097151,2097151,6291455,16777215,33554431,67108863,2097151,136314879,536870911,1073741823,2147483647] [0,1,2,24,25,26,62] [] (by kernel_rfl) fun K hK=>?_
  refine daopsE_cut 6 fun K1 hK1=>?_
  simp only [go_sem,seval,h1,Bool.not_false]
  repeat refine ⟨by first|omega|(and_intros<;>first|omega|exact rows_row _|decide|(simp<;>omega))|fail,?_⟩
  refine hK1 _ ?_
  clear hK1
  refine daopsE_cut 6 fun K1 hK1=>?_
  simp only [go_sem,seval,h1,Bool.not_false]
  repeat refine ⟨by first|omega|(and_intros<;>first|omega|exact rows_row _|decide|(simp<;>omega))|fail,?_⟩
  refine hK1 _ ?_
  clear hK1
  refine daopsE_cut 6 fun K1 hK1=>?_
  simp only [go_sem,seval,h1,Bool.not_false]
  repeat refine ⟨by first|omega|(and_intros<;>first|omega|exact rows_row _|decide|(simp<;>omega))|fail,?_⟩
  refine hK1 _ ?_
  clear hK1
  refine daopsE_cut 6 fun K1 hK1=>?_
  simp only [go_sem,seval,h1,Bool.not_false]
  repeat refine ⟨by first|omega|(and_intros<;>first|omega|exact rows_row _|decide|(simp<;>omega))|fail,?_⟩
  refine hK1 _ ?_
  clear hK1
  refine daopsE_cut 6 fun K1 hK1=>?_
  simp only [go_sem,seval,h1,Bool.not_false]
  repeat refine ⟨by first|omega|(and_intros<;>first|omega|exact rows_row _|decide|(simp<;>omega))|fail,?_⟩
  refine hK1 _ ?_
  clear hK1
  simp only [go_sem,seval,h1,Bool.not_false]
  repeat refine ⟨by first|omega|(and_intros<;>first|omega|exact rows_row _|decide|(simp<;>omega))|fail,?_⟩
  repeat (refine And.intro (by first | omega | assumption | (and_intros<;>first | omega | assumption | decide) | fail) ?_)
  refine hK _ (Aw_yes rfl ?_)
  refine Aw_st hE [6] [] fun K hK=>?_
  simp only [go_sem,seval]
  refine hK _ (Aw_ret (hR12 _ (hR11 _ (hR8 _ (hR7 _ (hR6 _ (hQ _ ?_)))))))
  simp only [go_sem,seval,hpk,hf,Bool.false_and]
 | true =>
 by_cases h2:h0=own
 ·have h2d:decide (h0=own)=true:=decide_eq_true h2
  have hf:=hfail (by rw [hst,h1,h2d];rfl)
  refine Aw_se hE [0,1,2,3,4,5,6,7,8,9,10,11,12,13,14,15,16,17,18,19,20,21,22,23,24,25,26,27,28,29,30,31] [0,1,3,7,15,31,15,127,255,511,1023,1023,4095,8191,16383,32767,65535,131071,262143,524287,1048575,2097151,2097151,6291455,16777215,33554431,67108863,2097151,136314879,536870911,1073741823,2147483647] [0,1,2,24,25,26,62] [] (by kernel_rfl) fun K hK=>?_
  refine daopsE_cut 6 fun K1 hK1=>?_
  simp only [go_sem,seval,h1,h2d,Bool.not_true]
  repeat refine ⟨by first|omega|(and_intros<;>first|omega|exact rows_row _|decide|(simp<;>omega))|fail,?_⟩
  refine hK1 _ ?_
  clear hK1
  refine daopsE_cut 6 fun K1 hK1=>?_
  simp only [go_sem,seval,h1,h2d,Bool.not_true]
  repeat refine ⟨by first|omega|(and_intros<;>first|omega|exact rows_row _|decide|(simp<;>omega))|fail,?_⟩
  refine hK1 _ ?_
  clear hK1
  refine daopsE_cut 6 fun K1 hK1=>?_
  simp only [go_sem,seval,h1,h2d,Bool.not_true]
  repeat refine ⟨by first|omega|(and_intros<;>first|omega|exact rows_row _|decide|(simp<;>omega))|fail,?_⟩
  refine hK1 _ ?_
  clear hK1
  refine daopsE_cut 6 fun K1 hK1=>?_
  simp only [go_sem,seval,h1,h2d,Bool.not_true]
  repeat refine ⟨by first|omega|(and_intros<;>first|omega|exact rows_row _|decide|(simp<;>omega))|fail,?_⟩
  refine hK1 _ ?_
  clear hK1
  refine daopsE_cut 6 fun K1 hK1=>?_
  simp only [go_sem,seval,h1,h2d,Bool.not_true]
  repeat refine ⟨by first|omega|(and_intros<;>first|omega|exact rows_row _|decide|(simp<;>omega))|fail,?_⟩
  refine hK1 _ ?_
  clear hK1
  simp only [go_sem,seval,h1,h2d,Bool.not_true]
  repeat refine ⟨by first|omega|(and_intros<;>first|omega|exact rows_row _|decide|(simp<;>omega))|fail,?_⟩
  repeat (refine And.intro (by first | omega | assumption | (and_intros<;>first | omega | assumption | decide) | fail) ?_)
  refine hK _ (Aw_yes rfl ?_)
  refine Aw_st hE [6] [] fun K hK=>?_
  simp only [go_sem,seval]
  refine hK _ (Aw_ret (hR12 _ (hR11 _ (hR8 _ (hR7 _ (hR6 _ (hQ _ ?_)))))))
  simp only [go_sem,seval,hpk,hf,Bool.false_and]
 have h2d:decide (h0=own)=false:=decide_eq_false h2
 cases h3:polOk c with
 | false =>
  have hf:=psN_bad hatp h3 ps.length hip
  refine Aw_se hE [0,1,2,3,4,5,6,7,8,9,10,11,12,13,14,15,16,17,18,19,20,21,22,23,24,25,26,27,28,29,30,31] [0,1,3,7,15,31,15,127,255,511,1023,1023,4095,8191,16383,32767,65535,131071,262143,524287,1048575,2097151,2097151,6291455,16777215,33554431,67108863,2097151,136314879,536870911,1073741823,2147483647] [0,1,2,24,25,26,62] [] (by kernel_rfl) fun K hK=>?_
  refine daopsE_cut 6 fun K1 hK1=>?_
  simp only [go_sem,seval,h1,h2d,hgetp,h3,Bool.not_true,Bool.not_false]
  repeat refine ⟨by first|omega|(and_intros<;>first|omega|exact rows_row _|decide|(simp<;>omega))|fail,?_⟩
  refine hK1 _ ?_
  clear hK1
  refine daopsE_cut 6 fun K1 hK1=>?_
  simp only [go_sem,seval,h1,h2d,hgetp,h3,Bool.not_true,Bool.not_false]
  repeat refine ⟨by first|omega|(and_intros<;>first|omega|exact rows_row _|decide|(simp<;>omega))|fail,?_⟩
  refine hK1 _ ?_
  clear hK1
  refine daopsE_cut 6 fun K1 hK1=>?_
  simp only [go_sem,seval,h1,h2d,hgetp,h3,Bool.not_true,Bool.not_false]
  repeat refine ⟨by first|omega|(and_intros<;>first|omega|exact rows_row _|decide|(simp<;>omega))|fail,?_⟩
  refine hK1 _ ?_
  clear hK1
  refine daopsE_cut 6 fun K1 hK1=>?_
  simp only [go_sem,seval,h1,h2d,hgetp,h3,Bool.not_true,Bool.not_false]
  repeat refine ⟨by first|omega|(and_intros<;>first|omega|exact rows_row _|decide|(simp<;>omega))|fail,?_⟩
  refine hK1 _ ?_
  clear hK1
  refine daopsE_cut 6 fun K1 hK1=>?_
  simp only [go_sem,seval,h1,h2d,hgetp,h3,Bool.not_true,Bool.not_false]
  repeat refine ⟨by first|omega|(and_intros<;>first|omega|exact rows_row _|decide|(simp<;>omega))|fail,?_⟩
  refine hK1 _ ?_
  clear hK1
  simp only [go_sem,seval,h1,h2d,hgetp,h3,Bool.not_true,Bool.not_false]
  repeat refine ⟨by first|omega|(and_intros<;>first|omega|exact rows_row _|decide|(simp<;>omega))|fail,?_⟩
  repeat (refine And.intro (by first | omega | assumption | (and_intros<;>first | omega | assumption | decide) | fail) ?_)
  refine hK _ (Aw_yes rfl ?_)
  refine Aw_st hE [6] [] fun K hK=>?_
  simp only [go_sem,seval]
  refine hK _ (Aw_ret (hR12 _ (hR11 _ (hR8 _ (hR7 _ (hR6 _ (hQ _ ?_)))))))
  simp only [go_sem,seval,hpk,hf,Bool.and_false]
 | true =>
 have hnp:=psN_good hatp h3 hi3
 by_cases hi0:i=0
 ·have hz:decide ((0:Int) < (i:Int))=false:=decide_eq_false (by omega)
  have hn:rsN own rs (i + 1)=true:=by rw [hnx,hi2,hst,h1,h2d,hi0];rfl
  refine Aw_se hE [0,1,2,3,4,5,6,7,8,9,10,11,12,13,14,15,16,17,18,19,20,21,22,23,24,25,26,27,28,29,30,31] [0,1,3,7,15,31,15,127,255,511,1023,1023,4095,8191,16383,32767,65535,131071,262143,524287,1048575,2097151,2097151,6291455,16777215,33554431,67108863,2097151,136314879,536870911,1073741823,2147483647] [0,1,2,24,25,26,62] [] (by kernel_rfl) fun K hK=>?_
  refine daopsE_cut 6 fun K1 hK1=>?_
  simp only [go_sem,seval,h1,h2d,hgetp,h3,hz,Bool.not_true]
  repeat refine ⟨by first|omega|(and_intros<;>first|omega|exact rows_row _|decide|(simp<;>omega))|fail,?_⟩
  refine hK1 _ ?_
  clear hK1
  refine daopsE_cut 6 fun K1 hK1=>?_
  simp only [go_sem,seval,h1,h2d,hgetp,h3,hz,Bool.not_true]
  repeat refine ⟨by first|omega|(and_intros<;>first|omega|exact rows_row _|decide|(simp<;>omega))|fail,?_⟩
  refine hK1 _ ?_
  clear hK1
  refine daopsE_cut 6 fun K1 hK1=>?_
  simp only [go_sem,seval,h1,h2d,hgetp,h3,hz,Bool.not_true]
  repeat refine ⟨by first|omega|(and_intros<;>first|omega|exact rows_row _|decide|(simp<;>omega))|fail,?_⟩
  refine hK1 _ ?_
  clear hK1
  refine daopsE_cut 6 fun K1 hK1=>?_
  simp only [go_sem,seval,h1,h2d,hgetp,h3,hz,Bool.not_true]
  repeat refine ⟨by first|omega|(and_intros<;>first|omega|exact rows_row _|decide|(simp<;>omega))|fail,?_⟩
  refine hK1 _ ?_
  clear hK1
  refine daopsE_cut 6 fun K1 hK1=>?_
  simp only [go_sem,seval,h1,h2d,hgetp,h3,hz,Bool.not_true]
  repeat refine ⟨by first|omega|(and_intros<;>first|omega|exact rows_row _|decide|(simp<;>omega))|fail,?_⟩
  refine hK1 _ ?_
  clear hK1
  simp only [go_sem,seval,h1,h2d,hgetp,h3,hz,Bool.not_true]
  repeat refine ⟨by first|omega|(and_intros<;>first|omega|exact rows_row _|decide|(simp<;>omega))|fail,?_⟩
  repeat (refine And.intro (by first | omega | assumption | (and_intros<;>first | omega | assumption | decide) | fail) ?_)
  refine hK _ (Aw_no rfl (Aw_skip (hN12 _ (hB11 _ ?_))))
  refine Aw_tx hE [0,1,2,24,25,26] [] fun K hK=>?_
  simp only [go_sem,seval]
  repeat refine ⟨by first|omega|(and_intros<;>first|omega|exact rows_row _|decide|(simp<;>omega))|fail,?_⟩
  refine hK _ (hN8 (i + 1) _ ⟨by omega,hn,hnp⟩ (by omega) (Le.refl _))
 ·have hz:decide ((0:Int) < (i:Int))=true:=decide_eq_true (by omega)
  have et:((i:Int) - 1).toNat=i - 1:=by omega
  have hget2:=brows_get rs (i - 1) (by omega)
  have hasc:=ascR_s (r:=⟨h0,up,l⟩) hi0 (List.getElem?_eq_getElem (show i - 1 < rs.length by omega))
  generalize rs[i - 1]'(by omega)=q at hget2 hasc
  obtain ⟨qh,qu,ql⟩:=q
  simp only at hasc
  by_cases h6:h0≤qh
  ·have h6d:decide (h0≤qh)=true:=decide_eq_true h6
   have hf:=hfail (by rw [hst,hasc,decide_eq_false (show ¬ qh < h0 by omega)];simp)
   refine Aw_se hE [0,1,2,3,4,5,6,7,8,9,10,11,12,13,14,15,16,17,18,19,20,21,22,23,24,25,26,27,28,29,30,31] [0,1,3,7,15,31,15,127,255,511,1023,1023,4095,8191,16383,32767,65535,131071,262143,524287,1048575,2097151,2097151,6291455,16777215,33554431,67108863,2097151,136314879,536870911,1073741823,2147483647] [0,1,2,24,25,26,62] [] (by kernel_rfl) fun K hK=>?_
   refine daopsE_cut 6 fun K1 hK1=>?_
   simp only [go_sem,seval,h1,h2d,hgetp,h3,hz,et,hget2,h6d,Bool.not_true]
   repeat refine ⟨by first|omega|(and_intros<;>first|omega|exact rows_row _|decide|(simp<;>omega))|fail,?_⟩
   refine hK1 _ ?_
   clear hK1
   refine daopsE_cut 6 fun K1 hK1=>?_
   simp only [go_sem,seval,h1,h2d,hgetp,h3,hz,et,hget2,h6d,Bool.not_true]
   repeat refine ⟨by first|omega|(and_intros<;>first|omega|exact rows_row _|decide|(simp<;>omega))|fail,?_⟩
   refine hK1 _ ?_
   clear hK1
   refine daopsE_cut 6 fun K1 hK1=>?_
   simp only [go_sem,seval,h1,h2d,hgetp,h3,hz,et,hget2,h6d,Bool.not_true]
   repeat refine ⟨by first|omega|(and_intros<;>first|omega|exact rows_row _|decide|(simp<;>omega))|fail,?_⟩
   refine hK1 _ ?_
   clear hK1
   refine daopsE_cut 6 fun K1 hK1=>?_
   simp only [go_sem,seval,h1,h2d,hgetp,h3,hz,et,hget2,h6d,Bool.not_true]
   repeat refine ⟨by first|omega|(and_intros<;>first|omega|exact rows_row _|decide|(simp<;>omega))|fail,?_⟩
   refine hK1 _ ?_
   clear hK1
   refine daopsE_cut 6 fun K1 hK1=>?_
   simp only [go_sem,seval,h1,h2d,hgetp,h3,hz,et,hget2,h6d,Bool.not_true]
   repeat refine ⟨by first|omega|(and_intros<;>first|omega|exact rows_row _|decide|(simp<;>omega))|fail,?_⟩
   refine hK1 _ ?_
   clear hK1
   simp only [go_sem,seval,h1,h2d,hgetp,h3,hz,et,hget2,h6d,Bool.not_true]
   repeat refine ⟨by first|omega|(and_intros<;>first|omega|exact rows_row _|decide|(simp<;>omega))|fail,?_⟩
   repeat (refine And.intro (by first | omega | assumption | (and_intros<;>first | omega | assumption | decide) | fail) ?_)
   refine hK _ (Aw_yes rfl ?_)
   refine Aw_st hE [6] [] fun K hK=>?_
   simp only [go_sem,seval]
   refine hK _ (Aw_ret (hR12 _ (hR11 _ (hR8 _ (hR7 _ (hR6 _ (hQ _ ?_)))))))
   simp only [go_sem,seval,hpk,hf,Bool.false_and]
  ·have h6d:decide (h0≤qh)=false:=decide_eq_false h6
   have hn:rsN own rs (i + 1)=true:=by rw [hnx,hi2,hst,h1,h2d,hasc,decide_eq_true (show qh < h0 by omega)];rfl
   refine Aw_se hE [0,1,2,3,4,5,6,7,8,9,10,11,12,13,14,15,16,17,18,19,20,21,22,23,24,25,26,27,28,29,30,31] [0,1,3,7,15,31,15,127,255,511,1023,1023,4095,8191,16383,32767,65535,131071,262143,524287,1048575,2097151,2097151,6291455,16777215,33554431,67108863,2097151,136314879,536870911,1073741823,2147483647] [0,1,2,24,25,26,62] [] (by kernel_rfl) fun K hK=>?_
   refine daopsE_cut 6 fun K1 hK1=>?_
   simp only [go_sem,seval,h1,h2d,hgetp,h3,hz,et,hget2,h6d,Bool.not_true]
   repeat refine ⟨by first|omega|(and_intros<;>first|omega|exact rows_row _|decide|(simp<;>omega))|fail,?_⟩
   refine hK1 _ ?_
   clear hK1
   refine daopsE_cut 6 fun K1 hK1=>?_
   simp only [go_sem,seval,h1,h2d,hgetp,h3,hz,et,hget2,h6d,Bool.not_true]
   repeat refine ⟨by first|omega|(and_intros<;>first|omega|exact rows_row _|decide|(simp<;>omega))|fail,?_⟩
   refine hK1 _ ?_
   clear hK1
   refine daopsE_cut 6 fun K1 hK1=>?_
   simp only [go_sem,seval,h1,h2d,hgetp,h3,hz,et,hget2,h6d,Bool.not_true]
   repeat refine ⟨by first|omega|(and_intros<;>first|omega|exact rows_row _|decide|(simp<;>omega))|fail,?_⟩
   refine hK1 _ ?_
   clear hK1
   refine daopsE_cut 6 fun K1 hK1=>?_
   simp only [go_sem,seval,h1,h2d,hgetp,h3,hz,et,hget2,h6d,Bool.not_true]
   repeat refine ⟨by first|omega|(and_intros<;>first|omega|exact rows_row _|decide|(simp<;>omega))|fail,?_⟩
   refine hK1 _ ?_
   clear hK1
   refine daopsE_cut 6 fun K1 hK1=>?_
   simp only [go_sem,seval,h1,h2d,hgetp,h3,hz,et,hget2,h6d,Bool.not_true]
   repeat refine ⟨by first|omega|(and_intros<;>first|omega|exact rows_row _|decide|(simp<;>omega))|fail,?_⟩
   refine hK1 _ ?_
   clear hK1
   simp only [go_sem,seval,h1,h2d,hgetp,h3,hz,et,hget2,h6d,Bool.not_true]
   repeat refine ⟨by first|omega|(and_intros<;>first|omega|exact rows_row _|decide|(simp<;>omega))|fail,?_⟩
   repeat (refine And.intro (by first | omega | assumption | (and_intros<;>first | omega | assumption | decide) | fail) ?_)
   refine hK _ (Aw_no rfl (Aw_skip (hN12 _ (hB11 _ ?_))))
   refine Aw_tx hE [0,1,2,24,25,26] [] fun K hK=>?_
   simp only [go_sem,seval]
   repeat refine ⟨by first|omega|(and_intros<;>first|omega|exact rows_row _|decide|(simp<;>omega))|fail,?_⟩
   refine hK _ (hN8 (i + 1) _ ⟨by omega,hn,hnp⟩ (by omega) (Le.refl _))
end Go.Proofs.W
end
section
namespace Go.Proofs.W
open Go Go.Eng Go.RowKit
set_option linter.unusedSimpArgs false
set_option maxRecDepth 100000
theorem stepR_tl {own:Int} {r:Rb} {rs:List Rb} {n:Nat} (h:stepR own (r::rs) (n + 1)=true):stepR own rs n=true:=by
 unfold stepR at h ⊢
 simp only [List.getElem?_cons_succ] at h
 cases hx:rs[n]? with
 | none=>rfl
 | some x =>
  rw [hx] at h
  simp only [Bool.and_eq_true] at h ⊢
  refine ⟨h.1,h.2.1,?_⟩
  cases n with
  | zero=>rfl
  | succ j=>exact h.2.2
theorem rsN_tl {own:Int} {r:Rb} {rs:List Rb}:∀ {n:Nat},rsN own (r::rs) (n + 1)=true→rsN own rs n=true
 | 0,_=>rfl
 | n + 1,h=>by
  rw [rsN,Bool.and_eq_true] at h ⊢
  exact ⟨rsN_tl h.1,stepR_tl h.2⟩
theorem psN_tl {c:List Cl} {ps:List (List Cl)}:∀ {n:Nat},psN (c::ps) (n + 1)=true→psN ps n=true
 | 0,_=>rfl
 | n + 1,h=>by
  rw [psN,Bool.and_eq_true] at h ⊢
  exact ⟨psN_tl h.1,by simpa only [List.getElem?_cons_succ] using h.2⟩
theorem pkOk_iff {own:Int} {rs:List Rb} {ps:List (List Cl)}:pkOk own rs ps=true↔rsN own rs rs.length=true∧psN ps ps.length=true∧isH own=true∧rs.length=ps.length∧rs.length≤4:=by
 simp only [pkOk,Bool.and_eq_true,decide_eq_true_eq]
theorem pk_self {r:Rb} {rs:List Rb} {ps:List (List Cl)}:pkOk r.h (r::rs) ps=false:=by
 have:stepR r.h (r::rs) 0=false:=by
  rw [stepR_at (r:=r) rfl];simp
 rw [pkOk,rsN_bad this (r::rs).length (by simp)];rfl
theorem pk_less {own:Int} {r:Rb} {rs:List Rb} {c:List Cl} {ps:List (List Cl)} (h:pkOk own (r::rs) (c::ps)=true):pkOk own (r::rs) ps=false∧pkOk own rs ps=true:=by
 obtain ⟨h1,h2,h3,h4,h5⟩:=pkOk_iff.1 h
 simp only [List.length_cons] at h4 h5
 constructor
 ·cases hp:pkOk own (r::rs) ps with
  | false=>rfl
  | true =>
   have:=(pkOk_iff.1 hp).2.2.2.1
   simp only [List.length_cons] at this
   omega
 ·exact pkOk_iff.2 ⟨rsN_tl h1,psN_tl h2,h3,by omega,by omega⟩
def cDPK:Con:={ pre:=codeArg,post:=fun _ r=>∃ (own:Int) (rs:List Rb) (ps:List (List Cl)),((rs.length≤6∧ps.length≤6)∧lensR rs∧lensP ps)∧r = .tup [iv own,.sl none (brows rs),.sl none (prows ps)] }
theorem cDPK_own:cDPK.own=false:=rfl
theorem cDPK_draws:cDPK.draws=false:=rfl
theorem cDPK_cost:cDPK.cost=0:=rfl
attribute [go_sem] cDPK_own cDPK_draws cDPK_cost
theorem dpk_pre (bs:List Nat) (h:∀ b ∈ bs,b < 256):cDPK.pre [.sl none (byteRows bs)]:=⟨bs,h,rfl⟩
theorem dpk_post (args:List AV) (K:AV→Prop):(∀ r,cDPK.post args r→K r)=(∀ (own:Int) (rs:List Rb) (ps:List (List Cl)),((rs.length≤6∧ps.length≤6)∧lensR rs∧lensP ps)→K (.tup [iv own,.sl none (brows rs),.sl none (prows ps)])):=by
 apply propext
 exact ⟨fun h a b c hp=>h _ ⟨a,b,c,hp,rfl⟩,fun h r ⟨a,b,c,hp,e⟩=>e ▸ h a b c hp⟩
attribute [go_sem] dpk_post
theorem drawPickOk_ok:Fine Tryd.prog 12 cDPK:=by
 refine fine_draw (T:=TT) (C:=cDPK) Tryd.func12 rfl Tryd.ntmps12 (by rw [Tryd.results12]) rfl rfl tt rfl rfl (G:=[(34,cPickD),(35,cPick)]) (D:=[]) (gs_cons l92Pick_ok (gs_cons pick_ok gs_nil)) ds_nil (l1:=[_]) (l2:=[_]) rfl rfl rfl rfl (by decide) open_calls ⟨_,Tryd.func33,rfl,rfl⟩ ?_ ?_
 ·rintro args r ⟨own,rs,ps,_,rfl⟩;rfl
 rintro args ⟨bs,hbs,rfl⟩
 refine ⟨by simp,bs,hbs,fun n E hE J hJ=>?_⟩
 refine Aw_tx hE [0] [] fun K hK=>?_
 simp only [go_sem,seval]
 refine hK _ ?_
 simp only [thenA]
 simp only [go_sem,seval]
 refine hJ _ rfl rfl fun E hE Q hQ=>?_
 simp only [go_sem,seval]
 refine Aw_st hE [5,6,7,8] [] fun K hK=>?_
 simp only [go_sem,seval]
 intro own rs ps hb
 refine hK _ ?_;clear hK K
 refine Aw_sq fun B1 hB1 hR1 hX1=>?_
 refine Aw_st hE [5,6,7,8,19] [] fun K hK=>?_
 simp only [go_sem,seval]
 refine fun x hx1 hx2=>?_
 refine hK _ (Aw_cond rfl (fun hc2=>?_) (fun hc2=>?_))
 ·refine Aw_st hE [2,3,4] [] fun K hK=>?_
  simp only [go_sem,seval]
  refine fun y hy1 hy2=>?_
  refine hK _ (Aw_ret (hR1 _ (hQ _ ?_)))
  simp only [go_sem,seval]
  exact ⟨_,rs,ps,hb,rfl⟩
 ·refine Aw_skip (hB1 _ ?_)
  refine Aw_st hE [2,3,4] [] fun K hK=>?_
  simp only [go_sem,seval]
  refine hK _ (Aw_ret (hQ _ ?_))
  simp only [go_sem,seval]
  exact ⟨_,rs,ps,hb,rfl⟩
set_option maxHeartbeats 4000000 in
theorem fnPickForm_ok (pb:Addr):Fine Tryd.prog 4 (cLawP pb):=by
 refine fine_of (T:=TT) Tryd.func4 rfl Tryd.ntmps4 (by rw [Tryd.results4]) rfl rfl tt (gs_cons drawPickOk_ok gs_nil) (ds_cons (iPickOk_ok pb) (ds_cons sPickOk_ok ds_nil) (wp_inh pb)) ?_
 rintro args ⟨bs,hbs,rfl⟩
 refine ⟨by simp,fun k hk E hE Q hQ=>?_⟩
 refine Aw_st hE [0] [] fun K hK=>?_
 simp only [go_sem,seval]
 refine hK _ ?_;clear hK K
 refine Aw_sq fun B1 hB1 hR1 hX1=>?_
 refine Aw_st hE [0,9] [] fun K hK=>?_
 simp only [go_sem,seval]
 refine hK _ (Aw_cond rfl (fun hc2=>?_) (fun hc2=>?_))
 ·refine Aw_st hE [2] [] fun K hK=>?_
  simp only [go_sem,seval]
  refine hK _ (Aw_ret (hR1 _ (hQ _ ?_)))
  simp only [go_sem,seval]
 refine Aw_skip (hB1 _ ?_)
 refine Aw_st hE [3,4,5] [] fun K hK=>?_
 simp only [go_sem,seval]
 refine ⟨dpk_pre bs hbs,fun own rs ps hb=>?_⟩
 obtain ⟨⟨hrl,hpl⟩,hlr,hlp⟩:=hb
 refine hK _ ?_;clear hK K
 refine Aw_st hE [3,4,5,6] [] fun K hK=>?_
 simp only [go_sem,seval]
 refine ⟨⟨⟨by omega,by omega⟩,hlr,hlp⟩,?_⟩
 refine hK _ ?_;clear hK K
 refine Aw_sq fun B3 hB3 hR3 hX3=>?_
 cases hok:pkOk own rs ps with
 | false =>
  refine Aw_st hE [3,4,5,6,34] [] fun K hK=>?_
  simp only [go_sem,seval,hok,bne_self_eq_false,Bool.not_false]
  repeat (refine And.intro (by first | omega | assumption | (and_intros<;>first | omega | assumption | decide) | fail) ?_)
  refine hK _ (Aw_yes rfl ?_)
  refine Aw_st hE [2] [] fun K hK=>?_
  simp only [go_sem,seval,hok,beq_self_eq_true]
  repeat (refine And.intro (by first | omega | assumption | (and_intros<;>first | omega | assumption | decide) | fail) ?_)
  refine hK _ (Aw_ret (hR3 _ (hQ _ ?_)))
  simp only [go_sem,seval]
 | true =>
 obtain ⟨_,_,_,h4,_⟩:=pkOk_iff.1 hok
 by_cases hn:rs.length=0
 ·have hz:decide ((rs.length:Int)=0)=true:=decide_eq_true (by omega)
  refine Aw_st hE [3,4,5,6,34] [] fun K hK=>?_
  simp only [go_sem,seval,hok,bne_self_eq_false,Bool.not_true,hz]
  refine ⟨⟨⟨by omega,by omega⟩,hlr,hlp⟩,?_⟩
  refine hK _ (Aw_yes rfl ?_)
  refine Aw_st hE [2] [] fun K hK=>?_
  simp only [go_sem,seval,hok,beq_self_eq_true]
  repeat (refine And.intro (by first | omega | assumption | (and_intros<;>first | omega | assumption | decide) | fail) ?_)
  refine hK _ (Aw_ret (hR3 _ (hQ _ ?_)))
  simp only [go_sem,seval]
 have hz:decide ((rs.length:Int)=0)=false:=decide_eq_false (by omega)
 refine Aw_st hE [3,4,5,6,34] [] fun K hK=>?_
 simp only [go_sem,seval,hok,bne_self_eq_false,Bool.not_true,hz]
 refine ⟨⟨⟨by omega,by omega⟩,hlr,hlp⟩,?_⟩
 refine hK _ (Aw_no rfl (Aw_skip (hB3 _ ?_)))
 obtain ⟨r,rs,rfl⟩:∃ r rs',rs=r::rs':=by
  cases rs with
  | nil=>exact absurd rfl hn
  | cons r rs=>exact ⟨r,rs,rfl⟩
 obtain ⟨c,ps,rfl⟩:∃ c ps',ps=c::ps':=by
  cases ps with
  | nil=>cases h4
  | cons c ps=>exact ⟨c,ps,rfl⟩
 simp only [List.length_cons] at hrl hpl h4
 have hself:=pk_self (r:=r) (rs:=rs) (ps:=c::ps)
 obtain ⟨hl1,hl2⟩:=pk_less hok
 obtain ⟨h0,up,l⟩:=r
 simp only at hself
 have hg0:(brows (⟨h0,up,l⟩::rs))[0]? = some [.v (.int .i64 h0),.v (.bool up),.sl (grows l)]:=rfl
 have hd1:((brows (⟨h0,up,l⟩::rs)).take (rs.length + 1)).drop 1=brows rs:=by rw [List.take_of_length_le (by simp [brows])];rfl
 have hd2:((prows (c::ps)).take (ps.length + 1)).drop 1=prows ps:=by rw [List.take_of_length_le (by simp [prows])];rfl
 have hlr2:lensR rs:=fun x hx=>hlr x (List.mem_cons_of_mem _ hx)
 have hlp2:lensP ps:=fun x hx=>hlp x (List.mem_cons_of_mem _ hx)
 refine Aw_sd hE [2] [] 6 (by kernel_rfl) fun K hK=>?_
 simp only [go_sem,seval,hg0,hd1,hd2,hself,hl1,hl2,Bool.not_false]
 refine ⟨⟨⟨by omega,by omega⟩,hlr,hlp⟩,⟨by omega,by omega,prows_row _⟩,⟨⟨by omega,by omega⟩,hlr,hlp2⟩,⟨by omega,by omega,brows_row _⟩,⟨by omega,by omega,prows_row _⟩,⟨⟨by omega,by omega⟩,hlr2,hlp2⟩,?_⟩
 refine hK _ (Aw_ret (hQ _ ?_))
 simp only [go_sem,seval]
end Go.Proofs.W
end
