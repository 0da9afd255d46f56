/- YtadkonppommbbaaGreatDoorWc: part of the proof that laws hold, for every input that the row speaks of (no condition of ours). -/
import Derived.Test.YtadkonppommbbaaGreatDoorWb
import Derived.Test.YtadkonppommbbaaGreatDoorEd
set_option linter.unusedVariables false
set_option linter.unusedSimpArgs false
section
namespace Go.Proofs.W
open Go Go.Eng Go.RowKit
set_option maxRecDepth 100000
theorem fromD_pre (h:Int):cFromD.pre [.rd,iv h]=True:=by simp [cFromD]
theorem fromD_post (args:List AV) (K:AV→Prop):(∀ r,cFromD.post args r→K r)=(∀ x:Rt,(x.path.length≤3∧x.marks.length≤9)→K x.av):=by
 apply propext
 exact ⟨fun h p hp=>h _ ⟨p,hp,rfl⟩,fun h r ⟨p,hp,e⟩=>e ▸ h p hp⟩
theorem fromD_ex (args:List AV):(∃ r,cFromD.post args r)=True:=eq_true ⟨_,⟨0,0,[],0,[]⟩,by simp,rfl⟩
attribute [go_sem] fromD_pre fromD_post fromD_ex upC dnC enC handG hand0
theorem LeE_fG {E:En} {tb:Tb} (hE:TbOk E tb) (ht:tb.lent=false) {st:St} (d:Nat) (L:List Gt) {rest:List AV} (hl:lkm d st.m=some (cGs L++rest)) (hk0:bk d=0:=by decide):LeE E st (st.frz d (gD L)) :=
 LeE_frz (hE.nl ht) d (L.length * 6) hl (by rw [List.take_left' (cGs_len L)];exact ofAll_cGs L) hk0
def twoC (A:ConM):ConM:={ pre:=fun a m=>(m=[]∧A.pre a m)∨(m≠[]∧(lendC A).pre a m),post:=fun a m r m2=>(m=[]→A.post a m r m2)∧(m≠[]→(lendC A).post a m r m2) }
theorem twoC_ok {P:Program} {f:FuncId} {A:ConM} (hA:FineM P f A) (iA:∀ w,A.inv w):FineM P f (twoC A):=by
 refine ⟨hA.1,fun c args m1 vs h1 h2 h3 h4 _ h6 h7 h8 h9=>?_⟩
 rcases h4 with ⟨hm,hp⟩ | ⟨hm,hp⟩
 ·exact (hA.2 c args m1 vs h1 h2 h3 hp (fun w' _=>iA w') h6 h7 h8 h9).mono fun e w' ⟨v,r,m2,c',he,hq,O⟩=>⟨v,r,m2,c',he,⟨fun _=>hq,fun h=>absurd hm h⟩,O⟩
 ·exact ((lendC_ok hA).2 c args m1 vs h1 h2 h3 hp (fun w' _=>iA w') h6 h7 h8 h9).mono fun e w' ⟨v,r,m2,c',he,hq,O⟩=>⟨v,r,m2,c',he,⟨fun h=>absurd h hm,fun _=>hq⟩,O⟩
def cTellO:ConM:=twoC cTellM
theorem ribTellO_ok:FineM Tryz.prog 41 cTellO:=twoC_ok ribTellM_ok (fun _=>trivial)
section
variable {h:Int} {up:Bool} {l:List Gt} {f b:Int} {p:List Int} {k:Int} {m:List Int}
theorem tellO_pre:cTellO.pre [.agg [iv h,bv up,.sl none (grows l)],.agg [iv f,iv b,isl p,iv k,isl m]] []=((l.length≤1000∧lensG l)∧p.length≤1000∧m.length≤900):=by
 rw [← tellM_pre]
 exact propext ⟨fun h=>h.elim (fun h=>h.2) (fun h=>absurd rfl h.1),fun h=>.inl ⟨rfl,h⟩⟩
theorem tellO_post (K:AV→List (Nat × List AV)→Prop):(∀ r m2,cTellO.post [.agg [iv h,bv up,.sl none (grows l)],.agg [iv f,iv b,isl p,iv k,isl m]] [] r m2→K r m2)=tlC ⟨h,up,l⟩ ⟨f,b,p,k,m⟩ K:=by
 rw [← tellM_post h up l f b p k m [] K]
 exact propext ⟨fun hh r m2 hp=>hh r m2 ⟨fun _=>hp,fun h=>absurd rfl h⟩,fun hh r m2 hp=>hh r m2 (hp.1 rfl)⟩
theorem tellO_some {zh:Int} {zu zo:Bool} {zl:List Gt} (hz:telO ⟨h,up,l⟩ ⟨f,b,p,k,m⟩=some (⟨zh,zu,zl⟩,zo)) (K:AV→List (Nat × List AV)→Prop):(∀ r m2,cTellO.post [.agg [iv h,bv up,.sl none (grows l)],.agg [iv f,iv b,isl p,iv k,isl m]] [] r m2→K r m2) =
  (∀ cap,zl.length≤cap→K (.tup [.agg [iv zh,bv zu,.xs 900 0 zl.length cap 6],bv zo]) [(4,[iv zh,bv zu,.xs 900 0 zl.length cap 6]),(900,cGs zl++jk ((cap - zl.length) * 6))]):=by
 rw [tellO_post]
 apply propext
 refine ⟨fun hh=>hh.2 _ hz,fun hh=>⟨fun e=>?_,fun z' hz'=>?_⟩⟩
 ·rw [e] at hz;cases hz
 ·obtain rfl:=Option.some.inj (hz.symm.trans hz');exact hh
theorem frz_args (cap:Nat):List.map (AV.frz 1000 (gD l)) [.agg [iv h,bv up,.xs 1000 0 l.length cap 6],.agg [iv f,iv b,isl p,iv k,isl m]]=[.agg [iv h,bv up,.sl none (grows l)],.agg [iv f,iv b,isl p,iv k,isl m]]:=by
 have e:AV.frz 1000 (gD l) (.xs 1000 0 l.length cap 6) = .sl none (grows l):=by
  simp only [AV.frz,if_true,Nat.zero_add,List.drop_zero]
  rw [if_pos (by rw [gD_len];exact Nat.le_refl _),frz_grows]
 simp only [List.map_cons,List.map_nil,AV.frz,AV.frzAll]
 simp only [AV.frz] at e
 rw [e]
theorem tellV_p (cap:Nat) (rest:List AV) (hl:(l.length≤1000∧lensG l)∧p.length≤1000∧m.length≤900):cTellO.pre [.agg [iv h,bv up,.xs 1000 0 l.length cap 6],.agg [iv f,iv b,isl p,iv k,isl m]] [(1000,cGs l++rest)] :=
 .inr ⟨by simp,_,gD l,rfl,by
  show DV.ofAll ((cGs l++rest).take (l.length * 6))=_
  rw [List.take_left' (cGs_len l)];exact ofAll_cGs l,by rw [frz_args,tellM_pre];exact hl⟩
theorem tellV_q {cap:Nat} {rest:List AV} (hf:∀ z,telO ⟨h,up,l⟩ ⟨f,b,p,k,m⟩=some z→z.2=false) {r:AV} {m2:List (Nat × List AV)} (hp:cTellO.post [.agg [iv h,bv up,.xs 1000 0 l.length cap 6],.agg [iv f,iv b,isl p,iv k,isl m]] [(1000,cGs l++rest)] r m2) :
  ∃ h' u' w,r = .tup [.agg [iv h',bv u',.v w],bv false]∧m2=[(1000,cGs l++rest)]:=by
 obtain ⟨ls,ys,r0,m0,e,hy,hq,hpl,e2⟩:=hp.2 (by simp)
 obtain ⟨e1,_⟩:=List.cons.inj e
 obtain ⟨_,e1⟩:=Prod.mk.inj e1
 subst e1
 have hy2:DV.ofAll ((cGs l++rest).take (l.length * 6))=some ys:=hy
 rw [List.take_left' (cGs_len l),ofAll_cGs] at hy2
 obtain rfl:=Option.some.inj hy2
 rw [frz_args] at hq
 have key:∃ h' u' a,r0 = .tup [.agg [iv h',bv u',a],bv false]∧(a = .nl∨∃ d off n cap sz,a = .xs d off n cap sz):=by
  refine hq h up l f b p k m rfl (fun r0 _=>∃ h' u' a,r0 = .tup [.agg [iv h',bv u',a],bv false]∧(a = .nl∨∃ d off n cap sz,a = .xs d off n cap sz)) ⟨fun _=>⟨0,false,.nl,rfl,.inl rfl⟩,fun z hz cap hc=>?_⟩
  have:=hf z hz
  obtain ⟨⟨zh,zu,zl⟩,zo⟩:=z
  simp only at this
  subst this
  exact ⟨zh,zu,_,rfl,.inr ⟨_,_,_,_,_,rfl⟩⟩
 obtain ⟨h',u',a,rfl,ha⟩:=key
 have hpl2:∃ w,r = .tup [.agg [iv h',bv u',.v w],bv false]:=by
  rcases ha with rfl | ⟨d,off,n,cap,sz,rfl⟩
  all_goals
   simp only [Pl,PlL] at hpl
   obtain ⟨ls',rfl,y,ys,rfl,⟨ls2,rfl,y1,ys1,rfl,rfl,y2,ys2,rfl,rfl,y3,ys3,rfl,⟨w,rfl⟩,rfl⟩,y4,ys4,rfl,rfl,rfl⟩:=hpl
   exact ⟨w,rfl⟩
 obtain ⟨w,rfl⟩:=hpl2
 exact ⟨h',u',w,rfl,e2⟩
theorem tellV_eq {cap:Nat} {rest:List AV} (hf:∀ z,telO ⟨h,up,l⟩ ⟨f,b,p,k,m⟩=some z→z.2=false) (K:AV→List (Nat × List AV)→Prop) :
  (∀ r m2,cTellO.post [.agg [iv h,bv up,.xs 1000 0 l.length cap 6],.agg [iv f,iv b,isl p,iv k,isl m]] [(1000,cGs l++rest)] r m2→K r m2) =
  (∀ (h':Int) (u':Bool) (w:Value),cTellO.post [.agg [iv h,bv up,.xs 1000 0 l.length cap 6],.agg [iv f,iv b,isl p,iv k,isl m]] [(1000,cGs l++rest)] (.tup [.agg [iv h',bv u',.v w],bv false]) [(1000,cGs l++rest)]→K (.tup [.agg [iv h',bv u',.v w],bv false]) [(1000,cGs l++rest)]):=by
 apply propext
 refine ⟨fun hh h' u' w hp=>hh _ _ hp,fun hh r m2 hp=>?_⟩
 obtain ⟨h',u',w,rfl,rfl⟩:=tellV_q hf hp
 exact hh h' u' w hp
end
theorem telO_two (b:Rb) (x:Rt):(∃ h u l,telO b x=some (⟨h,u,l⟩,true))∨(∀ z,telO b x=some z→z.2=false):=by
 cases h:telO b x with
 | none=>exact .inr fun z hz=>by cases hz
 | some z =>
  obtain ⟨⟨zh,zu,zl⟩,zo⟩:=z
  cases zo with
  | true=>exact .inl ⟨zh,zu,zl,rfl⟩
  | false=>exact .inr fun z hz=>by obtain rfl:=Option.some.inj hz;rfl
def cRibD:Con:={ pre:=fun args=>∃ h:Int,args=[.rd,iv h]∧isH h=true,post:=fun _ r=>∃ b:Rb,(b.all.length≤7∧lensG b.all)∧r=b.av,cost:=240,draws:=true }
theorem cRibD_own:cRibD.own=false:=rfl
theorem cRibD_draws:cRibD.draws=true:=rfl
theorem cRibD_cost:cRibD.cost=240:=rfl
attribute [go_sem] cRibD_own cRibD_draws cRibD_cost
def ribS (h0:Int) (up:Bool) (l:List Gt) (cap:Nat) (n:Int) (rn:Nat):St:=⟨74,[(0,.rd),(1,iv h0),(4,.loc 4 0),(5,.loc 5 0),(6,iv n)],[(4,[iv 0,bv false,.nl]),(5,[iv h0,bv up,.xs 60 0 l.length cap 6]),(60,cGs l++jk ((cap - l.length) * 6))],rn⟩
theorem cGs_stk (d:Nat):∀ l:List Gt,AV.stripAll d (cGs l)=cGs l
 | []=>rfl
 | g::l=>by
  rw [AV.stripAll_eq,cGs,List.map_append,← AV.stripAll_eq,← AV.stripAll_eq,cGs_stk d l]
  rfl
theorem cGj_stk (d n:Nat) (l:List Gt):AV.stripAll d (cGs l++jk n)=cGs l++jk n:=by
 rw [AV.stripAll_eq,List.map_append,← AV.stripAll_eq,cGs_stk]
 simp [jk,AV.strip]
theorem cGj_str (d n:Nat) (l:List Gt):AV.stripLAll d (cGs l++jk n)=cGs l++jk n:=by
 rw [AV.stripLAll_eq,List.map_append,← AV.stripLAll_eq,cGs_strip]
 simp [jk,AV.stripL]
theorem okRt_len {x:Rt} (h:okRt x):x.path.length≤1000∧x.marks.length≤900:=by
 obtain ⟨_,h1,_,_,_,h2⟩:=h
 exact ⟨by omega,by omega⟩
def ribT (h0:Int) (up:Bool) (l:List Gt) (cap:Nat) (rn:Nat):St:=⟨74,[(0,.rd),(4,.loc 4 0),(5,.loc 5 0)],[(4,[iv 0,bv false,.nl]),(5,[iv h0,bv up,.xs 60 0 l.length cap 6]),(60,cGs l++jk ((cap - l.length) * 6))],rn⟩
set_option maxHeartbeats 4000000 in
theorem l92Rib_ok : Fine Tryz.prog 19 cRibD := by
  refine fine_ofX [] gl_nil [] ms_nil [(38, (cDownM, [], [(4, 100), (900, 200)])), (39, (cUpM, [], [(2, 100), (900, 200)])), (40, (cEndM, [], [(2, 100), (900, 200)])), (41, (cTellO, [], [(4, 100), (900, 200)]))] (mm_cons ribDownM_ok (by decide) (mm_cons ribUpM_ok (by decide) (mm_cons ribEndM_ok (by decide) (mm_cons ribTellO_ok (by decide) mm_nil)))) [10, 71] [] ex_nil (T := TT) Tryz.func19 rfl Tryz.ntmps19 (by rw [Tryz.results19]) rfl rfl tt (gs_cons pick_ok (gs_cons l92From_ok (gs_cons l91Route_ok gs_nil))) ds_nil ?_
  rintro args ⟨h0, rfl, hh⟩
  refine ⟨by simp, fun k hk E hE Q hQ => ?_⟩
  have hk := hk rfl
  simp only [go_sem] at hk
  refine Aw_st hE [0, 1, 4] [4, 5, 7, 10, 60, 71, 125, 136, 140, 144, 154, 225, 236, 240, 244, 254] fun K hK => ?_
  simp only [go_sem, seval]
  refine hK _ ?_; clear hK K
  refine Aw_st hE [0, 1, 4, 5] [4, 5, 7, 10, 60, 71, 125, 136, 140, 144, 154, 225, 236, 240, 244, 254] fun K hK => ?_
  simp only [go_sem, seval]
  refine hK _ ?_; clear hK K
  refine Aw_sq fun B1 hB1 hR1 hX1 => ?_
  refine Aw_st hE [0, 1, 4, 5, 6] [4, 5, 7, 10, 60, 71, 125, 136, 140, 144, 154, 225, 236, 240, 244, 254] fun K hK => ?_
  simp only [go_sem, seval]
  repeat' (first | (refine And.intro (by first | omega | decide) ?_) | intro)
  rename_i n0 hn1 hn2
  refine hK _ ?_; clear hK K
  refine Aw_bk fun B2 hN2 hE2 hR2 hX2 => ?_
  refine Aw_lp (fun i : (Bool × List Gt × Nat) × Int => ribS h0 i.1.1 i.1.2.1 i.1.2.2 i.2 (k + 190 - 31 * i.2.toNat)) (fun i => ribOk ⟨h0, i.1.1, i.1.2.1⟩ = true ∧ lensG i.1.2.1 ∧ i.1.2.1.length ≤ i.1.2.2 ∧ 0 ≤ i.2 ∧ i.2 ≤ 6) (fun i => i.2.toNat) ((true, [], 0), n0) ((Le_bx 10 60 (by decide) (by decide) rfl).trans (Le_rn (by simp only; omega))) ⟨ribOk_nil hh, (by intro g hg; cases hg), by simp, by omega, by omega⟩ fun i hi B3 hN3 hR3 hX3 => ?_
  obtain ⟨⟨up, l, cap⟩, n⟩ := i
  obtain ⟨hok, hlg, hcap, hn1, hn2⟩ := hi
  simp only at hok hlg hcap hn1 hn2
  have hl6 := (ribOk_iff.1 hok).2.1
  simp only [ribS]
  refine Aw_sq fun B4 hB4 hR4 hX4 => ?_
  refine Aw_st hE [0, 1, 4, 5, 6, 15] [4, 5, 7, 10, 60, 71, 125, 136, 140, 144, 154, 225, 236, 240, 244, 254] fun K hK => ?_
  simp only [go_sem, seval, cGs_nt, cGs_stripF]
  refine hK _ (Aw_cond rfl (fun hc5 => ?_) (fun hc5 => ?_))
  · simp only [dte] at hc5
    refine Aw_skip (hB4 _ ?_)
    refine Aw_sq fun B6 hB6 hR6 hX6 => ?_
    refine Aw_bk fun B7 hN7 hE7 hR7 hX7 => ?_
    refine Aw_st hE [0, 1, 4, 5, 6, 19] [4, 5, 7, 10, 60, 71, 125, 136, 140, 144, 154, 225, 236, 240, 244, 254] fun K hK => ?_
    simp only [go_sem, seval, cGs_nt, cGs_stripF]
    repeat' (first | (refine And.intro (by first | omega | decide) ?_) | intro)
    rename_i x hx1 hx2
    refine hK _ ?_; clear hK K
    refine Aw_bk fun B8 hN8 hE8 hR8 hX8 => ?_
    refine Aw_st hE [0, 1, 4, 5, 6, 19, 30] [4, 5, 7, 10, 60, 71, 125, 136, 140, 144, 154, 225, 236, 240, 244, 254] fun K hK => ?_
    simp only [go_sem, seval, cGs_nt, cGs_stripF]
    refine hK _ (Aw_cond rfl (fun hc9 => ?_) (fun hc9 => ?_))
    · refine Aw_fG hE rfl 60 l rfl ?_
      simp only [go_sem, seval, gD_len, frz_grows]
      refine Aw_tS hE (.fst 1 (.alt 0 (.alt 2 (.alt 3 (.alt 4 (.alt 5 .done .non) .non) .non) .non) (.alt 2 (.alt 0 (.alt 3 (.alt 4 (.alt 5 .done .non) .non) .non) (.alt 3 (.alt 0 (.alt 4 (.alt 5 .done .non) .non) .non) .non)) .non))) [0, 1, 4, 5, 6] [4, 5, 7, 10, 60, 71, 125, 136, 140, 144, 154, 225, 236, 240, 244, 254] (by kernel_rfl) fun K hK => ?_
      simp only [go_sem, seval, cGs_nt, cGs_stripF, cGs_strip, cGs_mvn]
      repeat' (first | (refine And.intro (by first | omega | decide | exact ⟨by omega, hlg⟩) ?_) | (refine And.intro ?_ ?_) | intro)
      all_goals first | (exfalso; rename_i hf; rw [hok] at hf; cases hf; done) | skip
      all_goals
        rename_i y _ _ _ cap' hcap'
        have h1 := ribOk_down (g := decide (0 < y)) hok
        have h2 := lensG_down (g := decide (0 < y)) hlg
        generalize (if decide (0 < y) = true then List.map oldG l else []) = L at h1 h2 hcap' ⊢
        refine hK _ (hN8 _ (hN7 _ (hB6 _ ?_)))
        refine Aw_tx hE [0, 1, 4, 5, 6] [4, 5, 7, 10, 60, 71, 125, 136, 140, 144, 154, 225, 236, 240, 244, 254] fun K hK => ?_
        simp only [go_sem, seval, cGs_nt, cGs_stripF]
        repeat refine sd0 ?_
        refine hK _ (hN3 ((false, L, cap'), n - 1) _ ⟨h1, h2, hcap', by simp only; omega, by simp only; omega⟩ (by simp only; omega) ?_)
        refine (Le_swb _ 236 60 (by decide) (by decide)).trans ?_
        simp only [St.swb, swbσ, swbm, AV.swb, AV.swbAll, swp, swbAll_app, swbAll_jk, gcs_swb, cGs_swb, Nat.reduceEqDiff, if_true, if_false, reduceIte]
        exact (Le_ks [0, 1, 4, 5, 6] [4, 5, 60]).trans (Le_rn (by simp only; omega))
    · refine Aw_st hE [0, 1, 4, 5, 6, 19, 37] [4, 5, 7, 10, 60, 71, 125, 136, 140, 144, 154, 225, 236, 240, 244, 254] fun K hK => ?_
      simp only [go_sem, seval, cGs_nt, cGs_stripF]
      refine hK _ (Aw_cond rfl (fun hc10 => ?_) (fun hc10 => ?_))
      · refine Aw_fG hE rfl 60 l rfl ?_
        simp only [go_sem, seval, gD_len, frz_grows]
        refine Aw_tx hE [0, 1, 4, 5, 6] [4, 5, 7, 10, 60, 71, 125, 136, 140, 144, 154, 225, 236, 240, 244, 254] fun K hK => ?_
        simp only [go_sem, seval, cGs_nt, cGs_stripF, cGs_strip, cGs_mvn]
        refine ⟨by decide, ⟨by omega, hlg⟩, fun hf => ?_, fun _ cap' hcap' => ?_⟩
        · rw [hok] at hf; cases hf
        · skip
          refine hK _ (hN8 _ (hN7 _ (hB6 _ ?_)))
          refine Aw_tx hE [0, 1, 4, 5, 6] [4, 5, 7, 10, 60, 71, 125, 136, 140, 144, 154, 225, 236, 240, 244, 254] fun K hK => ?_
          simp only [go_sem, seval, cGs_nt, cGs_stripF]
          repeat refine sd0 ?_
          refine hK _ (hN3 ((true, l, cap'), n - 1) _ ⟨ribOk_up hok, hlg, hcap', by simp only; omega, by simp only; omega⟩ (by simp only; omega) ?_)
          refine (Le_swb _ 240 60 (by decide) (by decide)).trans ?_
          simp only [St.swb, swbσ, swbm, AV.swb, AV.swbAll, swp, swbAll_app, swbAll_jk, gcs_swb, cGs_swb, Nat.reduceEqDiff, if_true, if_false, reduceIte]
          exact (Le_ks [0, 1, 4, 5, 6] [4, 5, 60]).trans (Le_rn (by simp only; omega))
      · refine Aw_st hE [0, 1, 4, 5, 6, 41] [4, 5, 7, 10, 60, 71, 125, 136, 140, 144, 154, 225, 236, 240, 244, 254] fun K hK => ?_
        simp only [go_sem, seval, cGs_nt, cGs_stripF]
        refine hK _ (Aw_cond rfl (fun hc11 => ?_) (fun hc11 => ?_))
        · refine Aw_fG hE rfl 60 l rfl ?_
          simp only [go_sem, seval, gD_len, frz_grows]
          refine Aw_tx hE [0, 1, 4, 5, 6] [4, 5, 7, 10, 60, 71, 125, 136, 140, 144, 154, 225, 236, 240, 244, 254] fun K hK => ?_
          simp only [go_sem, seval, cGs_nt, cGs_stripF, cGs_strip, cGs_mvn]
          refine ⟨by decide, ⟨by omega, hlg⟩, fun hf => ?_, fun _ cap' hcap' => ?_⟩
          · rw [hok] at hf; cases hf
          · skip
            refine hK _ (hN8 _ (hN7 _ (hB6 _ ?_)))
            refine Aw_tx hE [0, 1, 4, 5, 6] [4, 5, 7, 10, 60, 71, 125, 136, 140, 144, 154, 225, 236, 240, 244, 254] fun K hK => ?_
            simp only [go_sem, seval, cGs_nt, cGs_stripF]
            repeat refine sd0 ?_
            refine hK _ (hN3 ((up, endL l, cap'), n - 1) _ ⟨ribOk_end hok, lensG_end hlg, hcap', by simp only; omega, by simp only; omega⟩ (by simp only; omega) ?_)
            refine (Le_swb _ 244 60 (by decide) (by decide)).trans ?_
            simp only [St.swb, swbσ, swbm, AV.swb, AV.swbAll, swp, swbAll_app, swbAll_jk, gcs_swb, cGs_swb, Nat.reduceEqDiff, if_true, if_false, reduceIte]
            exact (Le_ks [0, 1, 4, 5, 6] [4, 5, 60]).trans (Le_rn (by simp only; omega))
        · refine Aw_sS hE (.fst 1 (.fst 2 (.alt 0 (.alt 3 (.cut (.alt 4 (.fst 5 (.fst 6 (.fst 7 (.alt 8 (.alt 9 (.fst 10 .done) .non) .non)))) (.alt 8 (.cut (.alt 4 (.fst 5 (.fst 6 (.fst 7 (.alt 9 (.fst 10 .done) .non)))) .non)) .non))) (.alt 8 (.alt 3 (.cut (.alt 4 (.fst 5 (.fst 6 (.fst 7 (.alt 9 (.fst 10 .done) .non)))) .non)) .non) .non)) (.alt 3 (.alt 0 (.cut (.alt 4 (.fst 5 (.fst 6 (.fst 7 (.alt 8 (.alt 9 (.fst 10 .done) .non) .non)))) (.alt 8 (.cut (.alt 4 (.fst 5 (.fst 6 (.fst 7 (.alt 9 (.fst 10 .done) .non)))) .non)) .non))) (.alt 8 (.alt 0 (.cut (.alt 4 (.fst 5 (.fst 6 (.fst 7 (.alt 9 (.fst 10 .done) .non)))) .non)) .non) .non)) (.alt 8 (.alt 0 (.alt 3 (.cut (.alt 4 (.fst 5 (.fst 6 (.fst 7 (.alt 9 (.fst 10 .done) .non)))) .non)) .non) (.alt 3 (.alt 0 (.cut (.alt 4 (.fst 5 (.fst 6 (.fst 7 (.alt 9 (.fst 10 .done) .non)))) .non)) .non) .non)) .non))))) [0, 1, 4, 5, 6, 7, 8] [4, 5, 7, 10, 60, 71, 125, 136, 140, 144, 154, 225, 236, 240, 244, 254] (by kernel_rfl) fun K hK => ?_
          simp only [go_sem, seval, cGs_nt, cGs_stripF, cGs_strip, cGs_mvn]
          repeat' (first | (refine And.intro (by omega) ?_) | (refine And.intro ?_ ?_) | intro)
          all_goals
            rename_i x hx
            obtain ⟨xf, xb, p, xk, m⟩ := x
            simp only at hx
            have hbd : (l.length ≤ 1000 ∧ lensG l) ∧ p.length ≤ 1000 ∧ m.length ≤ 900 := ⟨⟨by omega, hlg⟩, by omega, by omega⟩
            rcases telO_two ⟨h0, up, l⟩ ⟨xf, xb, p, xk, m⟩ with ⟨zh, zu, zl, hz⟩ | hf
            · obtain ⟨hz1, hz2, _⟩ := telO_ok hz
              have hz3 := lensG_tel hlg ⟨by simp only; omega, by simp only; omega⟩ hz
              simp only at hz1 hz2 hz3
              subst hz2
              refine ⟨_, LeE_fG hE rfl 60 l rfl, ?_⟩
              have hT := fun (K : AV → List (Nat × List AV) → Prop) => tellO_some hz K
              have hVp := hbd
              simp only [go_sem, seval, gD_len, frz_grows, cGs_nt, cGs_stripF, cGs_strip, cGs_mvn, ↓hT, tellO_pre]
              repeat' (first | (refine And.intro (by first | omega | decide | exact hbd) ?_) | (refine And.intro ?_ ?_) | (refine Exists.intro _ (And.intro (fun _ _ r => r) ?_); simp only [go_sem, seval, cGs_nt, cGs_stripF, cGs_strip, cGs_mvn, ↓hT, tellO_pre]) | (intro) | fail)
              all_goals
                rename_i cap' hcap'
                refine hK _ ?_; clear hK K
                refine Aw_st hE [0, 1, 4, 5, 6, 7, 28] [4, 5, 7, 10, 60, 71, 125, 136, 140, 144, 154, 225, 236, 240, 244, 254] fun K hK => ?_
                simp only [go_sem, seval, cGs_nt, cGs_stripF, cGs_strip, cGs_mvn]
                refine hK _ (Aw_yes rfl ?_)
                refine Aw_tx hE [0, 1, 4, 5, 6] [4, 5, 7, 10, 60, 71, 125, 136, 140, 144, 154, 225, 236, 240, 244, 254] fun K hK => ?_
                simp only [go_sem, seval, cGs_nt, cGs_stripF, cGs_strip, cGs_mvn]
                refine hK _ (hN8 _ (hN7 _ (hB6 _ ?_)))
                refine Aw_tx hE [0, 1, 4, 5, 6] [4, 5, 7, 10, 60, 71, 125, 136, 140, 144, 154, 225, 236, 240, 244, 254] fun K hK => ?_
                simp only [go_sem, seval, cGs_nt, cGs_stripF]
                repeat refine sd0 ?_
                refine hK _ (hN3 ((zu, zl, cap'), n - 1) _ ⟨hz1, hz3, hcap', by simp only; omega, by simp only; omega⟩ (by simp only; omega) ?_)
                refine (Le_swb _ 225 60 (by decide) (by decide)).trans ?_
                simp only [St.swb, swbσ, swbm, AV.swb, AV.swbAll, swp, swbAll_app, swbAll_jk, gcs_swb, cGs_swb, Nat.reduceEqDiff, if_true, if_false, reduceIte]
                exact (Le_ks [0, 1, 4, 5, 6] [4, 5, 60]).trans (Le_rn (by simp only; omega))
            · have hV := fun (cap : Nat) (rest : List AV) (K : AV → List (Nat × List AV) → Prop) => tellV_eq (cap := cap) (rest := rest) hf K
              have hVp := fun (cap : Nat) (rest : List AV) => tellV_p (f := xf) (b := xb) (k := xk) (h := h0) (up := up) cap rest hbd
              refine ⟨_, fun _ _ r => r, ?_⟩
              simp only [go_sem, seval, cGs_nt, cGs_stripF, cGs_strip, cGs_mvn, ↓hV]
              repeat' (first | (refine And.intro (by first | omega | decide | exact hVp _ _) ?_) | (refine And.intro ?_ ?_) | (refine Exists.intro _ (And.intro (fun _ _ r => r) ?_); simp only [go_sem, seval, cGs_nt, cGs_stripF, cGs_strip, cGs_mvn, ↓hV]) | (intro) | fail)
              all_goals
                refine hK _ ?_; clear hK K
                refine Aw_st hE [0, 1, 4, 5, 6, 7, 28] [4, 5, 7, 10, 60, 71, 125, 136, 140, 144, 154, 225, 236, 240, 244, 254] fun K hK => ?_
                simp only [go_sem, seval, cGs_nt, cGs_stripF, cGs_strip, cGs_mvn]
                refine hK _ (Aw_no rfl (Aw_skip (hN8 _ (hN7 _ (hB6 _ ?_)))))
                refine Aw_tx hE [0, 1, 4, 5, 6] [4, 5, 7, 10, 60, 71, 125, 136, 140, 144, 154, 225, 236, 240, 244, 254] fun K hK => ?_
                simp only [go_sem, seval, cGs_nt, cGs_stripF]
                repeat refine sd0 ?_
                refine hK _ (hN3 ((up, l, cap), n - 1) _ ⟨hok, hlg, hcap, by simp only; omega, by simp only; omega⟩ (by simp only; omega) ?_)
                exact (Le_ks [0, 1, 4, 5, 6] [4, 5, 60]).trans (Le_rn (by simp only; omega))
  · simp only [dfn] at hc5
    refine Aw_exit (hX4 _ _ (hX3 _ _ (hE2 _ (hB1 _ ?_))))
    refine Aw_sqJ (fun q : Bool × Nat => ribT h0 q.1 l q.2 (k + 191)) (fun q => l.length ≤ q.2) (fun q hq => ?_) fun B13 hB13 hR13 hX13 => ?_
    · obtain ⟨up', cap'⟩ := q
      simp only at hq
      simp only [ribT]
      refine Aw_sq fun B17 hB17 hR17 hX17 => ?_
      refine Aw_st hE [0, 4, 5, 56] [4, 5, 7, 10, 60, 71, 125, 136, 140, 144, 154, 225, 236, 240, 244, 254] fun K hK => ?_
      simp only [go_sem, seval, cGs_nt, cGs_stripF, cGs_strip, cGs_mvn]
      repeat' (first | (refine And.intro (by first | omega | decide) ?_) | intro)
      rename_i x hx1 hx2
      refine hK _ ?_; clear hK K
      refine Aw_bk fun B18 hN18 hE18 hR18 hX18 => ?_
      refine Aw_st hE [0, 4, 5, 56, 57] [4, 5, 7, 10, 60, 71, 125, 136, 140, 144, 154, 225, 236, 240, 244, 254] fun K hK => ?_
      simp only [go_sem, seval, cGs_nt, cGs_stripF, cGs_strip, cGs_mvn]
      refine hK _ (Aw_cond rfl (fun hc19 => ?_) (fun hc19 => ?_))
      · refine Aw_tx hE [4, 5] [4, 5, 7, 10, 60, 71, 125, 136, 140, 144, 154, 225, 236, 240, 244, 254] fun K hK => ?_
        simp only [go_sem, seval, cGs_nt, cGs_stripF, cGs_strip, cGs_mvn]
        repeat refine sd0 ?_
        refine hK _ (hN18 _ (hB17 _ ?_))
        refine Aw_fG hE rfl 60 l rfl ?_
        simp only [go_sem, seval, gD_len, frz_grows]
        refine Aw_st hE [4] [4, 5, 7, 10, 60, 71, 125, 136, 140, 144, 154, 225, 236, 240, 244, 254] fun K hK => ?_
        simp only [go_sem, seval]
        refine hK _ (Aw_ret (hQ _ ?_))
        simp only [go_sem, seval]
        exact ⟨by omega, ⟨h0, !up', l⟩, ⟨by simp only; omega, hlg⟩, rfl⟩
      · refine Aw_st hE [0, 4, 5, 63] [4, 5, 7, 10, 60, 71, 125, 136, 140, 144, 154, 225, 236, 240, 244, 254] fun K hK => ?_
        simp only [go_sem, seval, cGs_nt, cGs_stripF, cGs_strip, cGs_mvn]
        refine hK _ (Aw_cond rfl (fun hc20 => ?_) (fun hc20 => ?_))
        · have hta := cGs_take l (jk ((cap' - l.length) * 6))
          refine Aw_tS hE (.fst 0 (.fst 2 (.alt 1 (.alt 3 (.alt 4 (.alt 5 (.alt 6 (.fst 7 (.alt 8 .done .non)) .non) .non) .non) .non) (.alt 3 (.alt 1 (.alt 4 (.alt 5 (.alt 6 (.fst 7 (.alt 8 .done .non)) .non) .non) .non) (.alt 4 (.alt 1 (.alt 5 (.alt 6 (.fst 7 (.alt 8 .done .non)) .non) .non) (.alt 5 (.alt 1 (.alt 6 (.fst 7 (.alt 8 .done .non)) .non) .non) .non)) .non)) .non)))) [4, 5] [4, 5, 7, 10, 60, 71, 125, 136, 140, 144, 154, 225, 236, 240, 244, 254] (by kernel_rfl) fun K hK => ?_
          simp only [go_sem, seval, cGs_nt, cGs_stripF, cGs_strip, cGs_mvn, gcs_flat, gcs_leaf, gcs_strip, hta, cGj_stk, cGj_str]
          repeat' (first | (refine And.intro (by first | omega | exact ⟨by simp, by omega, by rw [List.length_append, cGs_len, List.length_replicate]; omega⟩) ?_) | (refine And.intro ?_ ?_) | (intro) | fail)
          all_goals first
            | (rename_i x hx _ cap2 hcap2
               obtain ⟨g0, hg0⟩ : ∃ g0 : Gt, g0 = ⟨⟨x.f, x.b, x.path, x.like, x.marks⟩, false⟩ := ⟨_, rfl⟩
               have hgl : lensG (l ++ [g0]) := lensG_app hlg (by intro g hg; rw [List.mem_singleton] at hg; rw [hg, hg0]; exact okRt_len hx)
               rw [← hg0]
               have hca := cGs_app l [g0]
               simp only [cGs, List.append_nil] at hca
               rw [← hca]
               have hon : (l ++ [g0]).length = l.length + 1 := by simp
               have hfg := frz_grows (l ++ [g0])
               rw [hon] at hfg
               refine hK _ (hN18 _ (hB17 _ ?_))
               refine Aw_fG hE rfl 71 (l ++ [g0]) rfl ?_
               simp only [go_sem, seval, gD_len, hon, hfg]
               refine Aw_st hE [4] [4, 5, 7, 10, 60, 71, 125, 136, 140, 144, 154, 225, 236, 240, 244, 254] fun K hK => ?_
               simp only [go_sem, seval]
               refine hK _ (Aw_ret (hQ _ ?_))
               simp only [go_sem, seval]
               exact ⟨by omega, ⟨h0, up', l ++ [g0]⟩, ⟨by simp only [hon]; omega, hgl⟩, congrArg (fun z => AV.agg [iv h0, bv up', AV.sl none z]) hfg⟩)
            | (rename_i x hx hfit
               obtain ⟨g0, hg0⟩ : ∃ g0 : Gt, g0 = ⟨⟨x.f, x.b, x.path, x.like, x.marks⟩, false⟩ := ⟨_, rfl⟩
               have hgl : lensG (l ++ [g0]) := lensG_app hlg (by intro g hg; rw [List.mem_singleton] at hg; rw [hg, hg0]; exact okRt_len hx)
               rw [← hg0, cGs_in l g0 (cap' - l.length) (by omega)]
               have hon : (l ++ [g0]).length = l.length + 1 := by simp
               have hfg := frz_grows (l ++ [g0])
               rw [hon] at hfg
               refine hK _ (hN18 _ (hB17 _ ?_))
               refine Aw_fG hE rfl 60 (l ++ [g0]) rfl ?_
               simp only [go_sem, seval, gD_len, hon, hfg]
               refine Aw_st hE [4] [4, 5, 7, 10, 60, 71, 125, 136, 140, 144, 154, 225, 236, 240, 244, 254] fun K hK => ?_
               simp only [go_sem, seval]
               refine hK _ (Aw_ret (hQ _ ?_))
               simp only [go_sem, seval]
               exact ⟨by omega, ⟨h0, up', l ++ [g0]⟩, ⟨by simp only [hon]; omega, hgl⟩, congrArg (fun z => AV.agg [iv h0, bv up', AV.sl none z]) hfg⟩)
            | fail
        · refine Aw_skip (hN18 _ (hB17 _ ?_))
          refine Aw_fG hE rfl 60 l rfl ?_
          simp only [go_sem, seval, gD_len, frz_grows]
          refine Aw_st hE [4] [4, 5, 7, 10, 60, 71, 125, 136, 140, 144, 154, 225, 236, 240, 244, 254] fun K hK => ?_
          simp only [go_sem, seval]
          refine hK _ (Aw_ret (hQ _ ?_))
          simp only [go_sem, seval]
          exact ⟨by omega, ⟨h0, up', l⟩, ⟨by simp only; omega, hlg⟩, rfl⟩
    · refine Aw_st hE [0, 4, 5, 52] [4, 5, 7, 10, 60, 71, 125, 136, 140, 144, 154, 225, 236, 240, 244, 254] fun K hK => ?_
      simp only [go_sem, seval, cGs_nt, cGs_stripF, cGs_strip, cGs_mvn]
      refine ⟨fun hg15 => ?_, fun hg15 => ?_⟩
      · repeat' (first | (refine And.intro (by first | omega | decide) ?_) | intro)
        rename_i y _ _
        refine hK _ (Aw_cond rfl (fun hc16 => ?_) (fun hc16 => ?_))
        · refine Aw_fG hE rfl 60 l rfl ?_
          simp only [go_sem, seval, gD_len, frz_grows]
          refine Aw_tx hE [0, 4, 5] [4, 5, 7, 10, 60, 71, 125, 136, 140, 144, 154, 225, 236, 240, 244, 254] fun K hK => ?_
          simp only [go_sem, seval, cGs_nt, cGs_stripF, cGs_strip, cGs_mvn]
          refine ⟨by decide, ⟨by omega, hlg⟩, fun hf => ?_, fun _ cap' hcap' => ?_⟩
          · rw [hok] at hf; cases hf
          · refine hK _ (hB13 (true, cap') _ hcap' (Le_E ?_))
            refine (Le_swb _ 254 60 (by decide) (by decide)).trans ?_
            simp only [St.swb, swbσ, swbm, AV.swb, AV.swbAll, swp, swbAll_app, swbAll_jk, gcs_swb, cGs_swb, Nat.reduceEqDiff, if_true, if_false, reduceIte]
            exact (Le_ks [0, 4, 5] [4, 5, 60]).trans (Le_rn (by simp only; omega))
        · exact Aw_skip (hB13 (up, cap) _ hcap (Le_E ((Le_ks [0, 4, 5] [4, 5, 60]).trans (Le_rn (by simp only; omega)))))
      · refine hK _ (Aw_no rfl ?_)
        exact Aw_skip (hB13 (up, cap) _ hcap (Le_E ((Le_ks [0, 4, 5] [4, 5, 60]).trans (Le_rn (by simp only; omega)))))
end Go.Proofs.W
end
