/- YtpgilgnkiceggaaGreatDoorWf: part of the proof that laws hold, for every input that the row speaks of (no condition of ours). -/
import Derived.Test.YtpgilgnkiceggaaGreatDoorWe
import Derived.Test.YtpgilgnkiceggaaGreatDoorWb
import Derived.Test.YtpgilgnkiceggaaGreatDoorWa
import Derived.Test.YtpgilgnkiceggaaGreatDoorEc
set_option linter.unusedVariables false
set_option linter.unusedSimpArgs false
section
namespace Go.Proofs.W
open Go Go.Eng Go.RowKit
set_option linter.unusedSimpArgs false
set_option maxRecDepth 100000
def dRibDropI (pb:Addr):DFn:={ g:=gRibDrop,inv:=WH pb }
attribute [go_sem] dRibDropI
def tbRibDrop (pb:Addr):Tb:={ T:=TT,G:=[(44,cRibL)],D:=[(18,dRibOkI pb),(45,dForb),(57,dRangeOk)],draws:=false,gl:=[],M:=[],MM:=[(42,(cOpen,[],[(600,400),(601,401),(602,402),(603,403),(604,404),(605,405),(606,406)])),(58,(cDropS,[(1000,1000)],[]))],X:=[],EX:=[] }
attribute [go_sem] tbRibDrop
theorem outRibDrop0 {h0:Int} {up:Bool} {l:List Gt} {xf xb:Int} {r:AV} {m2:List (Nat × List AV)} (hl:l=[]) (hok:ribOk ⟨h0,up,l⟩=true) (hxr:rngOk xf xb=true) (hD:dropD h0 up l xf xb r m2) :
  (∃ u,r = .dv (.ifc 89 (.ptr [.v (.string u)]))∧m2=sesL h0 up [] ((0:Nat):Int)∧drR ⟨h0,up,l⟩ xf xb = .tup [.agg [iv h0,bv up,.sl none (grows [])],bv false]):=by
 rcases hD with ⟨hu,⟨u,rfl⟩,rfl⟩ | ⟨hu,hs,rfl,rfl⟩
 ·have e:=drR_err hok hxr hu
  subst hl
  exact ((⟨u,rfl,rfl,e⟩))
 ·rw [hl] at hs;simp at hs
set_option maxHeartbeats 16000000 in
theorem iRibDrop_n0 (pb:Addr) {E:En} (hE:TbOk E (tbRibDrop pb)) {h0:Int} {up:Bool} {l:List Gt} {xf xb:Int} {t:Option (Nat × Nat × TypeId)} {z:AV} {k:Nat} {Q:Exit→St→Prop} (hl:l=[]) (hok:ribOk ⟨h0,up,l⟩=true) (hxr:rngOk xf xb=true) (hlen:lensG l) (hQ:∀ st,retD TT #[Go.ResultVar.cell 4 25,Go.ResultVar.tmp 5].toList false (drR ⟨h0,up,l⟩ xf xb) st→Q .ret st):Aw E (sndC (sndC (Tryz.f26.body.getD .skip))) ⟨27,[(2,.loc 2 0),(3,.loc 3 0),(4,.loc 4 0),(15,z)],[(2,[iv h0,bv up,.sl t (grows l)]),(3,[iv xf,iv xb]),(4,[iv 0,bv false,.nl])],k⟩ Q:=by
 have hl6:=(ribOk_iff.1 hok).2.1
 have hlg:∀ g ∈ l,rngOk g.r.f g.r.b=true:=fun g hg=>bG_rng ((ribOk_iff.1 hok).2.2.1 g hg)
 have hses:sesB h0 up l=[(600,[iv h0,bv up,.v (.pointer none),iv ((0:Nat):Int)])]:=by rw [hl];rfl
 have hop:=fun (m1:List (Nat × List AV)) (K:AV→List (Nat × List AV)→Prop)=>open_postL hses m1 K
 refine Aw_st hE [3,4,6] [2,3,4,418,419,420,421,422,423,424] fun K hK=>?_
 simp only [go_sem,seval,↓hop]
 refine ⟨by decide,⟨hl6,hlen⟩,?_⟩
 refine hK _ ?_;clear hK K
 refine Aw_st hE [4,6,7] [2,3,4,418,419,420,421,422,423,424] fun K hK=>?_
 simp only [go_sem,seval]
 refine ⟨by decide,⟨h0,up,l,xf,xb,rfl,by rw [hl];rfl,hl6,hlg,hxr⟩,fun r m2 hp=>?_⟩
 have hp':dropD h0 up l xf xb r m2:=drop_cases (by rw [hl];exact hp)
 have ho:=outRibDrop0 hl hok hxr hp'
 clear hp hp' hop hses hlg hlen
 rcases ho with ⟨u,rfl,rfl,e⟩
 ·rw [e] at hQ;clear e
  simp only [go_sem,seval]
  refine hK _ ?_;clear hK K
  refine Aw_frz hE rfl 418 4 rfl rfl ?_
  simp only [go_sem,seval]
  refine Aw_st hE [4,5] [2,3,4,418,419,420,421,422,423,424] fun K hK=>?_
  simp only [go_sem,seval]
  refine ⟨ribL_p [] (by simp),ribL_q [] ?_⟩
  simp only [go_sem,seval]
  refine hK _ (Aw_ret (hQ _ ?_))
  simp only [go_sem,seval]
  all_goals rfl
theorem outRibDrop1 {h0:Int} {up:Bool} {l:List Gt} {xf xb:Int} {g1:Gt} {r:AV} {m2:List (Nat × List AV)} (hl:l=[g1]) (hok:ribOk ⟨h0,up,l⟩=true) (hxr:rngOk xf xb=true) (hD:dropD h0 up l xf xb r m2) :
  (∃ u,r = .dv (.ifc 89 (.ptr [.v (.string u)]))∧m2=sesL h0 up [g1] ((1:Nat):Int)∧drR ⟨h0,up,l⟩ xf xb = .tup [.agg [iv h0,bv up,.sl none (grows [g1])],bv false])∨
  (r = .v .nilIface∧m2=remM h0 up [g1] 0∧drR ⟨h0,up,l⟩ xf xb = .tup [.agg [iv h0,bv up,.sl none (grows [])],bv true]):=by
 rcases hD with ⟨hu,⟨u,rfl⟩,rfl⟩ | ⟨hu,hs,rfl,rfl⟩
 ·have e:=drR_err hok hxr hu
  subst hl
  exact (.inl (⟨u,rfl,rfl,e⟩))
 ·have e:=drR_rem hok hxr hu hs
  have hjl:=(any_at hs).1
  generalize skN xf xb l=j at hjl e ⊢
  have hjn:j < 1:=by rw [hl] at hjl;simpa using hjl
  subst hl
  rcases (show j=0 by omega) with rfl
  ·exact (.inr ((⟨rfl,rfl,e⟩)))
set_option maxHeartbeats 16000000 in
theorem iRibDrop_n1 (pb:Addr) {E:En} (hE:TbOk E (tbRibDrop pb)) {h0:Int} {up:Bool} {l:List Gt} {xf xb:Int} {g1:Gt} {t:Option (Nat × Nat × TypeId)} {z:AV} {k:Nat} {Q:Exit→St→Prop} (hl:l=[g1]) (hok:ribOk ⟨h0,up,l⟩=true) (hxr:rngOk xf xb=true) (hlen:lensG l) (hQ:∀ st,retD TT #[Go.ResultVar.cell 4 25,Go.ResultVar.tmp 5].toList false (drR ⟨h0,up,l⟩ xf xb) st→Q .ret st):Aw E (sndC (sndC (Tryz.f26.body.getD .skip))) ⟨27,[(2,.loc 2 0),(3,.loc 3 0),(4,.loc 4 0),(15,z)],[(2,[iv h0,bv up,.sl t (grows l)]),(3,[iv xf,iv xb]),(4,[iv 0,bv false,.nl])],k⟩ Q:=by
 have hl6:=(ribOk_iff.1 hok).2.1
 have hlg:∀ g ∈ l,rngOk g.r.f g.r.b=true:=fun g hg=>bG_rng ((ribOk_iff.1 hok).2.2.1 g hg)
 have hses:sesB h0 up l=[(600,[iv h0,bv up,.loc 601 0,iv ((1:Nat):Int)]),(601,gcs g1++[.v (.pointer none)])]:=by rw [hl];rfl
 have hop:=fun (m1:List (Nat × List AV)) (K:AV→List (Nat × List AV)→Prop)=>open_postL hses m1 K
 refine Aw_st hE [3,4,6] [2,3,4,418,419,420,421,422,423,424] fun K hK=>?_
 simp only [go_sem,seval,↓hop]
 refine ⟨by decide,⟨hl6,hlen⟩,?_⟩
 refine hK _ ?_;clear hK K
 refine Aw_st hE [4,6,7] [2,3,4,418,419,420,421,422,423,424] fun K hK=>?_
 simp only [go_sem,seval]
 refine ⟨by decide,⟨h0,up,l,xf,xb,rfl,by rw [hl];rfl,hl6,hlg,hxr⟩,fun r m2 hp=>?_⟩
 have hp':dropD h0 up l xf xb r m2:=drop_cases (by rw [hl];exact hp)
 have ho:=outRibDrop1 hl hok hxr hp'
 clear hp hp' hop hses hlg hlen
 rcases ho with ⟨u,rfl,rfl,e⟩ | ⟨rfl,rfl,e⟩
 ·rw [e] at hQ;clear e
  simp only [go_sem,seval]
  refine hK _ ?_;clear hK K
  refine Aw_frz hE rfl 419 7 rfl rfl ?_
  simp only [go_sem,seval]
  refine Aw_frz hE rfl 418 4 rfl rfl ?_
  simp only [go_sem,seval]
  refine Aw_st hE [4,5] [2,3,4,418,419,420,421,422,423,424] fun K hK=>?_
  simp only [go_sem,seval]
  refine ⟨ribL_p [g1] (by simp),ribL_q [g1] ?_⟩
  simp only [go_sem,seval]
  refine hK _ (Aw_ret (hQ _ ?_))
  simp only [go_sem,seval]
  all_goals rfl
 ·rw [e] at hQ;clear e
  simp only [remM,ndR,hdB,List.drop_zero,List.drop_succ_cons,List.drop_nil,Nat.reduceAdd,Nat.reduceSub,Nat.reduceEqDiff,reduceIte,if_true,if_false,Nat.add_zero]
  simp only [go_sem,seval]
  refine hK _ ?_;clear hK K
  refine Aw_frz hE rfl 418 4 rfl rfl ?_
  simp only [go_sem,seval]
  refine Aw_st hE [4,5] [2,3,4,418,419,420,421,422,423,424] fun K hK=>?_
  simp only [go_sem,seval]
  refine ⟨ribL_p [] (by simp),ribL_q [] ?_⟩
  simp only [go_sem,seval]
  refine hK _ (Aw_ret (hQ _ ?_))
  simp only [go_sem,seval]
  all_goals rfl
theorem outRibDrop2 {h0:Int} {up:Bool} {l:List Gt} {xf xb:Int} {g1 g2:Gt} {r:AV} {m2:List (Nat × List AV)} (hl:l=[g1,g2]) (hok:ribOk ⟨h0,up,l⟩=true) (hxr:rngOk xf xb=true) (hD:dropD h0 up l xf xb r m2) :
  (∃ u,r = .dv (.ifc 89 (.ptr [.v (.string u)]))∧m2=sesL h0 up [g1,g2] ((2:Nat):Int)∧drR ⟨h0,up,l⟩ xf xb = .tup [.agg [iv h0,bv up,.sl none (grows [g1,g2])],bv false])∨
  (r = .v .nilIface∧m2=remM h0 up [g1,g2] 0∧drR ⟨h0,up,l⟩ xf xb = .tup [.agg [iv h0,bv up,.sl none (grows [g2])],bv true])∨
  (r = .v .nilIface∧m2=remM h0 up [g1,g2] 1∧drR ⟨h0,up,l⟩ xf xb = .tup [.agg [iv h0,bv up,.sl none (grows [g1])],bv true]):=by
 rcases hD with ⟨hu,⟨u,rfl⟩,rfl⟩ | ⟨hu,hs,rfl,rfl⟩
 ·have e:=drR_err hok hxr hu
  subst hl
  exact (.inl (⟨u,rfl,rfl,e⟩))
 ·have e:=drR_rem hok hxr hu hs
  have hjl:=(any_at hs).1
  generalize skN xf xb l=j at hjl e ⊢
  have hjn:j < 2:=by rw [hl] at hjl;simpa using hjl
  subst hl
  rcases (show j=0∨j=1 by omega) with rfl | rfl
  ·exact (.inr (.inl (⟨rfl,rfl,e⟩)))
  ·exact (.inr (.inr ((⟨rfl,rfl,e⟩))))
set_option maxHeartbeats 16000000 in
theorem iRibDrop_n2 (pb:Addr) {E:En} (hE:TbOk E (tbRibDrop pb)) {h0:Int} {up:Bool} {l:List Gt} {xf xb:Int} {g1 g2:Gt} {t:Option (Nat × Nat × TypeId)} {z:AV} {k:Nat} {Q:Exit→St→Prop} (hl:l=[g1,g2]) (hok:ribOk ⟨h0,up,l⟩=true) (hxr:rngOk xf xb=true) (hlen:lensG l) (hQ:∀ st,retD TT #[Go.ResultVar.cell 4 25,Go.ResultVar.tmp 5].toList false (drR ⟨h0,up,l⟩ xf xb) st→Q .ret st):Aw E (sndC (sndC (Tryz.f26.body.getD .skip))) ⟨27,[(2,.loc 2 0),(3,.loc 3 0),(4,.loc 4 0),(15,z)],[(2,[iv h0,bv up,.sl t (grows l)]),(3,[iv xf,iv xb]),(4,[iv 0,bv false,.nl])],k⟩ Q:=by
 have hl6:=(ribOk_iff.1 hok).2.1
 have hlg:∀ g ∈ l,rngOk g.r.f g.r.b=true:=fun g hg=>bG_rng ((ribOk_iff.1 hok).2.2.1 g hg)
 have hses:sesB h0 up l=[(600,[iv h0,bv up,.loc 601 0,iv ((2:Nat):Int)]),(601,gcs g1++[.loc 602 0]),(602,gcs g2++[.v (.pointer none)])]:=by rw [hl];rfl
 have hop:=fun (m1:List (Nat × List AV)) (K:AV→List (Nat × List AV)→Prop)=>open_postL hses m1 K
 refine Aw_st hE [3,4,6] [2,3,4,418,419,420,421,422,423,424] fun K hK=>?_
 simp only [go_sem,seval,↓hop]
 refine ⟨by decide,⟨hl6,hlen⟩,?_⟩
 refine hK _ ?_;clear hK K
 refine Aw_st hE [4,6,7] [2,3,4,418,419,420,421,422,423,424] fun K hK=>?_
 simp only [go_sem,seval]
 refine ⟨by decide,⟨h0,up,l,xf,xb,rfl,by rw [hl];rfl,hl6,hlg,hxr⟩,fun r m2 hp=>?_⟩
 have hp':dropD h0 up l xf xb r m2:=drop_cases (by rw [hl];exact hp)
 have ho:=outRibDrop2 hl hok hxr hp'
 clear hp hp' hop hses hlg hlen
 rcases ho with ⟨u,rfl,rfl,e⟩ | ⟨rfl,rfl,e⟩ | ⟨rfl,rfl,e⟩
 ·rw [e] at hQ;clear e
  simp only [go_sem,seval]
  refine hK _ ?_;clear hK K
  refine Aw_frz hE rfl 420 7 rfl rfl ?_
  simp only [go_sem,seval]
  refine Aw_frz hE rfl 419 7 rfl rfl ?_
  simp only [go_sem,seval]
  refine Aw_frz hE rfl 418 4 rfl rfl ?_
  simp only [go_sem,seval]
  refine Aw_st hE [4,5] [2,3,4,418,419,420,421,422,423,424] fun K hK=>?_
  simp only [go_sem,seval]
  refine ⟨ribL_p [g1,g2] (by simp),ribL_q [g1,g2] ?_⟩
  simp only [go_sem,seval]
  refine hK _ (Aw_ret (hQ _ ?_))
  simp only [go_sem,seval]
  all_goals rfl
 ·rw [e] at hQ;clear e
  simp only [remM,ndR,hdB,List.drop_zero,List.drop_succ_cons,List.drop_nil,Nat.reduceAdd,Nat.reduceSub,Nat.reduceEqDiff,reduceIte,if_true,if_false,Nat.add_zero]
  simp only [go_sem,seval]
  refine hK _ ?_;clear hK K
  refine Aw_frz hE rfl 420 7 rfl rfl ?_
  simp only [go_sem,seval]
  refine Aw_frz hE rfl 418 4 rfl rfl ?_
  simp only [go_sem,seval]
  refine Aw_st hE [4,5] [2,3,4,418,419,420,421,422,423,424] fun K hK=>?_
  simp only [go_sem,seval]
  refine ⟨ribL_p [g2] (by simp),ribL_q [g2] ?_⟩
  simp only [go_sem,seval]
  refine hK _ (Aw_ret (hQ _ ?_))
  simp only [go_sem,seval]
  all_goals rfl
 ·rw [e] at hQ;clear e
  simp only [remM,ndR,hdB,List.drop_zero,List.drop_succ_cons,List.drop_nil,Nat.reduceAdd,Nat.reduceSub,Nat.reduceEqDiff,reduceIte,if_true,if_false,Nat.add_zero]
  simp only [go_sem,seval]
  refine hK _ ?_;clear hK K
  refine Aw_frz hE rfl 419 7 rfl rfl ?_
  simp only [go_sem,seval]
  refine Aw_frz hE rfl 418 4 rfl rfl ?_
  simp only [go_sem,seval]
  refine Aw_st hE [4,5] [2,3,4,418,419,420,421,422,423,424] fun K hK=>?_
  simp only [go_sem,seval]
  refine ⟨ribL_p [g1] (by simp),ribL_q [g1] ?_⟩
  simp only [go_sem,seval]
  refine hK _ (Aw_ret (hQ _ ?_))
  simp only [go_sem,seval]
  all_goals rfl
theorem outRibDrop3 {h0:Int} {up:Bool} {l:List Gt} {xf xb:Int} {g1 g2 g3:Gt} {r:AV} {m2:List (Nat × List AV)} (hl:l=[g1,g2,g3]) (hok:ribOk ⟨h0,up,l⟩=true) (hxr:rngOk xf xb=true) (hD:dropD h0 up l xf xb r m2) :
  (∃ u,r = .dv (.ifc 89 (.ptr [.v (.string u)]))∧m2=sesL h0 up [g1,g2,g3] ((3:Nat):Int)∧drR ⟨h0,up,l⟩ xf xb = .tup [.agg [iv h0,bv up,.sl none (grows [g1,g2,g3])],bv false])∨
  (r = .v .nilIface∧m2=remM h0 up [g1,g2,g3] 0∧drR ⟨h0,up,l⟩ xf xb = .tup [.agg [iv h0,bv up,.sl none (grows [g2,g3])],bv true])∨
  (r = .v .nilIface∧m2=remM h0 up [g1,g2,g3] 1∧drR ⟨h0,up,l⟩ xf xb = .tup [.agg [iv h0,bv up,.sl none (grows [g1,g3])],bv true])∨
  (r = .v .nilIface∧m2=remM h0 up [g1,g2,g3] 2∧drR ⟨h0,up,l⟩ xf xb = .tup [.agg [iv h0,bv up,.sl none (grows [g1,g2])],bv true]):=by
 rcases hD with ⟨hu,⟨u,rfl⟩,rfl⟩ | ⟨hu,hs,rfl,rfl⟩
 ·have e:=drR_err hok hxr hu
  subst hl
  exact (.inl (⟨u,rfl,rfl,e⟩))
 ·have e:=drR_rem hok hxr hu hs
  have hjl:=(any_at hs).1
  generalize skN xf xb l=j at hjl e ⊢
  have hjn:j < 3:=by rw [hl] at hjl;simpa using hjl
  subst hl
  rcases (show j=0∨j=1∨j=2 by omega) with rfl | rfl | rfl
  ·exact (.inr (.inl (⟨rfl,rfl,e⟩)))
  ·exact (.inr (.inr (.inl (⟨rfl,rfl,e⟩))))
  ·exact (.inr (.inr (.inr ((⟨rfl,rfl,e⟩)))))
set_option maxHeartbeats 16000000 in
theorem iRibDrop_n3 (pb:Addr) {E:En} (hE:TbOk E (tbRibDrop pb)) {h0:Int} {up:Bool} {l:List Gt} {xf xb:Int} {g1 g2 g3:Gt} {t:Option (Nat × Nat × TypeId)} {z:AV} {k:Nat} {Q:Exit→St→Prop} (hl:l=[g1,g2,g3]) (hok:ribOk ⟨h0,up,l⟩=true) (hxr:rngOk xf xb=true) (hlen:lensG l) (hQ:∀ st,retD TT #[Go.ResultVar.cell 4 25,Go.ResultVar.tmp 5].toList false (drR ⟨h0,up,l⟩ xf xb) st→Q .ret st):Aw E (sndC (sndC (Tryz.f26.body.getD .skip))) ⟨27,[(2,.loc 2 0),(3,.loc 3 0),(4,.loc 4 0),(15,z)],[(2,[iv h0,bv up,.sl t (grows l)]),(3,[iv xf,iv xb]),(4,[iv 0,bv false,.nl])],k⟩ Q:=by
 have hl6:=(ribOk_iff.1 hok).2.1
 have hlg:∀ g ∈ l,rngOk g.r.f g.r.b=true:=fun g hg=>bG_rng ((ribOk_iff.1 hok).2.2.1 g hg)
 have hses:sesB h0 up l=[(600,[iv h0,bv up,.loc 601 0,iv ((3:Nat):Int)]),(601,gcs g1++[.loc 602 0]),(602,gcs g2++[.loc 603 0]),(603,gcs g3++[.v (.pointer none)])]:=by rw [hl];rfl
 have hop:=fun (m1:List (Nat × List AV)) (K:AV→List (Nat × List AV)→Prop)=>open_postL hses m1 K
 refine Aw_st hE [3,4,6] [2,3,4,418,419,420,421,422,423,424] fun K hK=>?_
 simp only [go_sem,seval,↓hop]
 refine ⟨by decide,⟨hl6,hlen⟩,?_⟩
 refine hK _ ?_;clear hK K
 refine Aw_st hE [4,6,7] [2,3,4,418,419,420,421,422,423,424] fun K hK=>?_
 simp only [go_sem,seval]
 refine ⟨by decide,⟨h0,up,l,xf,xb,rfl,by rw [hl];rfl,hl6,hlg,hxr⟩,fun r m2 hp=>?_⟩
 have hp':dropD h0 up l xf xb r m2:=drop_cases (by rw [hl];exact hp)
 have ho:=outRibDrop3 hl hok hxr hp'
 clear hp hp' hop hses hlg hlen
 rcases ho with ⟨u,rfl,rfl,e⟩ | ⟨rfl,rfl,e⟩ | ⟨rfl,rfl,e⟩ | ⟨rfl,rfl,e⟩
 ·rw [e] at hQ;clear e
  simp only [go_sem,seval]
  refine hK _ ?_;clear hK K
  refine Aw_frz hE rfl 421 7 rfl rfl ?_
  simp only [go_sem,seval]
  refine Aw_frz hE rfl 420 7 rfl rfl ?_
  simp only [go_sem,seval]
  refine Aw_frz hE rfl 419 7 rfl rfl ?_
  simp only [go_sem,seval]
  refine Aw_frz hE rfl 418 4 rfl rfl ?_
  simp only [go_sem,seval]
  refine Aw_st hE [4,5] [2,3,4,418,419,420,421,422,423,424] fun K hK=>?_
  simp only [go_sem,seval]
  refine ⟨ribL_p [g1,g2,g3] (by simp),ribL_q [g1,g2,g3] ?_⟩
  simp only [go_sem,seval]
  refine hK _ (Aw_ret (hQ _ ?_))
  simp only [go_sem,seval]
  all_goals rfl
 ·rw [e] at hQ;clear e
  simp only [remM,ndR,hdB,List.drop_zero,List.drop_succ_cons,List.drop_nil,Nat.reduceAdd,Nat.reduceSub,Nat.reduceEqDiff,reduceIte,if_true,if_false,Nat.add_zero]
  simp only [go_sem,seval]
  refine hK _ ?_;clear hK K
  refine Aw_frz hE rfl 421 7 rfl rfl ?_
  simp only [go_sem,seval]
  refine Aw_frz hE rfl 420 7 rfl rfl ?_
  simp only [go_sem,seval]
  refine Aw_frz hE rfl 418 4 rfl rfl ?_
  simp only [go_sem,seval]
  refine Aw_st hE [4,5] [2,3,4,418,419,420,421,422,423,424] fun K hK=>?_
  simp only [go_sem,seval]
  refine ⟨ribL_p [g2,g3] (by simp),ribL_q [g2,g3] ?_⟩
  simp only [go_sem,seval]
  refine hK _ (Aw_ret (hQ _ ?_))
  simp only [go_sem,seval]
  all_goals rfl
 ·rw [e] at hQ;clear e
  simp only [remM,ndR,hdB,List.drop_zero,List.drop_succ_cons,List.drop_nil,Nat.reduceAdd,Nat.reduceSub,Nat.reduceEqDiff,reduceIte,if_true,if_false,Nat.add_zero]
  simp only [go_sem,seval]
  refine hK _ ?_;clear hK K
  refine Aw_frz hE rfl 421 7 rfl rfl ?_
  simp only [go_sem,seval]
  refine Aw_frz hE rfl 419 7 rfl rfl ?_
  simp only [go_sem,seval]
  refine Aw_frz hE rfl 418 4 rfl rfl ?_
  simp only [go_sem,seval]
  refine Aw_st hE [4,5] [2,3,4,418,419,420,421,422,423,424] fun K hK=>?_
  simp only [go_sem,seval]
  refine ⟨ribL_p [g1,g3] (by simp),ribL_q [g1,g3] ?_⟩
  simp only [go_sem,seval]
  refine hK _ (Aw_ret (hQ _ ?_))
  simp only [go_sem,seval]
  all_goals rfl
 ·rw [e] at hQ;clear e
  simp only [remM,ndR,hdB,List.drop_zero,List.drop_succ_cons,List.drop_nil,Nat.reduceAdd,Nat.reduceSub,Nat.reduceEqDiff,reduceIte,if_true,if_false,Nat.add_zero]
  simp only [go_sem,seval]
  refine hK _ ?_;clear hK K
  refine Aw_frz hE rfl 420 7 rfl rfl ?_
  simp only [go_sem,seval]
  refine Aw_frz hE rfl 419 7 rfl rfl ?_
  simp only [go_sem,seval]
  refine Aw_frz hE rfl 418 4 rfl rfl ?_
  simp only [go_sem,seval]
  refine Aw_st hE [4,5] [2,3,4,418,419,420,421,422,423,424] fun K hK=>?_
  simp only [go_sem,seval]
  refine ⟨ribL_p [g1,g2] (by simp),ribL_q [g1,g2] ?_⟩
  simp only [go_sem,seval]
  refine hK _ (Aw_ret (hQ _ ?_))
  simp only [go_sem,seval]
  all_goals rfl
theorem outRibDrop4 {h0:Int} {up:Bool} {l:List Gt} {xf xb:Int} {g1 g2 g3 g4:Gt} {r:AV} {m2:List (Nat × List AV)} (hl:l=[g1,g2,g3,g4]) (hok:ribOk ⟨h0,up,l⟩=true) (hxr:rngOk xf xb=true) (hD:dropD h0 up l xf xb r m2) :
  (∃ u,r = .dv (.ifc 89 (.ptr [.v (.string u)]))∧m2=sesL h0 up [g1,g2,g3,g4] ((4:Nat):Int)∧drR ⟨h0,up,l⟩ xf xb = .tup [.agg [iv h0,bv up,.sl none (grows [g1,g2,g3,g4])],bv false])∨
  (r = .v .nilIface∧m2=remM h0 up [g1,g2,g3,g4] 0∧drR ⟨h0,up,l⟩ xf xb = .tup [.agg [iv h0,bv up,.sl none (grows [g2,g3,g4])],bv true])∨
  (r = .v .nilIface∧m2=remM h0 up [g1,g2,g3,g4] 1∧drR ⟨h0,up,l⟩ xf xb = .tup [.agg [iv h0,bv up,.sl none (grows [g1,g3,g4])],bv true])∨
  (r = .v .nilIface∧m2=remM h0 up [g1,g2,g3,g4] 2∧drR ⟨h0,up,l⟩ xf xb = .tup [.agg [iv h0,bv up,.sl none (grows [g1,g2,g4])],bv true])∨
  (r = .v .nilIface∧m2=remM h0 up [g1,g2,g3,g4] 3∧drR ⟨h0,up,l⟩ xf xb = .tup [.agg [iv h0,bv up,.sl none (grows [g1,g2,g3])],bv true]):=by
 rcases hD with ⟨hu,⟨u,rfl⟩,rfl⟩ | ⟨hu,hs,rfl,rfl⟩
 ·have e:=drR_err hok hxr hu
  subst hl
  exact (.inl (⟨u,rfl,rfl,e⟩))
 ·have e:=drR_rem hok hxr hu hs
  have hjl:=(any_at hs).1
  generalize skN xf xb l=j at hjl e ⊢
  have hjn:j < 4:=by rw [hl] at hjl;simpa using hjl
  subst hl
  rcases (show j=0∨j=1∨j=2∨j=3 by omega) with rfl | rfl | rfl | rfl
  ·exact (.inr (.inl (⟨rfl,rfl,e⟩)))
  ·exact (.inr (.inr (.inl (⟨rfl,rfl,e⟩))))
  ·exact (.inr (.inr (.inr (.inl (⟨rfl,rfl,e⟩)))))
  ·exact (.inr (.inr (.inr (.inr ((⟨rfl,rfl,e⟩))))))
set_option maxHeartbeats 16000000 in
theorem iRibDrop_n4 (pb:Addr) {E:En} (hE:TbOk E (tbRibDrop pb)) {h0:Int} {up:Bool} {l:List Gt} {xf xb:Int} {g1 g2 g3 g4:Gt} {t:Option (Nat × Nat × TypeId)} {z:AV} {k:Nat} {Q:Exit→St→Prop} (hl:l=[g1,g2,g3,g4]) (hok:ribOk ⟨h0,up,l⟩=true) (hxr:rngOk xf xb=true) (hlen:lensG l) (hQ:∀ st,retD TT #[Go.ResultVar.cell 4 25,Go.ResultVar.tmp 5].toList false (drR ⟨h0,up,l⟩ xf xb) st→Q .ret st):Aw E (sndC (sndC (Tryz.f26.body.getD .skip))) ⟨27,[(2,.loc 2 0),(3,.loc 3 0),(4,.loc 4 0),(15,z)],[(2,[iv h0,bv up,.sl t (grows l)]),(3,[iv xf,iv xb]),(4,[iv 0,bv false,.nl])],k⟩ Q:=by
 have hl6:=(ribOk_iff.1 hok).2.1
 have hlg:∀ g ∈ l,rngOk g.r.f g.r.b=true:=fun g hg=>bG_rng ((ribOk_iff.1 hok).2.2.1 g hg)
 have hses:sesB h0 up l=[(600,[iv h0,bv up,.loc 601 0,iv ((4:Nat):Int)]),(601,gcs g1++[.loc 602 0]),(602,gcs g2++[.loc 603 0]),(603,gcs g3++[.loc 604 0]),(604,gcs g4++[.v (.pointer none)])]:=by rw [hl];rfl
 have hop:=fun (m1:List (Nat × List AV)) (K:AV→List (Nat × List AV)→Prop)=>open_postL hses m1 K
 refine Aw_st hE [3,4,6] [2,3,4,418,419,420,421,422,423,424] fun K hK=>?_
 simp only [go_sem,seval,↓hop]
 refine ⟨by decide,⟨hl6,hlen⟩,?_⟩
 refine hK _ ?_;clear hK K
 refine Aw_st hE [4,6,7] [2,3,4,418,419,420,421,422,423,424] fun K hK=>?_
 simp only [go_sem,seval]
 refine ⟨by decide,⟨h0,up,l,xf,xb,rfl,by rw [hl];rfl,hl6,hlg,hxr⟩,fun r m2 hp=>?_⟩
 have hp':dropD h0 up l xf xb r m2:=drop_cases (by rw [hl];exact hp)
 have ho:=outRibDrop4 hl hok hxr hp'
 clear hp hp' hop hses hlg hlen
 rcases ho with ⟨u,rfl,rfl,e⟩ | ⟨rfl,rfl,e⟩ | ⟨rfl,rfl,e⟩ | ⟨rfl,rfl,e⟩ | ⟨rfl,rfl,e⟩
 ·rw [e] at hQ;clear e
  simp only [go_sem,seval]
  refine hK _ ?_;clear hK K
  refine Aw_frz hE rfl 422 7 rfl rfl ?_
  simp only [go_sem,seval]
  refine Aw_frz hE rfl 421 7 rfl rfl ?_
  simp only [go_sem,seval]
  refine Aw_frz hE rfl 420 7 rfl rfl ?_
  simp only [go_sem,seval]
  refine Aw_frz hE rfl 419 7 rfl rfl ?_
  simp only [go_sem,seval]
  refine Aw_frz hE rfl 418 4 rfl rfl ?_
  simp only [go_sem,seval]
  refine Aw_st hE [4,5] [2,3,4,418,419,420,421,422,423,424] fun K hK=>?_
  simp only [go_sem,seval]
  refine ⟨ribL_p [g1,g2,g3,g4] (by simp),ribL_q [g1,g2,g3,g4] ?_⟩
  simp only [go_sem,seval]
  refine hK _ (Aw_ret (hQ _ ?_))
  simp only [go_sem,seval]
  all_goals rfl
 ·rw [e] at hQ;clear e
  simp only [remM,ndR,hdB,List.drop_zero,List.drop_succ_cons,List.drop_nil,Nat.reduceAdd,Nat.reduceSub,Nat.reduceEqDiff,reduceIte,if_true,if_false,Nat.add_zero]
  simp only [go_sem,seval]
  refine hK _ ?_;clear hK K
  refine Aw_frz hE rfl 422 7 rfl rfl ?_
  simp only [go_sem,seval]
  refine Aw_frz hE rfl 421 7 rfl rfl ?_
  simp only [go_sem,seval]
  refine Aw_frz hE rfl 420 7 rfl rfl ?_
  simp only [go_sem,seval]
  refine Aw_frz hE rfl 418 4 rfl rfl ?_
  simp only [go_sem,seval]
  refine Aw_st hE [4,5] [2,3,4,418,419,420,421,422,423,424] fun K hK=>?_
  simp only [go_sem,seval]
  refine ⟨ribL_p [g2,g3,g4] (by simp),ribL_q [g2,g3,g4] ?_⟩
  simp only [go_sem,seval]
  refine hK _ (Aw_ret (hQ _ ?_))
  simp only [go_sem,seval]
  all_goals rfl
 ·rw [e] at hQ;clear e
  simp only [remM,ndR,hdB,List.drop_zero,List.drop_succ_cons,List.drop_nil,Nat.reduceAdd,Nat.reduceSub,Nat.reduceEqDiff,reduceIte,if_true,if_false,Nat.add_zero]
  simp only [go_sem,seval]
  refine hK _ ?_;clear hK K
  refine Aw_frz hE rfl 422 7 rfl rfl ?_
  simp only [go_sem,seval]
  refine Aw_frz hE rfl 421 7 rfl rfl ?_
  simp only [go_sem,seval]
  refine Aw_frz hE rfl 419 7 rfl rfl ?_
  simp only [go_sem,seval]
  refine Aw_frz hE rfl 418 4 rfl rfl ?_
  simp only [go_sem,seval]
  refine Aw_st hE [4,5] [2,3,4,418,419,420,421,422,423,424] fun K hK=>?_
  simp only [go_sem,seval]
  refine ⟨ribL_p [g1,g3,g4] (by simp),ribL_q [g1,g3,g4] ?_⟩
  simp only [go_sem,seval]
  refine hK _ (Aw_ret (hQ _ ?_))
  simp only [go_sem,seval]
  all_goals rfl
 ·rw [e] at hQ;clear e
  simp only [remM,ndR,hdB,List.drop_zero,List.drop_succ_cons,List.drop_nil,Nat.reduceAdd,Nat.reduceSub,Nat.reduceEqDiff,reduceIte,if_true,if_false,Nat.add_zero]
  simp only [go_sem,seval]
  refine hK _ ?_;clear hK K
  refine Aw_frz hE rfl 422 7 rfl rfl ?_
  simp only [go_sem,seval]
  refine Aw_frz hE rfl 420 7 rfl rfl ?_
  simp only [go_sem,seval]
  refine Aw_frz hE rfl 419 7 rfl rfl ?_
  simp only [go_sem,seval]
  refine Aw_frz hE rfl 418 4 rfl rfl ?_
  simp only [go_sem,seval]
  refine Aw_st hE [4,5] [2,3,4,418,419,420,421,422,423,424] fun K hK=>?_
  simp only [go_sem,seval]
  refine ⟨ribL_p [g1,g2,g4] (by simp),ribL_q [g1,g2,g4] ?_⟩
  simp only [go_sem,seval]
  refine hK _ (Aw_ret (hQ _ ?_))
  simp only [go_sem,seval]
  all_goals rfl
 ·rw [e] at hQ;clear e
  simp only [remM,ndR,hdB,List.drop_zero,List.drop_succ_cons,List.drop_nil,Nat.reduceAdd,Nat.reduceSub,Nat.reduceEqDiff,reduceIte,if_true,if_false,Nat.add_zero]
  simp only [go_sem,seval]
  refine hK _ ?_;clear hK K
  refine Aw_frz hE rfl 421 7 rfl rfl ?_
  simp only [go_sem,seval]
  refine Aw_frz hE rfl 420 7 rfl rfl ?_
  simp only [go_sem,seval]
  refine Aw_frz hE rfl 419 7 rfl rfl ?_
  simp only [go_sem,seval]
  refine Aw_frz hE rfl 418 4 rfl rfl ?_
  simp only [go_sem,seval]
  refine Aw_st hE [4,5] [2,3,4,418,419,420,421,422,423,424] fun K hK=>?_
  simp only [go_sem,seval]
  refine ⟨ribL_p [g1,g2,g3] (by simp),ribL_q [g1,g2,g3] ?_⟩
  simp only [go_sem,seval]
  refine hK _ (Aw_ret (hQ _ ?_))
  simp only [go_sem,seval]
  all_goals rfl
theorem outRibDrop5 {h0:Int} {up:Bool} {l:List Gt} {xf xb:Int} {g1 g2 g3 g4 g5:Gt} {r:AV} {m2:List (Nat × List AV)} (hl:l=[g1,g2,g3,g4,g5]) (hok:ribOk ⟨h0,up,l⟩=true) (hxr:rngOk xf xb=true) (hD:dropD h0 up l xf xb r m2) :
  (∃ u,r = .dv (.ifc 89 (.ptr [.v (.string u)]))∧m2=sesL h0 up [g1,g2,g3,g4,g5] ((5:Nat):Int)∧drR ⟨h0,up,l⟩ xf xb = .tup [.agg [iv h0,bv up,.sl none (grows [g1,g2,g3,g4,g5])],bv false])∨
  (r = .v .nilIface∧m2=remM h0 up [g1,g2,g3,g4,g5] 0∧drR ⟨h0,up,l⟩ xf xb = .tup [.agg [iv h0,bv up,.sl none (grows [g2,g3,g4,g5])],bv true])∨
  (r = .v .nilIface∧m2=remM h0 up [g1,g2,g3,g4,g5] 1∧drR ⟨h0,up,l⟩ xf xb = .tup [.agg [iv h0,bv up,.sl none (grows [g1,g3,g4,g5])],bv true])∨
  (r = .v .nilIface∧m2=remM h0 up [g1,g2,g3,g4,g5] 2∧drR ⟨h0,up,l⟩ xf xb = .tup [.agg [iv h0,bv up,.sl none (grows [g1,g2,g4,g5])],bv true])∨
  (r = .v .nilIface∧m2=remM h0 up [g1,g2,g3,g4,g5] 3∧drR ⟨h0,up,l⟩ xf xb = .tup [.agg [iv h0,bv up,.sl none (grows [g1,g2,g3,g5])],bv true])∨
  (r = .v .nilIface∧m2=remM h0 up [g1,g2,g3,g4,g5] 4∧drR ⟨h0,up,l⟩ xf xb = .tup [.agg [iv h0,bv up,.sl none (grows [g1,g2,g3,g4])],bv true]):=by
 rcases hD with ⟨hu,⟨u,rfl⟩,rfl⟩ | ⟨hu,hs,rfl,rfl⟩
 ·have e:=drR_err hok hxr hu
  subst hl
  exact (.inl (⟨u,rfl,rfl,e⟩))
 ·have e:=drR_rem hok hxr hu hs
  have hjl:=(any_at hs).1
  generalize skN xf xb l=j at hjl e ⊢
  have hjn:j < 5:=by rw [hl] at hjl;simpa using hjl
  subst hl
  rcases (show j=0∨j=1∨j=2∨j=3∨j=4 by omega) with rfl | rfl | rfl | rfl | rfl
  ·exact (.inr (.inl (⟨rfl,rfl,e⟩)))
  ·exact (.inr (.inr (.inl (⟨rfl,rfl,e⟩))))
  ·exact (.inr (.inr (.inr (.inl (⟨rfl,rfl,e⟩)))))
  ·exact (.inr (.inr (.inr (.inr (.inl (⟨rfl,rfl,e⟩))))))
  ·exact (.inr (.inr (.inr (.inr (.inr ((⟨rfl,rfl,e⟩)))))))
set_option maxHeartbeats 16000000 in
theorem iRibDrop_n5 (pb:Addr) {E:En} (hE:TbOk E (tbRibDrop pb)) {h0:Int} {up:Bool} {l:List Gt} {xf xb:Int} {g1 g2 g3 g4 g5:Gt} {t:Option (Nat × Nat × TypeId)} {z:AV} {k:Nat} {Q:Exit→St→Prop} (hl:l=[g1,g2,g3,g4,g5]) (hok:ribOk ⟨h0,up,l⟩=true) (hxr:rngOk xf xb=true) (hlen:lensG l) (hQ:∀ st,retD TT #[Go.ResultVar.cell 4 25,Go.ResultVar.tmp 5].toList false (drR ⟨h0,up,l⟩ xf xb) st→Q .ret st):Aw E (sndC (sndC (Tryz.f26.body.getD .skip))) ⟨27,[(2,.loc 2 0),(3,.loc 3 0),(4,.loc 4 0),(15,z)],[(2,[iv h0,bv up,.sl t (grows l)]),(3,[iv xf,iv xb]),(4,[iv 0,bv false,.nl])],k⟩ Q:=by
 have hl6:=(ribOk_iff.1 hok).2.1
 have hlg:∀ g ∈ l,rngOk g.r.f g.r.b=true:=fun g hg=>bG_rng ((ribOk_iff.1 hok).2.2.1 g hg)
 have hses:sesB h0 up l=[(600,[iv h0,bv up,.loc 601 0,iv ((5:Nat):Int)]),(601,gcs g1++[.loc 602 0]),(602,gcs g2++[.loc 603 0]),(603,gcs g3++[.loc 604 0]),(604,gcs g4++[.loc 605 0]),(605,gcs g5++[.v (.pointer none)])]:=by rw [hl];rfl
 have hop:=fun (m1:List (Nat × List AV)) (K:AV→List (Nat × List AV)→Prop)=>open_postL hses m1 K
 refine Aw_st hE [3,4,6] [2,3,4,418,419,420,421,422,423,424] fun K hK=>?_
 simp only [go_sem,seval,↓hop]
 refine ⟨by decide,⟨hl6,hlen⟩,?_⟩
 refine hK _ ?_;clear hK K
 refine Aw_st hE [4,6,7] [2,3,4,418,419,420,421,422,423,424] fun K hK=>?_
 simp only [go_sem,seval]
 refine ⟨by decide,⟨h0,up,l,xf,xb,rfl,by rw [hl];rfl,hl6,hlg,hxr⟩,fun r m2 hp=>?_⟩
 have hp':dropD h0 up l xf xb r m2:=drop_cases (by rw [hl];exact hp)
 have ho:=outRibDrop5 hl hok hxr hp'
 clear hp hp' hop hses hlg hlen
 rcases ho with ⟨u,rfl,rfl,e⟩ | ⟨rfl,rfl,e⟩ | ⟨rfl,rfl,e⟩ | ⟨rfl,rfl,e⟩ | ⟨rfl,rfl,e⟩ | ⟨rfl,rfl,e⟩
 ·rw [e] at hQ;clear e
  simp only [go_sem,seval]
  refine hK _ ?_;clear hK K
  refine Aw_frz hE rfl 423 7 rfl rfl ?_
  simp only [go_sem,seval]
  refine Aw_frz hE rfl 422 7 rfl rfl ?_
  simp only [go_sem,seval]
  refine Aw_frz hE rfl 421 7 rfl rfl ?_
  simp only [go_sem,seval]
  refine Aw_frz hE rfl 420 7 rfl rfl ?_
  simp only [go_sem,seval]
  refine Aw_frz hE rfl 419 7 rfl rfl ?_
  simp only [go_sem,seval]
  refine Aw_frz hE rfl 418 4 rfl rfl ?_
  simp only [go_sem,seval]
  refine Aw_st hE [4,5] [2,3,4,418,419,420,421,422,423,424] fun K hK=>?_
  simp only [go_sem,seval]
  refine ⟨ribL_p [g1,g2,g3,g4,g5] (by simp),ribL_q [g1,g2,g3,g4,g5] ?_⟩
  simp only [go_sem,seval]
  refine hK _ (Aw_ret (hQ _ ?_))
  simp only [go_sem,seval]
  all_goals rfl
 ·rw [e] at hQ;clear e
  simp only [remM,ndR,hdB,List.drop_zero,List.drop_succ_cons,List.drop_nil,Nat.reduceAdd,Nat.reduceSub,Nat.reduceEqDiff,reduceIte,if_true,if_false,Nat.add_zero]
  simp only [go_sem,seval]
  refine hK _ ?_;clear hK K
  refine Aw_frz hE rfl 423 7 rfl rfl ?_
  simp only [go_sem,seval]
  refine Aw_frz hE rfl 422 7 rfl rfl ?_
  simp only [go_sem,seval]
  refine Aw_frz hE rfl 421 7 rfl rfl ?_
  simp only [go_sem,seval]
  refine Aw_frz hE rfl 420 7 rfl rfl ?_
  simp only [go_sem,seval]
  refine Aw_frz hE rfl 418 4 rfl rfl ?_
  simp only [go_sem,seval]
  refine Aw_st hE [4,5] [2,3,4,418,419,420,421,422,423,424] fun K hK=>?_
  simp only [go_sem,seval]
  refine ⟨ribL_p [g2,g3,g4,g5] (by simp),ribL_q [g2,g3,g4,g5] ?_⟩
  simp only [go_sem,seval]
  refine hK _ (Aw_ret (hQ _ ?_))
  simp only [go_sem,seval]
  all_goals rfl
 ·rw [e] at hQ;clear e
  simp only [remM,ndR,hdB,List.drop_zero,List.drop_succ_cons,List.drop_nil,Nat.reduceAdd,Nat.reduceSub,Nat.reduceEqDiff,reduceIte,if_true,if_false,Nat.add_zero]
  simp only [go_sem,seval]
  refine hK _ ?_;clear hK K
  refine Aw_frz hE rfl 423 7 rfl rfl ?_
  simp only [go_sem,seval]
  refine Aw_frz hE rfl 422 7 rfl rfl ?_
  simp only [go_sem,seval]
  refine Aw_frz hE rfl 421 7 rfl rfl ?_
  simp only [go_sem,seval]
  refine Aw_frz hE rfl 419 7 rfl rfl ?_
  simp only [go_sem,seval]
  refine Aw_frz hE rfl 418 4 rfl rfl ?_
  simp only [go_sem,seval]
  refine Aw_st hE [4,5] [2,3,4,418,419,420,421,422,423,424] fun K hK=>?_
  simp only [go_sem,seval]
  refine ⟨ribL_p [g1,g3,g4,g5] (by simp),ribL_q [g1,g3,g4,g5] ?_⟩
  simp only [go_sem,seval]
  refine hK _ (Aw_ret (hQ _ ?_))
  simp only [go_sem,seval]
  all_goals rfl
 ·rw [e] at hQ;clear e
  simp only [remM,ndR,hdB,List.drop_zero,List.drop_succ_cons,List.drop_nil,Nat.reduceAdd,Nat.reduceSub,Nat.reduceEqDiff,reduceIte,if_true,if_false,Nat.add_zero]
  simp only [go_sem,seval]
  refine hK _ ?_;clear hK K
  refine Aw_frz hE rfl 423 7 rfl rfl ?_
  simp only [go_sem,seval]
  refine Aw_frz hE rfl 422 7 rfl rfl ?_
  simp only [go_sem,seval]
  refine Aw_frz hE rfl 420 7 rfl rfl ?_
  simp only [go_sem,seval]
  refine Aw_frz hE rfl 419 7 rfl rfl ?_
  simp only [go_sem,seval]
  refine Aw_frz hE rfl 418 4 rfl rfl ?_
  simp only [go_sem,seval]
  refine Aw_st hE [4,5] [2,3,4,418,419,420,421,422,423,424] fun K hK=>?_
  simp only [go_sem,seval]
  refine ⟨ribL_p [g1,g2,g4,g5] (by simp),ribL_q [g1,g2,g4,g5] ?_⟩
  simp only [go_sem,seval]
  refine hK _ (Aw_ret (hQ _ ?_))
  simp only [go_sem,seval]
  all_goals rfl
 ·rw [e] at hQ;clear e
  simp only [remM,ndR,hdB,List.drop_zero,List.drop_succ_cons,List.drop_nil,Nat.reduceAdd,Nat.reduceSub,Nat.reduceEqDiff,reduceIte,if_true,if_false,Nat.add_zero]
  simp only [go_sem,seval]
  refine hK _ ?_;clear hK K
  refine Aw_frz hE rfl 423 7 rfl rfl ?_
  simp only [go_sem,seval]
  refine Aw_frz hE rfl 421 7 rfl rfl ?_
  simp only [go_sem,seval]
  refine Aw_frz hE rfl 420 7 rfl rfl ?_
  simp only [go_sem,seval]
  refine Aw_frz hE rfl 419 7 rfl rfl ?_
  simp only [go_sem,seval]
  refine Aw_frz hE rfl 418 4 rfl rfl ?_
  simp only [go_sem,seval]
  refine Aw_st hE [4,5] [2,3,4,418,419,420,421,422,423,424] fun K hK=>?_
  simp only [go_sem,seval]
  refine ⟨ribL_p [g1,g2,g3,g5] (by simp),ribL_q [g1,g2,g3,g5] ?_⟩
  simp only [go_sem,seval]
  refine hK _ (Aw_ret (hQ _ ?_))
  simp only [go_sem,seval]
  all_goals rfl
 ·rw [e] at hQ;clear e
  simp only [remM,ndR,hdB,List.drop_zero,List.drop_succ_cons,List.drop_nil,Nat.reduceAdd,Nat.reduceSub,Nat.reduceEqDiff,reduceIte,if_true,if_false,Nat.add_zero]
  simp only [go_sem,seval]
  refine hK _ ?_;clear hK K
  refine Aw_frz hE rfl 422 7 rfl rfl ?_
  simp only [go_sem,seval]
  refine Aw_frz hE rfl 421 7 rfl rfl ?_
  simp only [go_sem,seval]
  refine Aw_frz hE rfl 420 7 rfl rfl ?_
  simp only [go_sem,seval]
  refine Aw_frz hE rfl 419 7 rfl rfl ?_
  simp only [go_sem,seval]
  refine Aw_frz hE rfl 418 4 rfl rfl ?_
  simp only [go_sem,seval]
  refine Aw_st hE [4,5] [2,3,4,418,419,420,421,422,423,424] fun K hK=>?_
  simp only [go_sem,seval]
  refine ⟨ribL_p [g1,g2,g3,g4] (by simp),ribL_q [g1,g2,g3,g4] ?_⟩
  simp only [go_sem,seval]
  refine hK _ (Aw_ret (hQ _ ?_))
  simp only [go_sem,seval]
  all_goals rfl
theorem outRibDrop6 {h0:Int} {up:Bool} {l:List Gt} {xf xb:Int} {g1 g2 g3 g4 g5 g6:Gt} {r:AV} {m2:List (Nat × List AV)} (hl:l=[g1,g2,g3,g4,g5,g6]) (hok:ribOk ⟨h0,up,l⟩=true) (hxr:rngOk xf xb=true) (hD:dropD h0 up l xf xb r m2) :
  (∃ u,r = .dv (.ifc 89 (.ptr [.v (.string u)]))∧m2=sesL h0 up [g1,g2,g3,g4,g5,g6] ((6:Nat):Int)∧drR ⟨h0,up,l⟩ xf xb = .tup [.agg [iv h0,bv up,.sl none (grows [g1,g2,g3,g4,g5,g6])],bv false])∨
  (r = .v .nilIface∧m2=remM h0 up [g1,g2,g3,g4,g5,g6] 0∧drR ⟨h0,up,l⟩ xf xb = .tup [.agg [iv h0,bv up,.sl none (grows [g2,g3,g4,g5,g6])],bv true])∨
  (r = .v .nilIface∧m2=remM h0 up [g1,g2,g3,g4,g5,g6] 1∧drR ⟨h0,up,l⟩ xf xb = .tup [.agg [iv h0,bv up,.sl none (grows [g1,g3,g4,g5,g6])],bv true])∨
  (r = .v .nilIface∧m2=remM h0 up [g1,g2,g3,g4,g5,g6] 2∧drR ⟨h0,up,l⟩ xf xb = .tup [.agg [iv h0,bv up,.sl none (grows [g1,g2,g4,g5,g6])],bv true])∨
  (r = .v .nilIface∧m2=remM h0 up [g1,g2,g3,g4,g5,g6] 3∧drR ⟨h0,up,l⟩ xf xb = .tup [.agg [iv h0,bv up,.sl none (grows [g1,g2,g3,g5,g6])],bv true])∨
  (r = .v .nilIface∧m2=remM h0 up [g1,g2,g3,g4,g5,g6] 4∧drR ⟨h0,up,l⟩ xf xb = .tup [.agg [iv h0,bv up,.sl none (grows [g1,g2,g3,g4,g6])],bv true])∨
  (r = .v .nilIface∧m2=remM h0 up [g1,g2,g3,g4,g5,g6] 5∧drR ⟨h0,up,l⟩ xf xb = .tup [.agg [iv h0,bv up,.sl none (grows [g1,g2,g3,g4,g5])],bv true]):=by
 rcases hD with ⟨hu,⟨u,rfl⟩,rfl⟩ | ⟨hu,hs,rfl,rfl⟩
 ·have e:=drR_err hok hxr hu
  subst hl
  exact (.inl (⟨u,rfl,rfl,e⟩))
 ·have e:=drR_rem hok hxr hu hs
  have hjl:=(any_at hs).1
  generalize skN xf xb l=j at hjl e ⊢
  have hjn:j < 6:=by rw [hl] at hjl;simpa using hjl
  subst hl
  rcases (show j=0∨j=1∨j=2∨j=3∨j=4∨j=5 by omega) with rfl | rfl | rfl | rfl | rfl | rfl
  ·exact (.inr (.inl (⟨rfl,rfl,e⟩)))
  ·exact (.inr (.inr (.inl (⟨rfl,rfl,e⟩))))
  ·exact (.inr (.inr (.inr (.inl (⟨rfl,rfl,e⟩)))))
  ·exact (.inr (.inr (.inr (.inr (.inl (⟨rfl,rfl,e⟩))))))
  ·exact (.inr (.inr (.inr (.inr (.inr (.inl (⟨rfl,rfl,e⟩)))))))
  ·exact (.inr (.inr (.inr (.inr (.inr (.inr ((⟨rfl,rfl,e⟩))))))))
set_option maxHeartbeats 16000000 in
theorem iRibDrop_n6 (pb:Addr) {E:En} (hE:TbOk E (tbRibDrop pb)) {h0:Int} {up:Bool} {l:List Gt} {xf xb:Int} {g1 g2 g3 g4 g5 g6:Gt} {t:Option (Nat × Nat × TypeId)} {z:AV} {k:Nat} {Q:Exit→St→Prop} (hl:l=[g1,g2,g3,g4,g5,g6]) (hok:ribOk ⟨h0,up,l⟩=true) (hxr:rngOk xf xb=true) (hlen:lensG l) (hQ:∀ st,retD TT #[Go.ResultVar.cell 4 25,Go.ResultVar.tmp 5].toList false (drR ⟨h0,up,l⟩ xf xb) st→Q .ret st):Aw E (sndC (sndC (Tryz.f26.body.getD .skip))) ⟨27,[(2,.loc 2 0),(3,.loc 3 0),(4,.loc 4 0),(15,z)],[(2,[iv h0,bv up,.sl t (grows l)]),(3,[iv xf,iv xb]),(4,[iv 0,bv false,.nl])],k⟩ Q:=by
 have hl6:=(ribOk_iff.1 hok).2.1
 have hlg:∀ g ∈ l,rngOk g.r.f g.r.b=true:=fun g hg=>bG_rng ((ribOk_iff.1 hok).2.2.1 g hg)
 have hses:sesB h0 up l=[(600,[iv h0,bv up,.loc 601 0,iv ((6:Nat):Int)]),(601,gcs g1++[.loc 602 0]),(602,gcs g2++[.loc 603 0]),(603,gcs g3++[.loc 604 0]),(604,gcs g4++[.loc 605 0]),(605,gcs g5++[.loc 606 0]),(606,gcs g6++[.v (.pointer none)])]:=by rw [hl];rfl
 have hop:=fun (m1:List (Nat × List AV)) (K:AV→List (Nat × List AV)→Prop)=>open_postL hses m1 K
 refine Aw_st hE [3,4,6] [2,3,4,418,419,420,421,422,423,424] fun K hK=>?_
 simp only [go_sem,seval,↓hop]
 refine ⟨by decide,⟨hl6,hlen⟩,?_⟩
 refine hK _ ?_;clear hK K
 refine Aw_st hE [4,6,7] [2,3,4,418,419,420,421,422,423,424] fun K hK=>?_
 simp only [go_sem,seval]
 refine ⟨by decide,⟨h0,up,l,xf,xb,rfl,by rw [hl];rfl,hl6,hlg,hxr⟩,fun r m2 hp=>?_⟩
 have hp':dropD h0 up l xf xb r m2:=drop_cases (by rw [hl];exact hp)
 have ho:=outRibDrop6 hl hok hxr hp'
 clear hp hp' hop hses hlg hlen
 rcases ho with ⟨u,rfl,rfl,e⟩ | ⟨rfl,rfl,e⟩ | ⟨rfl,rfl,e⟩ | ⟨rfl,rfl,e⟩ | ⟨rfl,rfl,e⟩ | ⟨rfl,rfl,e⟩ | ⟨rfl,rfl,e⟩
 ·rw [e] at hQ;clear e
  simp only [go_sem,seval]
  refine hK _ ?_;clear hK K
  refine Aw_frz hE rfl 424 7 rfl rfl ?_
  simp only [go_sem,seval]
  refine Aw_frz hE rfl 423 7 rfl rfl ?_
  simp only [go_sem,seval]
  refine Aw_frz hE rfl 422 7 rfl rfl ?_
  simp only [go_sem,seval]
  refine Aw_frz hE rfl 421 7 rfl rfl ?_
  simp only [go_sem,seval]
  refine Aw_frz hE rfl 420 7 rfl rfl ?_
  simp only [go_sem,seval]
  refine Aw_frz hE rfl 419 7 rfl rfl ?_
  simp only [go_sem,seval]
  refine Aw_frz hE rfl 418 4 rfl rfl ?_
  simp only [go_sem,seval]
  refine Aw_st hE [4,5] [2,3,4,418,419,420,421,422,423,424] fun K hK=>?_
  simp only [go_sem,seval]
  refine ⟨ribL_p [g1,g2,g3,g4,g5,g6] (by simp),ribL_q [g1,g2,g3,g4,g5,g6] ?_⟩
  simp only [go_sem,seval]
  refine hK _ (Aw_ret (hQ _ ?_))
  simp only [go_sem,seval]
  all_goals rfl
 ·rw [e] at hQ;clear e
  simp only [remM,ndR,hdB,List.drop_zero,List.drop_succ_cons,List.drop_nil,Nat.reduceAdd,Nat.reduceSub,Nat.reduceEqDiff,reduceIte,if_true,if_false,Nat.add_zero]
  simp only [go_sem,seval]
  refine hK _ ?_;clear hK K
  refine Aw_frz hE rfl 424 7 rfl rfl ?_
  simp only [go_sem,seval]
  refine Aw_frz hE rfl 423 7 rfl rfl ?_
  simp only [go_sem,seval]
  refine Aw_frz hE rfl 422 7 rfl rfl ?_
  simp only [go_sem,seval]
  refine Aw_frz hE rfl 421 7 rfl rfl ?_
  simp only [go_sem,seval]
  refine Aw_frz hE rfl 420 7 rfl rfl ?_
  simp only [go_sem,seval]
  refine Aw_frz hE rfl 418 4 rfl rfl ?_
  simp only [go_sem,seval]
  refine Aw_st hE [4,5] [2,3,4,418,419,420,421,422,423,424] fun K hK=>?_
  simp only [go_sem,seval]
  refine ⟨ribL_p [g2,g3,g4,g5,g6] (by simp),ribL_q [g2,g3,g4,g5,g6] ?_⟩
  simp only [go_sem,seval]
  refine hK _ (Aw_ret (hQ _ ?_))
  simp only [go_sem,seval]
  all_goals rfl
 ·rw [e] at hQ;clear e
  simp only [remM,ndR,hdB,List.drop_zero,List.drop_succ_cons,List.drop_nil,Nat.reduceAdd,Nat.reduceSub,Nat.reduceEqDiff,reduceIte,if_true,if_false,Nat.add_zero]
  simp only [go_sem,seval]
  refine hK _ ?_;clear hK K
  refine Aw_frz hE rfl 424 7 rfl rfl ?_
  simp only [go_sem,seval]
  refine Aw_frz hE rfl 423 7 rfl rfl ?_
  simp only [go_sem,seval]
  refine Aw_frz hE rfl 422 7 rfl rfl ?_
  simp only [go_sem,seval]
  refine Aw_frz hE rfl 421 7 rfl rfl ?_
  simp only [go_sem,seval]
  refine Aw_frz hE rfl 419 7 rfl rfl ?_
  simp only [go_sem,seval]
  refine Aw_frz hE rfl 418 4 rfl rfl ?_
  simp only [go_sem,seval]
  refine Aw_st hE [4,5] [2,3,4,418,419,420,421,422,423,424] fun K hK=>?_
  simp only [go_sem,seval]
  refine ⟨ribL_p [g1,g3,g4,g5,g6] (by simp),ribL_q [g1,g3,g4,g5,g6] ?_⟩
  simp only [go_sem,seval]
  refine hK _ (Aw_ret (hQ _ ?_))
  simp only [go_sem,seval]
  all_goals rfl
 ·rw [e] at hQ;clear e
  simp only [remM,ndR,hdB,List.drop_zero,List.drop_succ_cons,List.drop_nil,Nat.reduceAdd,Nat.reduceSub,Nat.reduceEqDiff,reduceIte,if_true,if_false,Nat.add_zero]
  simp only [go_sem,seval]
  refine hK _ ?_;clear hK K
  refine Aw_frz hE rfl 424 7 rfl rfl ?_
  simp only [go_sem,seval]
  refine Aw_frz hE rfl 423 7 rfl rfl ?_
  simp only [go_sem,seval]
  refine Aw_frz hE rfl 422 7 rfl rfl ?_
  simp only [go_sem,seval]
  refine Aw_frz hE rfl 420 7 rfl rfl ?_
  simp only [go_sem,seval]
  refine Aw_frz hE rfl 419 7 rfl rfl ?_
  simp only [go_sem,seval]
  refine Aw_frz hE rfl 418 4 rfl rfl ?_
  simp only [go_sem,seval]
  refine Aw_st hE [4,5] [2,3,4,418,419,420,421,422,423,424] fun K hK=>?_
  simp only [go_sem,seval]
  refine ⟨ribL_p [g1,g2,g4,g5,g6] (by simp),ribL_q [g1,g2,g4,g5,g6] ?_⟩
  simp only [go_sem,seval]
  refine hK _ (Aw_ret (hQ _ ?_))
  simp only [go_sem,seval]
  all_goals rfl
 ·rw [e] at hQ;clear e
  simp only [remM,ndR,hdB,List.drop_zero,List.drop_succ_cons,List.drop_nil,Nat.reduceAdd,Nat.reduceSub,Nat.reduceEqDiff,reduceIte,if_true,if_false,Nat.add_zero]
  simp only [go_sem,seval]
  refine hK _ ?_;clear hK K
  refine Aw_frz hE rfl 424 7 rfl rfl ?_
  simp only [go_sem,seval]
  refine Aw_frz hE rfl 423 7 rfl rfl ?_
  simp only [go_sem,seval]
  refine Aw_frz hE rfl 421 7 rfl rfl ?_
  simp only [go_sem,seval]
  refine Aw_frz hE rfl 420 7 rfl rfl ?_
  simp only [go_sem,seval]
  refine Aw_frz hE rfl 419 7 rfl rfl ?_
  simp only [go_sem,seval]
  refine Aw_frz hE rfl 418 4 rfl rfl ?_
  simp only [go_sem,seval]
  refine Aw_st hE [4,5] [2,3,4,418,419,420,421,422,423,424] fun K hK=>?_
  simp only [go_sem,seval]
  refine ⟨ribL_p [g1,g2,g3,g5,g6] (by simp),ribL_q [g1,g2,g3,g5,g6] ?_⟩
  simp only [go_sem,seval]
  refine hK _ (Aw_ret (hQ _ ?_))
  simp only [go_sem,seval]
  all_goals rfl
 ·rw [e] at hQ;clear e
  simp only [remM,ndR,hdB,List.drop_zero,List.drop_succ_cons,List.drop_nil,Nat.reduceAdd,Nat.reduceSub,Nat.reduceEqDiff,reduceIte,if_true,if_false,Nat.add_zero]
  simp only [go_sem,seval]
  refine hK _ ?_;clear hK K
  refine Aw_frz hE rfl 424 7 rfl rfl ?_
  simp only [go_sem,seval]
  refine Aw_frz hE rfl 422 7 rfl rfl ?_
  simp only [go_sem,seval]
  refine Aw_frz hE rfl 421 7 rfl rfl ?_
  simp only [go_sem,seval]
  refine Aw_frz hE rfl 420 7 rfl rfl ?_
  simp only [go_sem,seval]
  refine Aw_frz hE rfl 419 7 rfl rfl ?_
  simp only [go_sem,seval]
  refine Aw_frz hE rfl 418 4 rfl rfl ?_
  simp only [go_sem,seval]
  refine Aw_st hE [4,5] [2,3,4,418,419,420,421,422,423,424] fun K hK=>?_
  simp only [go_sem,seval]
  refine ⟨ribL_p [g1,g2,g3,g4,g6] (by simp),ribL_q [g1,g2,g3,g4,g6] ?_⟩
  simp only [go_sem,seval]
  refine hK _ (Aw_ret (hQ _ ?_))
  simp only [go_sem,seval]
  all_goals rfl
 ·rw [e] at hQ;clear e
  simp only [remM,ndR,hdB,List.drop_zero,List.drop_succ_cons,List.drop_nil,Nat.reduceAdd,Nat.reduceSub,Nat.reduceEqDiff,reduceIte,if_true,if_false,Nat.add_zero]
  simp only [go_sem,seval]
  refine hK _ ?_;clear hK K
  refine Aw_frz hE rfl 423 7 rfl rfl ?_
  simp only [go_sem,seval]
  refine Aw_frz hE rfl 422 7 rfl rfl ?_
  simp only [go_sem,seval]
  refine Aw_frz hE rfl 421 7 rfl rfl ?_
  simp only [go_sem,seval]
  refine Aw_frz hE rfl 420 7 rfl rfl ?_
  simp only [go_sem,seval]
  refine Aw_frz hE rfl 419 7 rfl rfl ?_
  simp only [go_sem,seval]
  refine Aw_frz hE rfl 418 4 rfl rfl ?_
  simp only [go_sem,seval]
  refine Aw_st hE [4,5] [2,3,4,418,419,420,421,422,423,424] fun K hK=>?_
  simp only [go_sem,seval]
  refine ⟨ribL_p [g1,g2,g3,g4,g5] (by simp),ribL_q [g1,g2,g3,g4,g5] ?_⟩
  simp only [go_sem,seval]
  refine hK _ (Aw_ret (hQ _ ?_))
  simp only [go_sem,seval]
  all_goals rfl
set_option maxHeartbeats 16000000 in
theorem iRibDrop_ok (pb:Addr):Fine Tryz.prog 26 (dRibDropI pb).con:=by
 refine fine_detX [] gl_nil [] ms_nil [(42,(cOpen,[],[(600,400),(601,401),(602,402),(603,403),(604,404),(605,405),(606,406)])),(58,(cDropS,[(1000,1000)],[]))] (mm_cons open_ok (by decide) (mm_cons drop_ok (by decide) mm_nil (wh_mm pb)) (wh_mm pb)) [] [] ex_nil (T:=TT) Tryz.func26 rfl Tryz.ntmps26 (by rw [Tryz.results26]) rfl rfl tt (gs_cons ribL_ok gs_nil) (ds_cons (iRibOk_ok pb) (ds_cons forbidden_ok (ds_cons rangeOk_ok ds_nil) (whh_inh pb)) (whp_inh pb)) ?_
 intro args c r h hc
 simp only [dRibDropI,gRibDrop] at h
 split at h
 rotate_left
 ·cases h
 split at h
 rotate_left
 ·cases h
 rename_i h0 up t els xf xb _ l hl1
 obtain rfl:=gotsL_eq hl1
 obtain ⟨rfl,rfl⟩:=Prod.mk.inj (Option.some.inj h)
 obtain ⟨hll,hlen⟩:=hc
 refine ⟨by simp,fun k E hE Q hQ=>?_⟩
 refine Aw_st hE [2,3,4] [2,3,4] fun K hK=>?_
 simp only [go_sem,seval]
 refine hK _ ?_;clear hK K
 refine Aw_sq fun B1 hB1 hR1 hX1=>?_
 refine Aw_st hE [2,3,4,15] [2,3,4] fun K hK=>?_
 simp only [go_sem,seval]
 have hfal:(ribOk ⟨h0,up,l⟩ && rngOk xf xb)=false→drR ⟨h0,up,l⟩ xf xb = .tup [.agg [iv 0,bv false,.sl none (grows [])],bv false]:=fun e=>by
  simp only [drR,e,Bool.false_eq_true,if_false]
 refine ⟨⟨by omega,hlen⟩,fun hg3=>?_,fun hg3=>?_⟩
 ·have hok:ribOk ⟨h0,up,l⟩=false:=by simpa using hg3
  rw [hfal (by rw [hok];rfl)] at hQ
  refine hK _ (Aw_yes rfl ?_)
  refine Aw_st hE [4,5] [2,3,4] fun K hK=>?_
  simp only [go_sem,seval]
  refine hK _ (Aw_ret (hR1 _ (hQ _ ?_)))
  simp only [go_sem,seval]
  all_goals rfl
 have hok:ribOk ⟨h0,up,l⟩=true:=by simpa using hg3
 refine hK _ (Aw_cond rfl (fun hc5=>?_) (fun hc5=>?_))
 ·have hq:rngOk xf xb=false:=by simpa using hc5
  rw [hfal (by rw [hq];simp)] at hQ
  refine Aw_st hE [4,5] [2,3,4] fun K hK=>?_
  simp only [go_sem,seval]
  refine hK _ (Aw_ret (hR1 _ (hQ _ ?_)))
  simp only [go_sem,seval]
  all_goals rfl
 have hxr:rngOk xf xb=true:=by simpa using hc5
 refine Aw_skip (hB1 _ ?_)
 have hl6:=(ribOk_iff.1 hok).2.1
 rcases six hl6 with hl | ⟨g1,hl⟩ | ⟨g1,g2,hl⟩ | ⟨g1,g2,g3,hl⟩ | ⟨g1,g2,g3,g4,hl⟩ | ⟨g1,g2,g3,g4,g5,hl⟩ | ⟨g1,g2,g3,g4,g5,g6,hl⟩
 ·exact iRibDrop_n0 pb hE hl hok hxr hlen hQ
 ·exact iRibDrop_n1 pb hE hl hok hxr hlen hQ
 ·exact iRibDrop_n2 pb hE hl hok hxr hlen hQ
 ·exact iRibDrop_n3 pb hE hl hok hxr hlen hQ
 ·exact iRibDrop_n4 pb hE hl hok hxr hlen hQ
 ·exact iRibDrop_n5 pb hE hl hok hxr hlen hQ
 ·exact iRibDrop_n6 pb hE hl hok hxr hlen hQ
end Go.Proofs.W
end
section
namespace Go.Proofs.W
open Go Go.Eng Go.RowKit
set_option linter.unusedSimpArgs false
set_option maxRecDepth 100000
theorem grows_erase (l:List Gt) (i:Nat):(grows l).take i++(grows l).drop (i + 1)=grows (l.eraseIdx i):=by
 rw [List.eraseIdx_eq_take_drop_succ]
 simp [grows,List.map_take,List.map_drop]
set_option maxHeartbeats 4000000 in
theorem sRibDrop_ok:Fine Tryz.prog 25 dRibDrop.con:=by
 refine fine_detX [] gl_nil [] ms_nil [(37,(cL21,[],[(2,100),(9,200),(35,300)]))] (mm_cons l21Copy_ok (by decide) mm_nil) [] [] ex_nil (T:=TT) Tryz.func25 rfl Tryz.ntmps25 (by rw [Tryz.results25]) rfl rfl tt gs_nil (ds_cons sRibOk_ok (ds_cons sRangeOk_ok (ds_cons l21At_ok ds_nil))) ?_
 intro args c r h hc
 simp only [dRibDrop,gRibDrop] at h
 split at h
 rotate_left
 ·cases h
 split at h
 rotate_left
 ·cases h
 rename_i h0 up t els xf xb _ l hl1
 obtain rfl:=gotsL_eq hl1
 obtain ⟨rfl,rfl⟩:=Prod.mk.inj (Option.some.inj h)
 obtain ⟨hll,hlen⟩:=hc
 refine ⟨by simp,fun k E hE Q hQ=>?_⟩
 refine Aw_st hE [2,3,4] [2,3,4,6,218,318] fun K hK=>?_
 simp only [go_sem,seval]
 refine hK _ ?_;clear hK K
 refine Aw_sq fun B1 hB1 hR1 hX1=>?_
 refine Aw_st hE [2,3,4,15] [2,3,4,6,218,318] fun K hK=>?_
 simp only [go_sem,seval]
 have hfal:(ribOk ⟨h0,up,l⟩ && rngOk xf xb)=false→drR ⟨h0,up,l⟩ xf xb = .tup [.agg [iv 0,bv false,.sl none (grows [])],bv false]:=fun e=>by
  simp only [drR,e,Bool.false_eq_true,if_false]
 refine ⟨⟨by omega,hlen⟩,fun hg3=>?_,fun hg3=>?_⟩
 ·have hok:ribOk ⟨h0,up,l⟩=false:=by simpa using hg3
  rw [hfal (by rw [hok];rfl)] at hQ
  refine hK _ (Aw_yes rfl ?_)
  refine Aw_st hE [4,5] [2,3,4,6,218,318] fun K hK=>?_
  simp only [go_sem,seval]
  refine hK _ (Aw_ret (hR1 _ (hQ _ ?_)))
  simp only [go_sem,seval]
  all_goals rfl
 have hok:ribOk ⟨h0,up,l⟩=true:=by simpa using hg3
 refine hK _ (Aw_cond rfl (fun hc5=>?_) (fun hc5=>?_))
 ·have hq:rngOk xf xb=false:=by simpa using hc5
  rw [hfal (by rw [hq];simp)] at hQ
  refine Aw_st hE [4,5] [2,3,4,6,218,318] fun K hK=>?_
  simp only [go_sem,seval]
  refine hK _ (Aw_ret (hR1 _ (hQ _ ?_)))
  simp only [go_sem,seval]
  all_goals rfl
 have hxr:rngOk xf xb=true:=by simpa using hc5
 have hdr:drR ⟨h0,up,l⟩ xf xb=(if !up || decide (atG l xf xb < 0) then .tup [.agg [iv h0,bv up,.sl none (grows l)],bv false] else .tup [.agg [iv h0,bv up,.sl none (grows (l.eraseIdx (atG l xf xb).toNat))],bv true]):=by
  unfold drR;rw [if_pos (by simp [hok,hxr])]
 clear hfal
 refine Aw_skip (hB1 _ ?_)
 refine Aw_st hE [2,3,4,6] [2,3,4,6,218,318] fun K hK=>?_
 simp only [go_sem,seval,cGs_mvn,cGs_strip]
 refine ⟨by decide,⟨hll,hlen⟩,fun hl0=>?_,fun hl0 cap hcap=>?_⟩
 ·have hat:atG l xf xb = -1:=by subst hl0;rfl
  subst hl0
  refine hK _ ?_;clear hK K
  refine Aw_fG hE rfl 218 [] rfl ?_
  simp only [go_sem,seval,show gD []=[] from rfl,chunks,List.take_nil,List.length_nil,Nat.zero_le]
  refine Aw_st hE [2,4,6,7] [2,3,4,6,218,318] fun K hK=>?_
  simp only [go_sem,seval,show gotsL []=some [] from rfl,hat]
  repeat refine ⟨by first|omega|(and_intros<;>first|omega|exact rows_row _|decide|(simp<;>omega))|fail,?_⟩
  refine hK _ ?_;clear hK K
  refine Aw_sq fun B6 hB6 hR6 hX6=>?_
  rw [hdr,if_pos (by rw [hat];simp)] at hQ
  refine Aw_st hE [4,6,7,28] [2,3,4,6,218,318] fun K hK=>?_
  simp only [go_sem,seval,hat]
  refine ⟨fun hg8=>?_,fun hg8=>?_⟩
  ·refine hK _ (Aw_yes rfl ?_)
   refine Aw_st hE [4,5] [2,3,4,6,218,318] fun K hK=>?_
   simp only [go_sem,seval]
   refine hK _ (Aw_ret (hR6 _ (hQ _ ?_)))
   simp only [go_sem,seval]
   all_goals rfl
  ·repeat refine ⟨by first|omega|(and_intros<;>first|omega|exact rows_row _|decide|(simp<;>omega))|fail,?_⟩
   refine hK _ (Aw_yes rfl ?_)
   refine Aw_st hE [4,5] [2,3,4,6,218,318] fun K hK=>?_
   simp only [go_sem,seval]
   refine hK _ (Aw_ret (hR6 _ (hQ _ ?_)))
   simp only [go_sem,seval]
   all_goals rfl
 ·refine hK _ ?_;clear hK K
  refine Aw_fG hE rfl 318 l rfl ?_
  simp only [go_sem,seval,gD_len,frz_grows,cGs_nt,cGs_stripF]
  refine Aw_st hE [2,4,6,7] [2,3,4,6,218,318] fun K hK=>?_
  simp only [go_sem,seval]
  refine ⟨by omega,?_⟩
  refine hK _ ?_;clear hK K
  refine Aw_sq fun B6 hB6 hR6 hX6=>?_
  refine Aw_st hE [4,6,7,28] [2,3,4,6,218,318] fun K hK=>?_
  simp only [go_sem,seval]
  refine ⟨fun hg8=>?_,fun hg8=>?_⟩
  ·rw [hdr,if_pos (by rw [hg8];rfl)] at hQ
   refine hK _ (Aw_yes rfl ?_)
   refine Aw_st hE [4,5] [2,3,4,6,218,318] fun K hK=>?_
   simp only [go_sem,seval]
   refine hK _ (Aw_ret (hR6 _ (hQ _ ?_)))
   simp only [go_sem,seval]
   all_goals rfl
  ·repeat refine ⟨by first|omega|(and_intros<;>first|omega|exact rows_row _|decide|(simp<;>omega))|fail,?_⟩
   refine hK _ (Aw_cond rfl (fun hc9=>?_) (fun hc9=>?_))
   ·have ha:atG l xf xb < 0:=by simpa using hc9
    rw [hdr,if_pos (by simp [ha])] at hQ
    refine Aw_st hE [4,5] [2,3,4,6,218,318] fun K hK=>?_
    simp only [go_sem,seval]
    refine hK _ (Aw_ret (hR6 _ (hQ _ ?_)))
    simp only [go_sem,seval]
    all_goals rfl
   ·have ha:¬ atG l xf xb < 0:=by simpa using hc9
    rw [hdr,if_neg (by simp [hg8,ha])] at hQ
    refine Aw_skip (hB6 _ ?_)
    obtain ⟨i,hi,e,-,-⟩:=atG_at (show 0≤atG l xf xb by omega)
    rw [e,Int.toNat_natCast] at hQ
    rw [e]
    have r1:(∀ row ∈ grows l,row.length=6)=True:=eq_true (grows_row l)
    have r2:(∀ row ∈ (grows l).take i,row.length=6)=True:=eq_true fun row h=>grows_row l row (List.mem_of_mem_take h)
    have r3:(∀ row ∈ (grows l).take i++(grows l).drop (i + 1),row.length=6)=True:=eq_true (by rw [grows_erase];exact grows_row _)
    have e1:((i:Int) + 1).toNat=i + 1:=by omega
    have e2:List.take l.length (grows l)=grows l:=List.take_of_length_le (by rw [grows_len];exact Nat.le_refl _)
    apply (fun F0 F1 F2 F3 F4 F5 F6 F7 F8 F9 F10 F11 F12 F13 F14 F15 F16 F17 F18 F19 F20 F21 F22 F23 F24 F25 F26=>Aw_sD hE [([0,1,2,3,6,8],(.alt 4 (.ref 6) (.alt 7 (.ref 7) (.alt 9 (.ref 8) .non)))),([0,1,3,6,7,8],(.alt 2 (.ref 7) (.alt 9 (.ref 9) .non))),([0,1,3,6,8,9],(.alt 2 (.ref 8) (.alt 7 (.ref 9) .non))),([1,2,3,6,7,8],(.alt 0 (.ref 7) (.alt 4 (.ref 10) (.alt 9 (.ref 12) .non)))),([1,2,3,6,8,9],(.alt 0 (.ref 8) (.alt 4 (.ref 11) (.alt 7 (.ref 12) .non)))),([1,3,6,7,8,9],(.alt 0 (.ref 9) (.alt 2 (.ref 12) (.alt 10 (.alt 0 (.ref 16) (.alt 2 (.ref 18) .non)) .non)))),([0,1,2,3,4,6,8],(.alt 5 (.alt 7 (.ref 19) (.alt 9 (.ref 20) .non)) (.alt 7 (.ref 13) (.alt 9 (.ref 14) .non)))),([0,1,2,3,6,7,8],(.alt 4 (.ref 13) (.alt 9 (.ref 15) .non))),([0,1,2,3,6,8,9],(.alt 4 (.ref 14) (.alt 7 (.ref 15) .non))),([0,1,3,6,7,8,9],(.alt 2 (.ref 15) (.alt 10 (.ref 16) .non))),([1,2,3,4,6,7,8],(.alt 0 (.ref 13) (.alt 9 (.ref 17) .non))),([1,2,3,4,6,8,9],(.alt 0 (.ref 14) (.alt 7 (.ref 17) .non))),([1,2,3,6,7,8,9],(.alt 0 (.ref 15) (.alt 4 (.ref 17) (.alt 10 (.ref 18) .non)))),([0,1,2,3,4,6,7,8],(.alt 5 (.ref 19) (.alt 9 (.ref 21) .non))),([0,1,2,3,4,6,8,9],(.alt 5 (.ref 20) (.alt 7 (.ref 21) .non))),([0,1,2,3,6,7,8,9],(.alt 4 (.ref 21) (.alt 10 (.ref 22) .non))),([0,1,3,6,7,8,9,10],(.alt 2 (.ref 22) .non)),([1,2,3,4,6,7,8,9],(.alt 0 (.ref 21) (.alt 10 (.ref 23) .non))),([1,2,3,6,7,8,9,10],(.alt 0 (.ref 22) (.alt 4 (.ref 23) .non))),([0,1,2,3,4,5,6,7,8],(.alt 9 (.ref 24) .non)),([0,1,2,3,4,5,6,8,9],(.alt 7 (.ref 24) .non)),([0,1,2,3,4,6,7,8,9],(.alt 5 (.ref 24) (.alt 10 (.ref 25) .non))),([0,1,2,3,6,7,8,9,10],(.alt 4 (.ref 25) .non)),([1,2,3,4,6,7,8,9,10],(.alt 0 (.ref 25) .non)),([0,1,2,3,4,5,6,7,8,9],(.alt 10 (.ref 26) .non)),([0,1,2,3,4,6,7,8,9,10],(.alt 5 (.ref 26) .non)),([0,1,2,3,4,5,6,7,8,9,10],(.alt 11 (.fst 12 (.alt 13 .done .non)) .non))] (.fst 1 (.fst 3 (.fst 6 (.fst 8 (.alt 0 (.alt 2 (.ref 0) (.alt 7 (.ref 1) (.alt 9 (.ref 2) .non))) (.alt 2 (.alt 0 (.ref 0) (.alt 4 (.alt 0 (.ref 6) (.alt 7 (.ref 10) (.alt 9 (.ref 11) .non))) (.alt 7 (.ref 3) (.alt 9 (.ref 4) .non)))) (.alt 7 (.alt 0 (.ref 1) (.alt 2 (.ref 3) (.alt 9 (.ref 5) .non))) (.alt 9 (.alt 0 (.ref 2) (.alt 2 (.ref 4) (.alt 7 (.ref 5) .non))) .non)))))))) [F0,F1,F2,F3,F4,F5,F6,F7,F8,F9,F10,F11,F12,F13,F14,F15,F16,F17,F18,F19,F20,F21,F22,F23,F24,F25,F26] [4,6] [2,3,4,6,218,318])
    ·kernel_rfl
    intro K hK
    refine And.intro ?_ (And.intro ?_ (And.intro ?_ (And.intro ?_ (And.intro ?_ (And.intro ?_ (And.intro ?_ (And.intro ?_ (And.intro ?_ (And.intro ?_ (And.intro ?_ (And.intro ?_ (And.intro ?_ (And.intro ?_ (And.intro ?_ (And.intro ?_ (And.intro ?_ (And.intro ?_ (And.intro ?_ (And.intro ?_ (And.intro ?_ (And.intro ?_ (And.intro ?_ (And.intro ?_ (And.intro ?_ (And.intro ?_ (And.intro ?_ (And.intro ?_ trivial)))))))))))))))))))))))))))
    iterate 27 (focus (simp only [go_sem,seval,↓avLe_self,↓avLeL_self,r1,r2,r3,e1,e2];repeat' (first | exact (fun _ _ r=>r) | exact LeE_eq (by simp only [go_sem,seval,↓avLe_self,↓avLeL_self,r1,r2,r3,e1,e2]) (by simp only [go_sem,seval,↓avLe_self,↓avLeL_self,r1,r2,r3,e1,e2]) | exact LeE_wk (by simp only [go_sem,seval,↓avLe_self,↓avLeL_self,r1,r2,r3,e1,e2]) (by simp only [go_sem,seval,↓avLe_self,↓avLeL_self,r1,r2,r3,e1,e2]) | refine And.intro (by first|omega|(and_intros<;>first|omega|exact crows_row _|exact rrows_row _|exact rows_row _|decide|(simp<;>omega))|fail) ?_ | refine And.intro ?_ ?_)))
    simp only [go_sem,seval,↓avLe_self,↓avLeL_self,r1,r2,r3,e1,e2]
    refine ⟨by simp only [List.length_take,List.length_drop,grows_len];omega,?_⟩
    refine hK _ ?_;clear hK K
    refine Aw_st hE [4,5] [2,3,4,6,218,318] fun K hK=>?_
    simp only [go_sem,seval]
    refine hK _ (Aw_ret (hQ _ ?_))
    simp only [go_sem,seval,grows_erase]
    all_goals rfl
end Go.Proofs.W
end
section
namespace Go.Proofs.W
open Go Go.Eng Go.RowKit
set_option linter.unusedSimpArgs false
set_option maxRecDepth 100000
/-! what a house told,and a route,are drawn -/
def cDRT:Con:={ pre:=codeArg,post:=fun _ r=>∃ (b:Rb) (x:Rt),(b.all.length≤7∧lensG b.all)∧(x.path.length≤8∧x.marks.length≤16)∧r = .tup [b.av,x.av] }
theorem cDRT_own:cDRT.own=false:=rfl
theorem cDRT_draws:cDRT.draws=false:=rfl
theorem cDRT_cost:cDRT.cost=0:=rfl
attribute [go_sem] cDRT_own cDRT_draws cDRT_cost
theorem drt_pre (bs:List Nat) (h:∀ b ∈ bs,b < 256):cDRT.pre [.sl none (byteRows bs)]:=⟨bs,h,rfl⟩
theorem drt_post (args:List AV) (K:AV→Prop):(∀ r,cDRT.post args r→K r)=(∀ (b:Rb) (x:Rt),(b.all.length≤7∧lensG b.all)→(x.path.length≤8∧x.marks.length≤16)→K (.tup [b.av,x.av])):=by
 apply propext
 exact ⟨fun h b x h1 h2=>h _ ⟨b,x,h1,h2,rfl⟩,fun h r ⟨b,x,h1,h2,e⟩=>e ▸ h b x h1 h2⟩
attribute [go_sem] drt_post
set_option maxHeartbeats 2000000 in
theorem drawRibTell_ok:Fine Tryz.prog 11 cDRT:=by
 refine fine_draw (T:=TT) (C:=cDRT) Tryz.func11 rfl Tryz.ntmps11 (by rw [Tryz.results11]) rfl rfl tt rfl rfl (G:=[(33,cRibD),(34,cPick),(35,cRouteD),(36,cFromD)]) (D:=[]) (gs_cons l92Rib_ok (gs_cons pick_ok (gs_cons l91Route_ok (gs_cons l92From_ok gs_nil)))) ds_nil (l1:=[_]) (l2:=[_]) rfl rfl rfl rfl (by decide) open_calls ⟨_,Tryz.func32,rfl,rfl⟩ ?_ ?_
 ·rintro args r ⟨b,x,_,_,rfl⟩;rfl
 rintro args ⟨bs,hbs,rfl⟩
 refine ⟨by simp,bs,hbs,fun n E hE J hJ=>?_⟩
 refine Aw_tx hE [0,2,3] [2,3] fun K hK=>?_
 simp only [go_sem,seval]
 refine hK _ ?_
 simp only [thenA]
 simp only [go_sem,seval]
 refine hJ _ rfl rfl fun E hE Q hQ=>?_
 simp only [go_sem,seval]
 refine Aw_st hE [2,3,4,5] [2,3,5] fun K hK=>?_
 simp only [go_sem,seval]
 intro x hx1 hx2
 refine ⟨⟨by omega,by omega⟩,isH_pick hx1 hx2,fun b hb=>?_⟩
 refine hK _ ?_;clear hK K
 refine Aw_sq fun B1 hB1 hR1 hX1=>?_
 refine Aw_st hE [2,3,4,5,16] [2,3,5] fun K hK=>?_
 simp only [go_sem,seval]
 refine fun y hy1 hy2=>?_
 refine hK _ (Aw_cond rfl (fun hc2=>?_) (fun hc2=>?_))
 ·refine Aw_sz hE [2,3] [2,3] [2,3] 6 (by kernel_rfl) fun K hK=>?_
  simp only [go_sem,seval]
  refine fun q hq=>?_
  refine hK _ (Aw_ret (hR1 _ (hQ _ ?_)))
  simp only [go_sem,seval]
  exact ⟨b,q,hb,⟨hq.2.1,hq.2.2.2.2.2⟩,rfl⟩
 ·refine Aw_skip (hB1 _ ?_)
  refine Aw_st hE [2,3,4,5,6] [2,3,5,6] fun K hK=>?_
  simp only [go_sem,seval]
  refine fun q hq=>?_
  refine hK _ ?_;clear hK K
  refine Aw_sq fun B3 hB3 hR3 hX3=>?_
  have hqq:q.path.length≤8∧q.marks.length≤16:=by omega
  refine Aw_st hE [2,3,4,5,6,32] [2,3,5,6] fun K hK=>?_
  simp only [go_sem,seval]
  refine ⟨fun hg5 z hz1 hz2=>?_,fun hg5=>?_⟩
  ·refine hK _ (Aw_cond rfl (fun hc6=>?_) (fun hc6=>?_))
   ·simp only [decide_eq_true_eq] at hg5
    refine Aw_tz hE [6] [2,3,5,6] [2,3,5,6] 6 (by kernel_rfl) fun K hK=>?_
    simp only [go_sem,seval]
    repeat refine ⟨by first|omega|(and_intros<;>first|omega|exact rows_row _|decide|(simp<;>omega))|fail,?_⟩
    refine fun u hu1 hu2=>?_
    have hul:u.toNat < b.all.length:=by omega
    have hget:=grows_get b.all _ hul
    generalize b.all[u.toNat]=g at hget
    simp only [hget,Gt.row]
    simp only [go_sem,seval]
    repeat refine ⟨by first|omega|(and_intros<;>first|omega|exact rows_row _|decide|(simp<;>omega))|fail,?_⟩
    refine hK _ (hB3 _ ?_)
    refine Aw_sz hE [2,3] [2,3] [2,3] 6 (by kernel_rfl) fun K hK=>?_
    simp only [go_sem,seval]
    refine hK _ (Aw_ret (hQ _ ?_))
    simp only [go_sem,seval]
    exact ⟨b,⟨g.r.f,g.r.b,q.path,q.like,q.marks⟩,hb,hqq,rfl⟩
   ·refine Aw_skip (hB3 _ ?_)
    refine Aw_sz hE [2,3] [2,3] [2,3] 6 (by kernel_rfl) fun K hK=>?_
    simp only [go_sem,seval]
    refine hK _ (Aw_ret (hQ _ ?_))
    simp only [go_sem,seval]
    exact ⟨b,q,hb,hqq,rfl⟩
  ·refine hK _ (Aw_no rfl ?_)
   refine Aw_skip (hB3 _ ?_)
   refine Aw_sz hE [2,3] [2,3] [2,3] 6 (by kernel_rfl) fun K hK=>?_
   simp only [go_sem,seval]
   refine hK _ (Aw_ret (hQ _ ?_))
   simp only [go_sem,seval]
   exact ⟨b,q,hb,hqq,rfl⟩
def cDRU:Con:={ pre:=codeArg,post:=fun _ r=>∃ (b:Rb),(b.all.length≤7∧lensG b.all)∧r=b.av }
theorem cDRU_own:cDRU.own=false:=rfl
theorem cDRU_draws:cDRU.draws=false:=rfl
theorem cDRU_cost:cDRU.cost=0:=rfl
attribute [go_sem] cDRU_own cDRU_draws cDRU_cost
theorem dru_post (args:List AV) (K:AV→Prop):(∀ r,cDRU.post args r→K r)=(∀ (b:Rb),(b.all.length≤7∧lensG b.all)→K b.av):=by
 apply propext
 exact ⟨fun h b h1=>h _ ⟨b,h1,rfl⟩,fun h r ⟨b,h1,e⟩=>e ▸ h b h1⟩
attribute [go_sem] dru_post
end Go.Proofs.W
end
section
namespace Go.Proofs.W
open Go Go.Eng Go.RowKit
set_option linter.unusedSimpArgs false
set_option maxRecDepth 100000
end Go.Proofs.W
end
section
namespace Go.Proofs.W
open Go Go.Eng Go.RowKit
set_option linter.unusedSimpArgs false
set_option maxRecDepth 100000
/-- what a tell,a drop leave,as a result -/
theorem resT_tel {h0:Int} {up:Bool} {l:List Gt} {x:Rt} (hl:lensG l) (hx:x.path.length≤1000∧x.marks.length≤900) :
  ∃ h1 u1 l1 o1,telR ⟨h0,up,l⟩ x = .tup [.agg [iv h1,bv u1,.sl none (grows l1)],bv o1]∧(lensG l1∧l1.length≤l.length + 1)∧
   (telO ⟨h0,up,l⟩ x=some (⟨h1,u1,l1⟩,o1)∨(telO ⟨h0,up,l⟩ x=none∧h1=0∧u1=false∧l1=[]∧o1=false)):=by
 obtain ⟨h1,u1,l1,o1,e1,e2,e3⟩:=resT_ex (telO ⟨h0,up,l⟩ x)
 refine ⟨h1,u1,l1,o1,(telR_res _ _).trans e1,?_,?_⟩
 ·cases ht:telO ⟨h0,up,l⟩ x with
  | none =>
   obtain ⟨_,_,rfl,_⟩:=e3 ht
   exact ⟨lensG_nil2,by simp⟩
  | some z =>
   have hz:=e2 z ht
   obtain ⟨a1,a2,a3⟩:=tel_none (b:=⟨h0,up,l⟩) (x:=x) (by rw [ht];simp)
   have hp:=(ribOk_iff.1 a1).2.2.2
   rw [tel_some a1 a2 a3] at ht
   have:=Option.some.inj ht
   rw [hz] at this
   split at this
   ·obtain ⟨h,_⟩:=Prod.mk.inj this
    obtain ⟨_,_,rfl⟩:=Rb.mk.inj h
    exact ⟨put_lens hp hl hx,by rw [put_len];split<;>omega⟩
   ·obtain ⟨h,_⟩:=Prod.mk.inj this
    obtain ⟨_,_,rfl⟩:=Rb.mk.inj h
    exact ⟨hl,by omega⟩
 ·cases ht:telO ⟨h0,up,l⟩ x with
  | none=>exact .inr ⟨rfl,e3 ht⟩
  | some z=>exact .inl (by rw [e2 z ht])
theorem resT_dr {h0:Int} {up:Bool} {l:List Gt} {f c:Int} (hl:lensG l) :
  ∃ h1 u1 l1 o1,drR ⟨h0,up,l⟩ f c = .tup [.agg [iv h1,bv u1,.sl none (grows l1)],bv o1]∧(lensG l1∧l1.length≤l.length)∧
   (drO ⟨h0,up,l⟩ f c=some (⟨h1,u1,l1⟩,o1)∨(drO ⟨h0,up,l⟩ f c=none∧h1=0∧u1=false∧l1=[]∧o1=false)):=by
 obtain ⟨h1,u1,l1,o1,e1,e2,e3⟩:=resT_ex (drO ⟨h0,up,l⟩ f c)
 refine ⟨h1,u1,l1,o1,(drR_res _ _ _).trans e1,?_,?_⟩
 ·cases ht:drO ⟨h0,up,l⟩ f c with
  | none =>
   obtain ⟨_,_,rfl,_⟩:=e3 ht
   exact ⟨lensG_nil2,by simp⟩
  | some z =>
   have hz:=e2 z ht
   have hc:ribOk ⟨h0,up,l⟩=true∧rngOk f c=true:=by
    unfold drO at ht
    split at ht
    ·rename_i hc;simpa using hc
    ·cases ht
   rw [dr_some hc.1 hc.2] at ht
   have:=Option.some.inj ht
   rw [hz] at this
   split at this
   ·obtain ⟨h,_⟩:=Prod.mk.inj this
    obtain ⟨_,_,rfl⟩:=Rb.mk.inj h
    exact ⟨del_lens hl,List.length_filter_le _ _⟩
   ·obtain ⟨h,_⟩:=Prod.mk.inj this
    obtain ⟨_,_,rfl⟩:=Rb.mk.inj h
    exact ⟨hl,Nat.le_refl _⟩
 ·cases ht:drO ⟨h0,up,l⟩ f c with
  | none=>exact .inr ⟨rfl,e3 ht⟩
  | some z=>exact .inl (by rw [e2 z ht])
theorem some_inj {h1 h2:Int} {u1 u2:Bool} {l1 l2:List Gt} {o1 o2:Bool} (e:some ((⟨h1,u1,l1⟩:Rb),o1)=some ((⟨h2,u2,l2⟩:Rb),o2)):h1=h2∧u1=u2∧l1=l2∧o1=o2:=by
 have:=Prod.mk.inj (Option.some.inj e)
 obtain ⟨a,b,c⟩:=Rb.mk.inj this.1
 exact ⟨a,b,c,this.2⟩
theorem head_eq {p:List Int} {q h:Int} {p':List Int} (hp:p=q::p') (hq:q=h):p.head? = some h:=by rw [hp,hq];rfl
theorem tel_true {h0:Int} {up:Bool} {l:List Gt} {x:Rt} {h1:Int} {u1:Bool} {l1:List Gt} (h:telO ⟨h0,up,l⟩ x=some (⟨h1,u1,l1⟩,true)) :
  ribOk ⟨h0,up,l⟩=true∧okR x=true∧x.path.head? = some h0∧up=true∧(0≤atG l x.f x.b∨l.length < 6)∧h1=h0∧u1=true∧l1=put x l:=by
 obtain ⟨a1,a2,a3⟩:=tel_none (b:=⟨h0,up,l⟩) (x:=x) (by rw [h];simp)
 have hs:=tel_some a1 a2 a3
 rw [h] at hs
 by_cases hc:up=true∧(0≤atG l x.f x.b∨l.length < 6)
 ·rw [if_pos hc] at hs
  obtain ⟨rfl,rfl,rfl,_⟩:=some_inj hs
  exact ⟨a1,a2,a3,hc.1,hc.2,rfl,hc.1,rfl⟩
 ·rw [if_neg hc] at hs
  obtain ⟨_,_,_,e⟩:=some_inj hs
  cases e
theorem zFind {h:Int} {up:Bool} {l:List Gt} {f c:Int} (hok:ribOk ⟨h,up,l⟩=true) {z:Bool} {yf yb yk:Int} {yp ym:List Int} (h1:z=true→ribFind ⟨h,up,l⟩ f c=some ⟨yf,yb,yp,yk,ym⟩)
  (h0:z=false→ribFind ⟨h,up,l⟩ f c=none∧yf=0∧yb=0∧yp=[]∧yk=0∧ym=[]):z=decide (0≤atG l f c):=by
 rw [← find_is hok]
 cases z with
 | true=>rw [h1 rfl];rfl
 | false=>rw [(h0 rfl).1];rfl
end Go.Proofs.W
end
section
namespace Go.Proofs.W
open Go Go.Eng Go.RowKit
set_option linter.unusedSimpArgs false
set_option maxRecDepth 100000
/-! a range out of a number: some range -/
def cLyR:Con:={ pre:=fun args=>∃ n:Int,(0≤n∧n≤1048576)∧args=[iv n],post:=fun _ r=>∃ f b:Int,r = .agg [iv f,iv b] }
theorem cLyR_own:cLyR.own=false:=rfl
theorem cLyR_draws:cLyR.draws=false:=rfl
theorem cLyR_cost:cLyR.cost=0:=rfl
attribute [go_sem] cLyR_own cLyR_draws cLyR_cost
theorem lyR_pre (n:Int):cLyR.pre [iv n]=(0≤n∧n≤1048576):=by
 simp [cLyR]
theorem lyR_post (args:List AV) (K:AV→Prop):(∀ r,cLyR.post args r→K r)=(∀ f b:Int,K (.agg [iv f,iv b])):=by
 apply propext
 exact ⟨fun h f b=>h _ ⟨f,b,rfl⟩,fun h r ⟨f,b,e⟩=>e ▸ h f b⟩
theorem lyR_ex (args:List AV):(∃ r,cLyR.post args r)=True:=eq_true ⟨_,0,0,rfl⟩
attribute [go_sem] lyR_pre lyR_post lyR_ex
theorem szR_half:∀ i:Nat,i < 8→(szR i).tdiv 2=szR ((i + 1:Nat):Int):=by decide
theorem szR_le:∀ i:Nat,i < 9→1≤szR i∧szR i≤256:=by decide
set_option maxHeartbeats 4000000 in
theorem lyRange_ok:Fine Tryz.prog 15 cLyR:=by
 refine fine_of (T:=TT) Tryz.func15 rfl Tryz.ntmps15 (by rw [Tryz.results15]) rfl rfl tt gs_nil ds_nil ?_
 rintro args ⟨n,⟨hn0,hn1⟩,rfl⟩
 refine ⟨by simp,fun k hk E hE Q hQ=>?_⟩
 have hm:n.tmod 9=n % 9:=Int.tmod_eq_emod_of_nonneg hn0
 have hm2:(n * 37).tmod 256=n * 37 % 256:=Int.tmod_eq_emod_of_nonneg (by omega)
 refine Aw_st hE [0,2] [2] fun K hK=>?_
 simp only [go_sem,seval]
 refine hK _ ?_;clear hK K
 refine Aw_st hE [0,2,3] [2] fun K hK=>?_
 simp only [go_sem,seval,hm]
 repeat refine ⟨by first|omega|(and_intros<;>first|omega|exact rows_row _|decide|(simp<;>omega))|fail,?_⟩
 refine hK _ ?_;clear hK K
 refine Aw_st hE [0,2,3,4] [2] fun K hK=>?_
 simp only [go_sem,seval]
 refine hK _ ?_;clear hK K
 refine Aw_sq fun B1 hB1 hR1 hX1=>?_
 refine Aw_st hE [0,2,3,4,5] [2] fun K hK=>?_
 simp only [go_sem,seval]
 refine hK _ ?_;clear hK K
 refine Aw_bk fun B2 hN2 hE2 hR2 hX2=>?_
 refine Aw_lp (fun i:Nat=>⟨24,[(0,iv n),(2,.loc 2 0),(3,iv (n % 9)),(4,iv (szR i)),(5,iv i)],[(2,[iv 0,iv 0])],k⟩) (fun i=>(i:Int)≤n % 9) (fun i=>9 - i) 0 (Le.refl _) (by omega) fun i hi B3 hN3 hR3 hX3=>?_
 have hsz:=szR_le i (by omega)
 refine Aw_sq fun B4 hB4 hR4 hX4=>?_
 refine Aw_st hE [0,2,3,4,5,10] [2] fun K hK=>?_
 simp only [go_sem,seval]
 refine hK _ (Aw_cond rfl (fun hc5=>?_) (fun hc5=>?_))
 ·simp only [decide_eq_true_eq] at hc5
  have hhf:=szR_half i (by omega)
  have hsz2:=szR_le (i + 1) (by omega)
  refine Aw_skip (hB4 _ ?_)
  refine Aw_sq fun B6 hB6 hR6 hX6=>?_
  refine Aw_bk fun B7 hN7 hE7 hR7 hX7=>?_
  refine Aw_tx hE [0,2,3,4,5] [2] fun K hK=>?_
  simp only [go_sem,seval,hhf]
  repeat refine ⟨by first|omega|(and_intros<;>first|omega|exact rows_row _|decide|(simp<;>omega))|fail,?_⟩
  refine hK _ (hN7 _ (hB6 _ ?_))
  refine Aw_tx hE [0,2,3,4,5] [2] fun K hK=>?_
  simp only [go_sem,seval]
  repeat refine ⟨by first|omega|(and_intros<;>first|omega|exact rows_row _|decide|(simp<;>omega))|fail,?_⟩
  refine hK _ (hN3 (i + 1) _ (by omega) (by omega) (Le.refl _))
 ·refine Aw_exit (hX4 _ _ (hX3 _ _ (hE2 _ (hB1 _ ?_))))
  obtain ⟨t1,t2,t3,t4,t5⟩:=tdiv_szR (n * 37 % 256) i (by omega) (by omega) (by omega) (by omega)
  refine Aw_st hE [2] [2] fun K hK=>?_
  simp only [go_sem,seval,hm2]
  repeat refine ⟨by first|omega|(and_intros<;>first|omega|exact rows_row _|decide|(simp<;>omega))|fail,?_⟩
  refine hK _ (Aw_ret (hQ _ ?_))
  simp only [go_sem,seval]
  exact ⟨_,_,rfl⟩
end Go.Proofs.W
end
