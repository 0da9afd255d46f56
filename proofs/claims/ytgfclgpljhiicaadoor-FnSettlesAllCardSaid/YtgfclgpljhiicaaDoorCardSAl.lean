/- YtgfclgpljhiicaaDoorCardSAl: part of the proof that laws hold, for every input that the row speaks of (no condition of ours). -/
import Derived.Test.YtgfclgpljhiicaaDoorWc
import Derived.Test.YtgfclgpljhiicaaDoorWd
import Derived.Test.YtgfclgpljhiicaaDoorWb
import Derived.Test.YtgfclgpljhiicaaDoorWa
import Derived.Test.YtgfclgpljhiicaaDoorEc
import Derived.ChangeVars
import Derived.RowKitTokens
import Derived.Test.YtgfclgpljhiicaaDoorCards
import Derived.Test.YtgfclgpljhiicaaDoorTie
set_option linter.unusedVariables false
set_option linter.unusedSimpArgs false
section
namespace Go.Proofs.W
open Go Go.Eng Go.RowKit
set_option linter.unusedSimpArgs false
set_option maxRecDepth 100000
/-! where nets come to -/
def endR (R:List (List Int)) (x:Int):List (List Int):=if relsOk R && hIb R.length x then endL R.length (ofR R) x else []
theorem endR_big {R:List (List Int)} {x:Int}:bigM (endR R x)∧(endR R x).length≤5:=by
 unfold endR
 split
 ·rename_i h
  rw [Bool.and_eq_true] at h
  have hn5:=(relsOk_iff.1 h.1).1.2
  have hx:=hIb_iff.1 h.2
  have hl:=(endL_S (of:=ofR R) hx).2
  have hv:=end_net (of:=ofR R) hn5 hx
  refine ⟨⟨by omega,fun w hw=>?_⟩,by omega⟩
  obtain ⟨i,hi,rfl⟩:=List.getElem_of_mem hw
  have:=hv.2 ((i:Int) + 1) ⟨by omega,by omega⟩
  rw [toS_succ,List.getD_eq_getElem?_getD,List.getElem?_eq_getElem hi,Option.getD_some] at this
  by_cases e:(endL R.length (ofR R) x)[i]=[]
  ·rw [e];simp
  ·have:=pathOk_len ((wayOk_iff e).1 this).2.2.1;omega
 ·exact ⟨⟨by simp,fun w hw=>by cases hw⟩,by simp⟩
theorem endR_bw {R:List (List Int)} {x:Int}:bigW (endR R x):=by
 obtain ⟨⟨h1,h2⟩,h3⟩:=endR_big (R:=R) (x:=x)
 exact ⟨by omega,fun w hw=>by have:=h2 w hw;omega⟩
/-- what is free of rings -/
structure FreeR (R:List (List Int)) (x:Int):Prop where
 ok:relsOk R=true
 home:hI R.length x
 n5:R.length≤5
 H:RelH R.length (ofR R)
 rk:∃ rk,Rk R.length (ofR R) rk
 eq:endR R x=endL R.length (ofR R) x
 len:(endR R x).length=R.length
theorem freeR {R:List (List Int)} {x:Int} (h:(endR R x).length≠0):relsOk R=true∧hI R.length x∧endR R x=endL R.length (ofR R) x:=by
 unfold endR at h ⊢
 cases hb:(relsOk R && hIb R.length x) with
 | false=>rw [hb] at h;exact absurd rfl h
 | true =>
  rw [Bool.and_eq_true] at hb
  exact ⟨hb.1,hIb_iff.1 hb.2,rfl⟩
theorem freeR_of {R:List (List Int)} {x:Int} (h:(endR R x).length≠0) (hf:(ordR R).isSome=true):FreeR R x:=by
 obtain ⟨h1,h2,h3⟩:=freeR h
 unfold ordR at hf
 rw [if_pos h1] at hf
 obtain ⟨l,hl⟩:=Option.isSome_iff_exists.1 hf
 exact ⟨h1,h2,(relsOk_iff.1 h1).1.2,relsOk_H h1,⟨_,ord_rk hl⟩,h3,by rw [h3];exact (endL_S h2).2⟩
theorem endR_def (R:List (List Int)) (x:Int):(if (relsOk R && hIb R.length x)=true then endL R.length (ofR R) x else [])=endR R x:=rfl
attribute [go_sem] endR_def
end Go.Proofs.W
end
section
namespace Go.Proofs.W
open Go Go.Eng Go.RowKit
set_option linter.unusedSimpArgs false
/-! the end of a net,by places -/
section
variable {R:List (List Int)} {x:Int}
theorem FreeR.net (F:FreeR R x):netS R.length (ofR R) x (toS (endR R x)):=by rw [F.eq];exact end_net F.n5 F.home
theorem FreeR.still (F:FreeR R x):stillS R.length (ofR R) x (toS (endR R x)):=by
 obtain ⟨rk,K⟩:=F.rk
 rw [F.eq];exact end_still F.H K F.home
theorem FreeR.hi (_:FreeR R x) {i:Nat} (hi:i < R.length):hI R.length ((i:Int) + 1):=⟨by omega,by omega⟩
theorem toS_at {W:List (List Int)} {y:Int} (h:1≤y):toS W y=W.getD (y - 1).toNat []:=if_pos h
theorem FreeR.alongI (F:FreeR R x) {i:Nat} (hi:i < R.length) (hl:1 < ((endR R x).getD i []).length) :
  (1≤((endR R x).getD i []).getD 1 0∧((endR R x).getD i []).getD 1 0≤R.length)∧((endR R x).getD i []).drop 1=(endR R x).getD (((endR R x).getD i []).getD 1 0 - 1).toNat []:=by
 have h:=along F.net F.still (F.hi hi) (by rw [toS_succ];exact hl)
 rw [toS_succ] at h
 have h1:hI R.length (((endR R x).getD i []).getD 1 0):=h.1
 refine ⟨h1,?_⟩
 rw [h.2]
 exact toS_at h1.1
theorem FreeR.noVI (F:FreeR R x) {i:Nat} (hi:i < R.length):noV (ofR R) false ((endR R x).getD i [])=true:=by
 have h:=(no_valley F.H F.net F.still _ _ (F.hi hi) (Nat.le_refl _)).1
 rwa [toS_succ] at h
theorem FreeR.home_i (F:FreeR R x) {i:Nat} (e:(i:Int) + 1=x):(endR R x).getD i []=[x]:=by
 have:=netS_home F.net
 rw [← e,toS_succ] at this
 rw [← e];exact this
theorem FreeR.len2 (F:FreeR R x) {i:Nat} (hi:i < R.length) (hne:(i:Int) + 1≠x) (hw:(endR R x).getD i []≠[]):2≤((endR R x).getD i []).length:=by
 have:=netS_len F.net (F.hi hi) hne (by rw [toS_succ];exact hw)
 rwa [toS_succ] at this
theorem FreeR.upWI (F:FreeR R x) {i:Nat} (hi:i < R.length) (hw:(endR R x).getD i []≠[]) :
  upW (ofR R) ((i:Int) + 1) ((endR R x).getD i [])=(decide ((i:Int) + 1=x) || decide (ofR R ((i:Int) + 1) (((endR R x).getD i []).getD 1 0)=1)):=by
 by_cases e:(i:Int) + 1=x
 ·rw [F.home_i e,decide_eq_true e];rfl
 ·have h2:=F.len2 hi e hw
  have h1:=(F.alongI hi (by omega)).1
  rw [decide_eq_false e,Bool.false_or]
  unfold Go.Proofs.W.upW nxt
  rw [show (((endR R x).getD i []).getD 1 0 == 0)=false from beq_false_of_ne (by omega),Bool.false_or]
  rfl
theorem FreeR.allUp (F:FreeR R x) {i j:Nat} (hi:i < R.length) (hj:j < R.length) (hw:(endR R x).getD i []≠[]) :
  (ofR R ((i:Int) + 1) ((j:Int) + 1)=1→(endR R x).getD j []≠[])∧
  (ofR R ((i:Int) + 1) ((j:Int) + 1)=3→((i:Int) + 1=x∨ofR R ((i:Int) + 1) (((endR R x).getD i []).getD 1 0)=1)→(endR R x).getD j []≠[]∧((j:Int) + 1≠x→ofR R ((j:Int) + 1) (((endR R x).getD j []).getD 1 0)=1)):=by
 obtain ⟨rk,K⟩:=F.rk
 have h:=all_up F.H K F.net F.still (F.hi hi) (F.hi hj) (by rw [toS_succ];exact hw)
 rw [toS_succ,toS_succ] at h
 refine ⟨h.1,fun h3 hu=>h.2 h3 ?_⟩
 rw [F.upWI hi hw]
 rcases hu with hu | hu
 ·rw [decide_eq_true hu];rfl
 ·rw [decide_eq_true hu,Bool.or_true]
theorem FreeR.short (F:FreeR R x) {i j:Nat} (hi:i < R.length) (hj:j < R.length) (hl:1 < ((endR R x).getD i []).length) (hrel:ofR R ((i:Int) + 1) ((j:Int) + 1)=1)
  (hne:(endR R x).getD j []≠[]) (hu:((endR R x).getD j []).length=1∨ofR R ((j:Int) + 1) (((endR R x).getD j []).getD 1 0)=1) :
  ((endR R x).getD i []).length≤((endR R x).getD j []).length + 1:=by
 obtain ⟨rk,K⟩:=F.rk
 have h:=shortest F.H K F.net F.still (F.hi hi) (F.hi hj) (by rw [toS_succ];exact hl) hrel (by rw [toS_succ];exact hne) (by
  rw [toS_succ,F.upWI hj hne]
  rcases hu with hu | hu
  ·by_cases e:(j:Int) + 1=x
   ·rw [decide_eq_true e];rfl
   ·have:=F.len2 hj e hne;omega
  ·rw [decide_eq_true hu,Bool.or_true])
 rwa [toS_succ,toS_succ] at h
end
/-- what a way's way is,place by place -/
theorem noV_drop {of:Rel} {d:Bool} {w:List Int} {k:Nat} (hk:k + 1 < w.length) (h:noV of d (w.drop k)=true) :
  (d=true→of (w.getD k 0) (w.getD (k + 1) 0)=1)∧noV of (d || decide (of (w.getD k 0) (w.getD (k + 1) 0)=1) || decide (of (w.getD k 0) (w.getD (k + 1) 0)=2)) (w.drop (k + 1))=true:=by
 rw [List.drop_eq_getElem_cons (show k < w.length by omega),List.drop_eq_getElem_cons hk] at h
 rw [List.getD_eq_getElem?_getD,List.getElem?_eq_getElem (show k < w.length by omega),Option.getD_some,List.getD_eq_getElem?_getD,List.getElem?_eq_getElem hk,Option.getD_some]
 unfold noV at h
 rw [Bool.and_eq_true] at h
 refine ⟨fun e=>?_,?_⟩
 ·subst e
  simpa using h.1
 ·rw [← List.drop_eq_getElem_cons hk] at h
  exact h.2
theorem bigM_of_net {R:List (List Int)} {x:Int} {W:List (List Int)} (h:netOk R x W=true):bigM W:=by
 have h5:=(relsOk_iff.1 (netOk_iff.1 h).1).1.2
 obtain ⟨_,hl,h2⟩:=netOk_in h
 exact ⟨by omega,fun w hw=>by have:=(h2 w hw).1;omega⟩
end Go.Proofs.W
end
section
namespace Go.Proofs.W
open Go Go.Eng Go.RowKit
set_option linter.unusedSimpArgs false
set_option maxRecDepth 100000
set_option maxHeartbeats 8000000 in
theorem fnSettlesAll_ok (pb:Addr):Fine Tryd.prog 8 (cLawP2 pb):=by
 refine fine_of (T:=TT) Tryd.func8 rfl Tryd.ntmps8 (by rw [Tryd.results8]) rfl rfl tt (gs_cons drawNetEnd_ok gs_nil) (ds_cons (iNetEnd_ok pb) (ds_cons sNetEnd_ok (ds_cons lyWays_ok (ds_cons relsFree_ok (ds_cons (iNetPlay_ok pb) (ds_cons (iNetNone_ok pb) (ds_cons lyRounds_ok ds_nil) (wp_inh pb)) (wp_inh pb))))) (wp_inh pb)) ?_
 rintro args ⟨bs,b2,hbs,hbs2,rfl⟩
 refine ⟨by simp,fun k hk E hE Q hQ=>?_⟩
 refine Aw_st hE [0,1] [] fun K hK=>?_
 simp only [go_sem,seval]
 refine hK _ ?_;clear hK K
 refine Aw_sq fun B1 hB1 hR1 hX1=>?_
 refine Aw_st hE [0,1,20] [] fun K hK=>?_
 simp only [go_sem,seval]
 refine ⟨fun hg3=>?_,fun hg3=>?_⟩
 ·repeat refine sd0 ?_
  refine hK _ (Aw_yes rfl ?_)
  refine Aw_st hE [4] [] fun K hK=>?_
  simp only [go_sem,seval]
  refine hK _ (Aw_ret (hR1 _ (hQ _ ?_)))
  simp only [go_sem,seval]
 repeat refine sd0 ?_
 refine hK _ (Aw_cond rfl (fun hc4=>?_) (fun hc4=>?_))
 ·refine Aw_st hE [4] [] fun K hK=>?_
  simp only [go_sem,seval]
  refine hK _ (Aw_ret (hR1 _ (hQ _ ?_)))
  simp only [go_sem,seval]
 refine Aw_skip (hB1 _ ?_)
 refine Aw_st hE [1,5,6] [] fun K hK=>?_
 simp only [go_sem,seval]
 refine ⟨dne_pre bs hbs,fun R x hR hx1 hx2=>?_⟩
 have hbR:=okRl_big hR
 have hbE:=endR_bw (R:=R) (x:=x)
 have hbF:=(endR_big (R:=R) (x:=x)).1
 refine hK _ ?_;clear hK K
 refine Aw_st hE [1,5,6,7] [] fun K hK=>?_
 simp only [go_sem,seval,hbR]
 repeat refine sd0 ?_
 refine hK _ ?_;clear hK K
 refine Aw_sq fun B3 hB3 hR3 hX3=>?_
 by_cases hn:(endR R x).length=0
 ·have hz:decide (((endR R x).length:Int)=0)=true:=decide_eq_true (by omega)
  refine Aw_st hE [1,5,6,7,44] [] fun K hK=>?_
  simp only [go_sem,seval,hbR,hbE,hz,decide_true,Bool.not_true,Bool.not_false]
  refine hK _ (Aw_yes rfl ?_)
  refine Aw_st hE [4] [] fun K hK=>?_
  simp only [go_sem,seval,hbR,hbE,decide_true]
  repeat (refine And.intro (by first | omega | assumption | (and_intros<;>first | omega | assumption | decide) | fail) ?_)
  refine hK _ (Aw_ret (hR3 _ (hQ _ ?_)))
  simp only [go_sem,seval]
 have hz:decide (((endR R x).length:Int)=0)=false:=decide_eq_false (by omega)
 cases hf:(ordR R).isSome with
 | false =>
  refine Aw_st hE [1,5,6,7,44] [] fun K hK=>?_
  simp only [go_sem,seval,hbR,hbE,hz,hf,decide_true,Bool.not_true,Bool.not_false]
  refine hK _ (Aw_yes rfl ?_)
  refine Aw_st hE [4] [] fun K hK=>?_
  simp only [go_sem,seval,hbR,hbE,decide_true]
  repeat (refine And.intro (by first | omega | assumption | (and_intros<;>first | omega | assumption | decide) | fail) ?_)
  refine hK _ (Aw_ret (hR3 _ (hQ _ ?_)))
  simp only [go_sem,seval]
 | true =>
  have F:=freeR_of hn hf
  have hok:=F.ok
  have hlen:=F.len
  have hn5:=F.n5
  have hhome:=F.home
  refine Aw_st hE [1,5,6,7,44] [] fun K hK=>?_
  simp only [go_sem,seval,hbR,hbE,hz,hf,decide_true,Bool.not_true,Bool.not_false]
  refine hK _ (Aw_no rfl (Aw_skip (hB3 _ ?_)))
  have hn1:1≤R.length:=by have:=hhome.1;have:=hhome.2;omega
  obtain ⟨rk,hrk⟩:=F.rk
  have bl:(byteRows b2).length=b2.length:=byteRows_len b2
  have hl2:b2.length≤1048576:=by simp only [decide_eq_false_iff_not] at hc4;omega
  have hN0:netOk R x (noneL R.length x)=true:=netOk_iff.2 ⟨hok,noneL_len,by rw [toS_none hhome];exact netS_none hn5 hhome⟩
  have hhd:hds R.length (toS (noneL R.length x)):=by rw [toS_none hhome];exact hds_none
  have hib:hIb R.length x=true:=hIb_iff.2 hhome
  have hbN:bigM (noneL R.length x):=bigM_of_net hN0
  have pl:∀ s:Nat,s≤4→playOk R x (noneL R.length x) (lyR R.length (4 * R.length) s)=true∧runL R.length (ofR R) x (noneL R.length x) (lyR R.length (4 * R.length) s)=endR R x∧(lyR R.length (4 * R.length) s).length≤1000:=by
   intro s hs
   have hq:4 * R.length * R.length≤20 * 5:=Nat.mul_le_mul (by omega) hn5
   have hll:=lyR_len R.length s (4 * R.length)
   refine ⟨?_,?_,by omega⟩
   ·unfold playOk
    rw [hN0,decide_eq_true (by omega),Bool.and_self,Bool.true_and,List.all_eq_true]
    exact fun y hy=>hIb_iff.2 (lyR_hI (by omega) _ _ y hy)
   ·rw [F.eq]
    exact lyR_end F.H hrk noneL_len hhd hhome s (by omega)
  have m4:(b2.length:Int).tmod 4=((b2.length % 4:Nat):Int):=tmod_c b2.length 4
  have m3:(b2.length:Int).tmod 3=((b2.length % 3:Nat):Int):=tmod_c b2.length 3
  have s4:(1:Int) + ((b2.length % 4:Nat):Int)=((1 + b2.length % 4:Nat):Int):=by omega
  have s3:(2:Int) + ((b2.length % 3:Nat):Int)=((2 + b2.length % 3:Nat):Int):=by omega
  have l4:=Nat.mod_lt b2.length (show 0 < 4 by decide)
  have l3:=Nat.mod_lt b2.length (show 0 < 3 by decide)
  obtain ⟨p4,r4,b4⟩:=pl (1 + b2.length % 4) (by omega)
  obtain ⟨p3,r3,b3⟩:=pl (2 + b2.length % 3) (by omega)
  have en:(4:Int) * (R.length:Int)=((4 * R.length:Nat):Int):=by omega
  have hyp:=hbR.1
  refine Aw_st hE [1,5,6,7,8] [] fun K hK=>?_
  simp only [go_sem,seval]
  refine hK _ ?_;clear hK K
  refine Aw_st hE [1,5,6,7,8,9,10] [] fun K hK=>?_
  simp only [go_sem,seval,hbR,hok,hib,Bool.and_self,bl,Int.toNat_natCast,m4,s4,en,hbN,p4,r4]
  repeat refine sd0 ?_
  refine hK _ ?_;clear hK K
  refine Aw_st hE [7,9,10,11,12] [] fun K hK=>?_
  simp only [go_sem,seval,hbR,hok,hib,Bool.and_self,bl,Int.toNat_natCast,m3,s3,en,hbN,p3,r3]
  repeat refine sd0 ?_
  refine hK _ ?_;clear hK K
  refine Aw_st hE [4] [] fun K hK=>?_
  simp only [go_sem,seval,hbE,decide_true]
  repeat (refine And.intro (by first | omega | assumption | (and_intros<;>first | omega | assumption | decide) | fail) ?_)
  refine hK _ (Aw_ret (hQ _ ?_))
  simp only [go_sem,seval]
end Go.Proofs.W
end
section
namespace Go.Proofs.YtgfclgpljhiicaaDoor.cSAl
open Go Go.Eng Go.RowKit Go.WideShapes Go.ChangeShapes Go.ChangeAt Go.Proofs.W
set_option maxRecDepth 100000
theorem own:ownKnob Tryd.prog.godebug=none:=by kernel_rfl
theorem star : "*"++ "errors.errorString" = "*errors.errorString" := by decide
theorem rowE (u:TypeId) (h:Tryd.prog.typeName? 3 u=some "*errors.errorString"):u=111 :=
 typeName_ptr_named (nm := "errors.errorString") (by rw [star];kernel_rfl) (by kernel_rfl) (by decide) u (by rw [star];exact h)
theorem gE:Tryd.prog.globalNamed "loop.example/wayboard/impl.errPath" = some 0:=by kernel_rfl
theorem gEType:(Tryd.prog.globals[0]?).map (·.type)=some 95:=by kernel_rfl
theorem w_of {W:World} (h:laidMet Tryd.prog Rows.fnSettlesAllRow.laid W):∃ pb,WP pb W∧W.var? Tryd.prog "loop.example/wayboard/impl.errPath" = some #[errV pb]:=by
 have h0:=h
 have h1:=laidMet.tail h0
 have h2:=laidMet.tail h1
 have h3:=laidMet.tail h2
 obtain ⟨a0,s0,hv0,hc0,hs0,hz0⟩:=laid_sentinel h3 gE gEType Tryd.underlying95 rowE Tryd.underlying111 Tryd.underlying113 rfl rfl Tryd.underlying9 (by kernel_rfl) (by kernel_rfl)
 refine ⟨a0,⟨⟨?_⟩,?_⟩,hv0⟩
 ·exact Lib.tabIs_of_head (g:=1) (by kernel_rfl) (by kernel_rfl) Tryd.underlying132 Tryd.underlying126 (by kernel_rfl) (by kernel_rfl) h2
 ·simpa using World.var?_cell gE hv0 0
theorem contract (H:Type) (enc:TypeId × Value→H) (W:World) (base:Nat) (args:Array Value) (ds gs:List (DataW H)) (before:List MemPlace)
  (hval:∀ (j:Nat) t v,Tryd.f8.params[j]? = some t→args[j]? = some v→Value.okWide Tryd.prog W .any base t v)
  (hW:DataW.Whole enc Tryd.prog Tryd.f8.params.toList Rows.fnSettlesAllSpec.vars false W args.toList ds gs before) (hL:laidMetH Tryd.prog Rows.fnSettlesAllRow.laid W) :
  Calls Tryd.prog 8 args W fun e W'=>∃ v,e = .returned v∧Rows.fnSettlesAllSpec.post enc Tryd.prog Tryd.f8 false true false false W args v W':=by
 have hW':=hW
 obtain ⟨p,q,hA0,hV0,rfl,hfz,hnd⟩:=hW
 have hA:DataW.TrodAll enc Tryd.prog W 0 (fun _=>true) true Tryd.f8.params.toList args.toList ds p:=hA0
 have hV:DataW.TrodVars enc Tryd.prog W (fun _=>true) ["loop.example/wayboard/impl.errPath"] gs q:=hV0
 rw [Tryd.params8] at hA hval
 obtain ⟨v0,vs0,d0,ds0,p0,q0,hargs,rfl,rfl,hd0,r0⟩:=trodAll_cons hA
 obtain ⟨v1,vs1,d1,ds1,p1,q1,rfl,rfl,rfl,hd1,r1⟩:=trodAll_cons r0
 obtain ⟨rfl,rfl,rfl⟩:=trodAll_nil r1
 obtain rfl:args = #[v0,v1]:=by cases args;simp_all
 obtain ⟨pb,hwp,hv0⟩:=w_of hL
 obtain ⟨rfl,rfl⟩:=hV.unique (vars_read1 enc gE gEType Tryd.underlying95 hv0 trivial _)
 obtain ⟨hin0,hback0⟩:=open_arg (hval 0 22 v0 rfl rfl) hd0
 obtain ⟨hin1,hback1⟩:=open_arg (hval 1 22 v1 rfl rfl) hd1
 clear hA0 hV0
 simp only [List.append_nil] at hW'
 refine (law_callsP2 (fnSettlesAll_ok pb) W hwp v0 v1 hin0 hin1).mono fun e W' ⟨he,hb⟩=>?_
 subst he
 have hv1:W'.var? Tryd.prog "loop.example/wayboard/impl.errPath" = some #[errV pb]:=var_below' hv0 gE hb
 exact ⟨_,rfl,post_below (pa:=p0++(p1++[])) (pv:=[.cell 0 0]) hW' (fun _ _ _=>trodAll_cons_mk (shut_bool Tryd.underlying4 _) trodAll_mk0) (fun sp hsp=>trodAll_cons_mk (hback0 W' hb sp (fun x hx=>hsp x (by simp only [List.mem_append];simp [hx]))) (trodAll_cons_mk (hback1 W' hb sp (fun x hx=>hsp x (by simp only [List.mem_append];simp [hx]))) trodAll_mk0)) (fun sp _=>vars_read1 enc gE gEType Tryd.underlying95 hv1 trivial sp) (by simp)
  hb (ok_one (by kernel_rfl) rfl (okWide_bool_mk Tryd.underlying4 _))⟩
noncomputable def laidWorld (os : Os) : World :=
  let N := (World.settled Tryd.prog os).heap.size
  let w0 := World.holding Tryd.prog os ⟨#[.cells #[.string ⟨#[110, 111, 116, 32, 97, 32, 112, 97, 116, 104]⟩] 113], #[], []⟩
  let put (h : Array Obj) (g : Nat) (cs : Array Value) : Array Obj := h.modify g fun
    | .cells _ t frozen => .cells cs t frozen
    | o => o
  let cellsOf : DataW Unit → Array Value := fun d => match d with
    | .agg ds => (ds.map fun x => match x with | .lit (.int k n) => Value.int k n | _ => .bool false).toArray
    | _ => #[]
  let h0 := put w0.heap 2 (cellsOf Rows.laid_math_bits_deBruijn32tab)
  let h1 := put h0 3 (cellsOf Rows.laid_math_bits_deBruijn64tab)
  let h2 := put h1 1 (cellsOf Rows.laid_internal_strconv_uint64pow10)
  let h3 := put h2 0 #[.iface 111 (.pointer (some ⟨N + 0, 0, none⟩))]
  { w0 with heap := h3 }

theorem laid_met (os:Os) (args:Array Value):laidMet Tryd.prog Rows.fnSettlesAllRow.laid ((laidWorld os).forCall (fun _ _=>0) ⟨#[],args,[]⟩).memory :=
 laidMet_of_run' 8 (by kernel_rfl) (by kernel_rfl)
theorem witness_row (os:Os) {H:Type} (enc:TypeId × Value→H) :
  (OpenSpec.ofChange Rows.fnSettlesAllSpec).preRow enc Tryd.prog Tryd.f8 Rows.fnSettlesAllRow.domain false Rows.fnSettlesAllRow.laid ((laidWorld os).forCall (fun _ _=>0) ⟨#[],#[.slice none 0 0,.slice none 0 0],[]⟩).memory #[.slice none 0 0,.slice none 0 0] :=
 OpenSpec.preRow_of_B rfl 8 (by kernel_rfl) (by kernel_rfl) (laid_met os _)
theorem lifted (os:Os) (started:os.Started) (H:Type) (enc:TypeId × Value→H) (F:Stop.Interp) :
  ReturnsInHanded {} Tryd.checked os 8 .any ((OpenSpec.ofChange Rows.fnSettlesAllSpec).preRow enc Tryd.prog Tryd.f8 Rows.fnSettlesAllRow.domain false Rows.fnSettlesAllRow.laid) (((OpenSpec.ofChange Rows.fnSettlesAllSpec).at F).post enc Tryd.prog Tryd.f8 false true false false):=by
 refine returnsInHanded_of_row (C:=Tryd.checked) (s:=OpenSpec.ofChange Rows.fnSettlesAllSpec) own started (by kernel_rfl) Tryd.func8
  (witness_row_atRef (enc:=enc) (C:=Tryd.checked) false (laidWorld os) #[.slice none 0 0,.slice none 0 0] rfl (by kernel_rfl) (by kernel_rfl) (by kernel_rfl) (witness_row os enc)) ?_
 intro W base args ds gs before hval hW _ _ _ hL hsh _
 exact contract H enc W base args ds gs before hval hW hL
theorem said:Rows.FnSettlesAllSaid :=
 OpenClaim.holds_of_cond 8 Tryd.f8 rfl rfl rfl rfl rfl rfl rfl ⟨rfl,rfl,rfl,rfl,rfl⟩ rfl rfl rfl rfl rfl (by kernel_rfl) Tryd.func8 (by kernel_rfl)
  (of_decide_eq_true (by kernel_rfl)) (by unfold Func.isWrapper;first | (rw [if_pos (by decide +kernel)];kernel_rfl) | (rw [if_neg (by decide +kernel)];exact ⟨rfl,rfl⟩))
  (fun os started H enc _ F=>by rw [OpenClaim.pre_eq_preRow];exact lifted os started H enc F)
theorem plain (f:FuncId) (fn:Func) (hf:Tryd.pinned.checked.prog.funcNamed "loop.example/wayboard/laws.FnSettlesAll" = some f) (hfn:Tryd.pinned.checked.prog.funcs[f]? = some fn) :
  true=Tryd.pinned.checked.prog.looks []∧∀ (j:Nat) t,fn.params[j]? = some t→Tryd.pinned.checked.prog.wantsStandIn t=false:=by
 obtain rfl:f=8:=Option.some.inj ((show Tryd.prog.funcNamed "loop.example/wayboard/laws.FnSettlesAll" = some 8 by kernel_rfl).symm.trans hf) |>.symm
 obtain rfl:fn=Tryd.f8:=(Option.some.inj (Tryd.func8.symm.trans hfn)).symm
 refine ⟨by kernel_rfl,fun j t ht=>?_⟩
 rw [Tryd.params8] at ht
 obtain rfl:t=22:=by simpa using Array.mem_of_getElem? ht
 exact (show Tryd.prog.wantsStandIn 22=false by kernel_rfl)
theorem card:Rows.FnSettlesAllCardSaid :=
 Claim7.holds_tied_plain_at .later [] _ _ _ _ said (fun _ h=>by cases h) (by kernel_rfl) (fun _ h=>by cases h) fnSettlesAll_row_tie rfl ⟨rfl,rfl⟩ (by kernel_rfl) rfl plain (by kernel_rfl)
end Go.Proofs.YtgfclgpljhiicaaDoor.cSAl
end
